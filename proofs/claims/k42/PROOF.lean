import PyProof.Rows.All
import Wide.All
import OpenK.AllK
import Wide.FinOn
import KE.KDictKeyed
import KE.KeyNested
import HandS.ForMost
import HandS.Deep
import HandS.IsInst
import HandS.TupAny
import HandS.TupMul
import HandS.Strs
import HandS.Walk
import HandS.Conv
import HandS.Defaults
import KE.GoesEnum
import HandS.Style
import HandS.DictComp
import HandS.Head0
import HandS.Head1
import HandS.Head2
import HandS.HeadEnd
import HandS.HeadHook1
import HandS.HeadHook2
import HandS.Words
import PySem.Challenge.RW_rulerows_k42_whole_any_evidence
set_option Elab.async false
set_option linter.all false
set_option maxRecDepth 100000
set_option maxHeartbeats 0
/-! G1: values told as data (PyData) over the abstract heap, some addresses hidden. -/
namespace G8
open L2 PyProof.Rows PySem.Spec PySem

/-- the fixed part of a context -/
structure Wd where
  P : Program
  w : World
  K : PySem.W.Frag
abbrev wd (X : Cx) : Wd := ⟨X.prog, X.w, X.K⟩

/-- the longest list that is spoken of -/
abbrev LIM : Nat := 100000
theorem lim_line {n : Nat} (h : n ≤ LIM) : n ≤ sizeLine := Nat.le_trans h (by decide)
theorem lim_line' {n : Nat} (h : n < LIM) : n < sizeLine := Nat.lt_of_lt_of_le h (by decide)

/-! ### hidden addresses -/
def hid (S : List Addr) (H : Hp) : Hp := fun a => if a ∈ S then none else H a
theorem hid_out {S : List Addr} {H : Hp} {a : Addr} (h : a ∉ S) : hid S H a = H a := if_neg h
theorem hid_in {S : List Addr} {H : Hp} {a : Addr} (h : a ∈ S) : hid S H a = none := if_pos h
theorem hid_some {S : List Addr} {H : Hp} {a : Addr} {o : HO} (h : hid S H a = some o) : a ∉ S ∧ H a = some o := by
  by_cases q : a ∈ S
  · rw [hid_in q] at h; cases h
  · exact ⟨q, by rw [hid_out q] at h; exact h⟩
theorem hid_sub (S : List Addr) (H : Hp) : Same (hid S H) H := fun _ _ h => (hid_some h).2
theorem hid_same {S : List Addr} {H H' : Hp} (h : Same H H') : Same (hid S H) (hid S H') := fun a o q => by
  obtain ⟨q1, q2⟩ := hid_some q
  rw [hid_out q1]
  exact h a o q2
theorem hid_upd_in {S : List Addr} {H : Hp} {a : Addr} {o : HO} (h : a ∈ S) : hid S (upd H a o) = hid S H := by
  funext b
  by_cases q : b ∈ S
  · rw [hid_in q, hid_in q]
  · rw [hid_out q, hid_out q, upd_ne (fun (e : b = a) => q (by rw [e]; exact h))]
theorem hid_nil (H : Hp) : hid [] H = H := by
  funext b
  exact hid_out (by simp)
theorem hid_less {S T : List Addr} {H : Hp} (h : ∀ a ∈ T, a ∈ S) : Same (hid S H) (hid T H) := fun a o q => by
  obtain ⟨q1, q2⟩ := hid_some q
  rw [hid_out fun z => q1 (h a z)]
  exact q2
/-- what is hidden stands -/
def Trk (S : List Addr) (H : Hp) : Prop := ∀ a ∈ S, H a ≠ none
theorem Trk.same {S : List Addr} {H H' : Hp} (t : Trk S H) (h : Same H H') : Trk S H' := fun a q z => by
  cases e : H a with
  | none => exact t a q e
  | some o => rw [h a o e] at z; cases z
theorem Trk.nil (H : Hp) : Trk [] H := fun a q => absurd q (by simp)
theorem Trk.out {S : List Addr} {H : Hp} {a : Addr} (t : Trk S H) (h : H a = none) : a ∉ S := fun q => t a q h
theorem same_new {H : Hp} {p : Addr} {o : HO} (h : H p = none) : Same H (upd H p o) := fun a u e => by
  rw [upd_ne (ne_of_none e h)]
  exact e
theorem hid_new {S : List Addr} {H : Hp} {p : Addr} {o : HO} (t : Trk S H) (h : H p = none) : hid S (upd H p o) p = some o := by
  rw [hid_out (t.out h), upd_same]
theorem Same.seqT {K : PySem.W.Frag} {H H' : Hp} {a : Addr} {xs : List V} (e : Same H H') (h : SqT K H a xs) : SqT K H' a xs := by
  rcases h with (h | ⟨o, h⟩) | h
  · exact .inl (.inl (e _ _ h))
  · exact .inl (.inr ⟨o, e _ _ h⟩)
  · exact .inr h

/-- tuples stand with their very object (so that it is known to have no dict of its own) -/
theorem sqt_fz {K : PySem.W.Frag} {H : Hp} {a : Addr} {o : Obj} {xs : List V} (h : H a = some (.frz o (.tup xs))) : SqT K H a xs := .inl (.inr ⟨o, h⟩)

/-! ### new tuples -/
section
variable {X : Cx} {es : List Expr} {t : TA} {pos : Pos}
def tTupF (t : TA) : TE := fun σ H Q => t σ H fun xs H1 => xs.length ≤ sizeLine ∧ ∀ p o, H1 p = none → o.dict = none → Q (.ref p) (upd H1 p (.frz o (.tup xs)))
/-- a new tuple object, laid at the heap's end -/
theorem laidT {pins : List (Addr × Obj)} {σ : L2.St} {H : Hp} {s : Shared} {us : List Value} {xs : List V} {Q : VK} (I : Inv X pins σ H s) (r : Vals xs us) (hz : xs.length ≤ sizeLine) (t' : Nat)
    (q : ∀ p o, H p = none → o.dict = none → Q (.ref p) (upd H p (.frz o (.tup xs)))) : EP X pins σ Q (.ref s.heap.objs.size) { s with heap := s.heap.push { cls := .type "tuple", data := .seq us.toArray }, toks := t' } := by
  have hf : H s.heap.objs.size = none := I.hok.fresh (Nat.le_refl _)
  have ho : (s.heap.push { cls := .type "tuple", data := .seq us.toArray }).get? s.heap.objs.size = some { cls := .type "tuple", data := .seq us.toArray } := Heap.get?_push_size _ rfl
  exact ⟨.ref s.heap.objs.size, upd H s.heap.objs.size (.frz { cls := .type "tuple", data := .seq us.toArray } (.tup xs)), I.laid (t' := t') (fun b u e => Heap.get?_push_of_some _ e) (Nat.le_refl _) ⟨ho, hz, us, r, _, ho, rfl, _, rfl⟩, rfl, q _ _ hf rfl⟩
theorem pe_tupF {x1} (h : PA X es t) : PE X (.Tuple es x1 pos) (tTupF t) :=
  ⟨fun pins s σ H Q I hq => wpAny_Tuple_spliced (thn (h.run pos pins s σ H _ I hq) fun us s1 ⟨xs, H1, I1, r, z, q⟩ => ⟨by rw [← r.length]; exact z, laidT I1 r z s1.toks q⟩)⟩
def rCatF (K : PySem.W.Frag) : R2 := fun x y H Q => ∃ a b xs ys, x = .ref a ∧ y = .ref b ∧ SqT K H a xs ∧ SqT K H b ys ∧ xs.length + ys.length ≤ sizeLine ∧
  (xs = [] → Q (.ref b) H) ∧ (ys = [] → Q (.ref a) H) ∧ ∀ p o, H p = none → o.dict = none → Q (.ref p) (upd H p (.frz o (.tup (xs ++ ys))))
theorem op_catF : OpR X (binaryOp .Add) (rCatF X.K) := by
  intro pins s σ H x y v u Q I rx ry ⟨a, b, xs, ys, ex, ey, ha, hb, hz, q0, q1, q2⟩
  subst ex ey
  cases rx
  cases ry
  obtain ⟨its, r1, p1, _⟩ := I.tuple ha
  obtain ⟨jts, r2, p2, _⟩ := I.tuple hb
  by_cases hx : its = []
  · subst hx
    cases r1
    exact cat_tup0 p1 p2 ⟨.ref b, H, I, rfl, q0 rfl⟩
  · refine HT.cat_tup p1 p2 hx (fun z => ⟨.ref a, H, I, rfl, q1 (r2.nil_iff.mp z)⟩) (fun _ => ?_) (by rw [← r1.length, ← r2.length]; exact hz)
    exact laidT I (r1.append r2) (by rw [List.length_append]; exact hz) s.toks q2
def rSlF (K : PySem.W.Frag) : V → Option Int → Option Int → Hp → VK → Prop := fun x lo hi H Q => ∃ a xs, x = .ref a ∧ SqT K H a xs ∧
  (cutV xs lo hi = xs → Q (.ref a) H) ∧ ∀ p o, H p = none → o.dict = none → Q (.ref p) (upd H p (.frz o (.tup (cutV xs lo hi))))
theorem sl_tupF : SlR X (rSlF X.K) := by
  intro pins s σ H x v vl vu lo hi sl Q I rx hs pl pu ⟨a, xs, ex, hx, q1, q2⟩
  subst ex
  cases rx
  obtain ⟨its, r, ht, hz⟩ := I.tuple hx
  have hl : its.toArray.size = xs.length := by rw [List.size_toArray, r.length]
  refine ⟨"tuple", _, PyProof.Rows.slot_tuple_getitem.lookup, ht.typeIs, ?_⟩
  by_cases hw : HT.sIx xs.length 0 lo = 0 ∧ HT.sIx xs.length xs.length hi = xs.length
  · have e : cutV xs lo hi = xs := by
      unfold cutV
      rw [hw.1, hw.2, List.drop_zero, Nat.sub_zero, List.take_length]
    exact getItem_tuple_whole ht hs pl pu (by rw [hl]; exact hw) ⟨.ref a, H, I, rfl, q1 e⟩
  · refine HT.getItem_tuple_cut ht hs pl pu (by rw [hl]; exact hw) ?_ (by rw [hl]; exact hz)
    rw [hl]
    exact laidT I ((r.drop _).take _) (Nat.le_trans (cutV_length xs lo hi) hz) s.toks q2
theorem call_tupF : CallR X (.type "tuple") (fun xs H Q => ∃ p ys, xs = [.ref p] ∧ ((SqL X.K H p ys ∧ ∀ l o, H l = none → o.dict = none → Q (.ref l) (upd H l (.frz o (.tup ys)))) ∨ (SqT X.K H p ys ∧ Q (.ref p) H))) := by
  intro pins s σ H xs us Q I r ⟨p, ys, exs, h⟩
  subst exs
  obtain ⟨u, rfl, rx⟩ := vals1 r
  cases rx
  rcases h with ⟨hq, q⟩ | ⟨hq, q⟩
  · obtain ⟨its, r', pl, hz⟩ := I.list hq
    have hlen := r'.length
    refine call_tuple_list pl.isList (fun h' kp => ?_) (by rw [List.size_toArray, ← hlen]; exact hz)
    have I1 : Inv X pins σ H { s with heap := h' } := I.kept (t' := s.toks) kp
    exact laidT I1 r' hz s.toks q
  · obtain ⟨its, r', pl, hz⟩ := I.tuple hq
    exact call_tuple_same pl ⟨.ref p, H, I, rfl, q⟩
def tTupRgF (te : L2.St → Hp → (Int → Int → Hp → Prop) → Prop) : TE := fun σ H Q => te σ H fun a b H1 => RgOk a b ∧ ∀ q o, H1 q = none → o.dict = none → Q (.ref q) (upd H1 q (.frz o (.tup (rgV a b))))
theorem pe_tupRgF {e : Expr} {te : L2.St → Hp → (Int → Int → Hp → Prop) → Prop} {p pos : Pos} (hc : X.calm = true) (hg : Gl X "tuple") (hm : X.mg "tuple" = none) (he : PRg X e te) (na : starEach [e] X.env = (false, eval e X.env) :: starEach [] X.env := by rfl) : PE X (.Call (.Name "tuple" p) [e] [] pos) (tTupRgF te) := by
  refine ⟨fun pins s σ H Q I h => Call_ (ld_blt I hg hm boot_tuple (PyProof.Rows.callWith_type1 (args_cons (thn (he pins s σ H _ I h) fun x s1 ⟨r, a, b, t, u, v, H1, ex, hr, I1, ok, q⟩ => args_nil ?_) na) na))⟩
  subst ex
  obtain ⟨b1, b2, b3, b4, b5⟩ := id ok
  refine call_tuple_range (n := (b - a).toNat) (I1.ok.hd hc) hr (small_one b1 b2 b3 b4) (rangeSize_nat a b) b5 fun h' tk acc hk hi => ?_
  have I2 : Inv X pins σ H1 { s1 with heap := h', toks := tk } := I1.kept hk
  have hz : (rgV a b).length ≤ sizeLine := by rw [rgV_length, sizeLine_eq]; omega
  have := laidT (Q := Q) I2 (vals_rg hi) hz tk q
  rw [Array.toArray_toList] at this
  exact this
end

/-! ### values told as data -/
/-- the object of a dict whose keys are nested tuples -/
def DObj (W : Wd) (o : Obj) (xs : List (NestedKey × Addr × Value)) : Prop :=
  o.ExactDict ∧ (∃ es ep, o.data = .dict es ep ∧ es.toList = xs.map (entryOfKey (nestedKind W.P W.w))) ∧ (xs.map (·.1)).Nodup
abbrev dctO (a : Addr) (o : Obj) : HO := .ext fun h => h.get? a = some o
mutual
inductive DR (W : Wd) (H : Hp) : V → PyData → Prop
  | non : DR W H .non .none
  | bl (b : Bool) : DR W H (.bl b) (.bool b)
  | int (i : Int) : DR W H (.int i) (.int i)
  | str (x : Str) : DR W H (.str x) (.str x)
  | lst {a : Addr} {xs : List V} {ds : List PyData} : H a = some (.lst xs) → xs.length ≤ LIM → DRs W H xs ds → DR W H (.ref a) (.list ds)
  | tup {a : Addr} {o : Obj} {xs : List V} {ds : List PyData} : H a = some (.frz o (.tup xs)) → o.dict = none → xs.length ≤ LIM → DRs W H xs ds → DR W H (.ref a) (.tuple ds)
  | dct {a : Addr} {o : Obj} {xs : List (NestedKey × Addr × Value)} {kds : List (PyData × PyData)} : H a = some (dctO a o) → (a == sysModules) = false → xs.length ≤ LIM → DObj W o xs → DRx W H xs kds →
      DR W H (.ref a) (.dict kds)
inductive DRs (W : Wd) (H : Hp) : List V → List PyData → Prop
  | nil : DRs W H [] []
  | cons {v : V} {vs : List V} {d : PyData} {ds : List PyData} : DR W H v d → DRs W H vs ds → DRs W H (v :: vs) (d :: ds)
inductive DRx (W : Wd) (H : Hp) : List (NestedKey × Addr × Value) → List (PyData × PyData) → Prop
  | nil : DRx W H [] []
  | cons {k : NestedKey} {ka : Addr} {u : Value} {v : V} {d : PyData} {xs : List (NestedKey × Addr × Value)} {ds : List (PyData × PyData)} : DR W H (.ref ka) k.data → k.depth ≤ 8 → RelV v u → DR W H v d →
      DRx W H xs ds → DRx W H ((k, ka, u) :: xs) ((k.data, d) :: ds)
end
section
variable {W : Wd} {H H' : Hp}
theorem DR.mono (e : Same H H') {v : V} {d : PyData} (h : DR W H v d) : DR W H' v d := by
  refine DR.rec (motive_1 := fun v d _ => DR W H' v d) (motive_2 := fun vs ds _ => DRs W H' vs ds) (motive_3 := fun xs ds _ => DRx W H' xs ds) ?_ ?_ ?_ ?_ ?_ ?_ ?_ ?_ ?_ ?_ ?_ h
  · exact .non
  · exact .bl
  · exact .int
  · exact .str
  · exact fun q1 q2 _ q3 => .lst (e _ _ q1) q2 q3
  · exact fun q1 q0 q2 _ q3 => .tup (e _ _ q1) q0 q2 q3
  · exact fun q1 q2 q3 q4 _ q5 => .dct (e _ _ q1) q2 q3 q4 q5
  · exact .nil
  · exact fun _ _ q1 q2 => .cons q1 q2
  · exact .nil
  · exact fun _ q1 q2 _ _ q3 q4 q5 => .cons q3 q1 q2 q4 q5
theorem DRs.mono (e : Same H H') : ∀ {vs : List V} {ds : List PyData}, DRs W H vs ds → DRs W H' vs ds
  | _, _, .nil => .nil
  | _, _, .cons h t => .cons (h.mono e) (DRs.mono e t)
theorem DRx.mono (e : Same H H') : ∀ {xs : List (NestedKey × Addr × Value)} {ds : List (PyData × PyData)}, DRx W H xs ds → DRx W H' xs ds
  | _, _, .nil => .nil
  | _, _, .cons a b c d t => .cons (a.mono e) b c (d.mono e) (DRx.mono e t)
theorem DRs.length : ∀ {vs : List V} {ds : List PyData}, DRs W H vs ds → vs.length = ds.length
  | _, _, .nil => rfl
  | _, _, .cons _ t => by simp [DRs.length t]
theorem DRs.get : ∀ {vs : List V} {ds : List PyData} {i : Nat} {d : PyData}, DRs W H vs ds → ds[i]? = some d → ∃ v, vs[i]? = some v ∧ DR W H v d
  | _, _, _, _, .nil, e => by simp at e
  | _, _, 0, _, .cons r _, e => by simp at e; subst e; exact ⟨_, rfl, r⟩
  | _, _, i + 1, d, .cons _ t, e => by
    obtain ⟨v, h1, h2⟩ := DRs.get (i := i) (d := d) t (by simpa using e)
    exact ⟨v, by simpa using h1, h2⟩
theorem DRs.got : ∀ {vs : List V} {ds : List PyData} {i : Nat} {v : V}, DRs W H vs ds → vs[i]? = some v → ∃ d, ds[i]? = some d ∧ DR W H v d
  | _, _, _, _, .nil, e => by simp at e
  | _, _, 0, _, .cons r _, e => by simp at e; subst e; exact ⟨_, rfl, r⟩
  | _, _, i + 1, d, .cons _ t, e => by
    obtain ⟨v, h1, h2⟩ := DRs.got (i := i) (v := d) t (by simpa using e)
    exact ⟨v, by simpa using h1, h2⟩
theorem DRs.append : ∀ {vs us : List V} {ds es : List PyData}, DRs W H vs ds → DRs W H us es → DRs W H (vs ++ us) (ds ++ es)
  | _, _, _, _, .nil, s => s
  | _, _, _, _, .cons r t, s => .cons r (DRs.append t s)
theorem DRs.take : ∀ {vs : List V} {ds : List PyData} (n : Nat), DRs W H vs ds → DRs W H (vs.take n) (ds.take n)
  | _, _, 0, _ => .nil
  | _, _, _ + 1, .nil => .nil
  | _, _, n + 1, .cons r t => .cons r (DRs.take n t)
theorem DRs.drop : ∀ {vs : List V} {ds : List PyData} (n : Nat), DRs W H vs ds → DRs W H (vs.drop n) (ds.drop n)
  | _, _, 0, r => r
  | _, _, _ + 1, .nil => .nil
  | _, _, n + 1, .cons _ t => DRs.drop n t
theorem DRs.one {v : V} {d : PyData} (h : DR W H v d) : DRs W H [v] [d] := .cons h .nil
theorem DRs.snoc {vs : List V} {ds : List PyData} {v : V} {d : PyData} (h : DRs W H vs ds) (r : DR W H v d) : DRs W H (vs ++ [v]) (ds ++ [d]) := h.append (.one r)
theorem DRs.nil_iff {vs : List V} {ds : List PyData} (h : DRs W H vs ds) : vs = [] ↔ ds = [] := by
  cases h with
  | nil => simp
  | cons _ _ => simp
theorem DRs.inv : ∀ {vs : List V} {is : List Int}, DRs W H vs (is.map PyData.int) → vs = is.map V.int
  | _, [], .nil => rfl
  | _, i :: is, h => by
    cases h with
    | cons r t => cases r; rw [DRs.inv t]; rfl
theorem DRs.invB : ∀ {vs : List V} {bs : List Bool}, DRs W H vs (bs.map PyData.bool) → vs = bs.map V.bl
  | _, [], .nil => rfl
  | _, b :: bs, h => by
    cases h with
    | cons r t => cases r; rw [DRs.invB t]; rfl
theorem DRs.ints : ∀ (is : List Int), DRs W H (is.map V.int) (is.map PyData.int)
  | [] => .nil
  | _ :: is => .cons (.int _) (DRs.ints is)
/-- a new list, a new tuple -/
theorem DR.newL {S : List Addr} {p : Addr} {vs : List V} {ds : List PyData} (t : Trk S H) (hp : H p = none) (hz : vs.length ≤ LIM) (h : DRs W (hid S H) vs ds) : DR W (hid S (upd H p (.lst vs))) (.ref p) (.list ds) :=
  .lst (hid_new t hp) hz (h.mono (hid_same (same_new hp)))
theorem DR.newT {S : List Addr} {p : Addr} {o : Obj} {vs : List V} {ds : List PyData} (t : Trk S H) (hp : H p = none) (ho : o.dict = none) (hz : vs.length ≤ LIM) (h : DRs W (hid S H) vs ds) : DR W (hid S (upd H p (.frz o (.tup vs)))) (.ref p) (.tuple ds) :=
  .tup (hid_new t hp) ho hz (h.mono (hid_same (same_new hp)))
mutual
/-- data that can be laid out holds no dict -/
theorem DR.dp : ∀ (d : PyData) (v : V), d.canLay0 = true → DR W H v d → Dp W.K H v d
  | .none, _, _, h => by cases h; exact .non
  | .bool _, _, _, h => by cases h; exact .bl _
  | .int _, _, _, h => by cases h; exact .int _
  | .str _, _, _, h => by cases h; exact .str _
  | .list ds, _, c, h => by
    cases h with
    | lst q1 q2 q3 => exact .lst (SqL.of q1) (DRs.dp ds _ (by simpa [PyData.canLay0] using c) q3)
  | .tuple ds, _, c, h => by
    cases h with
    | tup q1 _ q2 q3 => exact .tup (sqt_fz q1) (DRs.dp ds _ (by simpa [PyData.canLay0] using c) q3)
  | .dict _, _, c, _ => by simp [PyData.canLay0] at c
theorem DRs.dp : ∀ (ds : List PyData) (vs : List V), PyData.canLayAll0 ds = true → DRs W H vs ds → DpAll W.K H vs ds
  | [], _, _, h => by cases h; exact .nil
  | d :: ds, _, c, h => by
    simp only [PyData.canLayAll0, Bool.and_eq_true] at c
    cases h with
    | cons r t => exact .cons (DR.dp d _ c.1 r) (DRs.dp ds _ c.2 t)
end
mutual
theorem Dp.mono' (e : Same H H') : ∀ (d : PyData) (v : V), Dp W.K H v d → Dp W.K H' v d
  | .none, _, h => by cases h; exact .non
  | .bool _, _, h => by cases h; exact .bl _
  | .int _, _, h => by cases h; exact .int _
  | .str _, _, h => by cases h; exact .str _
  | .list ds, _, h => by
    cases h with
    | lst q1 q2 => exact .lst (Same.seq e q1) (DpAll.mono' e ds _ q2)
  | .tuple ds, _, h => by
    cases h with
    | tup q1 q2 => exact .tup (Same.seqT e q1) (DpAll.mono' e ds _ q2)
  | .dict _, _, h => by cases h
theorem DpAll.mono' (e : Same H H') : ∀ (ds : List PyData) (vs : List V), DpAll W.K H vs ds → DpAll W.K H' vs ds
  | [], _, h => by cases h; exact .nil
  | d :: ds, _, h => by
    cases h with
    | cons r t => exact .cons (Dp.mono' e d _ r) (DpAll.mono' e ds _ t)
end
/-- what stands there, by the whole heap -/
theorem DR.unL {S : List Addr} {v : V} {ds : List PyData} (h : DR W (hid S H) v (.list ds)) : ∃ a xs, v = .ref a ∧ H a = some (.lst xs) ∧ a ∉ S ∧ xs.length ≤ LIM ∧ DRs W (hid S H) xs ds := by
  cases h with
  | lst q1 q2 q3 => exact ⟨_, _, rfl, (hid_some q1).2, (hid_some q1).1, q2, q3⟩
theorem DR.unT {S : List Addr} {v : V} {ds : List PyData} (h : DR W (hid S H) v (.tuple ds)) : ∃ a o xs, v = .ref a ∧ H a = some (.frz o (.tup xs)) ∧ o.dict = none ∧ xs.length ≤ LIM ∧ DRs W (hid S H) xs ds := by
  cases h with
  | tup q1 q0 q2 q3 => exact ⟨_, _, _, rfl, (hid_some q1).2, q0, q2, q3⟩
theorem DR.unI {v : V} {i : Int} (h : DR W H v (.int i)) : v = .int i := by cases h; rfl
theorem DR.unB {v : V} {i : Bool} (h : DR W H v (.bool i)) : v = .bl i := by cases h; rfl
theorem DR.unS {v : V} {i : Str} (h : DR W H v (.str i)) : v = .str i := by cases h; rfl
/-- for the rules of == -/
theorem DR.shp {S : List Addr} {d : PyData} {v : V} (c : SeqAt.shaped d = true) (h : DR W (hid S H) v d) : Dp W.K H v d :=
  Dp.mono' (hid_sub S H) d v (DR.dp d v (SeqAt.canLay_of_shaped c) h)
end

/-! ### slots told as data -/
abbrev DE := List (Option PyData)
structure EnvR (W : Wd) (H : Hp) (Γ : DE) (σ : L2.St) : Prop where
  len : Γ.length = σ.length
  get : ∀ (i : Nat) (d : PyData), Γ[i]? = some (some d) → ∃ v, σ[i]? = some (some v) ∧ DR W H v d
section
variable {W : Wd} {H H' : Hp} {Γ : DE} {σ : L2.St}
theorem EnvR.mono (e : Same H H') (h : EnvR W H Γ σ) : EnvR W H' Γ σ := ⟨h.len, fun i d q => let ⟨v, a, b⟩ := h.get i d q; ⟨v, a, b.mono e⟩⟩
theorem EnvR.set {i : Nat} {v : V} {d : PyData} (h : EnvR W H Γ σ) (r : DR W H v d) : EnvR W H (Γ.set i (some d)) (σ.set i (some v)) := by
  refine ⟨by rw [List.length_set, List.length_set, h.len], fun j e q => ?_⟩
  by_cases hj : i = j
  · subst hj
    have hl : i < Γ.length := by
      by_cases z : i < Γ.length
      · exact z
      · rw [List.getElem?_eq_none (by rw [List.length_set]; omega)] at q; cases q
    rw [List.getElem?_set_self hl] at q
    cases q
    exact ⟨v, List.getElem?_set_self (by rw [← h.len]; exact hl), r⟩
  · rw [List.getElem?_set_ne hj] at q
    obtain ⟨u, a, b⟩ := h.get j e q
    exact ⟨u, by rw [List.getElem?_set_ne hj]; exact a, b⟩
def wipeD (Γ : DE) : List Nat → DE
  | [] => Γ
  | v :: vs => (wipeD Γ vs).set v none
theorem EnvR.unset {i : Nat} (h : EnvR W H Γ σ) : EnvR W H (Γ.set i none) (σ.set i none) := by
  refine ⟨by rw [List.length_set, List.length_set, h.len], fun j e q => ?_⟩
  by_cases hj : i = j
  · subst hj
    by_cases hl : i < Γ.length
    · rw [List.getElem?_set_self hl] at q; cases q
    · rw [List.getElem?_eq_none (by rw [List.length_set]; omega)] at q; cases q
  · rw [List.getElem?_set_ne hj] at q
    obtain ⟨u, a, b⟩ := h.get j e q
    exact ⟨u, by rw [List.getElem?_set_ne hj]; exact a, b⟩
theorem EnvR.wipe (h : EnvR W H Γ σ) : ∀ vs : List Nat, EnvR W H (wipeD Γ vs) (L2.wipe σ vs)
  | [] => h
  | v :: vs => by
    unfold wipeD L2.wipe
    exact (EnvR.wipe h vs).unset
def startD (N : List Str) (ds : List PyData) : DE := ds.map some ++ List.replicate (N.length - ds.length) none
theorem EnvR.start {N : List Str} {vs : List V} {ds : List PyData} (h : DRs W H vs ds) : EnvR W H (startD N ds) (L2.start N vs) := by
  have hl := h.length
  refine ⟨by unfold startD L2.start; simp [hl], fun i d q => ?_⟩
  unfold startD at q
  have hi : i < ds.length := by
    by_cases hi : i < ds.length
    · exact hi
    · rw [List.getElem?_append_right (by simpa using hi), List.getElem?_replicate] at q
      split at q <;> cases q
  rw [List.getElem?_append_left (by simpa using hi), List.getElem?_map] at q
  cases e : ds[i]? with
  | none => rw [e] at q; cases q
  | some d' =>
    rw [e] at q
    cases q
    obtain ⟨v, hv, r⟩ := h.get e
    refine ⟨v, ?_, r⟩
    unfold L2.start
    rw [List.getElem?_append_left (by simp; omega), List.getElem?_map, hv]
    rfl
end
end G8

/-! G2: expressions told by functions on data. -/
namespace G8
open L2 PyProof.Rows PySem.Spec PySem

/-! ### readings by data -/
def tD (W : Wd) (f : DE → Option PyData) : TE := fun σ H Q => ∃ S Γ d, Trk S H ∧ EnvR W (hid S H) Γ σ ∧ f Γ = some d ∧ ∀ v H', Same H H' → DR W (hid S H') v d → Q v H'
def tDs (W : Wd) (g : DE → Option (List PyData)) : TA := fun σ H Q => ∃ S Γ ds, Trk S H ∧ EnvR W (hid S H) Γ σ ∧ g Γ = some ds ∧ ∀ vs H', Same H H' → DRs W (hid S H') vs ds → Q vs H'
def tDT (W : Wd) (f : DE → Option Bool) : TT := fun σ H Q => ∃ S Γ b, Trk S H ∧ EnvR W (hid S H) Γ σ ∧ f Γ = some b ∧ ∀ H', Same H H' → Q b H'
abbrev PD (X : Cx) (e : Expr) (f : DE → Option PyData) : Prop := PE X e (tD (wd X) f)
abbrev PDs (X : Cx) (es : List Expr) (g : DE → Option (List PyData)) : Prop := PA X es (tDs (wd X) g)
abbrev PDT (X : Cx) (e : Expr) (f : DE → Option Bool) : Prop := PT X e (tDT (wd X) f)
abbrev PDW (X : Cx) (e : Expr) (f : DE → Option Bool) : Prop := PW X e (tDT (wd X) f)
/-- by values -/
def rD1 (W : Wd) (g : PyData → Option PyData) : V → Hp → VK → Prop := fun x H Q => ∃ S d r, Trk S H ∧ DR W (hid S H) x d ∧ g d = some r ∧ ∀ v H', Same H H' → DR W (hid S H') v r → Q v H'
def rD2 (W : Wd) (g : PyData → PyData → Option PyData) : R2 := fun x y H Q => ∃ S d e r, Trk S H ∧ DR W (hid S H) x d ∧ DR W (hid S H) y e ∧ g d e = some r ∧ ∀ v H', Same H H' → DR W (hid S H') v r → Q v H'
def rDn (W : Wd) (g : List PyData → Option PyData) : List V → Hp → VK → Prop := fun xs H Q => ∃ S ds r, Trk S H ∧ DRs W (hid S H) xs ds ∧ g ds = some r ∧ ∀ v H', Same H H' → DR W (hid S H') v r → Q v H'
abbrev OpD (X : Cx) (f : Value → Value → Sem Value) (g : PyData → PyData → Option PyData) : Prop := OpR X f (rD2 (wd X) g)
abbrev CallD (X : Cx) (f : Value) (g : List PyData → Option PyData) : Prop := CallR X f (rDn (wd X) g)

/-! ### weakening -/
theorem peOf {X : Cx} {e : Expr} {t t' : TE} (h : PE X e t) (k : ∀ σ H Q, t' σ H Q → t σ H Q) : PE X e t' := ⟨fun pins s σ H Q I q => h.run pins s σ H Q I (k σ H Q q)⟩
theorem ptOf {X : Cx} {e : Expr} {t t' : TT} (h : PT X e t) (k : ∀ σ H Q, t' σ H Q → t σ H Q) : PT X e t' := ⟨fun pins s σ H Q I q => h.run pins s σ H Q I (k σ H Q q)⟩
theorem pwOf {X : Cx} {e : Expr} {t t' : TT} (h : PW X e t) (k : ∀ σ H Q, t' σ H Q → t σ H Q) : PW X e t' := ⟨fun wh pins s σ H Q I q => h.run wh pins s σ H Q I (k σ H Q q)⟩
theorem paOf {X : Cx} {es : List Expr} {t t' : TA} (h : PA X es t) (k : ∀ σ H Q, t' σ H Q → t σ H Q) : PA X es t' := ⟨fun pos pins s σ H Q I q => h.run pos pins s σ H Q I (k σ H Q q)⟩
theorem opOf {X : Cx} {f : Value → Value → Sem Value} {r r' : R2} (h : OpR X f r) (k : ∀ x y H Q, r' x y H Q → r x y H Q) : OpR X f r' := fun pins s σ H x y v u Q I a b q => h pins s σ H x y v u Q I a b (k x y H Q q)
theorem callOf {X : Cx} {f : Value} {r r' : List V → Hp → VK → Prop} (h : CallR X f r) (k : ∀ xs H Q, r' xs H Q → r xs H Q) : CallR X f r' := fun pins s σ H xs us Q I a q => h pins s σ H xs us Q I a (k xs H Q q)
theorem mtOf {X : Cx} {id : String} {r r' : V → List V → Hp → VK → Prop} (h : MtR X id r) (k : ∀ x xs H Q, r' x xs H Q → r x xs H Q) : MtR X id r' := fun pins s σ H x xs v us Q I a b q => h pins s σ H x xs v us Q I a b (k x xs H Q q)
theorem ixOf {X : Cx} {r r' : R2} (h : IxR X r) (k : ∀ x y H Q, r' x y H Q → r x y H Q) : IxR X r' := fun e1 e2 pins s σ H x y v u Q I a b q => h e1 e2 pins s σ H x y v u Q I a b (k x y H Q q)

/-! ### functions of slots -/
def eV : Nat → DE → Option PyData
  | _, [] => none
  | 0, x :: _ => x
  | n + 1, _ :: r => eV n r
theorem eV_get : ∀ (i : Nat) (Γ : DE) (d : PyData), eV i Γ = some d → Γ[i]? = some (some d)
  | _, [], _, h => by simp [eV] at h
  | 0, x :: _, d, h => by simp only [eV] at h; simp [h]
  | n + 1, _ :: r, d, h => by simp only [eV] at h; simpa using eV_get n r d h
def eC (d : PyData) : DE → Option PyData := fun _ => some d
def e1 (g : PyData → Option PyData) (fa : DE → Option PyData) : DE → Option PyData := fun Γ => (fa Γ).bind g
def e2 (g : PyData → PyData → Option PyData) (fa fb : DE → Option PyData) : DE → Option PyData := fun Γ => (fa Γ).bind fun a => (fb Γ).bind fun b => g a b
def aN : DE → Option (List PyData) := fun _ => some []
def aC (f : DE → Option PyData) (g : DE → Option (List PyData)) : DE → Option (List PyData) := fun Γ => (f Γ).bind fun d => (g Γ).bind fun ds => some (d :: ds)
def eCall (g : List PyData → Option PyData) (fs : DE → Option (List PyData)) : DE → Option PyData := fun Γ => (fs Γ).bind g
def asB : PyData → Option Bool
  | .bool b => some b
  | _ => none
def asI : PyData → Option Int
  | .int b => some b
  | _ => none
def asL : PyData → Option (List PyData)
  | .list ds => some ds
  | .tuple ds => some ds
  | _ => none
def tB1 (f : DE → Option PyData) : DE → Option Bool := fun Γ => (f Γ).bind asB
def tyB : Bool → Option PyData := fun b => some (.bool b)
/-- and, or, not of tests -/
def tA (f g : DE → Option Bool) : DE → Option Bool := fun Γ => (f Γ).bind fun b => if b = true then g Γ else some false
def tO (f g : DE → Option Bool) : DE → Option Bool := fun Γ => (f Γ).bind fun b => if b = true then some true else g Γ
def tN (f : DE → Option Bool) : DE → Option Bool := fun Γ => (f Γ).bind fun b => some (!b)
def eA (f g : DE → Option PyData) : DE → Option PyData := fun Γ => (f Γ).bind fun d => (asB d).bind fun b => if b = true then g Γ else some (.bool false)
def eO (f g : DE → Option PyData) : DE → Option PyData := fun Γ => (f Γ).bind fun d => (asB d).bind fun b => if b = true then some (.bool true) else g Γ
def eN (f : DE → Option PyData) : DE → Option PyData := fun Γ => (f Γ).bind fun d => (asB d).bind fun b => some (.bool (!b))
def eIf (t : DE → Option Bool) (f g : DE → Option PyData) : DE → Option PyData := fun Γ => (t Γ).bind fun b => if b = true then f Γ else g Γ
theorem bind_some {α β : Type} {x : Option α} {f : α → Option β} {b : β} (h : x.bind f = some b) : ∃ a, x = some a ∧ f a = some b := by
  cases x with
  | none => cases h
  | some a => exact ⟨a, rfl, h⟩

section
variable {W : Wd}
/-- one part after another -/
theorem tD_then {f : DE → Option PyData} {te : TE} (hte : ∀ σ H Q, tD W f σ H Q → te σ H Q) {σ : L2.St} {H : Hp} {S : List Addr} {Γ : DE} {d : PyData} {Q : VK} (t : Trk S H) (en : EnvR W (hid S H) Γ σ) (hf : f Γ = some d)
    (k : ∀ v H', Same H H' → Trk S H' → EnvR W (hid S H') Γ σ → DR W (hid S H') v d → Q v H') : te σ H Q :=
  hte σ H Q ⟨S, Γ, d, t, en, hf, fun v H' s r => k v H' s (t.same s) (en.mono (hid_same s)) r⟩
theorem tD_run {f : DE → Option PyData} {σ : L2.St} {H : Hp} {S : List Addr} {Γ : DE} {d : PyData} {Q : VK} (t : Trk S H) (en : EnvR W (hid S H) Γ σ) (hf : f Γ = some d)
    (k : ∀ v H', Same H H' → Trk S H' → EnvR W (hid S H') Γ σ → DR W (hid S H') v d → Q v H') : tD W f σ H Q :=
  ⟨S, Γ, d, t, en, hf, fun v H' s r => k v H' s (t.same s) (en.mono (hid_same s)) r⟩
theorem tDs_run {f : DE → Option (List PyData)} {σ : L2.St} {H : Hp} {S : List Addr} {Γ : DE} {d : List PyData} {Q : List V → Hp → Prop} (t : Trk S H) (en : EnvR W (hid S H) Γ σ) (hf : f Γ = some d)
    (k : ∀ v H', Same H H' → Trk S H' → EnvR W (hid S H') Γ σ → DRs W (hid S H') v d → Q v H') : tDs W f σ H Q :=
  ⟨S, Γ, d, t, en, hf, fun v H' s r => k v H' s (t.same s) (en.mono (hid_same s)) r⟩
theorem tDT_run {f : DE → Option Bool} {σ : L2.St} {H : Hp} {S : List Addr} {Γ : DE} {d : Bool} {Q : Bool → Hp → Prop} (t : Trk S H) (en : EnvR W (hid S H) Γ σ) (hf : f Γ = some d)
    (k : ∀ H', Same H H' → Trk S H' → EnvR W (hid S H') Γ σ → Q d H') : tDT W f σ H Q :=
  ⟨S, Γ, d, t, en, hf, fun H' s => k H' s (t.same s) (en.mono (hid_same s))⟩
end

section
variable {X : Cx} {a b : Expr} {fa fb f g : DE → Option PyData} {p pos : Pos}
/-! ### names, constants -/
theorem d_var (i : Nat) {x : Str} (hN : X.N[i]? = some x := by rfl) (hv : Vis X.env.scope x := by first | exact Or.inl rfl | exact Or.inr (Or.inl rfl) | exact Or.inr (Or.inr rfl)) (hd : (x == ("__debug__" : Str)) = false := by decide)
    (hcd : (x == ("__classdict__" : Str)) = false := by decide) : PD X (.Name x pos) (eV i) :=
  peOf (pe_var hN hv hd hcd) fun σ H Q ⟨S, Γ, d, t, en, hf, k⟩ => let ⟨v, h1, h2⟩ := en.get i d (eV_get i Γ d hf); ⟨v, h1, k v H (Same.refl H) h2⟩
theorem d_int {i : Int} {j} : PD X (.Constant (.int i) j pos) (eC (.int i)) := peOf pe_int fun σ H Q ⟨S, Γ, d, t, en, hf, k⟩ => by cases hf; exact k _ H (Same.refl H) (.int i)
theorem d_bl {i : Bool} {j} : PD X (.Constant (.bool i) j pos) (eC (.bool i)) := peOf pe_bl fun σ H Q ⟨S, Γ, d, t, en, hf, k⟩ => by cases hf; exact k _ H (Same.refl H) (.bl i)
theorem d_non {j} : PD X (.Constant .none j pos) (eC .none) := peOf pe_non fun σ H Q ⟨S, Γ, d, t, en, hf, k⟩ => by cases hf; exact k _ H (Same.refl H) .non
theorem d_str {x : Str} {j} : PD X (.Constant (.str x) j pos) (eC (.str x)) := peOf pe_str fun σ H Q ⟨S, Γ, d, t, en, hf, k⟩ => by cases hf; exact k _ H (Same.refl H) (.str x)
/-- a module's whole number -/
theorem d_gint {x : Str} {i : Int} (hm : ∃ t, X.mg x = some (.int i t)) (hg : Gl X x := by rfl) (hd : (x == ("__debug__" : Str)) = false := by decide) : PD X (.Name x pos) (eC (.int i)) := by
  obtain ⟨t, hm⟩ := hm
  exact peOf (pe_glob hg hm (v := .int i) ⟨t, rfl⟩ hd) fun σ H Q ⟨S, Γ, d, t, en, hf, k⟩ => by cases hf; exact k _ H (Same.refl H) (.int i)
/-- what is never come to -/
theorem d_fail {e : Expr} : PD X e (fun _ => none) := ⟨fun _ _ _ _ _ _ ⟨_, _, _, _, _, hf, _⟩ => nomatch hf⟩

/-! ### arguments -/
theorem da_nil : PDs X [] aN := paOf pa_nil fun σ H Q ⟨S, Γ, d, t, en, hf, k⟩ => by cases hf; exact k _ H (Same.refl H) .nil
theorem da_cons {e : Expr} {es : List Expr} {gs : DE → Option (List PyData)} (ha : PD X e f) (hr : PDs X es gs) (hs : starEach (e :: es) X.env = (false, eval e X.env) :: starEach es X.env := by rfl) : PDs X (e :: es) (aC f gs) :=
  paOf (pa_cons ha hr hs) fun σ H Q ⟨S, Γ, d, t, en, hf, k⟩ => by
    obtain ⟨x, h1, h2⟩ := bind_some hf
    obtain ⟨xs, h3, h4⟩ := bind_some h2
    cases h4
    exact tD_run t en h1 fun v H1 s1 t1 en1 r1 => tDs_run t1 en1 h3 fun vs H2 s2 t2 en2 r2 => k _ H2 (s1.trans s2) (.cons (r1.mono (hid_same s2)) r2)

/-! ### operators by values -/
theorem d_op {op : Operator} {g : PyData → PyData → Option PyData} (ho : OpD X (binaryOp op) g) (ha : PD X a fa) (hb : PD X b fb) : PD X (.BinOp a op b pos) (e2 g fa fb) :=
  peOf (pe_op ho ha hb) fun σ H Q ⟨S, Γ, d, t, en, hf, k⟩ => by
    obtain ⟨x, h1, h2⟩ := bind_some hf
    obtain ⟨y, h3, h4⟩ := bind_some h2
    exact tD_run t en h1 fun v H1 s1 t1 en1 r1 => tD_run t1 en1 h3 fun u H2 s2 t2 en2 r2 => ⟨S, x, y, d, t2, r1.mono (hid_same s2), r2, h4, fun w H3 s3 r3 => k w H3 ((s1.trans s2).trans s3) r3⟩
theorem d_cmp {op : CmpOp} {g : PyData → PyData → Option PyData} (ho : OpD X (compareOp op) g) (ha : PD X a fa) (hb : PD X b fb) (hm : behindInMarks op b = false := by first | exact nomark _ | rfl) : PD X (.Compare a [op] [b] pos) (e2 g fa fb) :=
  peOf (pe_cmpR ho ha hb hm) fun σ H Q ⟨S, Γ, d, t, en, hf, k⟩ => by
    obtain ⟨x, h1, h2⟩ := bind_some hf
    obtain ⟨y, h3, h4⟩ := bind_some h2
    exact tD_run t en h1 fun v H1 s1 t1 en1 r1 => tD_run t1 en1 h3 fun u H2 s2 t2 en2 r2 => ⟨S, x, y, d, t2, r1.mono (hid_same s2), r2, h4, fun w H3 s3 r3 => k w H3 ((s1.trans s2).trans s3) r3⟩
theorem dt_cmp {op : CmpOp} {g : PyData → PyData → Option PyData} (ho : OpD X (compareOp op) g) (ha : PD X a fa) (hb : PD X b fb) (hm : behindInMarks op b = false := by first | exact nomark _ | rfl) : PDT X (.Compare a [op] [b] pos) (tB1 (e2 g fa fb)) :=
  ptOf (pt_cmpR ho ha hb hm) fun σ H Q ⟨S, Γ, c, t, en, hf, k⟩ => by
    obtain ⟨d, h0, hc⟩ := bind_some hf
    obtain ⟨x, h1, h2⟩ := bind_some h0
    obtain ⟨y, h3, h4⟩ := bind_some h2
    refine tD_run t en h1 fun v H1 s1 t1 en1 r1 => tD_run t1 en1 h3 fun u H2 s2 t2 en2 r2 => ⟨S, x, y, d, t2, r1.mono (hid_same s2), r2, h4, fun w H3 s3 r3 => ?_⟩
    cases d with
    | bool q =>
      cases hc
      cases r3
      exact ⟨_, rfl, k H3 ((s1.trans s2).trans s3)⟩
    | _ => cases hc
theorem d_ix {g : PyData → PyData → Option PyData} (hr : IxR X (rD2 (wd X) g)) (ha : PD X a fa) (hb : PD X b fb) (hs : PlainIx b := by intro _ _; rfl) : PD X (.Subscript a b pos) (e2 g fa fb) :=
  peOf (pe_ix hr ha hb hs) fun σ H Q ⟨S, Γ, d, t, en, hf, k⟩ => by
    obtain ⟨x, h1, h2⟩ := bind_some hf
    obtain ⟨y, h3, h4⟩ := bind_some h2
    exact tD_run t en h1 fun v H1 s1 t1 en1 r1 => tD_run t1 en1 h3 fun u H2 s2 t2 en2 r2 => ⟨S, x, y, d, t2, r1.mono (hid_same s2), r2, h4, fun w H3 s3 r3 => k w H3 ((s1.trans s2).trans s3) r3⟩
/-- a < b < c -/
def e3 (g g' : PyData → PyData → Option PyData) (fa fb fc : DE → Option PyData) : DE → Option PyData := fun Γ => (fa Γ).bind fun a => (fb Γ).bind fun b => (g a b).bind fun r => (asB r).bind fun k => if k = true then (fc Γ).bind fun c => g' b c else some (.bool false)
theorem e3_run {W : Wd} {g g' : PyData → PyData → Option PyData} {fc : DE → Option PyData} {σ : L2.St} {H : Hp} {Q : VK} (h : tD W (e3 g g' fa fb fc) σ H Q) : tChain (rD2 W g) (rD2 W g') (tD W fa) (tD W fb) (tD W fc) σ H Q := by
  obtain ⟨S, Γ, d, t, en, hf, k⟩ := h
  obtain ⟨x, h1, h2⟩ := bind_some hf
  obtain ⟨y, h3, h4⟩ := bind_some h2
  obtain ⟨r, h5, h6⟩ := bind_some h4
  obtain ⟨q, h7, h8⟩ := bind_some h6
  refine tD_run t en h1 fun v H1 s1 t1 en1 r1 => tD_run t1 en1 h3 fun u H2 s2 t2 en2 r2 => ⟨S, x, y, r, t2, r1.mono (hid_same s2), r2, h5, fun w H3 s3 r3 => ?_⟩
  cases r with
  | bool z =>
    cases h7
    cases r3
    refine ⟨q, rfl, ?_⟩
    cases q with
    | true =>
      rw [if_pos rfl] at h8
      obtain ⟨c', h9, h10⟩ := bind_some h8
      rw [if_pos rfl]
      exact tD_run (t2.same s3) (en2.mono (hid_same s3)) h9 fun w H4 s4 t4 en4 r4 => ⟨S, y, c', d, t4, r2.mono (hid_same (s3.trans s4)), r4, h10, fun z H5 s5 r5 => k z H5 ((((s1.trans s2).trans s3).trans s4).trans s5) r5⟩
    | false =>
      rw [if_neg Bool.false_ne_true] at h8
      cases h8
      rw [if_neg Bool.false_ne_true]
      exact k _ H3 ((s1.trans s2).trans s3) (.bl false)
  | _ => cases h7
theorem d_chain {op op' : CmpOp} {g g' : PyData → PyData → Option PyData} {c : Expr} {fc : DE → Option PyData} (ho : OpD X (compareOp op) g) (ho' : OpD X (compareOp op') g') (ha : PD X a fa) (hb : PD X b fb) (hc : PD X c fc)
    (hm : lastMarks [op, op'] [b, c] = false := by with_unfolding_all rfl) : PD X (.Compare a [op, op'] [b, c] pos) (e3 g g' fa fb fc) :=
  peOf (pe_chain ho ho' ha hb hc hm) fun _ _ _ h => e3_run h
/-- a value that is a bool, as a test -/
theorem tB_run {W : Wd} {te : TE} (k : ∀ σ H Q, tD W f σ H Q → te σ H Q) {σ : L2.St} {H : Hp} {Q : Bool → Hp → Prop} (h : tDT W (tB1 f) σ H Q) : te σ H fun x H1 => ∃ c, x = .bl c ∧ Q c H1 := by
  obtain ⟨S, Γ, c, t, en, hf, q⟩ := h
  obtain ⟨d, h0, hc⟩ := bind_some hf
  refine k σ H _ (tD_run t en h0 fun v H1 s1 t1 en1 r1 => ?_)
  cases d with
  | bool z =>
    cases hc
    cases r1
    exact ⟨_, rfl, q H1 s1⟩
  | _ => cases hc
theorem dt_chain {op op' : CmpOp} {g g' : PyData → PyData → Option PyData} {c : Expr} {fc : DE → Option PyData} (ho : OpD X (compareOp op) g) (ho' : OpD X (compareOp op') g') (ha : PD X a fa) (hb : PD X b fb) (hc : PD X c fc)
    (hm : lastMarks [op, op'] [b, c] = false := by with_unfolding_all rfl) : PDT X (.Compare a [op, op'] [b, c] pos) (tB1 (e3 g g' fa fb fc)) :=
  ptOf (pt_chain ho ho' ha hb hc hm) fun _ _ _ h => tB_run (fun _ _ _ q => e3_run q) h
/-- the test of any other expression: its value's truth -/
def truD : PyData → Option Bool
  | .none => some false
  | .bool b => some b
  | .int i => some (i != 0)
  | .list ds => some (!ds.isEmpty)
  | .tuple ds => some (!ds.isEmpty)
  | _ => none
theorem truD_ok {W : Wd} {S : List Addr} {H : Hp} {v : V} {d : PyData} {b : Bool} (r : DR W (hid S H) v d) (h : truD d = some b) : TruV W.K v H b := by
  cases r with
  | non => cases h; exact rfl
  | bl _ => cases h; exact rfl
  | int _ => cases h; exact rfl
  | str _ => cases h
  | dct _ _ _ _ _ => cases h
  | lst q1 q2 q3 =>
    cases h
    refine Or.inl ⟨_, SqL.of (hid_some q1).2, ?_⟩
    cases q3 <;> rfl
  | tup q1 _ q2 q3 =>
    cases h
    refine Or.inr (Or.inl ⟨_, sqt_fz (hid_some q1).2, ?_⟩)
    cases q3 <;> rfl
def tTr (f : DE → Option PyData) : DE → Option Bool := fun Γ => (f Γ).bind truD
theorem dt_truth (ha : PD X a fa) (he : ∀ whole, isTrue a X.env whole = (do let v ← whole; standAt a.pos; holding [v] (truthy v)) := by intro _; rfl) : PDT X a (tTr fa) :=
  ptOf (pt_truth ha he) fun σ H Q ⟨S, Γ, c, t, en, hf, k⟩ => by
    obtain ⟨d, h0, hc⟩ := bind_some hf
    exact tD_run t en h0 fun v H1 s1 t1 en1 r1 => ⟨c, truD_ok r1 hc, k H1 s1⟩
/-! ### and, or, not -/
variable {ta tb : DE → Option Bool} {rest : List Expr}
theorem dw_and1 (ha : PDT X a ta) : PDW X (.BoolOp .And [a] pos) ta := pw_and1 ha
theorem dw_or1 (ha : PDT X a ta) : PDW X (.BoolOp .Or [a] pos) ta := pw_or1 ha
theorem dw_and (ha : PDT X a ta) (hb : PDW X (.BoolOp .And (b :: rest) pos) tb) : PDW X (.BoolOp .And (a :: b :: rest) pos) (tA ta tb) :=
  pwOf (pw_and ha hb) fun σ H Q ⟨S, Γ, c, t, en, hf, k⟩ => by
    obtain ⟨d, h0, hc⟩ := bind_some hf
    refine tDT_run t en h0 fun H1 s1 t1 en1 => ?_
    cases d with
    | true =>
      rw [if_pos rfl] at hc ⊢
      exact tDT_run t1 en1 hc fun H2 s2 _ _ => k H2 (s1.trans s2)
    | false =>
      rw [if_neg Bool.false_ne_true] at hc ⊢
      cases hc
      exact k H1 s1
theorem dw_or (ha : PDT X a ta) (hb : PDW X (.BoolOp .Or (b :: rest) pos) tb) : PDW X (.BoolOp .Or (a :: b :: rest) pos) (tO ta tb) :=
  pwOf (pw_or ha hb) fun σ H Q ⟨S, Γ, c, t, en, hf, k⟩ => by
    obtain ⟨d, h0, hc⟩ := bind_some hf
    refine tDT_run t en h0 fun H1 s1 t1 en1 => ?_
    cases d with
    | true =>
      rw [if_pos rfl] at hc ⊢
      cases hc
      exact k H1 s1
    | false =>
      rw [if_neg Bool.false_ne_true] at hc ⊢
      exact tDT_run t1 en1 hc fun H2 s2 _ _ => k H2 (s1.trans s2)
theorem dt_not (ha : PDT X a ta) : PDT X (.UnaryOp .Not a pos) (tN ta) :=
  ptOf (pt_not ha) fun σ H Q ⟨S, Γ, c, t, en, hf, k⟩ => by
    obtain ⟨d, h0, hc⟩ := bind_some hf
    cases hc
    exact tDT_run t en h0 fun H1 s1 t1 en1 => k H1 s1
theorem d_one {op} (h : PD X a fa) : PD X (.BoolOp op [a] pos) fa := pe_one h
theorem d_and (ha : PD X a fa) (hb : PD X (.BoolOp .And (b :: rest) pos) fb) : PD X (.BoolOp .And (a :: b :: rest) pos) (eA fa fb) :=
  peOf (pe_and ha hb) fun σ H Q ⟨S, Γ, c, t, en, hf, k⟩ => by
    obtain ⟨d, h0, h1⟩ := bind_some hf
    obtain ⟨z, h2, h3⟩ := bind_some h1
    refine tD_run t en h0 fun v H1 s1 t1 en1 r1 => ?_
    cases d with
    | bool y =>
      cases h2
      cases r1
      refine ⟨z, rfl, ?_⟩
      cases z with
      | true =>
        rw [if_pos rfl] at h3 ⊢
        exact tD_run t1 en1 h3 fun w H2 s2 _ _ r2 => k w H2 (s1.trans s2) r2
      | false =>
        rw [if_neg Bool.false_ne_true] at h3 ⊢
        cases h3
        exact k _ H1 s1 (.bl false)
    | _ => cases h2
theorem d_or (ha : PD X a fa) (hb : PD X (.BoolOp .Or (b :: rest) pos) fb) : PD X (.BoolOp .Or (a :: b :: rest) pos) (eO fa fb) :=
  peOf (pe_or ha hb) fun σ H Q ⟨S, Γ, c, t, en, hf, k⟩ => by
    obtain ⟨d, h0, h1⟩ := bind_some hf
    obtain ⟨z, h2, h3⟩ := bind_some h1
    refine tD_run t en h0 fun v H1 s1 t1 en1 r1 => ?_
    cases d with
    | bool y =>
      cases h2
      cases r1
      refine ⟨z, rfl, ?_⟩
      cases z with
      | true =>
        rw [if_pos rfl] at h3 ⊢
        cases h3
        exact k _ H1 s1 (.bl true)
      | false =>
        rw [if_neg Bool.false_ne_true] at h3 ⊢
        exact tD_run t1 en1 h3 fun w H2 s2 _ _ r2 => k w H2 (s1.trans s2) r2
    | _ => cases h2
theorem d_not (ha : PD X a fa) : PD X (.UnaryOp .Not a pos) (eN fa) :=
  peOf (pe_not ha) fun σ H Q ⟨S, Γ, c, t, en, hf, k⟩ => by
    obtain ⟨d, h0, h1⟩ := bind_some hf
    obtain ⟨z, h2, h3⟩ := bind_some h1
    cases h3
    refine tD_run t en h0 fun v H1 s1 t1 en1 r1 => ?_
    cases d with
    | bool y =>
      cases h2
      cases r1
      exact ⟨z, rfl, k _ H1 s1 (.bl _)⟩
    | _ => cases h2
theorem d_if {c : Expr} (hc : PDT X c ta) (ha : PD X a fa) (hb : PD X b fb) : PD X (.IfExp c a b pos) (eIf ta fa fb) :=
  peOf (pe_ifExp hc ha hb) fun σ H Q ⟨S, Γ, d, t, en, hf, k⟩ => by
    obtain ⟨z, h0, h1⟩ := bind_some hf
    refine tDT_run t en h0 fun H1 s1 t1 en1 => ?_
    cases z with
    | true =>
      rw [if_pos rfl] at h1 ⊢
      exact tD_run t1 en1 h1 fun w H2 s2 _ _ r2 => k w H2 (s1.trans s2) r2
    | false =>
      rw [if_neg Bool.false_ne_true] at h1 ⊢
      exact tD_run t1 en1 h1 fun w H2 s2 _ _ r2 => k w H2 (s1.trans s2) r2
/-! ### displays, slices, calls -/
def gd (c : Bool) (d : PyData) : Option PyData := if c = true then some d else none
def eTup (g : DE → Option (List PyData)) : DE → Option PyData := fun Γ => (g Γ).bind fun ds => gd (decide (ds.length ≤ LIM)) (.tuple ds)
def eLst (g : DE → Option (List PyData)) : DE → Option PyData := fun Γ => (g Γ).bind fun ds => gd (decide (ds.length ≤ LIM)) (.list ds)
theorem gd_some {c : Bool} {d e : PyData} (h : gd c d = some e) : c = true ∧ d = e := by
  cases c with
  | true => exact ⟨rfl, Option.some.inj h⟩
  | false => cases h
variable {es : List Expr} {gs : DE → Option (List PyData)}
theorem d_tup {x1} (h : PDs X es gs) : PD X (.Tuple es x1 pos) (eTup gs) :=
  peOf (pe_tupF h) fun σ H Q ⟨S, Γ, d, t, en, hf, k⟩ => by
    obtain ⟨ds, h0, h1⟩ := bind_some hf
    obtain ⟨h2, rfl⟩ := gd_some h1
    have h2 := of_decide_eq_true h2
    refine tDs_run t en h0 fun vs H1 s1 t1 en1 r1 => ⟨lim_line (by rw [r1.length]; exact h2), fun p o hp ho => k _ _ (s1.trans (same_new hp)) (.newT t1 hp ho (by rw [r1.length]; exact h2) r1)⟩
theorem d_lst (h : PDs X es gs) : PD X (.List es pos) (eLst gs) :=
  peOf (pe_lst h) fun σ H Q ⟨S, Γ, d, t, en, hf, k⟩ => by
    obtain ⟨ds, h0, h1⟩ := bind_some hf
    obtain ⟨h2, rfl⟩ := gd_some h1
    have h2 := of_decide_eq_true h2
    refine tDs_run t en h0 fun vs H1 s1 t1 en1 r1 => ⟨lim_line (by rw [r1.length]; exact h2), fun p hp => k _ _ (s1.trans (same_new hp)) (.newL t1 hp (by rw [r1.length]; exact h2) r1)⟩
theorem d_callB {id : String} {x : Str} {e : Expr} {g : List PyData → Option PyData} (hc : CallD X (.builtin id) g) (hm : X.mg x = none) (hv : bootBuiltins x = some (.builtin id)) (ha : PDs X (e :: es) gs) (hg : Gl X x := by rfl) (hn : x ≠ "__name__" := by decide) (hdb : (x == ("__debug__" : Str)) = false := by decide)
    (he : starEach (e :: es) X.env = (false, eval e X.env) :: starEach es X.env := by rfl) (hpl : (backTo pos (starEach es X.env)).any (·.1) = false := by rfl) : PD X (.Call (.Name x p) (e :: es) [] pos) (eCall g gs) :=
  peOf (pe_callB hc hg hm hv ha hn hdb he hpl) fun σ H Q ⟨S, Γ, d, t, en, hf, k⟩ => by
    obtain ⟨ds, h0, h1⟩ := bind_some hf
    exact tDs_run t en h0 fun vs H1 s1 t1 en1 r1 => ⟨S, ds, d, t1, r1, h1, fun w H2 s2 r2 => k w H2 (s1.trans s2) r2⟩
theorem d_callTy {T : String} {x : Str} {e : Expr} {g : List PyData → Option PyData} (hc : CallD X (.type T) g) (hm : X.mg x = none) (hv : bootBuiltins x = some (.type T)) (ha : PDs X (e :: es) gs) (hg : Gl X x := by rfl) (hn : x ≠ "__name__" := by decide) (hdb : (x == ("__debug__" : Str)) = false := by decide)
    (he : starEach (e :: es) X.env = (false, eval e X.env) :: starEach es X.env := by rfl) (hpl : (backTo pos (starEach es X.env)).any (·.1) = false := by rfl) : PD X (.Call (.Name x p) (e :: es) [] pos) (eCall g gs) :=
  peOf (pe_callTy hc hg hm hv ha hn hdb he hpl) fun σ H Q ⟨S, Γ, d, t, en, hf, k⟩ => by
    obtain ⟨ds, h0, h1⟩ := bind_some hf
    exact tDs_run t en h0 fun vs H1 s1 t1 en1 r1 => ⟨S, ds, d, t1, r1, h1, fun w H2 s2 r2 => k w H2 (s1.trans s2) r2⟩
end

/-! ### the promise of a def that only reckons -/
def spD (W : Wd) (n : Nat) (F : List PyData → Option PyData) : Sp := fun vs H Q _ => ∃ S ds d, vs.length = n ∧ Trk S H ∧ DRs W (hid S H) vs ds ∧ F ds = some d ∧ ∀ v H', Same H H' → DR W (hid S H') v d → Q v H'
/-- the name x stands for such a def -/
structure OkF (P : Program) (w : World) (K : PySem.W.Frag) (mg : Str → Option Value) (base : Heap) (x : Str) (k n : Nat) (F : List PyData → Option PyData) : Prop where
  len : ∀ ds d, F ds = some d → ds.length = n
  ex : ∃ (f : Addr) (fd : FuncData) (ps : List Str), mg x = some (.ref f) ∧ PySem.W.keepIn K (.ref f) = true ∧ Binds K fd ps [] ∧ ps.length = n ∧ FnOk P w K mg base CX0 k f fd ps (spD ⟨P, w, K⟩ n F)
theorem d_call {X : Cx} {p pos : Pos} {es : List Expr} {gs : DE → Option (List PyData)} {x : Str} {e : Expr} {j k n : Nat} {F : List PyData → Option PyData} (G : OkF X.prog X.w X.K X.mg X.base x k n F) (hr : Room j X.A) (hk : k ≤ j) (ha : PDs X (e :: es) gs) (hg : Gl X x := by rfl)
    (hdb : (x == ("__debug__" : Str)) = false := by decide) (he : starEach (e :: es) X.env = (false, eval e X.env) :: starEach es X.env := by rfl) (hpl : (backTo pos (starEach es X.env)).any (·.1) = false := by rfl) : PD X (.Call (.Name x p) (e :: es) [] pos) (eCall F gs) := by
  obtain ⟨f, fd, ps, h1, h2, h3, h4, h5⟩ := G.ex
  exact peOf (pe_call h5 (hr.mono hk) hg h1 h2 h3 .nil pass0 ha hdb he hpl) fun σ H Q ⟨S, Γ, d, t, en, hf, k⟩ => by
    obtain ⟨ds, h0, h6⟩ := bind_some hf
    exact tDs_run t en h0 fun vs H1 s1 t1 en1 r1 => ⟨S, ds, d, by rw [List.append_nil, r1.length]; exact G.len ds d h6, t1, by rw [List.append_nil]; exact r1, h6, fun w H2 s2 r2 => k w H2 (s1.trans s2) r2⟩
end G8

/-! G3: operators, built-ins, subscripts, slices on data. -/
namespace G8
open L2 PyProof.Rows PySem.Spec PySem

/-! ### the functions on data -/
def intsD : List PyData → Option (List Int)
  | [] => some []
  | .int i :: r => (intsD r).bind fun is => some (i :: is)
  | _ :: _ => none
def boolsD : List PyData → Option (List Bool)
  | [] => some []
  | .bool i :: r => (boolsD r).bind fun is => some (i :: is)
  | _ :: _ => none
theorem intsD_eq : ∀ {ds : List PyData} {is : List Int}, intsD ds = some is → ds = is.map PyData.int
  | [], is, h => by cases h; rfl
  | d :: r, is, h => by
    cases d with
    | int i =>
      obtain ⟨js, h1, h2⟩ := bind_some (x := intsD r) (by simpa [intsD] using h)
      cases h2
      rw [intsD_eq h1]
      rfl
    | _ => simp [intsD] at h
theorem boolsD_eq : ∀ {ds : List PyData} {is : List Bool}, boolsD ds = some is → ds = is.map PyData.bool
  | [], is, h => by cases h; rfl
  | d :: r, is, h => by
    cases d with
    | bool i =>
      obtain ⟨js, h1, h2⟩ := bind_some (x := boolsD r) (by simpa [boolsD] using h)
      cases h2
      rw [boolsD_eq h1]
      rfl
    | _ => simp [boolsD] at h
theorem intsD_map : ∀ is : List Int, intsD (is.map PyData.int) = some is
  | [] => rfl
  | i :: is => by simp [intsD, intsD_map is]
theorem boolsD_map : ∀ is : List Bool, boolsD (is.map PyData.bool) = some is
  | [] => rfl
  | i :: is => by simp [boolsD, boolsD_map is]

def addD : PyData → PyData → Option PyData
  | .int i, .int j => some (.int (i + j))
  | .list xs, .list ys => gd (decide (xs.length + ys.length ≤ LIM)) (.list (xs ++ ys))
  | .tuple xs, .tuple ys => gd (decide (xs.length + ys.length ≤ LIM)) (.tuple (xs ++ ys))
  | _, _ => none
def subD : PyData → PyData → Option PyData
  | .int i, .int j => some (.int (i - j))
  | _, _ => none
def mulD : PyData → PyData → Option PyData
  | .int i, .int j => gd (decide ((-(2 ^ 64) < i ∧ i < 2 ^ 64) ∨ (-(2 ^ 64) < j ∧ j < 2 ^ 64))) (.int (i * j))
  | _, _ => none
def modD : PyData → PyData → Option PyData
  | .int i, .int j => gd (decide (0 < j)) (.int (i % j))
  | _, _ => none
def fdivD : PyData → PyData → Option PyData
  | .int i, .int j => gd (decide (0 < j ∧ j < 1073741824)) (.int (i / j))
  | _, _ => none
def powD : PyData → PyData → Option PyData
  | .int i, .int j => gd (decide (0 ≤ j ∧ j ≤ 1000000 ∧ i.natAbs < 2 ^ 64)) (.int (i ^ j.toNat))
  | _, _ => none
def eqD (a b : PyData) : Option PyData := gd (SeqAt.shaped a && SeqAt.shaped b) (.bool (PyData.eqv a b))
def neD (a b : PyData) : Option PyData := gd (SeqAt.shaped a && SeqAt.shaped b) (.bool (!PyData.eqv a b))
def ltD : PyData → PyData → Option PyData
  | .int i, .int j => some (.bool (decide (i < j)))
  | .tuple xs, .tuple ys => (intsD xs).bind fun is => (intsD ys).bind fun js => some (.bool (HT.lexLt is js))
  | _, _ => none
def leD : PyData → PyData → Option PyData
  | .int i, .int j => some (.bool (decide (i ≤ j)))
  | _, _ => none
def gtD : PyData → PyData → Option PyData
  | .int i, .int j => some (.bool (decide (j < i)))
  | _, _ => none
def geD : PyData → PyData → Option PyData
  | .int i, .int j => some (.bool (decide (j ≤ i)))
  | _, _ => none
def isND : PyData → Bool
  | .none => true
  | _ => false
def isD : PyData → PyData → Option PyData
  | a, .none => some (.bool (isND a))
  | _, _ => none
def isntD : PyData → PyData → Option PyData
  | a, .none => some (.bool (!isND a))
  | _, _ => none
/-- in a list (deep), in a tuple of whole numbers -/
def memD : PyData → PyData → Option Bool
  | x, .list ds => if (SeqAt.shaped x && SeqAt.shaped (.list ds)) = true then some (ds.any fun z => PyData.eqv z x) else none
  | .int i, .tuple ds => (intsD ds).bind fun is => some (is.any fun j => j == i)
  | _, _ => none
def inD (x c : PyData) : Option PyData := (memD x c).bind fun b => some (.bool b)
def notInD (x c : PyData) : Option PyData := (memD x c).bind fun b => some (.bool (!b))
def ixD : PyData → PyData → Option PyData
  | .list ds, .int i => atI ds i
  | .tuple ds, .int i => atI ds i
  | _, _ => none
def cutD (xs : List PyData) (lo hi : Option Int) : List PyData := (xs.drop (HT.sIx xs.length 0 lo)).take (HT.sIx xs.length xs.length hi - HT.sIx xs.length 0 lo)
def slD : PyData → Option Int → Option Int → Option PyData
  | .list ds, lo, hi => some (.list (cutD ds lo hi))
  | .tuple ds, lo, hi => some (.tuple (cutD ds lo hi))
  | _, _, _ => none
def lenD : List PyData → Option PyData
  | [.list ds] => some (.int ds.length)
  | [.tuple ds] => some (.int ds.length)
  | _ => none
def allD : List PyData → Option PyData
  | [.list ds] => (boolsD ds).bind fun bs => some (.bool (bs.all id))
  | _ => none
def anyD : List PyData → Option PyData
  | [.list ds] => (boolsD ds).bind fun bs => some (.bool (bs.any id))
  | _ => none
def listD : List PyData → Option PyData
  | [.list ds] => some (.list ds)
  | [.tuple ds] => some (.list ds)
  | _ => none
def tupleD : List PyData → Option PyData
  | [.list ds] => some (.tuple ds)
  | [.tuple ds] => some (.tuple ds)
  | _ => none
def minD : List PyData → Option PyData
  | [.int i, .int j] => some (.int (if j < i then j else i))
  | _ => none
def maxD : List PyData → Option PyData
  | [.int i, .int j] => some (.int (if j > i then j else i))
  | _ => none
def absD : List PyData → Option PyData
  | [.int i] => some (.int (if i < 0 then -i else i))
  | _ => none
def intD : List PyData → Option PyData
  | [.int i] => some (.int i)
  | [.bool b] => some (.int (if b then 1 else 0))
  | _ => none
def tyN : PyData → String
  | .none => "NoneType"
  | .bool _ => "bool"
  | .int _ => "int"
  | .str _ => "str"
  | .list _ => "list"
  | .tuple _ => "tuple"
  | .dict _ => "dict"
def isiD (T : String) (d : PyData) : Option PyData := match d with
  | .dict _ => none
  | d => (kitB (tyN d) T).bind fun b => some (.bool b)

section
variable {X : Cx}
theorem o_add : OpD X (binaryOp .Add) addD := opOf (op_add.or (op_cat.or op_catF)) fun x y H Q ⟨S, d, e, r, t, r1, r2, hg, k⟩ => by
  cases d with
  | int i =>
    cases e with
    | int j =>
      cases hg
      rw [r1.unI, r2.unI]
      exact .inl ⟨i, j, rfl, rfl, k _ H (Same.refl H) (.int _)⟩
    | _ => cases hg
  | list ds =>
    cases e with
    | list es =>
      obtain ⟨hl, rfl⟩ := gd_some hg
      have hl := of_decide_eq_true hl
      obtain ⟨a, xs, rfl, h1, n1, z1, q1⟩ := r1.unL
      obtain ⟨b, ys, rfl, h2, n2, z2, q2⟩ := r2.unL
      have l1 := q1.length
      have l2 := q2.length
      exact .inr (.inl ⟨a, b, xs, ys, rfl, rfl, h1, h2, lim_line (by omega), fun p hp => k _ _ (same_new hp) (.newL t hp (by rw [List.length_append]; omega) (q1.append q2))⟩)
    | _ => cases hg
  | tuple ds =>
    cases e with
    | tuple es =>
      obtain ⟨hl, rfl⟩ := gd_some hg
      have hl := of_decide_eq_true hl
      obtain ⟨a, o1, xs, rfl, h1, n1, z1, q1⟩ := id r1.unT
      obtain ⟨b, o2, ys, rfl, h2, n2, z2, q2⟩ := id r2.unT
      have l1 := q1.length
      have l2 := q2.length
      refine .inr (.inr ⟨a, b, xs, ys, rfl, rfl, sqt_fz h1, sqt_fz h2, lim_line (by omega), fun e => ?_, fun e => ?_, fun p o hp ho => k _ _ (same_new hp) (.newT t hp ho (by rw [List.length_append]; omega) (q1.append q2))⟩)
      · rw [q1.nil_iff] at e
        subst e
        exact k _ H (Same.refl H) r2
      · rw [q2.nil_iff] at e
        subst e
        rw [List.append_nil] at k
        exact k _ H (Same.refl H) r1
    | _ => cases hg
  | _ => cases e <;> cases hg
theorem o_sub : OpD X (binaryOp .Sub) subD := opOf op_sub fun x y H Q ⟨S, d, e, r, t, r1, r2, hg, k⟩ => by
  cases d with
  | int i =>
    cases e with
    | int j => cases hg; rw [r1.unI, r2.unI]; exact ⟨i, j, rfl, rfl, k _ H (Same.refl H) (.int _)⟩
    | _ => cases hg
  | _ => cases e <;> cases hg
theorem o_mul : OpD X (binaryOp .Mult) mulD := opOf op_mul fun x y H Q ⟨S, d, e, r, t, r1, r2, hg, k⟩ => by
  cases d with
  | int i =>
    cases e with
    | int j => obtain ⟨hl, rfl⟩ := gd_some hg; have hl := of_decide_eq_true hl; rw [r1.unI, r2.unI]; exact ⟨i, j, rfl, rfl, hl, k _ H (Same.refl H) (.int _)⟩
    | _ => cases hg
  | _ => cases e <;> cases hg
theorem o_mod : OpD X (binaryOp .Mod) modD := opOf op_mod fun x y H Q ⟨S, d, e, r, t, r1, r2, hg, k⟩ => by
  cases d with
  | int i =>
    cases e with
    | int j => obtain ⟨hl, rfl⟩ := gd_some hg; have hl := of_decide_eq_true hl; rw [r1.unI, r2.unI]; exact ⟨i, j, rfl, rfl, hl, k _ H (Same.refl H) (.int _)⟩
    | _ => cases hg
  | _ => cases e <;> cases hg
theorem o_fdiv : OpD X (binaryOp .FloorDiv) fdivD := opOf op_fdiv fun x y H Q ⟨S, d, e, r, t, r1, r2, hg, k⟩ => by
  cases d with
  | int i =>
    cases e with
    | int j => obtain ⟨hl, rfl⟩ := gd_some hg; have hl := of_decide_eq_true hl; rw [r1.unI, r2.unI]; exact ⟨i, j, rfl, rfl, hl, k _ H (Same.refl H) (.int _)⟩
    | _ => cases hg
  | _ => cases e <;> cases hg
theorem o_pow : OpD X (binaryOp .Pow) powD := opOf op_pow fun x y H Q ⟨S, d, e, r, t, r1, r2, hg, k⟩ => by
  cases d with
  | int i =>
    cases e with
    | int j => obtain ⟨hl, rfl⟩ := gd_some hg; have hl := of_decide_eq_true hl; rw [r1.unI, r2.unI]; exact ⟨i, j, rfl, rfl, hl, k _ H (Same.refl H) (.int _)⟩
    | _ => cases hg
  | _ => cases e <;> cases hg
theorem o_eq (hu : X.A.units + 64 < cLine) : OpD X (compareOp .Eq) eqD := opOf (op_eqD hu) fun x y H Q ⟨S, d, e, r, t, r1, r2, hg, k⟩ => by
  obtain ⟨hl, rfl⟩ := gd_some hg
  rw [Bool.and_eq_true] at hl
  exact ⟨d, e, r1.shp hl.1, r2.shp hl.2, hl.1, hl.2, k _ H (Same.refl H) (.bl _)⟩
theorem o_ne (hu : X.A.units + 64 < cLine) : OpD X (compareOp .NotEq) neD := opOf (op_neD hu) fun x y H Q ⟨S, d, e, r, t, r1, r2, hg, k⟩ => by
  obtain ⟨hl, rfl⟩ := gd_some hg
  rw [Bool.and_eq_true] at hl
  exact ⟨d, e, r1.shp hl.1, r2.shp hl.2, hl.1, hl.2, k _ H (Same.refl H) (.bl _)⟩
theorem o_lt (hu : X.A.units < cLine) : OpD X (compareOp .Lt) ltD := opOf (op_lt.or (op_ltT hu)) fun x y H Q ⟨S, d, e, r, t, r1, r2, hg, k⟩ => by
  cases d with
  | int i =>
    cases e with
    | int j => cases hg; rw [r1.unI, r2.unI]; exact .inl ⟨i, j, rfl, rfl, k _ H (Same.refl H) (.bl _)⟩
    | _ => cases hg
  | tuple ds =>
    cases e with
    | tuple es =>
      obtain ⟨is, h1, h2⟩ := bind_some hg
      obtain ⟨js, h3, h4⟩ := bind_some h2
      cases h4
      rw [intsD_eq h1] at r1
      rw [intsD_eq h3] at r2
      obtain ⟨a, o1, xs, rfl, g1, n1, z1, q1⟩ := r1.unT
      obtain ⟨b, o2, ys, rfl, g2, n2, z2, q2⟩ := r2.unT
      exact .inr ⟨a, b, is, js, rfl, rfl, sqt_fz (by rw [← q1.inv]; exact g1), sqt_fz (by rw [← q2.inv]; exact g2), k _ H (Same.refl H) (.bl _)⟩
    | _ => cases hg
  | _ => cases e <;> cases hg
theorem o_le : OpD X (compareOp .LtE) leD := opOf op_le fun x y H Q ⟨S, d, e, r, t, r1, r2, hg, k⟩ => by
  cases d with
  | int i =>
    cases e with
    | int j => cases hg; rw [r1.unI, r2.unI]; exact ⟨i, j, rfl, rfl, k _ H (Same.refl H) (.bl _)⟩
    | _ => cases hg
  | _ => cases e <;> cases hg
theorem o_gt : OpD X (compareOp .Gt) gtD := opOf op_gt fun x y H Q ⟨S, d, e, r, t, r1, r2, hg, k⟩ => by
  cases d with
  | int i =>
    cases e with
    | int j => cases hg; rw [r1.unI, r2.unI]; exact ⟨i, j, rfl, rfl, k _ H (Same.refl H) (.bl _)⟩
    | _ => cases hg
  | _ => cases e <;> cases hg
theorem o_ge : OpD X (compareOp .GtE) geD := opOf op_ge fun x y H Q ⟨S, d, e, r, t, r1, r2, hg, k⟩ => by
  cases d with
  | int i =>
    cases e with
    | int j => cases hg; rw [r1.unI, r2.unI]; exact ⟨i, j, rfl, rfl, k _ H (Same.refl H) (.bl _)⟩
    | _ => cases hg
  | _ => cases e <;> cases hg
theorem isND_ok {W : Wd} {H : Hp} {v : V} {d : PyData} (r : DR W H v d) : decide (v = .non) = isND d := by
  cases r <;> simp [isND]
theorem o_is : OpD X (compareOp .Is) isD := opOf op_isN fun x y H Q ⟨S, d, e, r, t, r1, r2, hg, k⟩ => by
  cases e with
  | none =>
    cases hg
    cases r2
    rw [isND_ok r1]
    exact ⟨rfl, k _ H (Same.refl H) (.bl _)⟩
  | _ => cases hg
theorem o_isnt : OpD X (compareOp .IsNot) isntD := opOf op_notN fun x y H Q ⟨S, d, e, r, t, r1, r2, hg, k⟩ => by
  cases e with
  | none =>
    cases hg
    cases r2
    rw [isND_ok r1]
    exact ⟨rfl, k _ H (Same.refl H) (.bl _)⟩
  | _ => cases hg
theorem flat_ints (is : List Int) : (is.map V.int).all flatV = true := by
  rw [List.all_map]
  exact List.all_eq_true.mpr fun _ _ => rfl
theorem inV_ints (i : Int) (is : List Int) : inV (.int i) (is.map V.int) = is.any fun j => j == i := by
  unfold inV
  rw [List.any_map]
  rfl
theorem o_in (hu : X.A.units + 65 < cLine) : OpD X (compareOp .In) inD := opOf ((op_inD hu).or op_in_seq) fun x y H Q ⟨S, d, e, r, t, r1, r2, hg, k⟩ => by
  obtain ⟨b, hm, h2⟩ := bind_some hg
  cases h2
  cases e with
  | list ds =>
    simp only [memD] at hm
    split at hm
    · rename_i hl
      cases hm
      rw [Bool.and_eq_true] at hl
      exact .inl ⟨d, ds, r1.shp hl.1, r2.shp hl.2, hl.1, hl.2, k _ H (Same.refl H) (.bl _)⟩
    · cases hm
  | tuple ds =>
    cases d with
    | int i =>
      obtain ⟨is, h1, h3⟩ := bind_some (x := intsD ds) (by simpa only [memD] using hm)
      cases h3
      rw [intsD_eq h1] at r2
      obtain ⟨b, o2, ys, rfl, g2, n2, z2, q2⟩ := r2.unT
      rw [r1.unI]
      refine .inr ⟨b, ys, rfl, .inr (sqt_fz g2), rfl, by rw [q2.inv]; exact flat_ints is, ?_⟩
      rw [q2.inv, inV_ints]
      exact k _ H (Same.refl H) (.bl _)
    | _ => simp [memD] at hm
  | _ => cases d <;> simp [memD] at hm
theorem o_notIn (hu : X.A.units + 65 < cLine) : OpD X (compareOp .NotIn) notInD := opOf ((op_notInD hu).or op_notIn_seq) fun x y H Q ⟨S, d, e, r, t, r1, r2, hg, k⟩ => by
  obtain ⟨b, hm, h2⟩ := bind_some hg
  cases h2
  cases e with
  | list ds =>
    simp only [memD] at hm
    split at hm
    · rename_i hl
      cases hm
      rw [Bool.and_eq_true] at hl
      exact .inl ⟨d, ds, r1.shp hl.1, r2.shp hl.2, hl.1, hl.2, k _ H (Same.refl H) (.bl _)⟩
    · cases hm
  | tuple ds =>
    cases d with
    | int i =>
      obtain ⟨is, h1, h3⟩ := bind_some (x := intsD ds) (by simpa only [memD] using hm)
      cases h3
      rw [intsD_eq h1] at r2
      obtain ⟨b, o2, ys, rfl, g2, n2, z2, q2⟩ := r2.unT
      rw [r1.unI]
      refine .inr ⟨b, ys, rfl, .inr (sqt_fz g2), rfl, by rw [q2.inv]; exact flat_ints is, ?_⟩
      rw [q2.inv, inV_ints]
      exact k _ H (Same.refl H) (.bl _)
    | _ => simp [memD] at hm
  | _ => cases d <;> simp [memD] at hm
/-! ### subscripts and slices -/
theorem atI_DR {W : Wd} {H : Hp} {vs : List V} {ds : List PyData} {i : Int} {d : PyData} (q : DRs W H vs ds) (h : atI ds i = some d) : ∃ v, atI vs i = some v ∧ DR W H v d := by
  unfold atI at h ⊢
  rw [q.length]
  obtain ⟨j, h1, h2⟩ := bind_some h
  obtain ⟨v, h3, h4⟩ := q.get h2
  exact ⟨v, by rw [h1]; exact h3, h4⟩
theorem x_ix0 : IxR X (rD2 (wd X) ixD) := ixOf (ix_list.or ix_tup) fun x y H Q ⟨S, d, e, r, t, r1, r2, hg, k⟩ => by
  cases e with
  | int i =>
    cases d with
    | list ds =>
      obtain ⟨a, xs, rfl, g, n, z, q⟩ := r1.unL
      obtain ⟨v, h1, h2⟩ := atI_DR q hg
      rw [r2.unI]
      exact .inl ⟨a, xs, i, v, rfl, rfl, SqL.of g, h1, k _ H (Same.refl H) h2⟩
    | tuple ds =>
      obtain ⟨a, o, xs, rfl, g, n, z, q⟩ := r1.unT
      obtain ⟨v, h1, h2⟩ := atI_DR q hg
      rw [r2.unI]
      exact .inr ⟨a, xs, i, v, rfl, rfl, sqt_fz g, h1, k _ H (Same.refl H) h2⟩
    | _ => cases hg
  | _ => cases d <;> cases hg
def oN : Option (DE → Option PyData) → DE → Option (Option Int)
  | none => fun _ => some none
  | some f => fun Γ => (f Γ).bind fun d => (asI d).bind fun i => some (some i)
def eSl (f : DE → Option PyData) (lo hi : Option (DE → Option PyData)) : DE → Option PyData := fun Γ => (f Γ).bind fun d => (oN lo Γ).bind fun l => (oN hi Γ).bind fun u => slD d l u
def tO2 (W : Wd) (lo : Option (DE → Option PyData)) : TO := fun σ H Q => ∃ S Γ d, Trk S H ∧ EnvR W (hid S H) Γ σ ∧ oN lo Γ = some d ∧ ∀ H', Same H H' → Q d H'
abbrev PDO (X : Cx) (e : Option Expr) (f : Option (DE → Option PyData)) : Prop := PO X e (tO2 (wd X) f)
theorem poOf {e : Option Expr} {t t' : TO} (h : PO X e t) (k : ∀ σ H Q, t' σ H Q → t σ H Q) : PO X e t' := ⟨fun pins s σ H Q I q => h.run pins s σ H Q I (k σ H Q q)⟩
theorem do_none : PDO X none none := poOf po_none fun σ H Q ⟨S, Γ, d, t, en, hf, k⟩ => by cases hf; exact k H (Same.refl H)
theorem do_some {e : Expr} {f : DE → Option PyData} (h : PD X e f) : PDO X (some e) (some f) := poOf (po_some h) fun σ H Q ⟨S, Γ, d, t, en, hf, k⟩ => by
  obtain ⟨x, h1, h2⟩ := bind_some hf
  obtain ⟨i, h3, h4⟩ := bind_some h2
  cases h4
  refine tD_run t en h1 fun v H1 s1 t1 en1 r1 => ?_
  cases x with
  | int j =>
    cases h3
    exact ⟨_, r1.unI, k H1 s1⟩
  | _ => cases h3
theorem cut_DR {W : Wd} {H : Hp} {vs : List V} {ds : List PyData} (q : DRs W H vs ds) (lo hi : Option Int) : DRs W H (cutV vs lo hi) (cutD ds lo hi) := by
  unfold cutV cutD
  rw [q.length]
  exact (q.drop _).take _
theorem d_slice {e : Expr} {lo hi : Option Expr} {f : DE → Option PyData} {fl fh : Option (DE → Option PyData)} {p2 pos : Pos} (he : PD X e f) (hl : PDO X lo fl) (hu : PDO X hi fh) : PD X (.Subscript e (.Slice lo hi none p2) pos) (eSl f fl fh) :=
  peOf (pe_slice (sl_list.or sl_tupF) he hl hu) fun σ H Q ⟨S, Γ, d, t, en, hf, k⟩ => by
    obtain ⟨x, h1, h2⟩ := bind_some hf
    obtain ⟨l, h3, h4⟩ := bind_some h2
    obtain ⟨u, h5, h6⟩ := bind_some h4
    refine tD_run t en h1 fun v H1 s1 t1 en1 r1 => ⟨S, Γ, l, t1, en1, h3, fun H2 s2 => ⟨S, Γ, u, t1.same s2, en1.mono (hid_same s2), h5, fun H3 s3 => ?_⟩⟩
    have r3 := r1.mono (hid_same (s2.trans s3))
    have t3 := t1.same (s2.trans s3)
    have k' := fun v H' (s : Same H3 H') => k v H' ((s1.trans (s2.trans s3)).trans s)
    cases x with
    | list ds =>
      cases h6
      obtain ⟨a, xs, rfl, g, n, z, q⟩ := r3.unL
      exact .inl ⟨a, xs, rfl, SqL.of g, fun p hp => k' _ _ (same_new hp) (.newL t3 hp (Nat.le_trans (cutV_length xs l u) z) (cut_DR q l u))⟩
    | tuple ds =>
      cases h6
      obtain ⟨a, o, xs, rfl, g, n, z, q⟩ := id r3.unT
      refine .inr ⟨a, xs, rfl, sqt_fz g, fun hw => ?_, fun p o hp ho => k' _ _ (same_new hp) (.newT t3 hp ho (Nat.le_trans (cutV_length xs l u) z) (cut_DR q l u))⟩
      have q2 := cut_DR q l u
      rw [hw] at q2
      exact k' _ H3 (Same.refl H3) (.tup (by rw [hid_out]; exact g; exact fun z => absurd g (fun _ => by cases r3 with | tup w _ _ _ => exact (hid_some w).1 z)) n z q2)
    | _ => cases h6
/-! ### built-ins -/
theorem vs1 {W : Wd} {H : Hp} {vs : List V} {d : PyData} (h : DRs W H vs [d]) : ∃ v, vs = [v] ∧ DR W H v d := by
  cases h with
  | cons r t => cases t; exact ⟨_, rfl, r⟩
theorem vs2 {W : Wd} {H : Hp} {vs : List V} {d e : PyData} (h : DRs W H vs [d, e]) : ∃ v u, vs = [v, u] ∧ DR W H v d ∧ DR W H u e := by
  cases h with
  | cons r t =>
    obtain ⟨u, rfl, q⟩ := vs1 t
    exact ⟨_, _, rfl, r, q⟩
theorem c_len : CallD X (.builtin "len") lenD := callOf call_len_seq fun xs H Q ⟨S, ds, r, t, r1, hg, k⟩ => by
  match ds, hg with
  | [.list es], hg =>
    cases hg
    obtain ⟨v, rfl, q⟩ := vs1 r1
    obtain ⟨a, ys, rfl, g, n, z, q⟩ := q.unL
    exact ⟨a, ys, rfl, .inl (SqL.of g), k _ H (Same.refl H) (by rw [q.length]; exact .int _)⟩
  | [.tuple es], hg =>
    cases hg
    obtain ⟨v, rfl, q⟩ := vs1 r1
    obtain ⟨a, o, ys, rfl, g, n, z, q⟩ := q.unT
    exact ⟨a, ys, rfl, .inr (sqt_fz g), k _ H (Same.refl H) (by rw [q.length]; exact .int _)⟩
theorem c_all (hc : X.calm = true) : CallD X (.builtin "all") allD := callOf (cr_all hc) fun xs H Q ⟨S, ds, r, t, r1, hg, k⟩ => by
  match ds, hg with
  | [.list es], hg =>
    obtain ⟨bs, h1, h2⟩ := bind_some (x := boolsD es) (by simpa only [allD] using hg)
    cases h2
    obtain ⟨v, rfl, q⟩ := vs1 r1
    obtain ⟨a, ys, rfl, g, n, z, q⟩ := q.unL
    rw [boolsD_eq h1] at q
    exact ⟨a, bs, rfl, SqL.of (by rw [← q.invB]; exact g), k _ H (Same.refl H) (.bl _)⟩
theorem c_any (hc : X.calm = true) : CallD X (.builtin "any") anyD := callOf (cr_any hc) fun xs H Q ⟨S, ds, r, t, r1, hg, k⟩ => by
  match ds, hg with
  | [.list es], hg =>
    obtain ⟨bs, h1, h2⟩ := bind_some (x := boolsD es) (by simpa only [anyD] using hg)
    cases h2
    obtain ⟨v, rfl, q⟩ := vs1 r1
    obtain ⟨a, ys, rfl, g, n, z, q⟩ := q.unL
    rw [boolsD_eq h1] at q
    exact ⟨a, bs, rfl, SqL.of (by rw [← q.invB]; exact g), k _ H (Same.refl H) (.bl _)⟩
theorem c_list : CallD X (.type "list") listD := callOf call_list_of fun xs H Q ⟨S, ds, r, t, r1, hg, k⟩ => by
  match ds, hg with
  | [.list es], hg =>
    cases hg
    obtain ⟨v, rfl, q⟩ := vs1 r1
    obtain ⟨a, ys, rfl, g, n, z, q⟩ := q.unL
    exact ⟨a, ys, rfl, .inl (SqL.of g), fun p hp => k _ _ (same_new hp) (.newL t hp z q)⟩
  | [.tuple es], hg =>
    cases hg
    obtain ⟨v, rfl, q⟩ := vs1 r1
    obtain ⟨a, o, ys, rfl, g, n, z, q⟩ := q.unT
    exact ⟨a, ys, rfl, .inr (sqt_fz g), fun p hp => k _ _ (same_new hp) (.newL t hp z q)⟩
theorem c_tuple : CallD X (.type "tuple") tupleD := callOf call_tupF fun xs H Q ⟨S, ds, r, t, r1, hg, k⟩ => by
  match ds, hg with
  | [.list es], hg =>
    cases hg
    obtain ⟨v, rfl, q⟩ := vs1 r1
    obtain ⟨a, ys, rfl, g, n, z, q⟩ := q.unL
    exact ⟨a, ys, rfl, .inl ⟨SqL.of g, fun p o hp ho => k _ _ (same_new hp) (.newT t hp ho z q)⟩⟩
  | [.tuple es], hg =>
    cases hg
    obtain ⟨v, rfl, q0⟩ := vs1 r1
    obtain ⟨a, o, ys, rfl, g, n, z, q⟩ := id q0.unT
    exact ⟨a, ys, rfl, .inr ⟨sqt_fz g, k _ H (Same.refl H) q0⟩⟩
theorem c_min (hc : X.calm = true) : CallD X (.builtin "min") minD := callOf (call_min2 hc) fun xs H Q ⟨S, ds, r, t, r1, hg, k⟩ => by
  match ds, hg with
  | [.int i, .int j], hg =>
    cases hg
    obtain ⟨v, u, rfl, q1, q2⟩ := vs2 r1
    rw [q1.unI, q2.unI]
    exact ⟨i, j, rfl, k _ H (Same.refl H) (.int _)⟩
theorem c_max (hc : X.calm = true) : CallD X (.builtin "max") maxD := callOf (call_max2 hc) fun xs H Q ⟨S, ds, r, t, r1, hg, k⟩ => by
  match ds, hg with
  | [.int i, .int j], hg =>
    cases hg
    obtain ⟨v, u, rfl, q1, q2⟩ := vs2 r1
    rw [q1.unI, q2.unI]
    exact ⟨i, j, rfl, k _ H (Same.refl H) (.int _)⟩
theorem c_abs : CallD X (.builtin "abs") absD := callOf call_abs fun xs H Q ⟨S, ds, r, t, r1, hg, k⟩ => by
  match ds, hg with
  | [.int i], hg =>
    cases hg
    obtain ⟨v, rfl, q1⟩ := vs1 r1
    rw [q1.unI]
    exact ⟨i, rfl, k _ H (Same.refl H) (.int _)⟩
theorem c_int : CallD X (.type "int") intD := callOf call_int1 fun xs H Q ⟨S, ds, r, t, r1, hg, k⟩ => by
  match ds, hg with
  | [.int i], hg =>
    cases hg
    obtain ⟨v, rfl, q1⟩ := vs1 r1
    rw [q1.unI]
    exact .inl ⟨i, rfl, k _ H (Same.refl H) (.int _)⟩
  | [.bool b], hg =>
    cases hg
    obtain ⟨v, rfl, q1⟩ := vs1 r1
    rw [q1.unB]
    exact .inr ⟨b, rfl, k _ H (Same.refl H) (.int _)⟩
/-- isinstance(e, T) -/
theorem tyX_of {S : List Addr} {H : Hp} {v : V} {d : PyData} {T : String} {r : PyData} (q : DR (wd X) (hid S H) v d) (h : isiD T d = some r) : ∃ b, r = .bool b ∧ kitB (tyN d) T = some b ∧ TyX X.K H v (.type (tyN d)) := by
  cases q with
  | dct _ _ _ _ _ => cases h
  | non => obtain ⟨b, h1, h2⟩ := bind_some (x := kitB _ T) h; cases h2; exact ⟨b, rfl, h1, .base .non⟩
  | bl _ => obtain ⟨b, h1, h2⟩ := bind_some (x := kitB _ T) h; cases h2; exact ⟨b, rfl, h1, .base (.bl _)⟩
  | int _ => obtain ⟨b, h1, h2⟩ := bind_some (x := kitB _ T) h; cases h2; exact ⟨b, rfl, h1, .base (.int _)⟩
  | str _ => obtain ⟨b, h1, h2⟩ := bind_some (x := kitB _ T) h; cases h2; exact ⟨b, rfl, h1, .base (.str _)⟩
  | lst g _ _ => obtain ⟨b, h1, h2⟩ := bind_some (x := kitB _ T) h; cases h2; exact ⟨b, rfl, h1, .base (.lst (hid_some g).2)⟩
  | tup g _ _ _ => obtain ⟨b, h1, h2⟩ := bind_some (x := kitB _ T) h; cases h2; exact ⟨b, rfl, h1, .fTuple (hid_some g).2⟩
theorem d_isi {e : Expr} {f : DE → Option PyData} {T : Str} {T' : String} {p q pos : Pos} (hm : X.mg "isinstance" = none) (hmT : X.mg T = none) (hvT : bootBuiltins T = some (.type T')) (he : PD X e f) (hg : Gl X "isinstance" := by rfl) (hgT : Gl X T := by rfl)
    (hnT : T ≠ "__name__" := by decide) (hdT : (T == ("__debug__" : Str)) = false := by decide)
    (hs1 : starEach [e, .Name T q] X.env = (false, eval e X.env) :: starEach [.Name T q] X.env := by rfl) (hs2 : starEach [.Name T q] X.env = (false, eval (.Name T q) X.env) :: starEach [] X.env := by rfl)
    (hpl : (backTo pos (starEach [.Name T q] X.env)).any (·.1) = false := by rfl) : PD X (.Call (.Name "isinstance" p) [e, .Name T q] [] pos) (e1 (isiD T') f) :=
  peOf (pe_callB call_isi hg hm boot_isinstance (pa_cons he (pa_cons (pe_bltn (v := .ty T') hgT hmT hvT rfl hnT hdT) pa_nil hs2) hs1) (by decide) (by decide) hs1 hpl) fun σ H Q ⟨S, Γ, d, t, en, hf, k⟩ => by
    obtain ⟨x, h1, h2⟩ := bind_some hf
    refine tD_run t en h1 fun v H1 s1 t1 en1 r1 => ?_
    obtain ⟨b, rfl, h3, h4⟩ := tyX_of r1 h2
    exact ⟨v, .ty T', _, _, b, rfl, .ty T', h4, kit_ty h3, k _ H1 s1 (.bl b)⟩
/-- list(range(e)), tuple(range(e)) -/
def upTo (n : Int) : List PyData := (List.range n.toNat).map fun (i : Nat) => PyData.int i
def eRgL (f : DE → Option PyData) : DE → Option PyData := fun Γ => (f Γ).bind fun d => (asI d).bind fun n => gd (decide (n ≤ LIM ∧ 0 ≤ n)) (.list (upTo n))
def eRgT (f : DE → Option PyData) : DE → Option PyData := fun Γ => (f Γ).bind fun d => (asI d).bind fun n => gd (decide (n ≤ LIM ∧ 0 ≤ n)) (.tuple (upTo n))
theorem upTo_DR {W : Wd} {H : Hp} (n : Int) : DRs W H (rgV 0 n) (upTo n) := by
  unfold rgV upTo
  have go : ∀ l : List Nat, DRs W H (l.map fun (i : Nat) => V.int (0 + (i : Nat))) (l.map fun (i : Nat) => PyData.int i) := fun l => by
    induction l with
    | nil => exact .nil
    | cons i l ih =>
      refine .cons ?_ ih
      show DR W H (V.int (0 + (i : Int))) (PyData.int i)
      rw [Int.zero_add]
      exact .int _
  rw [Int.sub_zero]
  exact go _
theorem rg_ok {n : Int} (h : n ≤ LIM ∧ 0 ≤ n) : RgOk 0 n ∧ (rgV 0 n).length ≤ LIM := by
  have h1 : n ≤ 100000 := h.1
  refine ⟨RgOk.of_le (by omega) (by omega) (by omega) h.2, ?_⟩
  rw [rgV_length]
  show _ ≤ 100000
  omega
theorem d_rgL {e : Expr} {f : DE → Option PyData} {p q pos pos' : Pos} (hc : X.calm = true) (hm : X.mg "list" = none) (hm2 : X.mg "range" = none) (he : PD X e f) (hg : Gl X "list" := by rfl) (hg2 : Gl X "range" := by rfl)
    (na : starEach [.Call (.Name "range" q) [e] [] pos'] X.env = (false, eval (.Call (.Name "range" q) [e] [] pos') X.env) :: starEach [] X.env := by rfl) (nb : starEach [e] X.env = (false, eval e X.env) :: starEach [] X.env := by rfl) :
    PD X (.Call (.Name "list" p) [.Call (.Name "range" q) [e] [] pos'] [] pos) (eRgL f) :=
  peOf (pe_listRg hc hg hm (prg_1 hg2 hm2 he nb) na) fun σ H Q ⟨S, Γ, d, t, en, hf, k⟩ => by
    obtain ⟨x, h1, h2⟩ := bind_some hf
    obtain ⟨n, h3, h4⟩ := bind_some h2
    obtain ⟨h5, rfl⟩ := gd_some h4
    obtain ⟨ok, hz⟩ := rg_ok (of_decide_eq_true h5)
    refine tD_run t en h1 fun v H1 s1 t1 en1 r1 => ?_
    cases x with
    | int j =>
      cases h3
      exact ⟨_, r1.unI, ok, fun p hp => k _ _ (s1.trans (same_new hp)) (.newL t1 hp hz (upTo_DR _))⟩
    | _ => cases h3
theorem d_rgT {e : Expr} {f : DE → Option PyData} {p q pos pos' : Pos} (hc : X.calm = true) (hm : X.mg "tuple" = none) (hm2 : X.mg "range" = none) (he : PD X e f) (hg : Gl X "tuple" := by rfl) (hg2 : Gl X "range" := by rfl)
    (na : starEach [.Call (.Name "range" q) [e] [] pos'] X.env = (false, eval (.Call (.Name "range" q) [e] [] pos') X.env) :: starEach [] X.env := by rfl) (nb : starEach [e] X.env = (false, eval e X.env) :: starEach [] X.env := by rfl) :
    PD X (.Call (.Name "tuple" p) [.Call (.Name "range" q) [e] [] pos'] [] pos) (eRgT f) :=
  peOf (pe_tupRgF hc hg hm (prg_1 hg2 hm2 he nb) na) fun σ H Q ⟨S, Γ, d, t, en, hf, k⟩ => by
    obtain ⟨x, h1, h2⟩ := bind_some hf
    obtain ⟨n, h3, h4⟩ := bind_some h2
    obtain ⟨h5, rfl⟩ := gd_some h4
    obtain ⟨ok, hz⟩ := rg_ok (of_decide_eq_true h5)
    refine tD_run t en h1 fun v H1 s1 t1 en1 r1 => ?_
    cases x with
    | int j =>
      cases h3
      exact ⟨_, r1.unI, ok, fun p o hp ho => k _ _ (s1.trans (same_new hp)) (.newT t1 hp ho hz (upTo_DR _))⟩
    | _ => cases h3
end
end G8

/-! G4: walks, comprehensions, statements, defs on data. -/
namespace G8
open L2 PyProof.Rows PySem.Spec PySem

/-! ### targets -/
def setAll : L2.St → List Nat → List V → L2.St
  | σ, i :: is, v :: vs => setAll (σ.set i (some v)) is vs
  | σ, _, _ => σ
def setAllD : DE → List Nat → List PyData → DE
  | σ, i :: is, v :: vs => setAllD (σ.set i (some v)) is vs
  | σ, _, _ => σ
theorem EnvR.setAll {W : Wd} {H : Hp} : ∀ {is : List Nat} {vs : List V} {ds : List PyData} {Γ : DE} {σ : L2.St}, EnvR W H Γ σ → DRs W H vs ds → EnvR W H (setAllD Γ is ds) (G8.setAll σ is vs)
  | [], _, _, _, _, e, _ => e
  | _ :: _, _, _, _, _, e, .nil => e
  | i :: is, _, _, _, _, e, .cons r t => EnvR.setAll (is := is) (e.set r) t
theorem wipe_get (σ : L2.St) : ∀ (vs : List Nat) (j : Nat), (wipe σ vs)[j]? = if j ∈ vs then (if j < σ.length then some none else none) else σ[j]?
  | [], j => by simp [wipe]
  | v :: vs, j => by
    have ih := wipe_get σ vs j
    have hl := wipe_length σ vs
    unfold wipe
    by_cases e : v = j
    · subst e
      rw [if_pos List.mem_cons_self]
      by_cases hv : v < σ.length
      · rw [if_pos hv, List.getElem?_set_self (by rw [hl]; exact hv)]
      · rw [if_neg hv, List.getElem?_eq_none (by rw [List.length_set, hl]; omega)]
    · rw [List.getElem?_set_ne e, ih]
      have h2 : j ∈ v :: vs ↔ j ∈ vs := ⟨fun q => (List.mem_cons.mp q).resolve_left (fun z => e z.symm), List.mem_cons_of_mem _⟩
      by_cases h3 : j ∈ vs
      · rw [if_pos h3, if_pos (h2.mpr h3)]
      · rw [if_neg h3, if_neg fun q => h3 (h2.mp q)]
theorem setAll_get : ∀ (is : List Nat) (vs : List V) (σ : L2.St) (j : Nat), j ∉ is → (setAll σ is vs)[j]? = σ[j]?
  | [], _, _, _, _ => rfl
  | _ :: _, [], _, _, _ => rfl
  | i :: is, v :: vs, σ, j, h => by
    have h1 : i ≠ j := fun e => h (by rw [e]; exact List.mem_cons_self)
    have h2 : j ∉ is := fun q => h (List.mem_cons_of_mem _ q)
    show (setAll (σ.set i (some v)) is vs)[j]? = _
    rw [setAll_get is vs _ j h2, List.getElem?_set_ne h1]
theorem setAll_length : ∀ (is : List Nat) (vs : List V) (σ : L2.St), (setAll σ is vs).length = σ.length
  | [], _, _ => rfl
  | _ :: _, [], _ => rfl
  | i :: is, v :: vs, σ => by
    show (setAll (σ.set i (some v)) is vs).length = _
    rw [setAll_length is vs, List.length_set]
theorem wipe_set {σ : L2.St} {own is : List Nat} {vs : List V} (h : ∀ i ∈ is, i ∈ own) : wipe (setAll (wipe σ own) is vs) own = wipe σ own := by
  refine List.ext_getElem? fun j => ?_
  rw [wipe_get, wipe_get, setAll_length, wipe_length]
  by_cases q : j ∈ own
  · rw [if_pos q, if_pos q]
  · rw [if_neg q, if_neg q, setAll_get is vs _ j (fun z => q (h j z)), wipe_get, if_neg q]
theorem wipe_set' {σ : L2.St} {own is : List Nat} {vs : List V} (h : ∀ i ∈ is, i ∈ own) : wipe (setAll σ is vs) own = wipe σ own := by
  refine List.ext_getElem? fun j => ?_
  rw [wipe_get, wipe_get, setAll_length]
  by_cases q : j ∈ own
  · rw [if_pos q, if_pos q]
  · rw [if_neg q, if_neg q, setAll_get is vs _ j (fun z => q (h j z))]
/-- what a target takes of an item -/
def m1 (d : PyData) : Option (List PyData) := some [d]
def mT (n : Nat) : PyData → Option (List PyData)
  | .tuple ds => if ds.length = n then some ds else none
  | _ => none
/-- a target's reading g stores the parts (by m) at the slots is -/
def TgOk (W : Wd) (g : TG) (is : List Nat) (m : PyData → Option (List PyData)) : Prop := ∀ (v : V) (d : PyData) (ds : List PyData) (σ : L2.St) (H : Hp) (S : List Addr) (Q : L2.St → Hp → Prop), DR W (hid S H) v d → m d = some ds →
  (∀ vs, DRs W (hid S H) vs ds → Q (setAll σ is vs) H) → g v σ H Q
theorem tg_name {W : Wd} (i : Nat) : TgOk W (gName i) [i] m1 := fun v d ds σ H S Q r h k => by
  cases h
  exact k [v] (.one r)
def gNames : List Nat → TGs
  | [] => gNil
  | i :: is => gCons (gName i) (gNames is)
theorem gNames_ok : ∀ {is : List Nat} {vs : List V} {σ : L2.St} {H : Hp} {Q : L2.St → Hp → Prop}, vs.length = is.length → Q (setAll σ is vs) H → gNames is vs σ H Q
  | [], [], _, _, _, _, q => ⟨rfl, q⟩
  | [], _ :: _, _, _, _, h, _ => by cases h
  | _ :: _, [], _, _, _, h, _ => by cases h
  | i :: is, v :: vs, σ, H, Q, h, q => ⟨v, vs, rfl, gNames_ok (is := is) (by simpa using h) q⟩
theorem tg_tup {W : Wd} (is : List Nat) {n : Nat} (hn : is.length = n) : TgOk W (gTup W.K n (gNames is)) is (mT n) := fun v d ds σ H S Q r h k => by
  cases d with
  | tuple es =>
    simp only [mT] at h
    split at h
    · rename_i hl
      cases h
      obtain ⟨a, o, xs, rfl, g, nS, z, q⟩ := r.unT
      exact ⟨a, xs, rfl, sqt_fz g, by rw [q.length]; exact hl, gNames_ok (by rw [q.length, hn]; exact hl) (k xs q)⟩
    · cases h
  | _ => cases h

/-! ### what is walked -/
structure ItD (W : Wd) (V0 : Hp) (J : It) (ds : List PyData) : Prop where
  len : ds.length ≤ LIM
  go : ∀ i H, i < ds.length → Same V0 H → J.go i H
  stop : ∀ H, Same V0 H → J.stop ds.length H
  yld : ∀ i H x H' d, Same V0 H → J.yld i H x H' → ds[i]? = some d → Same H H' ∧ ∀ S', Trk S' H → Same V0 (hid S' H) → DR W (hid S' H') x d
def tI (W : Wd) (f : DE → Option (List PyData)) : TI := fun σ H R => ∃ S Γ ds, Trk S H ∧ EnvR W (hid S H) Γ σ ∧ f Γ = some ds ∧ ∀ J H', Same H H' → ItD W (hid S H') J ds → R J H'
abbrev PId (X : Cx) (tg iter : Expr) (f : DE → Option (List PyData)) : Prop := PI X tg iter (tI (wd X) f)
theorem piOf {X : Cx} {tg iter : Expr} {t t' : TI} (h : PI X tg iter t) (k : ∀ σ H R, t' σ H R → t σ H R) : PI X tg iter t' := ⟨fun pins s σ H R I q => h.run pins s σ H R I (k σ H R q)⟩
theorem itd_list {W : Wd} {V0 : Hp} {a : Addr} {xs : List V} {ds : List PyData} (h : V0 a = some (.lst xs)) (hz : xs.length ≤ LIM) (q : DRs W V0 xs ds) : ItD W V0 (Itl W.K a) ds := by
  refine ⟨by rw [← q.length]; exact hz, fun i H hi s => ?_, fun H s => ⟨xs, SqL.of (s _ _ h), by rw [q.length]; exact Nat.le_refl _⟩, fun i H x H' d s y e => ?_⟩
  · obtain ⟨v, hv, _⟩ := q.get (List.getElem?_eq_getElem hi)
    exact ⟨xs, v, SqL.of (s _ _ h), hv⟩
  · obtain ⟨rfl, y2⟩ := y
    have hx := y2 xs (SqL.of (s _ _ h))
    obtain ⟨v, hv, r⟩ := q.get e
    rw [hx] at hv
    cases hv
    exact ⟨Same.refl _, fun S' t' s' => r.mono s'⟩
theorem itd_tup {W : Wd} {V0 : Hp} {a : Addr} {o : Obj} {xs : List V} {ds : List PyData} (h : V0 a = some (.frz o (.tup xs))) (hz : xs.length ≤ LIM) (q : DRs W V0 xs ds) : ItD W V0 (Itt W.K a) ds := by
  refine ⟨by rw [← q.length]; exact hz, fun i H hi s => ?_, fun H s => ⟨xs, sqt_fz (s _ _ h), by rw [q.length]; exact Nat.le_refl _⟩, fun i H x H' d s y e => ?_⟩
  · obtain ⟨v, hv, _⟩ := q.get (List.getElem?_eq_getElem hi)
    exact ⟨xs, v, sqt_fz (s _ _ h), hv⟩
  · obtain ⟨rfl, y2⟩ := y
    have hx := y2 xs (sqt_fz (s _ _ h))
    obtain ⟨v, hv, r⟩ := q.get e
    rw [hx] at hv
    cases hv
    exact ⟨Same.refl _, fun S' t' s' => r.mono s'⟩
def rgD (lo : Int) (n : Nat) : List PyData := (List.range n).map fun (i : Nat) => PyData.int (lo + i)
theorem itd_range {W : Wd} {V0 : Hp} {lo : Int} {n : Nat} (hz : n ≤ LIM) : ItD W V0 (Itr lo n) (rgD lo n) := by
  have hl : (rgD lo n).length = n := by unfold rgD; rw [List.length_map, List.length_range]
  refine ⟨by rw [hl]; exact hz, fun i H hi s => by rw [hl] at hi; exact hi, fun H s => by rw [hl]; exact Nat.le_refl n, fun i H x H' d s y e => ?_⟩
  obtain ⟨rfl, rfl⟩ := y
  refine ⟨Same.refl _, fun S' t' s' => ?_⟩
  unfold rgD at e
  rw [List.getElem?_map] at e
  cases q : (List.range n)[i]? with
  | none => rw [q] at e; cases e
  | some j =>
    rw [q] at e
    cases e
    obtain ⟨h1, h2⟩ := List.getElem?_eq_some_iff.mp q
    rw [List.getElem_range] at h2
    subst h2
    exact .int _
def asLL : PyData → Option (List PyData)
  | .list ds => some ds
  | _ => none
def asTT : PyData → Option (List PyData)
  | .tuple ds => some ds
  | _ => none
def iL (f : DE → Option PyData) : DE → Option (List PyData) := fun Γ => (f Γ).bind asLL
def iT (f : DE → Option PyData) : DE → Option (List PyData) := fun Γ => (f Γ).bind asTT
def iR (f : DE → Option PyData) : DE → Option (List PyData) := fun Γ => (f Γ).bind fun d => (asI d).bind fun n => if n ≤ LIM ∧ -100000 ≤ n then some (rgD 0 n.toNat) else none
section
variable {X : Cx} {tg e : Expr} {f : DE → Option PyData} {p pos : Pos}
theorem i_list (h : PD X e f) : PId X tg e (iL f) := piOf (pi_list h) fun σ H R ⟨S, Γ, ds, t, en, hf, k⟩ => by
  obtain ⟨x, h1, h2⟩ := bind_some hf
  refine tD_run t en h1 fun v H1 s1 t1 en1 r1 => ?_
  cases x with
  | list es =>
    cases h2
    cases r1 with
    | lst q1 q2 q3 => exact ⟨_, rfl, ⟨_, SqL.of (hid_some q1).2⟩, k _ H1 s1 (itd_list (W := wd X) q1 q2 q3)⟩
  | _ => cases h2
theorem i_tup (h : PD X e f) : PId X tg e (iT f) := piOf (pi_tup h) fun σ H R ⟨S, Γ, ds, t, en, hf, k⟩ => by
  obtain ⟨x, h1, h2⟩ := bind_some hf
  refine tD_run t en h1 fun v H1 s1 t1 en1 r1 => ?_
  cases x with
  | tuple es =>
    cases h2
    cases r1 with
    | tup q1 _ q2 q3 => exact ⟨_, rfl, ⟨_, sqt_fz (hid_some q1).2⟩, k _ H1 s1 (itd_tup (W := wd X) q1 q2 q3)⟩
  | _ => cases h2
theorem i_range (hm : X.mg "range" = none) (h : PD X e f) (hg : Gl X "range" := by rfl) (hs : starEach [e] X.env = [(false, eval e X.env)] := by rfl) (hs' : starEach [e] X.env = (false, eval e X.env) :: starEach [] X.env := by rfl) : PId X tg (.Call (.Name "range" p) [e] [] pos) (iR f) :=
  piOf (pi_range1 hg hm (pa_cons h pa_nil hs') hs) fun σ H R ⟨S, Γ, ds, t, en, hf, k⟩ => by
    obtain ⟨x, h1, h2⟩ := bind_some hf
    obtain ⟨n, h3, h4⟩ := bind_some h2
    split at h4
    · rename_i hn
      cases h4
      refine tD_run t en h1 fun v H1 s1 t1 en1 r1 => ?_
      cases x with
      | int j =>
        cases h3
        have hn' : n ≤ 100000 := hn.1
        have hn2 : -100000 ≤ n := hn.2
        exact ⟨n, by rw [r1.unI], by omega, by omega, k _ H1 s1 (itd_range (by show _ ≤ 100000; omega))⟩
      | _ => cases h3
    · cases h4
end

/-! ### comprehensions -/
def compL (m : PyData → Option (List PyData)) (is : List Nat) (t : DE → Option Bool) (f : DE → Option PyData) (Γ : DE) : List PyData → Option (List PyData)
  | [] => some []
  | d :: ds => (m d).bind fun es => (t (setAllD Γ is es)).bind fun b => if b = true then (f (setAllD Γ is es)).bind fun y => (compL m is t f Γ ds).bind fun ys => some (y :: ys) else compL m is t f Γ ds
def eLc (own : List Nat) (it : DE → Option (List PyData)) (m : PyData → Option (List PyData)) (is : List Nat) (t : DE → Option Bool) (f : DE → Option PyData) : DE → Option PyData :=
  fun Γ => (it Γ).bind fun ds => (compL m is t f (wipeD Γ own) ds).bind fun ys => some (.list ys)
def tTrue : DE → Option Bool := fun _ => some true
abbrev PDTs (X : Cx) (ifs : List Expr) (t : DE → Option Bool) : Prop := PTs X ifs (tDT (wd X) t)
theorem ptsOf {X : Cx} {ifs : List Expr} {t t' : TT} (h : PTs X ifs t) (k : ∀ σ H Q, t' σ H Q → t σ H Q) : PTs X ifs t' := ⟨fun pins s σ H Q I q => h.run pins s σ H Q I (k σ H Q q)⟩
theorem dts_nil {X : Cx} : PDTs X [] tTrue := ptsOf pts_nil fun σ H Q ⟨S, Γ, b, t, en, hf, k⟩ => by cases hf; exact k H (Same.refl H)
theorem dts_one {X : Cx} {c : Expr} {t : DE → Option Bool} (h : PDT X c t) : PDTs X [c] t := pts_one h
theorem List.drop_of_get {α : Type} {l : List α} {i : Nat} (h : i < l.length) : l.drop i = l[i] :: l.drop (i + 1) := List.drop_eq_getElem_cons h
/-- the address of what is made lies outside -/
theorem same_into {S : List Addr} {H1 H : Hp} {D : Addr} (hD : H1 D = none) (s : Same H1 H) : Same (hid S H1) (hid (D :: S) H) := fun a o q => by
  obtain ⟨q1, q2⟩ := hid_some q
  rw [hid_out]
  · exact s a o q2
  · intro z
    rcases List.mem_cons.mp z with z | z
    · rw [z, hD] at q2; cases q2
    · exact q1 z
/-- the reading of a comprehension -/
theorem lc_ok {W : Wd} {wi : TI} {it : DE → Option (List PyData)} {g : TG} {is own : List Nat} {m : PyData → Option (List PyData)} {t : DE → Option Bool} {f : DE → Option PyData} (hi : ∀ σ H R, tI W it σ H R → wi σ H R) (hg : TgOk W g is m) (ho : ∀ i ∈ is, i ∈ own)
    {σ : L2.St} {H : Hp} {Q : VK} (h : tD W (eLc own it m is t f) σ H Q) : tLc wi g (tDT W t) (tD W f) own σ H Q := by
  obtain ⟨S, Γ, d, tr, en, hf, k⟩ := h
  obtain ⟨ds, h1, h2⟩ := bind_some hf
  obtain ⟨ys, h3, h4⟩ := bind_some h2
  cases h4
  refine hi σ H _ ⟨S, Γ, ds, tr, en, h1, fun J H1 s1 IT D hD => ?_⟩
  have trD : ∀ H', Same H1 H' → (∃ acc, H' D = some (.lst acc)) → Trk (D :: S) H' := fun H' s' ⟨acc, q⟩ a ha => by
    rcases List.mem_cons.mp ha with z | z
    · rw [z, q]; exact fun w => nomatch w
    · exact (tr.same (s1.trans s')) a z
  refine ⟨fun i mm H' => mm = ds.length - i ∧ i ≤ ds.length ∧ Same H1 H' ∧ ∃ acc as rs, H' D = some (.lst acc) ∧ acc.length ≤ i ∧ DRs W (hid (D :: S) H') acc as ∧ compL m is t f (wipeD Γ own) (ds.drop i) = some rs ∧ as ++ rs = ys,
    ⟨_, rfl, Nat.zero_le _, same_new hD, [], [], ys, upd_same, Nat.le_refl 0, .nil, by rw [List.drop_zero]; exact h3, rfl⟩, ?_⟩
  rintro i mm H' ⟨rfl, hle, s2, acc, as, rs, hacc, hal, hr, hc, hy⟩
  have v0 : Same (hid S H1) H' := (hid_sub S H1).trans s2
  by_cases hlt : i < ds.length
  · refine .inr ⟨IT.go i H' hlt v0, fun H'' => (fun i mm H' => mm = ds.length - i ∧ i ≤ ds.length ∧ Same H1 H' ∧ ∃ acc as rs, H' D = some (.lst acc) ∧ acc.length ≤ i ∧ DRs W (hid (D :: S) H') acc as ∧ compL m is t f (wipeD Γ own) (ds.drop i) = some rs ∧ as ++ rs = ys) (i + 1) (ds.length - (i + 1)) H'',
      fun H'' q => ⟨_, by omega, q⟩, fun x H3 y => ?_⟩
    rw [List.drop_of_get hlt] at hc
    simp only [compL] at hc
    obtain ⟨es, c1, c2⟩ := bind_some hc
    obtain ⟨b, c3, c4⟩ := bind_some c2
    obtain ⟨s3, hx⟩ := IT.yld i H' x H3 _ v0 y (List.getElem?_eq_getElem hlt)
    have tr' := trD H' s2 ⟨acc, hacc⟩
    have rx := hx (D :: S) tr' (same_into hD s2)
    have s13 := s2.trans s3
    have tr3 : Trk (D :: S) H3 := tr'.same s3
    have en3 : EnvR W (hid (D :: S) H3) (wipeD Γ own) (wipe σ own) := ((en.mono (hid_same s1)).mono (same_into hD s13)).wipe own
    refine hg x _ es _ H3 (D :: S) _ rx c1 fun vs rvs => ⟨wipe_set ho, ?_⟩
    have en4 := en3.setAll (is := is) rvs
    refine tDT_run tr3 en4 c3 fun H4 s4 tr4 en5 => ?_
    have hacc4 : H4 D = some (.lst acc) := s4 _ _ (s3 _ _ hacc)
    cases b with
    | true =>
      rw [if_pos rfl] at c4 ⊢
      obtain ⟨yd, c5, c6⟩ := bind_some c4
      obtain ⟨ys', c7, c8⟩ := bind_some c6
      cases c8
      refine tD_run tr4 en5 c5 fun v H5 s5 tr5 en6 r5 => ?_
      have hacc5 : H5 D = some (.lst acc) := s5 _ _ hacc4
      have hDin : D ∈ D :: S := List.mem_cons_self
      refine ⟨acc, hacc5, lim_line' (Nat.lt_of_le_of_lt hal (Nat.lt_of_lt_of_le hlt IT.len)), rfl, hlt, fun a o q => ?_, acc ++ [v], as ++ [yd], ys', upd_same, by rw [List.length_append]; show acc.length + 1 ≤ _; omega, ?_, c7, by rw [List.append_assoc]; exact hy⟩
      · rw [upd_ne (ne_of_none q hD)]
        exact s5 _ _ (s4 _ _ (s13 _ _ q))
      · rw [hid_upd_in hDin]
        exact (hr.mono (hid_same ((s3.trans s4).trans s5))).snoc r5
    | false =>
      rw [if_neg Bool.false_ne_true] at c4 ⊢
      exact ⟨rfl, hlt, s13.trans s4, acc, as, rs, hacc4, by omega, hr.mono (hid_same (s3.trans s4)), c4, hy⟩
  · have e : i = ds.length := by omega
    subst e
    refine .inl ⟨IT.stop H' v0, ?_⟩
    rw [List.drop_length] at hc
    cases hc
    rw [List.append_nil] at hy
    subst hy
    have nS : D ∉ S := fun z => (tr.same s1) D z hD
    refine k _ H' (s1.trans s2) (.lst (by rw [hid_out nS]; exact hacc) (Nat.le_trans hal IT.len) (hr.mono (hid_less fun a z => List.mem_cons_of_mem _ z)))
section
variable {X : Cx} {elt tg iter : Expr} {ifs : List Expr} {scope : Scope} {own : List (Str × Nat)} {pos : Pos} {it : DE → Option (List PyData)} {g : TG} {is : List Nat} {m : PyData → Option (List PyData)} {t : DE → Option Bool} {f : DE → Option PyData}
abbrev Blk (X : Cx) (scope : Scope) (J : Cx → Prop) : Prop := ∀ (s : Shared) (H : Hp) (C : Addr) (cl : List (Str × Addr)) (fp : List Addr), J (X.blk s H scope (compEnvC scope cl C X.env) fp)
theorem d_lc {on : List Nat} (hc : X.calm = true) (hN : X.N.Nodup) (ok : BlkOk X.N X.env.scope scope own) (hi : PId X tg iter it) (hgg : TgOk (wd X) g is m) (ho : ∀ i ∈ is, i ∈ on) (hg : Blk X scope fun Y => PG Y tg g) (ht : Blk X scope fun Y => PDTs Y ifs t) (he : Blk X scope fun Y => PD Y elt f)
    (hs : ∀ x, foldedSetIterable iter X.env x = pure x := by intro _; rfl) (hon : own.map (·.2) = on := by rfl) : PD X (.ListComp elt [⟨tg, iter, ifs, 0⟩] scope pos) (eLc on it m is t f) := by
  subst hon
  exact peOf (pe_lc hc hN hi ok hg ht he hs) fun σ H Q h => lc_ok (fun _ _ _ q => q) hgg ho h
end

/-! ### statements -/
inductive Out where
  | nx (Γ : DE)
  | rt (d : PyData)
def tS (W : Wd) (g : DE → Option Out) : TS := fun D σ H => ∃ S Γ o, Trk S H ∧ EnvR W (hid S H) Γ σ ∧ g Γ = some o ∧ (∀ Γ', o = .nx Γ' → ∀ σ' H', Same H H' → EnvR W (hid S H') Γ' σ' → D.nx σ' H') ∧ ∀ d, o = .rt d → ∀ v H', Same H H' → DR W (hid S H') v d → D.rt v H'
abbrev PDS (X : Cx) (st : Stmt) (g : DE → Option Out) : Prop := PS X st (tS (wd X) g)
abbrev PDSs (X : Cx) (st : List Stmt) (g : DE → Option Out) : Prop := PSs X st (tS (wd X) g)
theorem psOf {X : Cx} {st : Stmt} {t t' : TS} (h : PS X st t) (k : ∀ D σ H, t' D σ H → t D σ H) : PS X st t' := ⟨fun pins s σ H D I q => h.run pins s σ H D I (k D σ H q)⟩
theorem pssOf {X : Cx} {st : List Stmt} {t t' : TS} (h : PSs X st t) (k : ∀ D σ H, t' D σ H → t D σ H) : PSs X st t' := ⟨fun pins s σ H D I q => h.run pins s σ H D I (k D σ H q)⟩
def gNx : DE → Option Out := fun Γ => some (.nx Γ)
def gSeq (g h : DE → Option Out) : DE → Option Out := fun Γ => (g Γ).bind fun o => match o with
  | .nx Γ' => h Γ'
  | .rt d => some (.rt d)
def gSet (i : Nat) (f : DE → Option PyData) : DE → Option Out := fun Γ => (f Γ).bind fun d => some (.nx (Γ.set i (some d)))
def gPut (is : List Nat) (m : PyData → Option (List PyData)) (f : DE → Option PyData) : DE → Option Out := fun Γ => (f Γ).bind fun d => (m d).bind fun ds => some (.nx (setAllD Γ is ds))
def gRet (f : DE → Option PyData) : DE → Option Out := fun Γ => (f Γ).bind fun d => some (.rt d)
def gDrop (f : DE → Option PyData) : DE → Option Out := fun Γ => (f Γ).bind fun _ => some (.nx Γ)
def gIf (t : DE → Option Bool) (g h : DE → Option Out) : DE → Option Out := fun Γ => (t Γ).bind fun b => if b = true then g Γ else h Γ
def loopL (m : PyData → Option (List PyData)) (is : List Nat) (b : DE → Option Out) : List PyData → DE → Option Out
  | [], Γ => some (.nx Γ)
  | d :: ds, Γ => (m d).bind fun es => (b (setAllD Γ is es)).bind fun o => match o with
    | .nx Γ' => loopL m is b ds Γ'
    | .rt r => some (.rt r)
def gFor (it : DE → Option (List PyData)) (m : PyData → Option (List PyData)) (is : List Nat) (b : DE → Option Out) : DE → Option Out := fun Γ => (it Γ).bind fun ds => loopL m is b ds Γ
def whileL (t : DE → Option Bool) (b : DE → Option Out) : Nat → DE → Option Out
  | 0, _ => none
  | n + 1, Γ => (t Γ).bind fun c => if c = true then (b Γ).bind fun o => match o with
    | .nx Γ' => whileL t b n Γ'
    | .rt r => some (.rt r)
    else some (.nx Γ)
section
variable {X : Cx} {st : Stmt} {rest : List Stmt} {g h : DE → Option Out} {e : Expr} {f : DE → Option PyData} {t : DE → Option Bool} {pos : Pos}
theorem s_fail : PDS X st (fun _ => none) := ⟨fun _ _ _ _ _ _ ⟨_, _, _, _, _, hf, _⟩ => nomatch hf⟩
theorem ss_fail {sts : List Stmt} : PDSs X sts (fun _ => none) := ⟨fun _ _ _ _ _ _ ⟨_, _, _, _, _, hf, _⟩ => nomatch hf⟩
theorem ss_nil : PDSs X [] gNx := pssOf pss_nil fun D σ H ⟨S, Γ, o, tr, en, hf, k, _⟩ => by cases hf; exact k Γ rfl σ H (Same.refl H) en
theorem ss_one (a : PDS X st g) : PDSs X [st] g := pss_one a
theorem ss_cons (a : PDS X st g) (b : PDSs X rest h) : PDSs X (st :: rest) (gSeq g h) := pssOf (pss_cons a b) fun D σ H ⟨S, Γ, o, tr, en, hf, k, kr⟩ => by
  obtain ⟨o1, h1, h2⟩ := bind_some hf
  refine ⟨S, Γ, o1, tr, en, h1, fun Γ' e1 σ' H' s' en' => ?_, fun d e1 v H' s' r => ?_⟩
  · subst e1
    exact ⟨S, Γ', o, tr.same s', en', h2, fun Γ2 e2 σ2 H2 s2 en2 => k Γ2 e2 σ2 H2 (s'.trans s2) en2, fun d e2 v H2 s2 r => kr d e2 v H2 (s'.trans s2) r⟩
  · subst e1
    cases h2
    exact kr d rfl v H' s' r
theorem s_set (i : Nat) {x : Str} {pos' : Pos} (he : PD X e f) (hN : X.N.Nodup) (hi : X.N[i]? = some x := by rfl) (hx : Loc X.env.scope x := by first | exact Or.inl rfl | exact Or.inr rfl) (hs : swapsWith e (some (.Name x pos')) pos.line X.env = pure false := by rfl)
    (hf : X.fn x = true ∨ X.env.scope.names.lookup x = some .local := by first | exact .inl rfl | exact .inr rfl) : PDS X (.Assign [.Name x pos'] e pos) (gSet i f) :=
  psOf (ps_set hN hi hx he hs hf) fun D σ H ⟨S, Γ, o, tr, en, hf, k, _⟩ => by
    obtain ⟨d, h1, h2⟩ := bind_some hf
    cases h2
    exact tD_run tr en h1 fun v H1 s1 t1 en1 r1 => k _ rfl _ H1 s1 (en1.set r1)
/-- y = [..] on one line, y a local -/
theorem s_setLc (i : Nat) {y : Str} {py : Pos} {elt tg iter : Expr} {ifs : List Expr} {scope : Scope} {own : List (Str × Nat)} {lpos spos : Pos} {it : DE → Option (List PyData)} {tgt : TG} {is : List Nat} {m : PyData → Option (List PyData)} {on : List Nat} (hc : X.calm = true) (hN : X.N.Nodup) (ok : BlkOk X.N X.env.scope scope own)
    (hi : PId X tg iter it) (hgg : TgOk (wd X) tgt is m) (ho : ∀ i ∈ is, i ∈ on) (hg : Blk X scope fun Y => PG Y tg tgt) (ht : Blk X scope fun Y => PDTs Y ifs t) (he : Blk X scope fun Y => PD Y elt f)
    (hsw : swapsWith (.ListComp elt [⟨tg, iter, ifs, 0⟩] scope lpos) (some (.Name y py)) spos.line X.env = pure true) (hy : X.N[i]? = some y := by rfl) (hyl : X.env.scope.names.lookup y = some .local := by rfl)
    (hs : ∀ x, foldedSetIterable iter X.env x = pure x := by intro _; rfl) (hon : own.map (·.2) = on := by rfl) : PDS X (.Assign [.Name y py] (.ListComp elt [⟨tg, iter, ifs, 0⟩] scope lpos) spos) (gSet i (eLc on it m is t f)) := by
  subst hon
  exact psOf (ps_setLc hc hN hy hyl hsw hi ok hg ht he hs) fun D σ H ⟨S, Γ, o, tr, en, hf, k, _⟩ => by
    obtain ⟨d, h1, h2⟩ := bind_some hf
    cases h2
    exact lc_ok (fun _ _ _ q => q) hgg ho (tD_run tr en h1 fun v H1 s1 t1 en1 r1 => k _ rfl _ H1 s1 (en1.set r1))
theorem s_put {tg : Expr} {tgt : TG} {is : List Nat} {m : PyData → Option (List PyData)} (he : PD X e f) (hgg : TgOk (wd X) tgt is m) (hg : PG X tg tgt) (hs : swapsWithSole [tg] e pos.line X.env = pure false := by rfl) (hw : swappedStores [tg] e X.env = pure none := by rfl)
    (h1 : (assignEach [tg] X.env).map (·.2) = [assign tg X.env] := by rfl) : PDS X (.Assign [tg] e pos) (gPut is m f) :=
  psOf (ps_asg he hg hs hw h1) fun D σ H ⟨S, Γ, o, tr, en, hf, k, _⟩ => by
    obtain ⟨d, h1, h2⟩ := bind_some hf
    obtain ⟨ds, h3, h4⟩ := bind_some h2
    cases h4
    exact tD_run tr en h1 fun v H1 s1 t1 en1 r1 => hgg v d ds σ H1 S _ r1 h3 fun vs rvs => k _ rfl _ H1 s1 (en1.setAll rvs)
theorem s_expr (he : PD X e f) (hs : swapsWith e none pos.line X.env = pure false := by rfl) : PDS X (.Expr e pos) (gDrop f) :=
  psOf (ps_expr he hs) fun D σ H ⟨S, Γ, o, tr, en, hf, k, _⟩ => by
    obtain ⟨d, h1, h2⟩ := bind_some hf
    cases h2
    exact tD_run tr en h1 fun v H1 s1 t1 en1 r1 => k _ rfl _ H1 s1 en1
theorem s_ret (he : PD X e f) : PDS X (.Return (some e) pos) (gRet f) :=
  psOf (ps_ret he) fun D σ H ⟨S, Γ, o, tr, en, hf, _, k⟩ => by
    obtain ⟨d, h1, h2⟩ := bind_some hf
    cases h2
    exact tD_run tr en h1 fun v H1 s1 t1 en1 r1 => k _ rfl _ H1 s1 r1
theorem s_if {c : Expr} {a b : List Stmt} (hc : PDT X c t) (ha : PDSs X a g) (hb : PDSs X b h) : PDS X (.If c a b pos) (gIf t g h) :=
  psOf (ps_if hc ha hb) fun D σ H ⟨S, Γ, o, tr, en, hf, k, kr⟩ => by
    obtain ⟨c, h1, h2⟩ := bind_some hf
    refine tDT_run tr en h1 fun H1 s1 t1 en1 => ?_
    cases c with
    | true =>
      rw [if_pos rfl] at h2 ⊢
      exact ⟨S, Γ, o, t1, en1, h2, fun Γ' e σ' H' s' en' => k Γ' e σ' H' (s1.trans s') en', fun d e v H' s' r => kr d e v H' (s1.trans s') r⟩
    | false =>
      rw [if_neg Bool.false_ne_true] at h2 ⊢
      exact ⟨S, Γ, o, t1, en1, h2, fun Γ' e σ' H' s' en' => k Γ' e σ' H' (s1.trans s') en', fun d e v H' s' r => kr d e v H' (s1.trans s') r⟩
theorem s_for {tg iter : Expr} {body : List Stmt} {it : DE → Option (List PyData)} {tgt : TG} {is : List Nat} {m : PyData → Option (List PyData)} (hp : PassesOwn (model X.prog X.w) X.A X.env X.xe) (hc : X.calm = true) (hi : PId X tg iter it) (hgg : TgOk (wd X) tgt is m) (hg : PG X tg tgt) (hb : PDSs X body g)
    (hs : ∀ x, foldedSetIterable iter X.env x = pure x := by intro _; rfl) : PDS X (.For tg iter body [] pos) (gFor it m is g) :=
  psOf (ps_for hp hc hi hg hb hs) fun D σ H ⟨S, Γ, o, tr, en, hf, k, kr⟩ => by
    obtain ⟨ds, h1, h2⟩ := bind_some hf
    refine ⟨S, Γ, ds, tr, en, h1, fun J H1 s1 IT => ?_⟩
    refine ⟨fun i mm σ' H' => mm = ds.length - i ∧ i ≤ ds.length ∧ Same H1 H' ∧ ∃ Γ', EnvR (wd X) (hid S H') Γ' σ' ∧ loopL m is g (ds.drop i) Γ' = some o, ⟨_, rfl, Nat.zero_le _, Same.refl _, Γ, en.mono (hid_same s1), by rw [List.drop_zero]; exact h2⟩, ?_⟩
    rintro i mm σ' H' ⟨rfl, hle, s2, Γ', en', hl⟩
    have v0 : Same (hid S H1) H' := (hid_sub S H1).trans s2
    by_cases hlt : i < ds.length
    · refine .inr ⟨IT.go i H' hlt v0, fun σ'' H'' => (fun i mm σ' H' => mm = ds.length - i ∧ i ≤ ds.length ∧ Same H1 H' ∧ ∃ Γ', EnvR (wd X) (hid S H') Γ' σ' ∧ loopL m is g (ds.drop i) Γ' = some o) (i + 1) (ds.length - (i + 1)) σ'' H'', fun σ'' H'' q => ⟨_, by omega, q⟩, fun x H3 y => ?_⟩
      rw [List.drop_of_get hlt] at hl
      simp only [loopL] at hl
      obtain ⟨es, c1, c2⟩ := bind_some hl
      obtain ⟨o1, c3, c4⟩ := bind_some c2
      obtain ⟨s3, hx⟩ := IT.yld i H' x H3 _ v0 y (List.getElem?_eq_getElem hlt)
      have tr' : Trk S H' := (tr.same s1).same s2
      have rx := hx S tr' (hid_same s2)
      refine hgg x _ es σ' H3 S _ rx c1 fun vs rvs => ?_
      refine ⟨S, _, o1, tr'.same s3, (en'.mono (hid_same s3)).setAll rvs, c3, fun Γ2 e2 σ2 H2 q2 en2 => ?_, fun d e2 v H2 q2 r2 => ?_⟩
      · subst e2
        exact ⟨rfl, hlt, (s2.trans s3).trans q2, Γ2, en2, c4⟩
      · subst e2
        cases c4
        exact kr d rfl v H2 (((s1.trans s2).trans s3).trans q2) r2
    · have e : i = ds.length := by omega
      subst e
      refine .inl ⟨IT.stop H' v0, ?_⟩
      rw [List.drop_length] at hl
      cases hl
      exact k Γ' rfl σ' H' (s1.trans s2) en'
theorem s_while (n : Nat) {c : Expr} {body : List Stmt} (hp : PassesOwn (model X.prog X.w) X.A X.env X.xe) (hc : PDT X c t) (hb : PDSs X body g) : PDS X (.While c body [] pos) (whileL t g n) :=
  psOf (ps_while hp hc hb) fun D σ H ⟨S, Γ, o, tr, en, hf, k, kr⟩ => by
    refine ⟨fun n σ' H' => Same H H' ∧ ∃ Γ', EnvR (wd X) (hid S H') Γ' σ' ∧ whileL t g n Γ' = some o, ⟨n, Same.refl _, Γ, en, hf⟩, ?_⟩
    rintro n σ' H' ⟨s1, Γ', en', hw⟩
    cases n with
    | zero => cases hw
    | succ n =>
      simp only [whileL] at hw
      obtain ⟨b, c1, c2⟩ := bind_some hw
      refine tDT_run (tr.same s1) en' c1 fun H1 s2 t1 en1 => ?_
      cases b with
      | true =>
        rw [if_pos rfl] at c2 ⊢
        obtain ⟨o1, c3, c4⟩ := bind_some c2
        refine ⟨fun σ2 H2 => Same H H2 ∧ ∃ Γ', EnvR (wd X) (hid S H2) Γ' σ2 ∧ whileL t g n Γ' = some o, fun σ2 H2 q => ⟨n, Nat.lt_succ_self n, q⟩, S, Γ', o1, t1, en1, c3, fun Γ2 e2 σ2 H2 q2 en2 => ?_, fun d e2 v H2 q2 r2 => ?_⟩
        · subst e2
          exact ⟨(s1.trans s2).trans q2, Γ2, en2, c4⟩
        · subst e2
          cases c4
          exact kr d rfl v H2 ((s1.trans s2).trans q2) r2
      | false =>
        rw [if_neg Bool.false_ne_true] at c2 ⊢
        cases c2
        exact k Γ' rfl σ' H1 (s1.trans s2) en1
end

/-! ### a def that only reckons -/
def runF (n : Nat) (N : List Str) (g : DE → Option Out) : List PyData → Option PyData := fun ds => if ds.length = n then (g (startD N ds)).bind fun o => match o with
  | .nx _ => some .none
  | .rt d => some d
  else none
theorem runF_len {n : Nat} {N : List Str} {g : DE → Option Out} {ds : List PyData} {d : PyData} (h : runF n N g ds = some d) : ds.length = n := by
  unfold runF at h
  split at h
  · assumption
  · cases h
theorem fn_pure {P : Program} {w : World} {K : PySem.W.Frag} {mg : Str → Option Value} {base : Heap} {x qual : Str} {params : Arguments} {body : List Stmt} {scope : Scope} {f : Addr} {fd : FuncData} {N ps : List Str} {k n : Nat} {g : DE → Option Out}
    (F : FunD K x qual params body scope [] [] f fd) (S : FnScope N ps scope) (hn : ps.length = n)
    (hb : ∀ (cdv : Value) (A : Around) (outer : List Env) (s : Shared) (H : Hp) (E : XK), Room k (A.deeper (envOfC qual scope s.heap.objs.size f cdv)) → PDSs (cxOf CX0 P w K mg base N qual scope f cdv A outer s H E).nox body g) :
    FnOk P w K mg base CX0 (k + 1) f fd ps (spD ⟨P, w, K⟩ n (runF n N g)) := by
  refine F.ok S (fun vs H Q E ⟨_, _, _, h, _⟩ => by rw [h, hn]) (fun cdv A outer s H vs Q E hr h => ⟨tS ⟨P, w, K⟩ g, PSs.nox (hb cdv A outer s H E hr), ?_⟩)
  obtain ⟨S', ds, d, hl, tr, r, hF, kk⟩ := h
  unfold runF at hF
  split at hF
  · obtain ⟨o, h1, h2⟩ := bind_some hF
    refine ⟨S', startD N ds, o, tr, .start r, h1, fun Γ' e σ' H' s' en' => ?_, fun d' e v H' s' r' => ?_⟩
    · subst e
      cases h2
      exact kk .non H' s' .non
    · subst e
      cases h2
      exact kk v H' s' r'
  · cases hF
end G8

/-! G5: enumerate(tuple), tuple.index, sorted(tuple). -/
namespace G8
open L2 PyProof.Rows PySem.Spec PySem

/-! ### enumerate(t), t a tuple -/
section
open Sem (wp)
theorem enumT_new {v : Value} {o : Obj} {G : Heap → Prop} (B : Begins v o G) :
    Meets (Builtin.«enumerate.__new__» ⟨[.type "enumerate", v], []⟩) (fun _ R s => G s.heap ∧
      R (.ok (.ret (.ref (s.heap.push o).objs.size))) { s with heap := (s.heap.push o).push { cls := .type "enumerate", data := .fields #[.none, .bool false, .ref s.heap.objs.size, rawInt 0, .none, .none] } }) :=
  .of_wp fun prog w A R s h => by
    obtain ⟨hp, g, d, tk, os⟩ := s; obtain ⟨h1, h⟩ := h
    have hs := sub_enumerate
    have it : ∀ {A' : Around} {E : Value → Shared → Prop} {Q : Value → Shared → Prop}, Q (.ref hp.objs.size) ⟨hp.push o, g, d, tk, os⟩ → wpAny (model prog w) A' (pyIter v) Q E ⟨hp, g, d, tk, os⟩ :=
      fun q => B.iter prog w _ _ ⟨hp, g, d, tk, os⟩ _ h1 q
    wp_walk using it
    refine wpAny_stack_any fun (_ : _) => wpAny_pure ?_
    split
    · rename_i c _ _ _ _ _
      cases (c == Value.type "enumerate") <;> (wp_walk using it; exact ⟨_, rfl, h⟩)
    · wp_walk using it; exact ⟨_, rfl, h⟩
theorem enumT_call {prog : Program} {w : World} {A : Around} {E : Value → Shared → Prop} {s : Shared} {v : Value} {o : Obj} {G : Heap → Prop} {Q : Value → Shared → Prop} (B : Begins v o G) (h1 : G s.heap)
    (h : ∀ h', IsEnum h' (s.heap.objs.size + 1) s.heap.objs.size 0 .none → h'.get? s.heap.objs.size = some o → (∀ b o, s.heap.get? b = some o → h'.get? b = some o) → Q (.ref (s.heap.objs.size + 1)) { s with heap := h' }) :
    wpAny (model prog w) A (call (.type "enumerate") [v]) Q E s := by
  refine callType_new F.called_enumerate (by decide) (F.typeCall_enumerate_1 _) (F.newCall_enumerate_1 _) (fun obj => F.args_object_init_2 obj _) F.entry_enumerate_new (enumT_new B) ⟨h1, ?_⟩
  have hz : (s.heap.push o).objs.size = s.heap.objs.size + 1 := Heap.size_push ..
  show _ ∧ _
  rw [hz]
  have he := Heap.get?_push_size (s.heap.push o) (o := { cls := .type "enumerate", data := .fields #[.none, .bool false, .ref s.heap.objs.size, rawInt 0, .none, .none] }) rfl
  rw [hz] at he
  exact ⟨⟨_, he, rfl⟩, h _ he (Heap.get?_push_of_some _ (Heap.get?_push_size _ B.free)) fun b o x => Heap.get?_push_of_some _ (Heap.get?_push_of_some _ x)⟩
end
/-- the tuple at a, each item in a new pair -/
def IteT (K : PySem.W.Frag) (a : Addr) : It :=
  ⟨fun i H => ∃ xs x, SqT K H a xs ∧ xs[i]? = some x, fun i H v H' => ∃ T x, v = .ref T ∧ H T = none ∧ ∃ o : Obj, o.dict = none ∧ H' = upd H T (.frz o (.tup [.int (i : Nat), x])) ∧ ∀ xs, SqT K H a xs → xs[i]? = some x, fun i H => ∃ xs : List V, SqT K H a xs ∧ xs.length = i⟩
theorem turn_enumT {P : Program} {w : World} {K : PySem.W.Frag} {elts : List Expr} {kk : Nat} {tpos : Pos} (a e it : Addr) :
    Turn P w K (.Tuple elts kk tpos) (IteT K a) [e, it] e (fun i h => (∃ old, IsEnum h e it ((i : Nat) : Int) old) ∧ h.IsTupleIter it a i ∧ e ≠ it) := by
  refine { mem := by simp, obj := ?_, keep := ?_, item := ?_, done := ?_, self := ?_ }
  · rintro i h ⟨⟨old, he⟩, ⟨o, ho, hc, hd⟩, _⟩ b hb
    have eb : b = e ∨ b = it := by simpa using hb
    rcases eb with rfl | rfl
    · exact ⟨_, he, fun v q => nomatch q⟩
    · exact ⟨o, ho, fun v q => by rw [hd] at q; cases q⟩
  · rintro i h h' ⟨⟨old, he⟩, hi, hne⟩ k
    exact ⟨⟨old, k e (by simp) _ he⟩, hi.at fun o q => k it (by simp) o q, hne⟩
  · intro X hP hw hK hc i pins s σ H E I hf st hg
    subst hP hw hK
    obtain ⟨⟨old, he⟩, hit, hne⟩ := st
    obtain ⟨xs, x, hq, hx⟩ := hg
    obtain ⟨its, rv, p, hz⟩ := I.tuple hq
    obtain ⟨u, hu, ru⟩ := rv.get hx
    have lt : i < its.length := (List.getElem?_eq_some_iff.mp hu).1
    have hel : e < s.heap.objs.size := Heap.lt_size he
    have hil : it < s.heap.objs.size := by obtain ⟨_, q, _⟩ := hit; exact Heap.lt_size q
    have hal : a < s.heap.objs.size := p.lt
    have hai : a ≠ it := fun z => by
      obtain ⟨_, q1, c1, _⟩ := hit
      obtain ⟨_, q2, c2, _⟩ := p
      rw [z, q1] at q2
      cases q2
      rw [c1] at c2
      injection c2 with c3
      exact absurd c3 (by decide)
    have hae : a ≠ e := fun z => by
      obtain ⟨_, q2, c2, _⟩ := p
      rw [z, show s.heap.get? e = _ from he] at q2
      cases q2
      injection c2 with c3
      exact absurd c3 (by decide)
    have D := Draws.tuple (prog := X.prog) (w := X.w) (A := X.A.in1) (show X.A.in1.handled = none from I.ok.hd hc) it a hai its.toArray
    refine wpAny_pyNext_enum_itemC (c := (i : Int)) D he ⟨hit, p⟩ (by simpa using lt) hne (by simp [hne, Ne.symm hae]) fun y h' tk hy ho hst hT hsz hk => ?_
    have ey : y = u := by
      have hy' : its[i]? = some y := by simpa using hy
      rw [hu] at hy'
      exact (Option.some.inj hy').symm
    subst ey
    refine ⟨_, rfl, wpAny_letOwnedTupleGo_enum (s := { s with heap := h', toks := tk + 1 }) ho fun h'' he' sb => ?_⟩
    have hT2 := (sb.2 _ (Nat.ne_of_gt hel)).trans hT
    generalize hob : ({ cls := .type "tuple", data := .seq #[.int i tk, y] } : Obj) = ob at hT2
    have new : ObjOk X.prog X.w (upd H s.heap.objs.size (.frz ob (.tup [.int (i : Nat), x]))) h'' s.heap.objs.size (.frz ob (.tup [.int (i : Nat), x])) :=
      ⟨hT2, by show 2 ≤ sizeLine; decide, [.int i tk, y], .cons ⟨_, rfl⟩ (.cons ru .nil), ob, hT2, by rw [← hob], 0, by rw [← hob]⟩
    have I1 := I.turnedNew (t' := tk + 1) (h' := h'') (ch := [e, it]) (fun b ob hb q => (sb.2 b (fun z => hb (by simp [z]))).trans (hk b ob (fun z => hb (by simp [z])) (fun z => hb (by simp [z])) q)) hf (Nat.le_refl _) new
    refine ⟨.ref s.heap.objs.size, _, I1, rfl, ⟨_, x, rfl, I.hok.fresh (Nat.le_refl _), ob, by rw [← hob], rfl, fun ys hy => by rw [I.tuple_inj hy hq]; exact hx⟩, ⟨⟨y, ?_⟩, hst.1.at fun o q => (sb.2 it (Ne.symm hne)).trans q, hne⟩, fun b hb => ?_⟩
    · rw [show ((i + 1 : Nat) : Int) = (i : Int) + 1 by omega]
      exact he'
    · have eb : b = e ∨ b = it := by simpa using hb
      have hlt : b < s.heap.objs.size := by
        rcases eb with rfl | rfl
        · exact hel
        · exact hil
      rw [upd_ne (Nat.ne_of_lt hlt)]
      exact (hf b hb).1
  · intro X hP hw hK hc i pins s σ H E I hf st hg
    subst hP hw hK
    obtain ⟨⟨old, he⟩, hit, hne⟩ := st
    obtain ⟨xs, hq, hx⟩ := hg
    obtain ⟨its, rv, p, hz⟩ := I.tuple hq
    obtain ⟨f0, f1, f2, f3, f4, f5⟩ := hf it (by simp)
    have hl := rv.length
    have hai : a ≠ it := fun z => by
      obtain ⟨_, q1, c1, _⟩ := hit
      obtain ⟨_, q2, c2, _⟩ := p
      rw [z, q1] at q2
      cases q2
      rw [c1] at c2
      injection c2 with c3
      exact absurd c3 (by decide)
    have D := Draws.tuple (prog := X.prog) (w := X.w) (A := X.A.in1) (show X.A.in1.handled = none from I.ok.hd hc) it a hai its.toArray
    have hn : its.toArray.size = i := by rw [List.size_toArray, ← hl]; exact hx
    exact wpAny_pyNext_enum_endD D he (by rw [hn]; exact ⟨hit, p⟩) fun h' eb => ⟨rfl, I.turned (t' := s.toks) (fun b o hb q => eb b o hb q) f0 f1 f3 f4 f5⟩
  · rintro A i s Q E ⟨⟨_, he⟩, _⟩ h
    exact wpAny_pyIter_enum he h
theorem itd_enumT {W : Wd} {V0 : Hp} {a : Addr} {o : Obj} {xs : List V} {ds : List PyData} (h : V0 a = some (.frz o (.tup xs))) (hz : xs.length ≤ LIM) (q : DRs W V0 xs ds) : ItD W V0 (IteT W.K a) (ds.zipIdx.map fun p => PyData.tuple [.int (p.2 : Nat), p.1]) := by
  have hl : (ds.zipIdx.map fun p => PyData.tuple [.int (p.2 : Nat), p.1]).length = xs.length := by rw [List.length_map, List.length_zipIdx, q.length]
  refine ⟨by rw [hl]; exact hz, fun i H hi s => ?_, fun H s => ⟨xs, sqt_fz (s _ _ h), hl.symm⟩, fun i H x H' d s y e => ?_⟩
  · have hi' : i < ds.length := by rw [hl, q.length] at hi; exact hi
    obtain ⟨v, hv, _⟩ := q.get (List.getElem?_eq_getElem hi')
    exact ⟨xs, v, sqt_fz (s _ _ h), hv⟩
  · obtain ⟨T, v, rfl, hT, o', ho', rfl, hv⟩ := y
    have hx := hv xs (sqt_fz (s _ _ h))
    obtain ⟨dd, hd, r⟩ := q.got hx
    have e2 : d = .tuple [.int (i : Nat), dd] := by
      rw [List.getElem?_map, List.getElem?_zipIdx, hd] at e
      have e3 := Option.some.inj e
      rw [← e3]
      simp
    subst e2
    exact ⟨same_new hT, fun S' t' s' => .newT t' hT ho' (by show 2 ≤ 100000; decide) (.cons (.int _) (.one (r.mono s')))⟩
def iE (f : DE → Option PyData) : DE → Option (List PyData) := fun Γ => (f Γ).bind fun d => (asTT d).bind fun ds => some (ds.zipIdx.map fun p => PyData.tuple [.int (p.2 : Nat), p.1])
theorem i_enum {X : Cx} {e : Expr} {f : DE → Option PyData} {p pos tpos : Pos} {elts : List Expr} {kk : Nat} (hm : X.mg "enumerate" = none) (h : PD X e f) (hg : Gl X "enumerate" := by rfl) (hs : starEach [e] X.env = [(false, eval e X.env)] := by rfl) :
    PId X (.Tuple elts kk tpos) (.Call (.Name "enumerate" p) [e] [] pos) (iE f) := by
  refine ⟨fun pins s σ H R I h0 => ?_⟩
  have ha : PDs X [e] (aC f aN) := da_cons h da_nil hs
  refine Call_ (ld_blt I hg hm boot_enumerate (PyProof.Rows.callWith_type1 (thn ((paOf ha fun σ H Q q => q).run pos pins s σ H (fun vs H1 => ∃ a o xs S Γ es, vs = [V.ref a] ∧ H1 a = some (.frz o (.tup xs)) ∧ iE f Γ = some es ∧ (∀ J H', Same H1 H' → ItD (wd X) (hid S H') J es → R J H') ∧ hid S H1 a = some (.frz o (.tup xs)) ∧ xs.length ≤ LIM ∧ ∃ ds, DRs (wd X) (hid S H1) xs ds ∧ es = ds.zipIdx.map fun p => PyData.tuple [.int (p.2 : Nat), p.1]) I ?_) fun us s1 ⟨vs, H1, I1, r1, q1⟩ => ?_) hs rfl))
  · obtain ⟨S, Γ, es, t, en, hf, k⟩ := h0
    obtain ⟨d, h1, h2⟩ := bind_some hf
    obtain ⟨ds, h3, h4⟩ := bind_some h2
    have hf' : aC f aN Γ = some [d] := by unfold aC aN; rw [h1]; rfl
    refine tDs_run t en hf' fun vs H1 s1 t1 en1 r1 => ?_
    obtain ⟨v, rfl, r⟩ := vs1 r1
    cases d with
    | tuple ds' =>
      cases h3
      cases r with
      | tup g _ z q => exact ⟨_, _, _, S, Γ, es, rfl, (hid_some g).2, hf, fun J H' s' => k J H' (s1.trans s'), g, z, _, q, (Option.some.inj h4).symm⟩
    | _ => cases h3
  · obtain ⟨a, o, xs, S, Γ, es, rfl, hxs, hf, k, g, z, ds, q, rfl⟩ := q1
    obtain ⟨u1, rfl, r⟩ := vals1 r1
    cases r
    obtain ⟨its, rv, p', hz⟩ := I1.tuple (sqt_fz hxs)
    refine enumT_call (begins_tuple a its.toArray) p' fun h' he hit hk => wpAny_pyIter_enum he ?_
    have I2 : Inv X pins σ H1 { s1 with heap := h' } := I1.kept (t' := s1.toks) hk
    refine ⟨s1.heap.objs.size + 1, [s1.heap.objs.size + 1, s1.heap.objs.size], _, _, H1, rfl, I2, turn_enumT a (s1.heap.objs.size + 1) s1.heap.objs.size, ⟨⟨.none, he⟩, ⟨_, hit, rfl, rfl⟩, Nat.succ_ne_self _⟩, fun b hb => ?_, k _ H1 (Same.refl H1) (itd_enumT (W := wd X) g z q)⟩
    have hle : s1.heap.objs.size ≤ b := by
      have e' : b = s1.heap.objs.size + 1 ∨ b = s1.heap.objs.size := by simpa using hb
      rcases e' with rfl | rfl
      · exact Nat.le_add_right _ _
      · exact Nat.le_refl _
    exact I1.fpOk hle (I1.hok.fresh hle)

/-! ### t.index(x), a tuple of whole numbers -/
def findI (i : Int) : List Int → Option Nat
  | [] => none
  | j :: js => if j = i then some 0 else (findI i js).bind fun n => some (n + 1)
theorem findI_spec : ∀ {i : Int} {js : List Int} {n : Nat}, findI i js = some n → js[n]? = some i ∧ ∀ m, m < n → js[m]? ≠ some i
  | i, [], n, h => by cases h
  | i, j :: js, n, h => by
    unfold findI at h
    split at h
    · rename_i e
      cases h
      exact ⟨by rw [e]; rfl, fun m hm => absurd hm (Nat.not_lt_zero m)⟩
    · rename_i e
      obtain ⟨k, h1, h2⟩ := bind_some h
      cases h2
      obtain ⟨h3, h4⟩ := findI_spec h1
      refine ⟨by simpa using h3, fun m hm q => ?_⟩
      cases m with
      | zero => exact e (Option.some.inj q)
      | succ m => exact h4 m (by omega) (by simpa using q)
def indexD : PyData → List PyData → Option PyData
  | .tuple ds, [.int i] => (intsD ds).bind fun js => (findI i js).bind fun n => some (.int (n : Nat))
  | _, _ => none
section
variable {X : Cx}
theorem mt_tidx : MtR X "tuple.index" (fun x xs H Q => ∃ (p : Addr) (js : List Int) (i : Int) (n : Nat), x = .ref p ∧ xs = [.int i] ∧ SqT X.K H p (js.map V.int) ∧ findI i js = some n ∧ Q (.int (n : Nat)) H) := by
  intro pins s σ H x xs v us Q I rx rs h
  obtain ⟨p, js, i, n, rfl, rfl, hq, hn, q⟩ := h
  cases rx
  obtain ⟨u, rfl, t, rfl⟩ := vals1 rs
  obtain ⟨its, r, ⟨⟨cls, dd, dt, sl⟩, ho, hc, ep, hd⟩, hz⟩ := I.tuple hq
  simp only at hc hd
  subst hc hd
  obtain ⟨h1, h2⟩ := findI_spec hn
  have hl : its.length = js.length := by rw [← r.length, List.length_map]
  have at' : ∀ (m : Nat) (hm : m < its.length), ∃ j t', js[m]? = some j ∧ its[m] = Value.int j t' := fun m hm => by
    have hm' : m < js.length := by rw [← hl]; exact hm
    obtain ⟨w, hw, t', hw'⟩ := r.get (i := m) (x := .int js[m]) (by simp [hm'])
    exact ⟨js[m], t', List.getElem?_eq_getElem hm', by rw [← hw', ← (List.getElem?_eq_some_iff.mp hw).2]⟩
  have hj : n < its.toArray.size := by rw [List.size_toArray, hl]; exact (List.getElem?_eq_some_iff.mp h1).1
  refine call_meets PySem.F.slot_tuple_index ⟨_, ho, rfl⟩ PySem.F.entry_tuple_index (PySem.F.args_tuple_index_2 _ _) (TI.tuple_indexAt p its.toArray ep dd sl (.int i t) (eqU (.int i)) n hj ?_ ?_)
    ⟨ho, fun w hw => mem_eqAt (x := .int i) ⟨t, rfl⟩ rfl r (flat_ints js) w (by simpa using hw), ⟨.int (n : Nat), H, I.tok _, ⟨_, rfl⟩, q⟩⟩
  · obtain ⟨j, t', g1, g2⟩ := at' n (by simpa using hj)
    rw [h1] at g1
    cases g1
    show eqU (.int i) its[n] = true
    rw [g2]
    exact beq_self_eq_true i
  · intro m hm hmj
    obtain ⟨j, t', g1, g2⟩ := at' m (by simpa using hm)
    show eqU (.int i) its[m] = false
    rw [g2]
    show (j == i) = false
    exact beq_eq_false_iff_ne.mpr fun e => h2 m hmj (by rw [g1, e])
/-- a method of a tuple that stands with its object -/
def tBMF (r : V → List V → Hp → VK → Prop) (to : TE) (t : TA) : TE := fun σ H Q => to σ H fun x H1 => (∃ p o xs, x = .ref p ∧ H1 p = some (.frz o (.tup xs)) ∧ o.dict = none) ∧ t σ H1 fun xs H2 => r x xs H2 Q
theorem pe_bmF {o e : Expr} {to : TE} {t : TA} {name : Str} {apos cpos : Pos} {id : String} {r : V → List V → Hp → VK → Prop} (pa : PlainAttrs "tuple") (slot : Slot "tuple" name id) (hty : typeOf (.builtin id) = pure (.type "method_descriptor")) (hm : MtR X id r) (ho : PE X o to) (ha : PA X [e] t)
    (hbase : attributeBase o name X.env (eval o X.env) = eval o X.env) (hline : (apos.endLine == cpos.line) = true) (hs : starEach [e] X.env = (false, eval e X.env) :: starEach [] X.env)
    (hfew : ((backTo cpos (starEach [e] X.env)).all (fun x => !x.1) && (backToKw cpos (keywordEach [] X.env)).all (fun x => x.1.isSome) && decide ([e].length + ([] : List Keyword).length + (if ([] : List Keyword).isEmpty then 0 else 1) < 30)) = true) :
    PE X (.Call (.Attribute o name apos) [e] [] cpos) (tBMF r to t) := by
  refine ⟨fun pins s σ H Q I h => wpAny_Call_method_late hbase hfew hline rfl (thn (ho.run pins s σ H _ I h) fun v s1 ⟨x, H1, I1, r1, ⟨p, ob, xs, ex, hp, hd⟩, q1⟩ => ?_)⟩
  subst ex
  cases r1
  obtain ⟨g1, _, its, _, o', g2, g3, _⟩ := I1.hok p _ hp
  refine ⟨"tuple", id, pa, slot, hty, ⟨o', g2, g3⟩, fun a ea => ?_, ?_⟩
  · cases ea
    exact ⟨ob, g1, hd⟩
  · have hA := ha.run cpos pins s1 σ H1 _ I1 q1
    rw [hs] at hA ⊢
    exact Calls.callWith_builtin rfl (Calls.evalArgs_plain (thn hA fun us s2 ⟨vs, H2, I2, r2, q2⟩ => hm pins s2 σ H2 (V.ref p) vs _ us Q I2 rfl r2 q2))
def eM (g : PyData → List PyData → Option PyData) (fo : DE → Option PyData) (fs : DE → Option (List PyData)) : DE → Option PyData := fun Γ => (fo Γ).bind fun o => (fs Γ).bind fun ds => g o ds
theorem d_tidx {o e : Expr} {fo f : DE → Option PyData} {apos cpos : Pos} (ho : PD X o fo) (ha : PD X e f) (hbase : attributeBase o "index" X.env (eval o X.env) = eval o X.env := by rfl)
    (hfew : ((backTo cpos (starEach (e :: []) X.env)).all (fun x => !x.1) && (backToKw cpos (keywordEach [] X.env)).all (fun x => x.1.isSome) && decide ((e :: []).length + ([] : List Keyword).length + (if ([] : List Keyword).isEmpty then 0 else 1) < 30)) = true := by rfl)
    (hline : (apos.endLine == cpos.line) = true := by rfl) (hs : starEach (e :: []) X.env = (false, eval e X.env) :: starEach [] X.env := by rfl) :
    PD X (.Call (.Attribute o "index" apos) [e] [] cpos) (eM indexD fo (aC f aN)) :=
  peOf (pe_bmF PySem.F.plainAttrs_tuple PySem.F.slot_tuple_index PySem.F.type_tuple_index mt_tidx ho (da_cons ha da_nil hs) hbase hline hs hfew) fun σ H Q ⟨S, Γ, d, t, en, hf, k⟩ => by
    obtain ⟨od, h1, h2⟩ := bind_some hf
    obtain ⟨ds, h3, h4⟩ := bind_some h2
    refine tD_run t en h1 fun v H1 s1 t1 en1 r1 => ?_
    cases od with
    | tuple es =>
      obtain ⟨p, o, xs, rfl, hp, hd, _, _⟩ := id r1.unT
      refine ⟨⟨p, o, xs, rfl, hp, hd⟩, tDs_run t1 en1 h3 fun vs H2 s2 t2 en2 r2 => ?_⟩
      match ds, h4 with
      | [.int i], h4 =>
        obtain ⟨js, g1, g2⟩ := bind_some (x := intsD es) (by simpa only [indexD] using h4)
        obtain ⟨n, g3, g4⟩ := bind_some g2
        cases g4
        have r3 := r1.mono (hid_same s2)
        rw [intsD_eq g1] at r3
        obtain ⟨p', o', xs', e', hp', _, _, q⟩ := r3.unT
        cases e'
        obtain ⟨w, rfl, rw'⟩ := vs1 r2
        rw [rw'.unI]
        exact ⟨p, js, i, n, rfl, rfl, sqt_fz (by rw [← q.inv]; exact hp'), g3, k _ H2 (s1.trans s2) (.int _)⟩
    | _ => cases h4
/-! ### sorted(t), t a tuple (or a list) of fewer than 64 whole numbers -/
def insI (i : Int) : List Int → List Int
  | [] => [i]
  | j :: js => if i ≤ j then i :: j :: js else j :: insI i js
def srtI : List Int → List Int
  | [] => []
  | i :: is => insI i (srtI is)
theorem insI_perm (i : Int) : ∀ js : List Int, (insI i js).Perm (i :: js)
  | [] => .refl _
  | j :: js => by
    unfold insI
    split
    · exact .refl _
    · exact (List.Perm.cons j (insI_perm i js)).trans (List.Perm.swap i j js)
theorem srtI_perm : ∀ is : List Int, (srtI is).Perm is
  | [] => .refl _
  | i :: is => (insI_perm i (srtI is)).trans (List.Perm.cons i (srtI_perm is))
theorem insI_mem {i x : Int} {js : List Int} (h : x ∈ insI i js) : x = i ∨ x ∈ js := by
  have := (insI_perm i js).mem_iff.mp h
  exact List.mem_cons.mp this
theorem insI_sorted (i : Int) : ∀ {js : List Int}, js.Pairwise (· ≤ ·) → (insI i js).Pairwise (· ≤ ·)
  | [], _ => List.pairwise_singleton _ _
  | j :: js, h => by
    obtain ⟨h1, h2⟩ := List.pairwise_cons.mp h
    unfold insI
    split
    · rename_i hij
      refine List.pairwise_cons.mpr ⟨fun x hx => ?_, h⟩
      rcases List.mem_cons.mp hx with rfl | hx
      · exact hij
      · exact Int.le_trans hij (h1 x hx)
    · rename_i hij
      refine List.pairwise_cons.mpr ⟨fun x hx => ?_, insI_sorted i h2⟩
      rcases insI_mem hx with rfl | hx
      · omega
      · exact h1 x hx
theorem srtI_sorted : ∀ is : List Int, (srtI is).Pairwise (· ≤ ·)
  | [] => .nil
  | i :: is => insI_sorted i (srtI_sorted is)
theorem sorted_one : ∀ {as bs : List Int}, as.Perm bs → as.Pairwise (· ≤ ·) → bs.Pairwise (· ≤ ·) → as = bs
  | [], bs, p, _, _ => by rw [List.nil_perm.mp p]
  | a :: as, [], p, _, _ => by
    have := p.length_eq
    simp at this
  | a :: as, b :: bs, p, h1, h2 => by
    obtain ⟨a1, a2⟩ := List.pairwise_cons.mp h1
    obtain ⟨b1, b2⟩ := List.pairwise_cons.mp h2
    have e : a = b := by
      have q1 : a ∈ b :: bs := p.mem_iff.mp List.mem_cons_self
      have q2 : b ∈ a :: as := p.mem_iff.mpr List.mem_cons_self
      rcases List.mem_cons.mp q1 with e | q1
      · exact e
      · rcases List.mem_cons.mp q2 with e | q2
        · exact e.symm
        · exact Int.le_antisymm (a1 b q2) (b1 a q1)
    subst e
    rw [sorted_one (List.Perm.cons_inv p) a2 b2]
def sortedD : List PyData → Option PyData
  | [.tuple ds] => (intsD ds).bind fun is => gd (decide (is.length < 64)) (.list ((srtI is).map PyData.int))
  | _ => none
theorem sortedT {prog : Program} {w : World} {A : Around} {E : Value → Shared → Prop} {s : Shared} {l : Addr} {vs : List Value} {ns : List Int} {Q : Value → Shared → Prop} (hl : IsTup s.heap l vs.toArray) (hI : IntsAre vs ns) (h64 : vs.length < 64)
    (h : ∀ (out : Array Value) (ns' : List Int) (h1 h' : Heap), IntsAre out.toList ns' → ns'.Perm ns → ns'.Pairwise (· ≤ ·) → (∀ b o, s.heap.get? b = some o → h1.get? b = some o) → (∀ b o, h1.get? b = some o → h'.get? b = some o) → (∃ ep, h'.get? h1.objs.size = some (seqObj "list" out ep)) →
      Q (.ref h1.objs.size) { s with heap := h' }) :
    wpAny (model prog w) A (call (.builtin "sorted") [.ref l]) Q E s := by
  obtain ⟨o, ho, hc, n, hd⟩ := hl
  refine Calls.call_function_entry kind_sorted plain_sorted entry_sorted (args_sorted1 _) ?_
  unfold Builtin.«sorted»
  refine wpAny_bind (m := checkCount "sorted" 1 1 _) (wpAny_pure (wpAny_bind (wpAny_collect_seq l (.inr rfl) ho hc hd (fun h1 k1 => ?_) (by rw [List.size_toArray]; exact small64 h64))))
  refine wpAny_bind (wpAny_newList ?_)
  have hoL : (h1.push (seqObj "list" vs.toArray 0)).get? h1.objs.size = some (seqObj "list" vs.toArray 0) := Heap.get?_push_size _ rfl
  refine wpAny_bind (wpAny_holding (wpAny_call_entry slot_list_sort ⟨_, hoL, rfl⟩ entry_list_sort (list_sort_tree hoL hI h64 fun out ns' a1 a2 a3 => ⟨_, rfl, ?_⟩) (args_list_sort _)))
  refine wpAny_pure ⟨_, rfl, h out ns' h1 _ a1 a2 a3 k1 (fun b u e => ?_) (sortedHeap_at hoL)⟩
  have hlt : b < h1.objs.size := Heap.lt_size e
  rw [sortedHeap_old (Nat.ne_of_lt hlt) (by rw [size_push']; exact Nat.lt_succ_of_lt hlt)]
  exact Heap.get?_push_of_some _ e
theorem c_sorted : CallD X (.builtin "sorted") sortedD := by
  intro pins s σ H xs us Q I r ⟨S, ds, d, t, r1, hg, k⟩
  match ds, hg with
  | [.tuple es], hg =>
    obtain ⟨is, h1, h2⟩ := bind_some (x := intsD es) (by simpa only [sortedD] using hg)
    obtain ⟨h3, rfl⟩ := gd_some h2
    have h3 := of_decide_eq_true h3
    obtain ⟨v, rfl, q⟩ := vs1 r1
    rw [intsD_eq h1] at q
    obtain ⟨a, o, ys, rfl, g, n, z, q⟩ := q.unT
    rw [q.inv] at g
    obtain ⟨u, rfl, ru⟩ := vals1 r
    cases ru
    obtain ⟨its, rv, pl, _⟩ := I.tuple (sqt_fz g)
    have hi : IntsAre its is := rv.ints
    refine sortedT pl hi (by rw [hi.length]; exact h3) fun out ns' h1 h' a1 a2 a3 k1 k2 ⟨ep, he⟩ => ?_
    have I1 : Inv X pins σ H { s with heap := h1 } := I.kept (t' := s.toks) k1
    have e : ns' = srtI is := sorted_one (a2.trans (srtI_perm is).symm) a3 (srtI_sorted is)
    subst e
    have hz : ((srtI is).map V.int).length ≤ LIM := by
      rw [List.length_map, (srtI_perm is).length_eq]
      show _ ≤ 100000
      omega
    have hf := I1.hok.fresh (Nat.le_refl _)
    exact ⟨.ref h1.objs.size, upd H h1.objs.size (.lst ((srtI is).map V.int)), I1.laid (t' := s.toks) k2 (Nat.le_refl _) ⟨lim_line hz, out.toList, ep, vals_of_ints a1, he⟩, rfl, k _ _ (same_new hf) (.newL t hf hz (.ints _))⟩
end
end G8

/-! G6: walks over a list or a tuple; -n; t[::-1], t * n, a written dict asked at once; comprehensions with two clauses. -/
namespace G8
open L2 PyProof.Rows PySem.Spec PySem
def iS (f : DE → Option PyData) : DE → Option (List PyData) := fun Γ => (f Γ).bind asL
def negD : PyData → Option PyData
  | .int i => some (.int (-i))
  | _ => none
def revD : PyData → Option PyData
  | .tuple ds => some (.tuple ds.reverse)
  | _ => none
def swapD : PyData → Option PyData
  | .str x => if x = "not" then some (.str "always") else if x = "always" then some (.str "not") else none
  | _ => none
def repD : PyData → PyData → Option PyData
  | .tuple ds, .int k => gd (decide (1 ≤ k ∧ k ≤ 100 ∧ ds.length ≤ 100 ∧ 0 < ds.length)) (.tuple (List.replicate k.toNat ds).flatten)
  | _, _ => none
theorem DRs.rev {W : Wd} {H : Hp} : ∀ {vs : List V} {ds : List PyData}, DRs W H vs ds → DRs W H vs.reverse ds.reverse
  | _, _, .nil => .nil
  | _, _, .cons r t => by
    rw [List.reverse_cons, List.reverse_cons]
    exact (DRs.rev t).snoc r
theorem DRs.rep {W : Wd} {H : Hp} {vs : List V} {ds : List PyData} (h : DRs W H vs ds) : ∀ k : Nat, DRs W H (List.replicate k vs).flatten (List.replicate k ds).flatten
  | 0 => .nil
  | k + 1 => by
    rw [List.replicate_succ, List.replicate_succ, List.flatten_cons, List.flatten_cons]
    exact h.append (DRs.rep h k)
/-! ### t[::-1] -/
section
variable {prog : Program} {w : World} {A : Around} {E : Value → Shared → Prop} {s : Shared}
theorem rev_places (n : Nat) : Builtin.Slice.sliceAdjust none none (-1) (n : Int) = ((n : Int) - 1, -1) ∧ Builtin.Slice.slicePlaces ((n : Int) - 1) (-1) (-1) = n := by
  refine ⟨rfl, ?_⟩
  show (if (-1 : Int) > 0 then _ else (if (n : Int) - 1 > -1 then ((n : Int) - 1 - -1 - 1) / (- -1) + 1 else 0)).toNat = n
  rw [if_neg (by decide)]
  split
  · rw [show (- -1 : Int) = 1 by decide, Int.ediv_one]
    omega
  · omega
theorem rev_pick {α : Type} (xs : List α) : ((List.range xs.length).filterMap fun (k : Nat) => xs.toArray[((xs.length : Int) - 1 + (k : Int) * (-1)).toNat]?) = xs.reverse := by
  have h1 : ∀ l : List Nat, (∀ k ∈ l, k < xs.length) → (l.filterMap fun (k : Nat) => xs.toArray[((xs.length : Int) - 1 + (k : Int) * (-1)).toNat]?) = l.filterMap fun k => xs.reverse[k]? := fun l hl => by
    induction l with
    | nil => rfl
    | cons k l ih =>
      have hk := hl k List.mem_cons_self
      have e : xs.toArray[((xs.length : Int) - 1 + (k : Int) * (-1)).toNat]? = xs.reverse[k]? := by
        rw [List.getElem?_reverse hk, show ((xs.length : Int) - 1 + (k : Int) * (-1)).toNat = xs.length - 1 - k by omega]
        simp
      rw [List.filterMap_cons, List.filterMap_cons, e, ih fun k' h' => hl k' (List.mem_cons_of_mem _ h')]
  rw [h1 _ fun k hk => List.mem_range.mp hk]
  have := PySem.W.krv_all xs.reverse.toArray
  simpa using this
theorem getItem_tuple_rev {t sl : Addr} {its : List Value} {vk : Value} {Q : Value → Shared → Prop} (ht : IsTup s.heap t its.toArray) (hs : s.heap.IsSliceOf sl .none .none vk) (pk : IsPart vk (some (-1)))
    (h : Q (.ref s.heap.objs.size) { s with heap := s.heap.push { cls := .type "tuple", data := .seq its.reverse.toArray } }) (hsz : its.length ≤ sizeLine) : wpAny (model prog w) A (getItem (.ref t) (.ref sl)) Q E s := by
  obtain ⟨os, hos, hcs, hds⟩ := id hs
  have hTs : s.TypeIs (.ref sl) "slice" := ⟨os, hos, hcs⟩
  unfold getItem
  try with_reducible refine wpAny_holding ?_
  first | (refine wpAny_bind (wpAny_pure ?_)) | skip
  refine wpAny_bind (wpAny_sequenceKey ht.typeIs (by decide) (wpAny_bind (wpAny_callSpecial?_slot (name := Str.ofString "__getitem__") ht.typeIs PyProof.Rows.slot_tuple_getitem (wpAny_call_entry PyProof.Rows.slot_tuple_getitem ht.typeIs entry_tuple_getitem ?_ (args_tuple_getitem _ _)))))
  show wpAny _ _ (Builtin.Tuple.tupleItemsOf (.ref t) >>= _) _ _ s
  refine wpAny_bind (tupleItemsOf_ ht (wpAny_bind (wpAny_typeOf hTs ?_)))
  rw [if_pos (by decide)]
  have app : wpAny (model prog w) A.in1 (Builtin.Slice.sliceApplied (.ref sl) (pure ((its.toArray.size : Nat) : Int))) (fun r s' => r = ((its.length : Int) - 1, -1, its.length) ∧ s' = s) E s := by
    unfold Builtin.Slice.sliceApplied Builtin.Slice.sliceFields
    refine wpAny_bind (wpAny_bind (wpAny_field hos hds (x := .none) rfl (wpAny_bind (wpAny_field hos hds (x := .none) rfl (wpAny_bind (wpAny_field hos hds (x := vk) rfl (wpAny_pure ?_)))))))
    refine wpAny_bind (HT.slicePart_ pk ?_)
    show wpAny _ _ (if ((-1 : Int) == 0) = true then _ else _) _ _ s
    rw [if_neg (by decide)]
    refine wpAny_bind (slicePart_none (wpAny_bind (slicePart_none (wpAny_bind (wpAny_pure ?_)))))
    show wpAny _ _ (match Builtin.Slice.sliceAdjust none none (-1) ((its.toArray.size : Nat) : Int) with | (lo, hi) => pure (lo, (-1 : Int), Builtin.Slice.slicePlaces lo hi (-1))) _ _ s
    rw [List.size_toArray, (rev_places its.length).1]
    show wpAny _ _ (pure ((its.length : Int) - 1, (-1 : Int), Builtin.Slice.slicePlaces ((its.length : Int) - 1) (-1) (-1))) _ _ s
    rw [(rev_places its.length).2]
    exact wpAny_pure ⟨rfl, rfl⟩
  refine wpAny_bind (thn app fun r s' ⟨e1, e2⟩ => ?_)
  subst e1 e2
  show wpAny _ _ (if ((its.length : Int) - 1 == 0 && (-1 : Int) == 1 && its.length == its.toArray.size) = true then _ else _) _ _ s'
  rw [if_neg (by rw [show ((-1 : Int) == 1) = false from rfl, Bool.and_false, Bool.false_and]; exact Bool.false_ne_true)]
  have e : ((List.range its.length).filterMap fun (k : Nat) => its.toArray[((its.length : Int) - 1 + (k : Int) * (-1)).toNat]?) = its.reverse := rev_pick its
  rw [e]
  have hz : sizeOk (.seq its.reverse.toArray) := by
    show its.reverse.toArray.size ≤ sizeLine
    rw [List.size_toArray, List.length_reverse]
    exact hsz
  first
    | exact wpAny_bind (m := Builtin.Tuple.tupleExact _) (wpAny_newObj_type (wpAny_pure ⟨_, rfl, wpAny_pure h⟩) hz)
    | exact wpAny_bind (m := Builtin.Tuple.tupleExact _) (wpAny_newObj_type (wpAny_bind (wpAny_pure (wpAny_pure ⟨_, rfl, wpAny_pure h⟩))) hz)
    | exact wpAny_bind (wpAny_bind (m := Builtin.Tuple.tupleExact _) (wpAny_newObj_type (wpAny_pure (wpAny_pure ⟨_, rfl, wpAny_pure h⟩)) hz))
    | exact wpAny_bind (wpAny_bind (m := Builtin.Tuple.tupleExact _) (wpAny_newObj_type (wpAny_pure ⟨_, rfl, wpAny_pure h⟩) hz))
end
section
variable {X : Cx} {tg e a b : Expr} {f fa fb : DE → Option PyData} {p pos : Pos}
theorem i_seq (h : PD X e f) : PId X tg e (iS f) := ⟨fun pins s σ H R I ⟨S, Γ, ds, t, en, hf, k⟩ => by
  obtain ⟨x, h1, h2⟩ := bind_some hf
  cases x with
  | list es => exact (i_list h).run pins s σ H R I ⟨S, Γ, ds, t, en, by unfold iL; rw [h1]; exact h2, k⟩
  | tuple es => exact (i_tup h).run pins s σ H R I ⟨S, Γ, ds, t, en, by unfold iT; rw [h1]; exact h2, k⟩
  | _ => cases h2⟩
theorem d_neg (ha : PD X a fa) : PD X (.UnaryOp .USub a pos) (e1 negD fa) := peOf (pe_un un_neg ha) fun σ H Q ⟨S, Γ, d, t, en, hf, k⟩ => by
  obtain ⟨x, h1, h2⟩ := bind_some hf
  refine tD_run t en h1 fun v H1 s1 t1 en1 r1 => ?_
  cases x with
  | int i => cases h2; exact ⟨i, r1.unI, k _ H1 s1 (.int _)⟩
  | _ => cases h2
def tRevF (K : PySem.W.Frag) (te : TE) : TE := fun σ H Q => te σ H fun x H1 => ∃ a xs, x = .ref a ∧ SqT K H1 a xs ∧ ∀ p o, H1 p = none → o.dict = none → Q (.ref p) (upd H1 p (.frz o (.tup xs.reverse)))
theorem pe_revF {te : TE} {k : Nat} {p1 p2 p3 : Pos} (he : PE X e te) : PE X (.Subscript e (.Slice none none (some (.UnaryOp .USub (.Constant (.int 1) k p1) p2)) p3) pos) (tRevF X.K te) := by
  refine ⟨fun pins s σ H Q I h => Subscript_ (thn (he.run pins s σ H _ I h) fun v s1 ⟨x, H1, I1, r1, a, xs, ex, hx, q⟩ => ?_)⟩
  subst ex
  cases r1
  have hst : PO X (some (.UnaryOp .USub (.Constant (.int 1) k p1) p2)) (tPart (tUn (rU fun i => .int (-i)) (tC (.int 1)))) := po_some (pe_un un_neg pe_int)
  refine wpAny_Slice ?_
  rw [evalPart_none]
  refine wpAny_pure (wpAny_pure (thn (hst.run pins s1 σ H1 (fun o H4 => o = some (-1) ∧ H4 = H1) I1 ⟨1, rfl, -1, rfl, rfl, rfl⟩) fun vk s4 ⟨o, H4, I4, pk, eo, e4⟩ => ?_))
  subst eo e4
  have I5 : Inv X pins σ H4 { s4 with heap := s4.heap.push { cls := .type "slice", data := .fields #[.none, .none, vk] } } := I4.kept (t' := s4.toks) fun b ob q => Heap.get?_push_of_some _ q
  obtain ⟨its, r, ht, hz⟩ := I5.tuple hx
  show wpAny (model X.prog X.w) X.A (subscriptTail e (.Slice none none (some (.UnaryOp .USub (.Constant (.int 1) k p1) p2)) p3) (.ref a) (.ref s4.heap.objs.size)) (EP X pins σ Q) X.xe { s4 with heap := s4.heap.push { cls := .type "slice", data := .fields #[.none, .none, vk] } }
  refine tail_any (ops := [.ref a, .ref s4.heap.objs.size]) ht.typeIs PyProof.Rows.slot_tuple_getitem.lookup ?_ (by with_unfolding_all rfl)
  exact getItem_tuple_rev ht (Heap.IsSliceOf.new ..) pk (laidT I5 r.reverse (by rw [List.length_reverse]; exact hz) s4.toks q) (by rw [← r.length]; exact hz)
theorem d_rev {k : Nat} {p1 p2 p3 : Pos} (he : PD X e f) : PD X (.Subscript e (.Slice none none (some (.UnaryOp .USub (.Constant (.int 1) k p1) p2)) p3) pos) (e1 revD f) := peOf (pe_revF he) fun σ H Q ⟨S, Γ, d, t, en, hf, k⟩ => by
  obtain ⟨x, h1, h2⟩ := bind_some hf
  refine tD_run t en h1 fun v H1 s1 t1 en1 r1 => ?_
  cases x with
  | tuple ds =>
    cases h2
    obtain ⟨a, o, xs, rfl, g, n, z, q⟩ := r1.unT
    exact ⟨a, xs, rfl, sqt_fz g, fun p o hp ho => k _ _ (s1.trans (same_new hp)) (.newT t1 hp ho (by rw [List.length_reverse]; exact z) q.rev)⟩
  | _ => cases h2
/-! ### {'not': 'always', 'always': 'not'}[x] -/
theorem d_swap {k1 k2 k3 k4 : Nat} {p1 p2 p3 p4 pd : Pos} (hu : X.A.units + 1 < cLine) (he : PD X e f) (hs : NoSl e := by intro _ _; rfl) :
    PD X (.Subscript (.Dict [some (.Constant (.str "not") k1 p1), some (.Constant (.str "always") k2 p2)] [.Constant (.str "always") k3 p3, .Constant (.str "not") k4 p4] pd) e pos) (e1 swapD f) :=
  peOf (pe_dget hu (pe_disp (pps_cons pe_str pe_str (pps_cons pe_str pe_str pps_nil)) (by rfl) (by rfl) (by intro z; cases z) (by show 2 ≤ 15; decide)) he hs) fun σ H Q ⟨S, Γ, d, t, en, hf, k⟩ => by
    obtain ⟨x, h1, h2⟩ := bind_some hf
    intro p hp
    refine ⟨upd_same, [(Sum.inr "not", .str "always"), (Sum.inr "always", .str "not")], rfl, by show 2 ≤ 15; decide, ?_⟩
    rw [upd_upd]
    generalize hM : mergeK [] [((Sum.inr "not" : Key), V.str "always"), (Sum.inr "always", .str "not")] = M
    have g1 : valV M (Sum.inr "not") = some (.str "always") := by rw [← hM]; decide +kernel
    have g2 : valV M (Sum.inr "always") = some (.str "not") := by rw [← hM]; decide +kernel
    have s0 : Same H (upd H p (.dK M)) := same_new hp
    refine tD_run (t.same s0) (en.mono (hid_same s0)) h1 fun v H1 s1 t1 en1 r1 => ?_
    have hq : H1 p = some (.dK M) := s1 _ _ upd_same
    cases x with
    | str z =>
      simp only [swapD] at h2
      split at h2
      · rename_i e
        cases h2
        subst e
        refine ⟨p, .str "always", rfl, ?_, k _ H1 (s0.trans s1) (.str _)⟩
        rw [r1.unS, ← g1]
        exact DGet.k (k := Sum.inr "not") hq
      · split at h2
        · rename_i e
          cases h2
          subst e
          refine ⟨p, .str "not", rfl, ?_, k _ H1 (s0.trans s1) (.str _)⟩
          rw [r1.unS, ← g2]
          exact DGet.k (k := Sum.inr "always") hq
        · cases h2
    | _ => cases h2
/-! ### t * n -/
theorem tuple_mul1 (l : Addr) (items : Array Value) (n : Nat) (dd : Option Addr) (sl : Array (Option Value)) (u : Tok) :
    Meets (Builtin.«tuple.__mul__» ⟨[.ref l, .int 1 u], []⟩) (fun _ R s => s.heap.get? l = some { cls := .type "tuple", dict := dd, data := .seq items n, slots := sl } ∧ R (.ok (.ret (Value.ref l))) s) :=
  .of_wp fun prog w A R s h => by
    obtain ⟨hp, g, d, tk, os⟩ := s
    obtain ⟨hl, h⟩ := h
    have f1 := AutoSeq1.idx_int
    wp_walk using AutoSeq1.wpAny_loadPart' hl
    repeat (first
      | (refine wpAny_ite_false (by simp) ?_; wp_walk using AutoSeq1.wpAny_loadPart' hl)
      | (refine wpAny_ite_true (by simp) ?_; wp_walk using AutoSeq1.wpAny_loadPart' hl))
    exact ⟨_, rfl, h⟩
theorem o_rep : OpD X (binaryOp .Mult) repD := by
  intro pins s σ H x y v u Q I rx ry ⟨S, d, e, r, t, r1, r2, hg, k⟩
  cases d with
  | tuple ds =>
    cases e with
    | int n =>
      obtain ⟨hc, rfl⟩ := gd_some hg
      obtain ⟨h1, h2, h3, h4⟩ := of_decide_eq_true hc
      obtain ⟨l, o, xs, rfl, g, nd, z, q⟩ := id r1.unT
      have ey := r2.unI
      subst ey
      cases rx
      obtain ⟨tk, rfl⟩ := ry
      obtain ⟨its, rv, ⟨⟨cls, dd, data, sl⟩, ho, hc, ep, hd⟩, _⟩ := I.tuple (sqt_fz g)
      simp only at hc hd
      subst hc hd
      have hle : its.length = ds.length := by rw [← rv.length, q.length]
      have hne : its ≠ [] := fun w => by
        rw [← hle, w] at h4
        exact absurd h4 (by decide)
      have hi : its.toArray.isEmpty = false := by
        cases its with
        | nil => exact absurd rfl hne
        | cons a b => rfl
      by_cases h0 : n = 1
      · subst h0
        refine wpAny_binaryOp_repeat_ref (T := "tuple") (U := "int") (by decide) ⟨_, ho, rfl⟩ (fun s' => typeIs_int s' 1 tk) noFill_tuple_mul F.fills_int_mul F.slot_int_rmul repeat_tuple F.slot_int_index.lookup
          (call_meets F.slot_int_rmul (typeIs_int s 1 tk) F.entry_int_rmul (F.args_int_rmul_2 _ _) (int_rmul_tuple 1 tk l its.toArray ep dd sl)
            ⟨ho, rfl, ⟨_, ho, rfl⟩, call_meets F.slot_tuple_mul ⟨_, ho, rfl⟩ F.entry_tuple_mul (F.args_tuple_mul_2 _ _) (tuple_mul1 l its.toArray ep dd sl tk) ⟨ho, ?_⟩⟩)
        refine ⟨.ref l, H, I, rfl, k _ H (Same.refl H) ?_⟩
        have e : (List.replicate (1 : Int).toNat ds).flatten = ds := by simp
        rw [e]
        exact r1
      · have hsz0 : its.toArray.size = ds.length := by rw [List.size_toArray, hle]
        have hm : ((its.toArray.size : Nat) : Int) * n ≤ 10000 := by
          rw [hsz0]
          have a1 : ((ds.length : Nat) : Int) * n ≤ 100 * n := Int.mul_le_mul_of_nonneg_right (by omega) (by omega)
          omega
        have fl : (List.replicate n.toNat its).flatten.length ≤ 10000 := by
          rw [PyProof.Rows.lm_len_rep_flat, hle]
          have a1 : n.toNat * ds.length ≤ 100 * 100 := Nat.mul_le_mul (by omega) h3
          omega
        have c0 : (decide (n < -(2 ^ 63)) || decide (n ≥ 2 ^ 63)) = false := by rw [decide_eq_false (by omega), decide_eq_false (by omega)] <;> rfl
        have c1 : (its.toArray.isEmpty || n == 1) = false := by rw [hi, Bool.false_or]; exact beq_eq_false_iff_ne.mpr h0
        have c2 : (decide (n ≤ 0) || its.toArray.isEmpty) = false := by rw [hi, Bool.or_false]; exact decide_eq_false (by omega)
        have c4 : Builtin.Tuple.tupleTooMany (((its.toArray.size : Nat) : Int) * n) = false := by
          unfold Builtin.Tuple.tupleTooMany
          rw [sizeLine_eq]
          exact decide_eq_false (by omega)
        refine wpAny_binaryOp_repeat_ref (T := "tuple") (U := "int") (by decide) ⟨_, ho, rfl⟩ (fun s' => typeIs_int s' n tk) noFill_tuple_mul F.fills_int_mul F.slot_int_rmul repeat_tuple F.slot_int_index.lookup
          (call_meets F.slot_int_rmul (typeIs_int s n tk) F.entry_int_rmul (F.args_int_rmul_2 _ _) (int_rmul_tuple n tk l its.toArray ep dd sl)
            ⟨ho, rfl, ⟨_, ho, rfl⟩, call_meets F.slot_tuple_mul ⟨_, ho, rfl⟩ F.entry_tuple_mul (F.args_tuple_mul_2 _ _)
              (tuple_mulW l its.toArray ep dd sl n tk c0 c1 c2 (by omega) c4 (by rw [size_rep, List.size_toArray]; exact Nat.le_trans fl (by decide))) ⟨ho, ?_⟩⟩)
        rw [size_rep]
        have lz : (List.replicate n.toNat xs).flatten.length ≤ 10000 := by
          rw [PyProof.Rows.lm_len_rep_flat, q.length]
          have a1 : n.toNat * ds.length ≤ 100 * 100 := Nat.mul_le_mul (by omega) h3
          omega
        exact laidT I (rv.rep n.toNat) (Nat.le_trans lz (by decide)) s.toks fun p o hp hd => k _ _ (same_new hp) (.newT t hp hd (Nat.le_trans lz (by decide)) (q.rep n.toNat))
    | _ => cases hg
  | _ => cases e <;> cases hg

/-! ### [e for x in .. for y in ..] -/
theorem wipe_wipe (σ : L2.St) (vs : List Nat) : wipe (wipe σ vs) vs = wipe σ vs := by
  refine List.ext_getElem? fun j => ?_
  rw [wipe_get, wipe_get, wipe_length]
  by_cases q : j ∈ vs
  · rw [if_pos q, if_pos q]
  · rw [if_neg q, if_neg q]
def compL2 (m : PyData → Option (List PyData)) (is : List Nat) (it1 : DE → Option (List PyData)) (n : PyData → Option (List PyData)) (js : List Nat) (f : DE → Option PyData) (Γ : DE) : List PyData → Option (List PyData)
  | [] => some []
  | d :: ds => (m d).bind fun es => (it1 (setAllD Γ is es)).bind fun ds1 => (compL n js tTrue f (wipeD (setAllD Γ is es) js) ds1).bind fun ys => (compL2 m is it1 n js f Γ ds).bind fun zs => some (ys ++ zs)
def eLc2 (own : List Nat) (it : DE → Option (List PyData)) (m : PyData → Option (List PyData)) (is : List Nat) (it1 : DE → Option (List PyData)) (n : PyData → Option (List PyData)) (js : List Nat) (f : DE → Option PyData) : DE → Option PyData :=
  fun Γ => (it Γ).bind fun ds => (compL2 m is it1 n js f (wipeD Γ own) ds).bind fun ys => gd (decide (ys.length ≤ LIM)) (.list ys)
theorem lc2_ok {W : Wd} {wi wi1 : TI} {it it1 : DE → Option (List PyData)} {g g1 : TG} {is js own : List Nat} {m n : PyData → Option (List PyData)} {f : DE → Option PyData} (hi : ∀ σ H R, tI W it σ H R → wi σ H R) (hg : TgOk W g is m) (ho : ∀ i ∈ is, i ∈ own)
    (hi1 : ∀ σ H R, tI W it1 σ H R → wi1 σ H R) (hg1 : TgOk W g1 js n) {σ : L2.St} {H : Hp} {Q : VK} (h : tD W (eLc2 own it m is it1 n js f) σ H Q) : tLc2 wi g (tDT W tTrue) wi1 g1 (tDT W tTrue) (tD W f) own js σ H Q := by
  obtain ⟨S, Γ, d, tr, en, hf, k⟩ := h
  obtain ⟨ds, h1, h2⟩ := bind_some hf
  obtain ⟨ys, h3, h4⟩ := bind_some h2
  obtain ⟨h5, rfl⟩ := gd_some h4
  have hlim := of_decide_eq_true h5
  refine hi σ H _ ⟨S, Γ, ds, tr, en, h1, fun J H1 s1 IT D hD => ?_⟩
  have trD : ∀ H', Same H1 H' → (∃ acc, H' D = some (.lst acc)) → Trk (D :: S) H' := fun H' s' ⟨acc, q⟩ a ha => by
    rcases List.mem_cons.mp ha with z | z
    · rw [z, q]; exact fun w => nomatch w
    · exact (tr.same (s1.trans s')) a z
  have hDin : D ∈ D :: S := List.mem_cons_self
  refine ⟨fun i mm H' => mm = ds.length - i ∧ i ≤ ds.length ∧ Same H1 H' ∧ ∃ acc as rs, H' D = some (.lst acc) ∧ DRs W (hid (D :: S) H') acc as ∧ compL2 m is it1 n js f (wipeD Γ own) (ds.drop i) = some rs ∧ as ++ rs = ys,
    ⟨_, rfl, Nat.zero_le _, same_new hD, [], [], ys, upd_same, .nil, by rw [List.drop_zero]; exact h3, rfl⟩, ?_⟩
  rintro i mm H' ⟨rfl, hle, s2, acc, as, rs, hacc, hr, hc, hy⟩
  have v0 : Same (hid S H1) H' := (hid_sub S H1).trans s2
  by_cases hlt : i < ds.length
  · refine .inr ⟨IT.go i H' hlt v0, fun H'' => (fun i mm H' => mm = ds.length - i ∧ i ≤ ds.length ∧ Same H1 H' ∧ ∃ acc as rs, H' D = some (.lst acc) ∧ DRs W (hid (D :: S) H') acc as ∧ compL2 m is it1 n js f (wipeD Γ own) (ds.drop i) = some rs ∧ as ++ rs = ys) (i + 1) (ds.length - (i + 1)) H'',
      fun H'' q => ⟨_, by omega, q⟩, fun x H3 y => ?_⟩
    rw [List.drop_of_get hlt] at hc
    simp only [compL2] at hc
    obtain ⟨es, c1, c2⟩ := bind_some hc
    obtain ⟨ds1, c3, c4⟩ := bind_some c2
    obtain ⟨ys1, c5, c6⟩ := bind_some c4
    obtain ⟨zs, c7, c8⟩ := bind_some c6
    cases c8
    obtain ⟨s3, hx⟩ := IT.yld i H' x H3 _ v0 y (List.getElem?_eq_getElem hlt)
    have tr' := trD H' s2 ⟨acc, hacc⟩
    have rx := hx (D :: S) tr' (same_into hD s2)
    have s13 := s2.trans s3
    have tr3 : Trk (D :: S) H3 := tr'.same s3
    have en3 : EnvR W (hid (D :: S) H3) (wipeD Γ own) (wipe σ own) := ((en.mono (hid_same s1)).mono (same_into hD s13)).wipe own
    refine hg x _ es _ H3 (D :: S) _ rx c1 fun vs rvs => ⟨wipe_set ho, ?_⟩
    have en4 := en3.setAll (is := is) rvs
    refine tDT_run tr3 en4 rfl fun H4 s4 tr4 en5 => ?_
    rw [if_pos rfl]
    refine hi1 _ H4 _ ⟨D :: S, _, ds1, tr4, en5, c3, fun J1 H5 s5 IT1 => ?_⟩
    have hacc5 : H5 D = some (.lst acc) := s5 _ _ (s4 _ _ (s3 _ _ hacc))
    have s15 := (s13.trans s4).trans s5
    refine ⟨fun j kk H'' => kk = ds1.length - j ∧ j ≤ ds1.length ∧ Same H1 H'' ∧ Same (hid (D :: S) H5) (hid (D :: S) H'') ∧ ∃ acc as rs, H'' D = some (.lst acc) ∧ DRs W (hid (D :: S) H'') acc as ∧ compL n js tTrue f (wipeD (setAllD (wipeD Γ own) is es) js) (ds1.drop j) = some rs ∧ as ++ (rs ++ zs) = ys,
      ⟨_, rfl, Nat.zero_le _, s15, Same.refl _, acc, as, ys1, hacc5, hr.mono (hid_same ((s3.trans s4).trans s5)), by rw [List.drop_zero]; exact c5, hy⟩, ?_⟩
    rintro j kk H6 ⟨rfl, hjle, s6, s56, acc6, as6, rs6, hacc6, hr6, hc6, hy6⟩
    have v1 : Same (hid (D :: S) H5) H6 := s56.trans (hid_sub _ _)
    by_cases hjlt : j < ds1.length
    · refine .inr ⟨IT1.go j H6 hjlt v1, fun H'' => (fun j kk H'' => kk = ds1.length - j ∧ j ≤ ds1.length ∧ Same H1 H'' ∧ Same (hid (D :: S) H5) (hid (D :: S) H'') ∧ ∃ acc as rs, H'' D = some (.lst acc) ∧ DRs W (hid (D :: S) H'') acc as ∧ compL n js tTrue f (wipeD (setAllD (wipeD Γ own) is es) js) (ds1.drop j) = some rs ∧ as ++ (rs ++ zs) = ys) (j + 1) (ds1.length - (j + 1)) H'',
        fun H'' q => ⟨_, by omega, q⟩, fun x1 H7 y1 => ?_⟩
      rw [List.drop_of_get hjlt] at hc6
      simp only [compL, tTrue] at hc6
      obtain ⟨es1, b1, b2⟩ := bind_some hc6
      have b3 : (f (setAllD (wipeD (setAllD (wipeD Γ own) is es) js) js es1)).bind (fun y => (compL n js tTrue f (wipeD (setAllD (wipeD Γ own) is es) js) (ds1.drop (j + 1))).bind fun ys => some (y :: ys)) = some rs6 := b2
      obtain ⟨yd, b4, b5⟩ := bind_some b3
      obtain ⟨ys', b6, b7⟩ := bind_some b5
      cases b7
      obtain ⟨s7, hx1⟩ := IT1.yld j H6 x1 H7 _ v1 y1 (List.getElem?_eq_getElem hjlt)
      have tr6 := trD H6 s6 ⟨acc6, hacc6⟩
      have rx1 := hx1 (D :: S) tr6 s56
      have en7 : EnvR W (hid (D :: S) H7) _ _ := (((en5.mono (hid_same s5)).mono s56).mono (hid_same s7)).wipe js
      refine hg1 x1 _ es1 _ H7 (D :: S) _ rx1 b1 fun vs1 rvs1 => ⟨by rw [wipe_set' (fun i h => h)]; exact wipe_wipe _ js, ?_⟩
      refine tDT_run (tr6.same s7) (en7.setAll (is := js) rvs1) rfl fun H8 s8 tr8 en8 => ?_
      rw [if_pos rfl]
      refine tD_run tr8 en8 b4 fun v H9 s9 tr9 en9 r9 => ?_
      have hacc9 : H9 D = some (.lst acc6) := s9 _ _ (s8 _ _ (s7 _ _ hacc6))
      have hlen : acc6.length < LIM := by
        have e := congrArg List.length hy6
        rw [List.length_append, List.length_append, List.length_cons, ← hr6.length] at e
        omega
      refine ⟨acc6, hacc9, lim_line' hlen, rfl, hjlt, fun a o q => ?_, ?_, acc6 ++ [v], as6 ++ [yd], ys', upd_same, ?_, b6, by rw [List.append_assoc]; exact hy6⟩
      · rw [upd_ne (ne_of_none q hD)]
        exact s9 _ _ (s8 _ _ (s7 _ _ (s6 _ _ q)))
      · rw [hid_upd_in hDin]
        exact s56.trans (hid_same ((s7.trans s8).trans s9))
      · rw [hid_upd_in hDin]
        exact (hr6.mono (hid_same ((s7.trans s8).trans s9))).snoc r9
    · have e : j = ds1.length := by omega
      subst e
      refine .inl ⟨IT1.stop H6 v1, ?_⟩
      rw [List.drop_length] at hc6
      cases hc6
      exact ⟨rfl, hlt, s6, acc6, as6, zs, hacc6, hr6, c7, by rw [List.nil_append] at hy6; exact hy6⟩
  · have e : i = ds.length := by omega
    subst e
    refine .inl ⟨IT.stop H' v0, ?_⟩
    rw [List.drop_length] at hc
    cases hc
    rw [List.append_nil] at hy
    subst hy
    have nS : D ∉ S := fun z => (tr.same s1) D z hD
    exact k _ H' (s1.trans s2) (.lst (by rw [hid_out nS]; exact hacc) (by rw [hr.length]; exact hlim) (hr.mono (hid_less fun a z => List.mem_cons_of_mem _ z)))
theorem d_lc2 {elt iter tg1 iter1 : Expr} {scope : Scope} {own : List (Str × Nat)} {it it1 : DE → Option (List PyData)} {g g1 : TG} {is js on : List Nat} {m n : PyData → Option (List PyData)} (hc : X.calm = true) (hN : X.N.Nodup) (ok : BlkOk X.N X.env.scope scope own) (hi : PId X tg iter it) (hgg : TgOk (wd X) g is m) (ho : ∀ i ∈ is, i ∈ on)
    (hg : Blk X scope fun Y => PG Y tg g) (hi1 : Blk X scope fun Y => PId Y tg1 iter1 it1) (hgg1 : TgOk (wd X) g1 js n) (hj : ∀ i ∈ js, i ∈ on) (hg1 : Blk X scope fun Y => PG Y tg1 g1) (he : Blk X scope fun Y => PD Y elt f)
    (hs : ∀ x, foldedSetIterable iter X.env x = pure x := by intro _; rfl) (hs1 : ∀ env x, foldedSetIterable iter1 env x = pure x := by intro _ _; rfl) (hon : own.map (·.2) = on := by rfl) :
    PD X (.ListComp elt [⟨tg, iter, [], 0⟩, ⟨tg1, iter1, [], 0⟩] scope pos) (eLc2 on it m is it1 n js f) := by
  subst hon
  exact peOf (pe_lc2 hc hN hi ok hj hg (fun _ _ _ _ _ => dts_nil) hi1 hg1 (fun _ _ _ _ _ => dts_nil) he hs hs1) fun σ H Q h => lc2_ok (fun _ _ _ q => q) hgg ho (fun _ _ _ q => q) hgg1 h
/-- y = [.. for .. for ..] on one line, y a local -/
theorem s_setLc2 (i : Nat) {y : Str} {py lpos spos : Pos} {elt tg iter tg1 iter1 : Expr} {scope : Scope} {own : List (Str × Nat)} {it it1 : DE → Option (List PyData)} {g g1 : TG} {is js on : List Nat} {m n : PyData → Option (List PyData)} (hc : X.calm = true) (hN : X.N.Nodup) (ok : BlkOk X.N X.env.scope scope own)
    (hi : PId X tg iter it) (hgg : TgOk (wd X) g is m) (ho : ∀ i ∈ is, i ∈ on)
    (hg : Blk X scope fun Y => PG Y tg g) (hi1 : Blk X scope fun Y => PId Y tg1 iter1 it1) (hgg1 : TgOk (wd X) g1 js n) (hj : ∀ i ∈ js, i ∈ on) (hg1 : Blk X scope fun Y => PG Y tg1 g1) (he : Blk X scope fun Y => PD Y elt f)
    (hsw : swapsWith (.ListComp elt [⟨tg, iter, [], 0⟩, ⟨tg1, iter1, [], 0⟩] scope lpos) (some (.Name y py)) spos.line X.env = pure true) (hy : X.N[i]? = some y := by rfl) (hyl : X.env.scope.names.lookup y = some .local := by rfl)
    (hs : ∀ x, foldedSetIterable iter X.env x = pure x := by intro _; rfl) (hs1 : ∀ env x, foldedSetIterable iter1 env x = pure x := by intro _ _; rfl) (hon : own.map (·.2) = on := by rfl) :
    PDS X (.Assign [.Name y py] (.ListComp elt [⟨tg, iter, [], 0⟩, ⟨tg1, iter1, [], 0⟩] scope lpos) spos) (gSet i (eLc2 on it m is it1 n js f)) := by
  subst hon
  exact psOf (ps_setLc2 hc hN hy hyl hsw hi ok hj hg (fun _ _ _ _ _ => dts_nil) hi1 hg1 (fun _ _ _ _ _ => dts_nil) he hs hs1) fun D σ H ⟨S, Γ, o, tr, en, hf, k, _⟩ => by
    obtain ⟨d, h1, h2⟩ := bind_some hf
    cases h2
    exact lc2_ok (fun _ _ _ q => q) hgg ho (fun _ _ _ q => q) hgg1 (tD_run tr en h1 fun v H1 s1 t1 en1 r1 => k _ rfl _ H1 s1 (en1.set r1))
end
end G8

/-! G7: dicts whose keys are nested tuples. -/
namespace G8
open L2 PyProof.Rows PySem.Spec PySem

/-! ### keys -/
mutual
def keyD : PyData → Option NestedKey
  | .none => some .none
  | .int i => some (.num i)
  | .str x => some (.text x)
  | .tuple ds => (keyDs ds).bind fun ks => some (.tup ks)
  | _ => none
def keyDs : List PyData → Option (List NestedKey)
  | [] => some []
  | d :: ds => (keyD d).bind fun k => (keyDs ds).bind fun ks => some (k :: ks)
end
mutual
theorem keyD_data : ∀ (d : PyData) (k : NestedKey), keyD d = some k → k.data = d
  | .none, k, h => by simp only [keyD] at h; cases h; rfl
  | .bool _, k, h => by simp [keyD] at h
  | .int i, k, h => by simp only [keyD] at h; cases h; rfl
  | .str x, k, h => by simp only [keyD] at h; cases h; rfl
  | .list _, k, h => by simp [keyD] at h
  | .tuple ds, k, h => by
    simp only [keyD] at h
    obtain ⟨ks, h1, h2⟩ := bind_some h
    cases h2
    simp only [NestedKey.data, keyDs_data ds ks h1]
  | .dict _, k, h => by simp [keyD] at h
theorem keyDs_data : ∀ (ds : List PyData) (ks : List NestedKey), keyDs ds = some ks → NestedKey.datas ks = ds
  | [], ks, h => by simp only [keyDs] at h; cases h; rfl
  | d :: ds, ks, h => by
    simp only [keyDs] at h
    obtain ⟨k, h1, h2⟩ := bind_some h
    obtain ⟨ks', h3, h4⟩ := bind_some h2
    cases h4
    simp only [NestedKey.datas, keyD_data d k h1, keyDs_data ds ks' h3]
end
mutual
theorem data_keyD : ∀ k : NestedKey, keyD k.data = some k
  | .none => by simp [NestedKey.data, keyD]
  | .num i => by simp [NestedKey.data, keyD]
  | .text x => by simp [NestedKey.data, keyD]
  | .tup ks => by simp [NestedKey.data, keyD, datas_keyDs ks]
theorem datas_keyDs : ∀ ks : List NestedKey, keyDs (NestedKey.datas ks) = some ks
  | [] => by simp [NestedKey.datas, keyDs]
  | k :: ks => by simp [NestedKey.datas, keyDs, data_keyD k, datas_keyDs ks]
end
section
variable {X : Cx} {pins : List (Addr × Obj)} {σ : L2.St} {H : Hp} {s : Shared} {S : List Addr}
mutual
/-- data that is a key stands as that key -/
theorem nested_of (I : Inv X pins σ H s) : ∀ (d : PyData) (k : NestedKey) (v : V) (u : Value), keyD d = some k → DR (wd X) (hid S H) v d → RelV v u → NestedIs s.heap k u
  | .none, k, v, u, h, r, q => by simp only [keyD] at h; cases h; cases r; cases q; exact .none
  | .bool _, k, v, u, h, r, q => by simp [keyD] at h
  | .int i, k, v, u, h, r, q => by
    simp only [keyD] at h
    cases h
    cases r
    obtain ⟨t, rfl⟩ := q
    exact .int _ _
  | .str x, k, v, u, h, r, q => by
    simp only [keyD] at h
    cases h
    cases r
    obtain ⟨t, rfl⟩ := q
    exact .text _ _
  | .list _, k, v, u, h, r, q => by simp [keyD] at h
  | .tuple ds, k, v, u, h, r, q => by
    simp only [keyD] at h
    obtain ⟨ks, h1, h2⟩ := bind_some h
    cases h2
    obtain ⟨a, o, xs, rfl, g, _, _, rs⟩ := r.unT
    cases q
    obtain ⟨its, rv, ⟨o', g1, g2, n, g3⟩, _⟩ := I.tuple (sqt_fz g)
    exact .tup g1 g2 g3 (nesteds_of I ds ks xs its.toArray.toList h1 rs (by simpa using rv))
  | .dict _, k, v, u, h, r, q => by simp [keyD] at h
theorem nesteds_of (I : Inv X pins σ H s) : ∀ (ds : List PyData) (ks : List NestedKey) (vs : List V) (us : List Value), keyDs ds = some ks → DRs (wd X) (hid S H) vs ds → Vals vs us → NestedAll s.heap ks us
  | [], ks, vs, us, h, r, q => by
    simp only [keyDs] at h
    cases h
    cases r
    cases q
    exact .nil
  | d :: ds, ks, vs, us, h, r, q => by
    simp only [keyDs] at h
    obtain ⟨k, h1, h2⟩ := bind_some h
    obtain ⟨ks', h3, h4⟩ := bind_some h2
    cases h4
    cases r with
    | cons r1 r2 =>
      cases q with
      | cons q1 q2 => exact .cons (nested_of I d k _ _ h1 r1 q1) (nesteds_of I ds ks' _ _ h3 r2 q2)
end
/-! ### what a dict holds -/
def dgetD (kds : List (PyData × PyData)) (k : NestedKey) : Option PyData := (kds.find? fun p => decide (keyD p.1 = some k)).map (·.2)
theorem dx_len {W : Wd} {H : Hp} : ∀ {xs : List (NestedKey × Addr × Value)} {kds : List (PyData × PyData)}, DRx W H xs kds → xs.length = kds.length
  | _, _, .nil => rfl
  | _, _, .cons _ _ _ _ t => by simp [dx_len t]
theorem dx_get {W : Wd} {H : Hp} (k : NestedKey) : ∀ {xs : List (NestedKey × Addr × Value)} {kds : List (PyData × PyData)}, DRx W H xs kds →
    (atKey xs k = none ∧ dgetD kds k = none) ∨ ∃ ka u v d, atKey xs k = some (ka, u) ∧ dgetD kds k = some d ∧ RelV v u ∧ DR W H v d
  | _, _, .nil => .inl ⟨rfl, rfl⟩
  | _, _, .cons (k := k') (ka := ka) (u := u) (v := v) (d := d) (xs := xs) (ds := ds) a b c e t => by
    by_cases h : k' = k
    · subst h
      refine .inr ⟨ka, u, v, d, by simp [atKey], ?_, c, e⟩
      unfold dgetD
      rw [List.find?_cons, data_keyD, decide_eq_true rfl]
      rfl
    · have e1 : atKey ((k', ka, u) :: xs) k = atKey xs k := by simp [atKey, h]
      have e2 : dgetD ((k'.data, d) :: ds) k = dgetD ds k := by
        unfold dgetD
        rw [List.find?_cons, data_keyD, decide_eq_false (fun z => h (Option.some.inj z))]
      rw [e1, e2]
      exact dx_get k t
theorem dx_is (I : Inv X pins σ H s) : ∀ {xs : List (NestedKey × Addr × Value)} {kds : List (PyData × PyData)}, DRx (wd X) (hid S H) xs kds → ∀ x ∈ xs, (nestedKind X.prog X.w).is s.heap x.1 x.2.1
  | _, _, .nil => fun x hx => absurd hx (by simp)
  | _, _, .cons (k := k) a b _ _ t => fun x hx => by
    rcases List.mem_cons.mp hx with rfl | hx
    · exact ⟨nested_of I _ _ _ _ (data_keyD k) a rfl, b⟩
    · exact dx_is I t x hx
/-- the dict as the library tells it -/
theorem dct_of {a : Addr} {o : Obj} {xs : List (NestedKey × Addr × Value)} {kds : List (PyData × PyData)} (I : Inv X pins σ H s) (g : H a = some (dctO a o)) (D : DObj (wd X) o xs) (r : DRx (wd X) (hid S H) xs kds) : s.heap.DictOfH (nestedKind X.prog X.w) a xs := by
  obtain ⟨g1, _, _⟩ := I.hok a _ g
  obtain ⟨h1, ⟨es, ep, h2, h3⟩, h4⟩ := D
  exact ⟨o, es, ep, g1, h1, h2, h3, dx_is I r, h4⟩
theorem DR.unD {v : V} {kds : List (PyData × PyData)} {W : Wd} (h : DR W (hid S H) v (.dict kds)) : ∃ a o xs, v = .ref a ∧ H a = some (dctO a o) ∧ a ∉ S ∧ (a == sysModules) = false ∧ xs.length ≤ LIM ∧ DObj W o xs ∧ DRx W (hid S H) xs kds := by
  cases h with
  | dct q1 q2 q3 q4 q5 => exact ⟨_, _, _, rfl, (hid_some q1).2, (hid_some q1).1, q2, q3, q4, q5⟩
end
/-- the key that a tuple is -/
def tkD : PyData → Option NestedKey
  | .tuple ds => (keyD (.tuple ds)).bind fun k => if k.depth ≤ 8 then some k else none
  | _ => none
theorem tkD_ok {d : PyData} {k : NestedKey} (h : tkD d = some k) : ∃ ds, d = .tuple ds ∧ keyD d = some k ∧ k.depth ≤ 8 := by
  cases d with
  | tuple ds =>
    simp only [tkD] at h
    obtain ⟨k', h1, h2⟩ := bind_some h
    split at h2
    · rename_i h3
      cases h2
      exact ⟨ds, rfl, h1, h3⟩
    · cases h2
  | _ => simp [tkD] at h
def inE : PyData → PyData → Option PyData
  | x, .dict kds => (tkD x).bind fun k => some (.bool (dgetD kds k).isSome)
  | x, c => inD x c
def notInE : PyData → PyData → Option PyData
  | x, .dict kds => (tkD x).bind fun k => some (.bool (!(dgetD kds k).isSome))
  | x, c => notInD x c
def ixE : PyData → PyData → Option PyData
  | .dict kds, x => (tkD x).bind fun k => dgetD kds k
  | a, x => ixD a x
section
variable {X : Cx}
def inK (x c : PyData) : Option PyData := match c with
  | .dict kds => (tkD x).bind fun k => some (.bool (dgetD kds k).isSome)
  | _ => none
def notInK (x c : PyData) : Option PyData := match c with
  | .dict kds => (tkD x).bind fun k => some (.bool (!(dgetD kds k).isSome))
  | _ => none
def ixK (c x : PyData) : Option PyData := match c with
  | .dict kds => (tkD x).bind fun k => dgetD kds k
  | _ => none
theorem o_inK (hu : X.A.units + 20 < cLine) : OpD X (compareOp .In) inK := by
  intro pins s σ H x y v u Q I rx ry ⟨S, d, e, r, t, r1, r2, hg, k⟩
  cases e with
  | dict kds =>
    obtain ⟨nk, h1, h2⟩ := bind_some (x := tkD d) hg
    cases h2
    obtain ⟨ds, rfl, h3, h4⟩ := tkD_ok h1
    obtain ⟨a, o, xs, rfl, g, _, hm, z, D, q⟩ := r2.unD
    obtain ⟨b, o', ys, rfl, g', _, _, _⟩ := id r1.unT
    cases rx
    cases ry
    have hD := dct_of I g D q
    have hk : (nestedKind X.prog X.w).is s.heap nk b := ⟨nested_of I _ _ _ _ h3 r1 rfl, h4⟩
    refine wpAny_in_heap (show X.A.in1.units + 8 < cLine from (by show X.A.units + 1 + 8 < cLine; omega)) hk hm hD ?_
    have e : (atKey xs nk).isSome = (dgetD kds nk).isSome := by
      rcases dx_get nk q with ⟨e1, e2⟩ | ⟨_, _, _, _, e1, e2, _, _⟩ <;> rw [e1, e2] <;> rfl
    rw [e]
    exact ⟨.bl _, H, I.tok _, rfl, k _ H (Same.refl H) (.bl _)⟩
  | _ => cases hg
theorem o_notInK (hu : X.A.units + 20 < cLine) : OpD X (compareOp .NotIn) notInK := by
  intro pins s σ H x y v u Q I rx ry ⟨S, d, e, r, t, r1, r2, hg, k⟩
  cases e with
  | dict kds =>
    obtain ⟨nk, h1, h2⟩ := bind_some (x := tkD d) hg
    cases h2
    obtain ⟨ds, rfl, h3, h4⟩ := tkD_ok h1
    obtain ⟨a, o, xs, rfl, g, _, hm, z, D, q⟩ := r2.unD
    obtain ⟨b, o', ys, rfl, g', _, _, _⟩ := id r1.unT
    cases rx
    cases ry
    have hD := dct_of I g D q
    have hk : (nestedKind X.prog X.w).is s.heap nk b := ⟨nested_of I _ _ _ _ h3 r1 rfl, h4⟩
    refine wpAny_notIn_heap (show X.A.in1.units + 8 < cLine from (by show X.A.units + 1 + 8 < cLine; omega)) hk hm hD ?_
    have e : (atKey xs nk).isSome = (dgetD kds nk).isSome := by
      rcases dx_get nk q with ⟨e1, e2⟩ | ⟨_, _, _, _, e1, e2, _, _⟩ <;> rw [e1, e2] <;> rfl
    rw [e]
    exact ⟨.bl _, H, I.tok _, rfl, k _ H (Same.refl H) (.bl _)⟩
  | _ => cases hg
theorem x_ixK (hu : X.A.units + 20 < cLine) : IxR X (rD2 (wd X) ixK) := by
  intro value slice pins s σ H x y v u Q I rx ry ⟨S, d, e, r, t, r1, r2, hg, k⟩ hs
  cases d with
  | dict kds =>
    obtain ⟨nk, h1, h2⟩ := bind_some (x := tkD e) hg
    obtain ⟨ds, rfl, h3, h4⟩ := tkD_ok h1
    obtain ⟨a, o, xs, rfl, g, _, hm, z, D, q⟩ := r1.unD
    obtain ⟨b, o', ys, rfl, g', _, _, _⟩ := id r2.unT
    cases rx
    cases ry
    have hD := dct_of I g D q
    have hk : (nestedKind X.prog X.w).is s.heap nk b := ⟨nested_of I _ _ _ _ h3 r2 rfl, h4⟩
    rcases dx_get nk q with ⟨e1, e2⟩ | ⟨ka, w, vv, dd, e1, e2, rv, rd⟩
    · rw [e2] at h2; cases h2
    · rw [e2] at h2
      cases h2
      refine subscriptTail_builtinR (x := w) hD.typeIs PySem.F.slot_dict_getitem.lookup ?_ hs
      exact wpAny_getItem_heap (show X.A.in1.units + 8 < cLine from (by show X.A.units + 1 + 8 < cLine; omega)) hk hD e1 ⟨rfl, vv, H, I.tok _, rv, k _ H (Same.refl H) rd⟩
  | _ => cases hg
theorem rD2_or {W : Wd} {g g1 g2 : PyData → PyData → Option PyData} (h : ∀ a b r, g a b = some r → g1 a b = some r ∨ g2 a b = some r) : ∀ x y H Q, rD2 W g x y H Q → rD2 W g1 x y H Q ∨ rD2 W g2 x y H Q := fun x y H Q ⟨S, d, e, r, t, r1, r2, hg, k⟩ => by
  rcases h d e r hg with q | q
  · exact .inl ⟨S, d, e, r, t, r1, r2, q, k⟩
  · exact .inr ⟨S, d, e, r, t, r1, r2, q, k⟩
theorem o_inE (hu : X.A.units + 65 < cLine) : OpD X (compareOp .In) inE := opOf ((o_inK (by omega)).or (o_in hu)) (rD2_or fun a b r h => by
  cases b with
  | dict kds => exact .inl h
  | _ => exact .inr h)
theorem o_notInE (hu : X.A.units + 65 < cLine) : OpD X (compareOp .NotIn) notInE := opOf ((o_notInK (by omega)).or (o_notIn hu)) (rD2_or fun a b r h => by
  cases b with
  | dict kds => exact .inl h
  | _ => exact .inr h)
theorem x_ix (hu : X.A.units + 20 < cLine) : IxR X (rD2 (wd X) ixE) := ixOf ((x_ixK hu).or x_ix0) (rD2_or fun a b r h => by
  cases a with
  | dict kds => exact .inl h
  | _ => exact .inr h)
end
end G8

/-! G8d: dicts walked, filled, made by a comprehension. -/
namespace G8
open L2 PyProof.Rows PySem.Spec PySem

/-! ### for k in d -/
def ItK (a : Addr) (o : Obj) (xs : List (NestedKey × Addr × Value)) : It :=
  ⟨fun i H => H a = some (dctO a o) ∧ i < xs.length, fun i H x H' => H' = H ∧ ∃ q, xs[i]? = some q ∧ x = .ref q.2.1, fun i H => H a = some (dctO a o) ∧ xs.length ≤ i⟩
theorem raw_of {X : Cx} {pins : List (Addr × Obj)} {σ : L2.St} {H : Hp} {s : Shared} {a : Addr} {o : Obj} {es : Array DictEntry} {ep : Nat} (I : Inv X pins σ H s) (g : H a = some (dctO a o)) (hx : o.ExactDict) (hd : o.data = .dict es ep) : s.heap.DictRaw a es ep := by
  obtain ⟨g1, _, _⟩ := I.hok a _ g
  exact ⟨o, g1, hx, hd⟩
theorem turn_K {P : Program} {w : World} {K : PySem.W.Frag} {tg : Expr} {a : Addr} {o : Obj} {xs : List (NestedKey × Addr × Value)} {es : Array DictEntry} {ep : Nat} (it : Addr) (hx : o.ExactDict) (hd : o.data = .dict es ep) (he : es.toList = xs.map (entryOfKey (nestedKind P w))) :
    Turn P w K tg (ItK a o xs) [it] it (fun i h => h.IsKeyIter it a i es.size ep) := by
  have hz : es.size = xs.length := by rw [← Array.length_toList, he, List.length_map]
  refine { mem := by simp, obj := ?_, keep := ?_, item := ?_, done := ?_, self := ?_ }
  · rintro i h st b hb
    have eb : b = it := by simpa using hb
    subst eb
    obtain ⟨oi, e, c, dd⟩ := st
    exact ⟨oi, e, fun v z => by rw [dd] at z; cases z⟩
  · exact fun i h h' st k => st.at fun oi e => k it (by simp) oi e
  · intro X hP hw hK hc i pins s σ H E I hf st ⟨g, hi⟩
    subst hP hw hK
    obtain ⟨f0, f1, f2, f3, f4, f5⟩ := hf it (by simp)
    have hlt : i < es.size := by rw [hz]; exact hi
    refine wpAny_pyNext_keys_item_raw st (raw_of I g hx hd) hlt fun h' st' sb => ?_
    have I1 : Inv X pins σ H { s with heap := h' } := I.turned (t' := s.toks) (fun b ob hb e => (sb.2 b hb).trans e) f0 f1 f3 f4 f5
    obtain ⟨oi, e, c, dd⟩ := id st'
    have ek : es[i].key = .ref xs[i].2.1 := by
      have q := entry_at he i
      rw [Array.getElem?_eq_getElem hlt, List.getElem?_eq_getElem hi, Option.map_some] at q
      rw [Option.some.inj q]
      rfl
    rw [ek]
    exact ⟨_, rfl, go_of (s := { s with heap := h' }) e c dd (by decide) ⟨.ref xs[i].2.1, H, I1, rfl, ⟨rfl, xs[i], List.getElem?_eq_getElem hi, rfl⟩, st', fun b hb => (hf b hb).1⟩⟩
  · intro X hP hw hK hc i pins s σ H E I hf st ⟨g, hi⟩
    subst hP hw hK
    obtain ⟨f0, f1, f2, f3, f4, f5⟩ := hf it (by simp)
    exact wpAny_pyNext_keys_end_raw (I.ok.hd hc) st (raw_of I g hx hd) (by rw [hz]; exact hi) fun h' eb => ⟨rfl, I.turned (t' := s.toks) (fun b ob hb e => eb b ob hb e) f0 f1 f3 f4 f5⟩
  · exact fun A i s Q E st h => wpAny_pyIter_keyiter st h
theorem itd_K {W : Wd} {V0 : Hp} {a : Addr} {o : Obj} {xs : List (NestedKey × Addr × Value)} {kds : List (PyData × PyData)} (g : V0 a = some (dctO a o)) (hz : xs.length ≤ LIM) (r : DRx W V0 xs kds) : ItD W V0 (ItK a o xs) (kds.map (·.1)) := by
  have hl : (kds.map (·.1)).length = xs.length := by rw [List.length_map, dx_len r]
  refine ⟨by rw [hl]; exact hz, fun i H hi s => ⟨s _ _ g, by rw [hl] at hi; exact hi⟩, fun H s => ⟨s _ _ g, by rw [hl]; exact Nat.le_refl _⟩, fun i H x H' d s y e => ?_⟩
  obtain ⟨rfl, q, hq, rfl⟩ := y
  refine ⟨Same.refl _, fun S' t' s' => ?_⟩
  have go : ∀ {xs : List (NestedKey × Addr × Value)} {kds : List (PyData × PyData)} {i : Nat} {q : NestedKey × Addr × Value} {d : PyData}, DRx W V0 xs kds → xs[i]? = some q → (kds.map (·.1))[i]? = some d → DR W V0 (.ref q.2.1) d := by
    intro xs kds i q d r
    refine DRx.rec (motive_1 := fun _ _ _ => True) (motive_2 := fun _ _ _ => True) (motive_3 := fun xs kds _ => ∀ (i : Nat) q d, xs[i]? = some q → (kds.map (·.1))[i]? = some d → DR W V0 (.ref q.2.1) d) trivial (fun _ => trivial) (fun _ => trivial) (fun _ => trivial) (fun _ _ _ _ => trivial) (fun _ _ _ _ _ => trivial) (fun _ _ _ _ _ _ => trivial) trivial (fun _ _ _ _ => trivial) ?_ ?_ r i q d
    · intro i q d h; simp at h
    · intro k ka u v d' xs ds h1 h2 h3 h4 h5 _ _ ih i q d e1 e2
      cases i with
      | zero =>
        simp at e1 e2
        subst e1 e2
        exact h1
      | succ i => exact ih i q d (by simpa using e1) (by simpa using e2)
  exact (go r hq e).mono s'
def asK : PyData → Option (List PyData)
  | .dict kds => some (kds.map (·.1))
  | _ => none
def iK (f : DE → Option PyData) : DE → Option (List PyData) := fun Γ => (f Γ).bind asK
theorem i_keys {X : Cx} {tg e : Expr} {f : DE → Option PyData} (h : PD X e f) : PId X tg e (iK f) := by
  refine ⟨fun pins s σ H R I ⟨S, Γ, ds, t, en, hf, k⟩ => ?_⟩
  obtain ⟨x, h1, h2⟩ := bind_some hf
  refine thn (h.run pins s σ H (fun v H1 => ∃ a o xs kds, v = V.ref a ∧ hid S H1 a = some (dctO a o) ∧ (a == sysModules) = false ∧ xs.length ≤ LIM ∧ DObj (wd X) o xs ∧ DRx (wd X) (hid S H1) xs kds ∧ R (ItK a o xs) H1) I (tD_run t en h1 fun v H1 s1 t1 en1 r1 => ?_)) fun u s1 ⟨v, H1, I1, rv, a, o, xs, kds, ev, g, hm, hz, D, q, hR⟩ => ?_
  · cases x with
    | dict kds =>
      cases h2
      cases r1 with
      | dct q1 q2 q3 q4 q5 => exact ⟨_, _, _, kds, rfl, q1, q2, q3, q4, q5, k _ H1 s1 (itd_K q1 q3 q5)⟩
    | _ => cases h2
  · subst ev
    cases rv
    obtain ⟨hx, ⟨es, ep, hd, he⟩, _⟩ := D
    have g' := (hid_some g).2
    refine wpAny_pyIter_dict_raw hm (raw_of I1 g' hx hd) ?_
    have st : (s1.heap.push { cls := .type "dict_keyiterator", data := .fields #[.ref a, .int 0 0, .int es.size 0, .int ep 0] }).IsKeyIter s1.heap.objs.size a 0 es.size ep := ⟨_, Heap.get?_push_size _ rfl, rfl, rfl⟩
    refine ⟨s1.heap.objs.size, [s1.heap.objs.size], _, _, H1, rfl, I1.kept (t' := s1.toks) fun b o e => Heap.get?_push_of_some _ e, turn_K s1.heap.objs.size hx hd he, st, fun b hb => ?_, hR⟩
    have eb : b = s1.heap.objs.size := by simpa using hb
    subst eb
    exact I1.fpOk (Nat.le_refl _) (I1.hok.fresh (Nat.le_refl _))
/-! ### {} and d[k] = v -/
section
variable {X : Cx} {pos : Pos}
theorem objok_dct {P : Program} {w : World} {H : Hp} {h : Heap} {a : Addr} {o : Obj} (g : h.get? a = some o) : ObjOk P w H h a (dctO a o) := ⟨g, ⟨o, g⟩, fun _ _ p k => k o p⟩
def tNewN (W : Wd) : TE := fun _ H Q => ∀ p o, H p = none → (p == sysModules) = false → DObj W o [] → Q (.ref p) (upd H p (dctO p o))
theorem pe_dnewN : PE X (.Dict [] [] pos) (tNewN (wd X)) := ⟨fun pins s σ H Q I h => by
  have go : (s.heap.push { cls := .type "dict", data := .dict #[] }).get? s.heap.objs.size = some { cls := .type "dict", data := .dict #[] } := Heap.get?_push_size _ rfl
  exact wpAny_Dict_empty ⟨.ref s.heap.objs.size, _, I.laid (a := s.heap.objs.size) (o := dctO s.heap.objs.size { cls := .type "dict", data := .dict #[] }) (t' := s.toks) (fun _ _ q => Heap.get?_push_of_some _ q) (Nat.le_refl _) (objok_dct go), rfl,
    h _ _ (I.hok.fresh (Nat.le_refl _)) (beq_eq_false_iff_ne.mpr (Ne.symm (Nat.ne_of_lt I.big))) ⟨⟨rfl, rfl, rfl⟩, ⟨#[], 0, rfl, rfl⟩, List.nodup_nil⟩⟩⟩
/-- what a store of a new key asks and gives -/
def DSet (W : Wd) (a : Addr) (b : Addr) (v : V) (H : Hp) (Q : Hp → Prop) : Prop := ∃ ob xs S kds nk d, H a = some (dctO a ob) ∧ DObj W ob xs ∧ DRx W (hid S H) xs kds ∧ DR W (hid S H) (.ref b) d ∧ tkD d = some nk ∧ dgetD kds nk = none ∧ xs.length < LIM ∧
  ∀ ob' u, DObj W ob' (xs ++ [(nk, b, u)]) → RelV v u → Q (upd H a (dctO a ob'))
theorem dset_write {pins : List (Addr × Obj)} {σ : L2.St} {H : Hp} {s : Shared} {a b : Addr} {h' : Heap} {nk : NestedKey} {u : Value} {ob : Obj} {xs : List (NestedKey × Addr × Value)} {t' : Nat} (I : Inv X pins σ H s) (g : H a = some (dctO a ob)) (hn : atKey xs nk = none)
    (dd : h'.DictOfH (nestedKind X.prog X.w) a (storedH xs nk b u)) (sb : Heap.SameBut a s.heap h') : ∃ ob', DObj (wd X) ob' (xs ++ [(nk, b, u)]) ∧ Inv X pins σ (upd H a (dctO a ob')) { s with heap := h', toks := t' } := by
  obtain ⟨o', es, ep, e1, e2, e3, e4, _, e5⟩ := dd
  rw [storedH_new hn] at e4 e5
  exact ⟨o', ⟨e2, ⟨es, ep, e3, e4⟩, e5⟩, I.write (x := a) (e := a) (o := dctO a o') (t' := t') (by rw [g]; exact trivial) (.inl rfl) (fun c ob hc q => (sb.2 c hc).trans q) ⟨o', e1⟩ (objok_dct e1)⟩
theorem p_setN (hu : X.A.units + 20 < cLine) : PSet X (fun o i v H Q => ∃ a b, o = .ref a ∧ i = .ref b ∧ DSet (wd X) a b v H Q) := by
  intro pins s σ H o i v ov iv u Q I ro ri rv ⟨a, b, e1, e2, ob, xs, S, kds, nk, d, g, D, q, r, hk, hn, hz, k⟩
  subst e1 e2
  cases ro
  cases ri
  have hD := dct_of I g D q
  obtain ⟨ds, rfl, h3, h4⟩ := tkD_ok hk
  have hki : (nestedKind X.prog X.w).is s.heap nk b := ⟨nested_of I _ _ _ _ h3 r rfl, h4⟩
  have hn' : atKey xs nk = none := by
    rcases dx_get nk q with ⟨e1, e2⟩ | ⟨_, _, _, _, e1, e2, _, _⟩
    · exact e1
    · rw [hn] at e2; cases e2
  refine wpAny_setItem_heap (show X.A.in1.units + 8 < cLine from (by show X.A.units + 1 + 8 < cLine; omega)) hki hD (fun h' dd sb => ?_) (lim_line (Nat.le_of_lt hz))
  obtain ⟨ob', D', I'⟩ := dset_write (t' := s.toks + (nestedKind X.prog X.w).draws nk) I g hn' dd sb
  exact ⟨_, I', k ob' u D' rv⟩
/-! ### {k: v for ..} -/
theorem dictSetN {E : Value → Shared → Prop} {pins : List (Addr × Obj)} {σ : L2.St} {H : Hp} {s : Shared} {D b : Addr} {v : V} {r : Value} {N : Hp → Prop} {Q : Unit → Shared → Prop} (hu : X.A.units + 20 < cLine) (I : Inv X pins σ H s) (rv : RelV v r) (q : DSet (wd X) D b v H N)
    (h : ∀ s' H', Inv X pins σ H' s' → N H' → Q () s') : wpAny (model X.prog X.w) X.A (dictSet D (.ref b) r) Q E s := by
  obtain ⟨ob, xs, S, kds, nk, d, g, DD, q, rr, hk, hn, hz, k⟩ := q
  have hD := dct_of I g DD q
  obtain ⟨ds, rfl, h3, h4⟩ := tkD_ok hk
  have hki : (nestedKind X.prog X.w).is s.heap nk b := ⟨nested_of I _ _ _ _ h3 rr rfl, h4⟩
  have hn' : atKey xs nk = none := by
    rcases dx_get nk q with ⟨e1, e2⟩ | ⟨_, _, _, _, e1, e2, _, _⟩
    · exact e1
    · rw [hn] at e2; cases e2
  refine wpAny_dictSet_heap (show X.A.units + 8 < cLine by omega) hki hD (fun h' dd sb => ?_) (lim_line (Nat.le_of_lt hz))
  obtain ⟨ob', D', I'⟩ := dset_write (t' := s.toks + (nestedKind X.prog X.w).draws nk) I g hn' dd sb
  exact h _ _ I' (k ob' r D' rv)
def tDcN (W : Wd) (wi : TI) (g : TG) (tk tv : TE) (vs : List Nat) : TE := fun σ H Q => wi σ H fun J H1 => ∀ D o0, H1 D = none → (D == sysModules) = false → DObj W o0 [] → ∃ Wv : Nat → Nat → Hp → Prop, (∃ m, Wv 0 m (upd H1 D (dctO D o0))) ∧ ∀ i m H, Wv i m H →
  (J.stop i H ∧ Q (.ref D) H) ∨ (J.go i H ∧ ∃ Nx : Hp → Prop, (∀ H', Nx H' → ∃ m', m' < m ∧ Wv (i + 1) m' H') ∧ ∀ x H', J.yld i H x H' → g x (wipe σ vs) H' fun σ2 H2 => wipe σ2 vs = wipe σ vs ∧ tk σ2 H2 fun y H3 => tv σ2 H3 fun z H4 => ∃ b, y = .ref b ∧ DSet W D b z H4 Nx)
theorem pe_dcN {kx vx tg iter : Expr} {scope : Scope} {own : List (Str × Nat)} {wi : TI} {g : TG} {tk tv : TE} (hu : X.A.units + 20 < cLine) (hc : X.calm = true) (hN : X.N.Nodup) (hi : PI X tg iter wi) (ok : BlkOk X.N X.env.scope scope own)
    (hg : Blk X scope fun Y => PG Y tg g) (hk : Blk X scope fun Y => PE Y kx tk) (he : Blk X scope fun Y => PE Y vx tv) (hs : ∀ x, foldedSetIterable iter X.env x = pure x) : PE X (.DictComp kx vx [⟨tg, iter, [], 0⟩] scope pos) (tDcN (wd X) wi g tk tv (own.map (·.2))) := by
  refine ⟨fun pins s σ H Q I h => ?_⟩
  rw [arm_eval_DictComp]
  have hfr : ∀ y ∈ scope.names, y.2 = .free → ∃ c, X.env.cells.lookup y.1 = some c := fun y hy e => (ok.free y hy e).elim (fun z => I.ok.has _ (.inl z)) (fun z => I.ok.has _ (.inr z))
  refine wpAny_comprehension_free (use := none) rfl hs (closure_ok hfr) ok.kind (fun y hy e => by rw [ok.uniq y hy, e]) (thn (hi.run pins s σ H _ I h) fun xv s1 hx => thn hx fun itv s2 h2 => ?_)
  obtain ⟨it, fp, tn, J, H2, rfl, I2, T, st2, f2, q⟩ := h2
  refine wpAny_newObj_type (newEnv_comp ?_)
  generalize hD : s2.heap.objs.size = D
  have hDn : H2 D = none := I2.hok.fresh (Nat.le_of_eq hD)
  have hDs : (D == sysModules) = false := by rw [← hD]; exact beq_eq_false_iff_ne.mpr (Ne.symm (Nat.ne_of_lt I2.big))
  have D0 : DObj (wd X) { cls := .type "dict", data := .dict #[] } [] := ⟨⟨rfl, rfl, rfl⟩, ⟨#[], 0, rfl, rfl⟩, List.nodup_nil⟩
  obtain ⟨Wv, ⟨m0, w0⟩, turn⟩ := q D _ hDn hDs D0
  generalize hs3 : ({ s2 with heap := s2.heap.push { cls := .type "dict", data := .dict #[] } } : Shared) = s3
  have hp3 : s3.heap = s2.heap.push { cls := .type "dict", data := .dict #[] } := by rw [← hs3]
  have I3 : Inv X pins σ (upd H2 D (dctO D { cls := .type "dict", data := .dict #[] })) s3 := by
    rw [← hs3]
    exact I2.laid (t' := s2.toks) (fun _ _ e => Heap.get?_push_of_some _ e) (Nat.le_of_eq hD) (objok_dct (by rw [← hD]; exact Heap.get?_push_size _ rfl))
  have f3 : ∀ b ∈ fp, FpOk X pins (upd H2 D (dctO D { cls := .type "dict", data := .dict #[] })) b ∧ b < s3.heap.objs.size := fun b hb => by
    obtain ⟨o, e, _⟩ := T.obj _ _ st2 b hb
    have hlt := Heap.lt_size e
    refine ⟨⟨?_, (f2 b hb).2⟩, by rw [hp3, Heap.size_push]; exact Nat.lt_succ_of_lt hlt⟩
    rw [upd_ne (by rw [← hD]; exact Nat.ne_of_lt hlt)]
    exact (f2 b hb).1
  have st3 : tn 0 s3.heap := T.keep _ _ _ st2 fun b _ o e => by rw [hp3]; exact Heap.get?_push_of_some _ e
  generalize hH3 : upd H2 D (dctO D { cls := .type "dict", data := .dict #[] }) = H3 at I3 w0 f3
  have I4 := block_start I3 ok hN f3
  have pg := hg s3 H3 s3.heap.objs.size (cellsFrom (s3.heap.objs.size + 1) scope.names (cloFrom X.env.cells scope.names [])) fp
  have pk := hk s3 H3 s3.heap.objs.size (cellsFrom (s3.heap.objs.size + 1) scope.names (cloFrom X.env.cells scope.names [])) fp
  have pe := he s3 H3 s3.heap.objs.size (cellsFrom (s3.heap.objs.size + 1) scope.names (cloFrom X.env.cells scope.names [])) fp
  show codeAny _ _ (.compStart (.DictComp kx vx [⟨tg, iter, [], 0⟩] scope pos) 0 (.ref it) (.ref D) (compEnvC scope (cellsFrom (s3.heap.objs.size + 1) scope.names (cloFrom X.env.cells scope.names [])) s3.heap.objs.size X.env)) _ { s3 with heap := pushCells (s3.heap.push { cls := .type "dict", data := .dict #[] }) scope.names }
  generalize hce : compEnvC scope (cellsFrom (s3.heap.objs.size + 1) scope.names (cloFrom X.env.cells scope.names [])) s3.heap.objs.size X.env = ce at I4 pg pk pe ⊢
  have cL : ce.locals = s3.heap.objs.size := by subst hce; rfl
  generalize hs4 : ({ s3 with heap := pushCells (s3.heap.push { cls := .type "dict", data := .dict #[] }) scope.names } : Shared) = s4 at I4 ⊢
  have st4 : tn 0 s4.heap := T.keep _ _ _ st3 fun b _ o e => by rw [← hs4]; exact pushCells_keeps _ _ _ _ (Heap.get?_push_of_some _ e)
  have stat : ∀ {σ' : L2.St} {H' : Hp} {s' : Shared}, Inv (X.blk s3 H3 scope ce fp) [] σ' H' s' → (∀ b ∈ fp, H' b = none) → ∀ b ∈ fp, FpOk (X.blk s3 H3 scope ce fp) [] H' b := fun {σ' H' s'} I' hn b hb =>
    ⟨hn b hb, (I'.ok.exf b hb).1, I'.ok.exfs b hb, .inl hb, (I'.ok.exf b hb).2, fun p hp => absurd (show p ∈ ([] : List (Addr × Obj)) ++ [] from hp) (by simp)⟩
  have loop : codeAny (model X.prog X.w) X.A (.compLoop (.DictComp kx vx [⟨tg, iter, [], 0⟩] scope pos) 0 (.ref it) (.ref D) ce) (compPost (model X.prog X.w) X.A X.xe none (EP X pins σ Q) (.ref D) s3.heap.objs.size) s4 := by
    refine compLoop_anyD (fun n s' => ∃ i H', Inv (X.blk s3 H3 scope ce fp) [] (wipe σ (own.map (·.2))) H' s' ∧ tn i s'.heap ∧ (∀ b ∈ fp, H' b = none) ∧ Wv i n H') ?_ m0 ⟨0, H3, I4, st4, fun b hb => (f3 b hb).1.1, w0⟩
    rintro n s5 ⟨i, H5, I5, st5, n5, w5⟩
    rcases turn i n H5 w5 with ⟨stop, qq⟩ | ⟨go, Nx, hNx, step⟩
    · refine thnF (T.done (X.blk s3 H3 scope ce fp) rfl rfl rfl hc i [] s5 _ H5 (fun _ _ => False) I5 (stat I5 n5) st5 stop) fun r s6 ⟨hr, I6⟩ => ?_
      subst hr
      have I7 : Inv X pins σ H5 s6 := I3.call' (ch := fp) I6.os I6.base I6.hok I6.bare fun b hb => let z := (f3 b hb).1.2; ⟨z.2.2.1, z.1, z.2.2.2.1, z.2.2.2.2⟩
      have nC : H5 s3.heap.objs.size = none := by rw [← cL]; exact I6.free
      obtain ⟨m, hn, _⟩ := I6.loc
      have hn' : s6.heap.Ns s3.heap.objs.size m := by rw [← cL]; exact hn
      refine ⟨m, hn', fun h'' sb => ?_⟩
      obtain ⟨f0, f1, f2', f3', f4, f5⟩ := I3.fpOk (H' := H5) (Nat.le_refl _) nC
      exact ⟨.ref D, H5, I7.turned (t' := s6.toks) (fun b o hb e => (sb.2 b hb).trans e) f0 f1 f3' f4 f5, rfl, qq⟩
    · refine thnF (T.item (X.blk s3 H3 scope ce fp) rfl rfl rfl hc i [] s5 _ H5 (fun _ _ => False) I5 (stat I5 n5) st5 go) fun r s6 ⟨u, hr, h6⟩ => ?_
      subst hr
      refine thnF h6 fun _ s7 ⟨x, H7, I7, r7, y7, st7, n7⟩ => ?_
      refine thnF (pg.run _ s7 _ H7 x u _ (I7.pinned (stat I7 n7) (T.obj _ _ st7)) r7 (step x H7 y7)) fun _ s8 ⟨σ8, H8, I8, hw8, q8⟩ => ?_
      refine thnF (wpAny_tests_nil (show TP (X.blk s3 H3 scope ce fp) ([] ++ pinsAt fp s7.heap) σ8 (fun b H9 => b = true ∧ H9 = H8) true s8 from ⟨H8, I8, rfl, rfl⟩)) fun b s9 ⟨H9, I9, eb, e9⟩ => ?_
      subst eb e9
      rw [if_pos rfl]
      refine thnF (pk.run _ s9 σ8 H9 _ I9 q8) fun z s10 ⟨yk, H10, I10, r10, q10⟩ => ?_
      refine thnF (pe.run _ s10 σ8 H10 _ I10 q10) fun z2 s11 ⟨yv, H11, I11, r11, b, eb, ds⟩ => ?_
      subst eb
      cases r10
      refine dictSetN (X := X.blk s3 H3 scope ce fp) hu I11 r11 ds fun s' H' I' nx => ?_
      obtain ⟨m', hm, w'⟩ := hNx H' nx
      have pin' : ∀ b ∈ fp, ∀ o, s7.heap.get? b = some o → s'.heap.get? b = some o ∧ H' b = none := fun b hb o e =>
        let z := I'.pin (b, o) (List.mem_append_right _ (List.mem_append_right _ (mem_pinsAt hb e)))
        ⟨z.1, z.2.1⟩
      have hl : (wipe σ (own.map (·.2))).length = σ8.length := by rw [← hw8, wipe_length]
      refine ⟨m', hm, i + 1, H', (I'.unpinned (pins := [])).weak hl (fun j v e => ?_), T.keep _ _ _ st7 fun b hb o e => (pin' b hb o e).1, fun b hb => ?_, w'⟩
      · rw [← hw8] at e
        exact (wipe_some e).1
      · obtain ⟨o, e, _⟩ := T.obj _ _ st7 b hb
        exact (pin' b hb o e).2
  exact codeAny_compStart_dict loop (T.self X.A 0 _ _ _ st4 loop)
def compD (m : PyData → Option (List PyData)) (is : List Nat) (fk fv : DE → Option PyData) (Γ : DE) : List PyData → List (PyData × PyData) → Option (List (PyData × PyData))
  | [], acc => some acc
  | d :: ds, acc => (m d).bind fun es => (fk (setAllD Γ is es)).bind fun k => (fv (setAllD Γ is es)).bind fun v => (tkD k).bind fun nk => if (dgetD acc nk).isNone = true then compD m is fk fv Γ ds (acc ++ [(k, v)]) else none
def eDc (own : List Nat) (it : DE → Option (List PyData)) (m : PyData → Option (List PyData)) (is : List Nat) (fk fv : DE → Option PyData) : DE → Option PyData :=
  fun Γ => (it Γ).bind fun ds => (compD m is fk fv (wipeD Γ own) ds []).bind fun ys => some (.dict ys)
theorem DRx.snoc {W : Wd} {H : Hp} {k : NestedKey} {ka : Addr} {u : Value} {v : V} {d : PyData} (a : DR W H (.ref ka) k.data) (b : k.depth ≤ 8) (c : RelV v u) (e : DR W H v d) : ∀ {xs : List (NestedKey × Addr × Value)} {ds : List (PyData × PyData)}, DRx W H xs ds → DRx W H (xs ++ [(k, ka, u)]) (ds ++ [(k.data, d)])
  | _, _, .nil => .cons a b c e .nil
  | _, _, .cons a' b' c' e' t => .cons a' b' c' e' (DRx.snoc a b c e t)
theorem tkD_ref {W : Wd} {H : Hp} {v : V} {d : PyData} {nk : NestedKey} (h : tkD d = some nk) (r : DR W H v d) : ∃ b, v = .ref b := by
  obtain ⟨ds, rfl, _, _⟩ := tkD_ok h
  cases r
  exact ⟨_, rfl⟩
theorem dc_ok {W : Wd} {wi : TI} {it : DE → Option (List PyData)} {g : TG} {is own : List Nat} {m : PyData → Option (List PyData)} {fk fv : DE → Option PyData} (hi : ∀ σ H R, tI W it σ H R → wi σ H R) (hg : TgOk W g is m) (ho : ∀ i ∈ is, i ∈ own)
    {σ : L2.St} {H : Hp} {Q : VK} (h : tD W (eDc own it m is fk fv) σ H Q) : tDcN W wi g (tD W fk) (tD W fv) own σ H Q := by
  obtain ⟨S, Γ, d, tr, en, hf, k⟩ := h
  obtain ⟨ds, h1, h2⟩ := bind_some hf
  obtain ⟨ys, h3, h4⟩ := bind_some h2
  cases h4
  refine hi σ H _ ⟨S, Γ, ds, tr, en, h1, fun J H1 s1 IT D o0 hD hDs D0 => ?_⟩
  have trD : ∀ H', Same H1 H' → (∃ o, H' D = some (dctO D o)) → Trk (D :: S) H' := fun H' s' ⟨o, q⟩ a ha => by
    rcases List.mem_cons.mp ha with z | z
    · rw [z, q]; exact fun w => nomatch w
    · exact (tr.same (s1.trans s')) a z
  have hDin : D ∈ D :: S := List.mem_cons_self
  refine ⟨fun i mm H' => mm = ds.length - i ∧ i ≤ ds.length ∧ Same H1 H' ∧ ∃ o xs acc, H' D = some (dctO D o) ∧ DObj W o xs ∧ xs.length ≤ i ∧ DRx W (hid (D :: S) H') xs acc ∧ compD m is fk fv (wipeD Γ own) (ds.drop i) acc = some ys,
    ⟨_, rfl, Nat.zero_le _, same_new hD, o0, [], [], upd_same, D0, Nat.le_refl 0, .nil, by rw [List.drop_zero]; exact h3⟩, ?_⟩
  rintro i mm H' ⟨rfl, hle, s2, o, xs, acc, ho', D1, hal, hr, hc⟩
  have v0 : Same (hid S H1) H' := (hid_sub S H1).trans s2
  by_cases hlt : i < ds.length
  · refine .inr ⟨IT.go i H' hlt v0, fun H'' => (fun i mm H' => mm = ds.length - i ∧ i ≤ ds.length ∧ Same H1 H' ∧ ∃ o xs acc, H' D = some (dctO D o) ∧ DObj W o xs ∧ xs.length ≤ i ∧ DRx W (hid (D :: S) H') xs acc ∧ compD m is fk fv (wipeD Γ own) (ds.drop i) acc = some ys) (i + 1) (ds.length - (i + 1)) H'',
      fun H'' q => ⟨_, by omega, q⟩, fun x H3 y => ?_⟩
    rw [List.drop_of_get hlt] at hc
    simp only [compD] at hc
    obtain ⟨es, c1, c2⟩ := bind_some hc
    obtain ⟨kd, c3, c4⟩ := bind_some c2
    obtain ⟨vd, c5, c6⟩ := bind_some c4
    obtain ⟨nk, c7, c8⟩ := bind_some c6
    split at c8
    · rename_i hnone
      obtain ⟨s3, hx⟩ := IT.yld i H' x H3 _ v0 y (List.getElem?_eq_getElem hlt)
      have tr' := trD H' s2 ⟨o, ho'⟩
      have rx := hx (D :: S) tr' (same_into hD s2)
      have s13 := s2.trans s3
      have tr3 : Trk (D :: S) H3 := tr'.same s3
      have en3 : EnvR W (hid (D :: S) H3) (wipeD Γ own) (wipe σ own) := ((en.mono (hid_same s1)).mono (same_into hD s13)).wipe own
      refine hg x _ es _ H3 (D :: S) _ rx c1 fun vs rvs => ⟨wipe_set ho, ?_⟩
      refine tD_run tr3 (en3.setAll (is := is) rvs) c3 fun vk H4 s4 tr4 en4 rk => tD_run tr4 en4 c5 fun vv H5 s5 tr5 en5 rv => ?_
      obtain ⟨b, rfl⟩ := tkD_ref c7 rk
      have s35 := (s3.trans s4).trans s5
      have ho5 : H5 D = some (dctO D o) := s35 _ _ ho'
      refine ⟨b, rfl, o, xs, D :: S, acc, nk, kd, ho5, D1, hr.mono (hid_same s35), rk.mono (hid_same s5), c7, by simpa using hnone, Nat.lt_of_le_of_lt hal (Nat.lt_of_lt_of_le hlt IT.len), fun ob' u D2 ru => ?_⟩
      obtain ⟨ds', hkd, hk2, hk3⟩ := tkD_ok c7
      have ek : nk.data = kd := keyD_data kd nk hk2
      refine ⟨rfl, hlt, fun a o q => ?_, ob', xs ++ [(nk, b, u)], acc ++ [(kd, vd)], upd_same, D2, by rw [List.length_append]; show xs.length + 1 ≤ _; omega, ?_, c8⟩
      · rw [upd_ne (ne_of_none q hD)]
        exact s5 _ _ (s4 _ _ (s13 _ _ q))
      · rw [hid_upd_in hDin, ← ek]
        exact DRx.snoc (by rw [ek]; exact rk.mono (hid_same s5)) hk3 ru rv (hr.mono (hid_same s35))
    · cases c8
  · have e : i = ds.length := by omega
    subst e
    refine .inl ⟨IT.stop H' v0, ?_⟩
    rw [List.drop_length] at hc
    cases hc
    have nS : D ∉ S := fun z => (tr.same s1) D z hD
    exact k _ H' (s1.trans s2) (.dct (by rw [hid_out nS]; exact ho') hDs (Nat.le_trans hal IT.len) D1 (hr.mono (hid_less fun a z => List.mem_cons_of_mem _ z)))
theorem d_dc {kx vx tg iter : Expr} {scope : Scope} {own : List (Str × Nat)} {it : DE → Option (List PyData)} {g : TG} {is on : List Nat} {m : PyData → Option (List PyData)} {fk fv : DE → Option PyData} (hu : X.A.units + 20 < cLine) (hc : X.calm = true) (hN : X.N.Nodup) (ok : BlkOk X.N X.env.scope scope own) (hi : PId X tg iter it)
    (hgg : TgOk (wd X) g is m) (ho : ∀ i ∈ is, i ∈ on) (hg : Blk X scope fun Y => PG Y tg g) (hk : Blk X scope fun Y => PD Y kx fk) (he : Blk X scope fun Y => PD Y vx fv)
    (hs : ∀ x, foldedSetIterable iter X.env x = pure x := by intro _; rfl) (hon : own.map (·.2) = on := by rfl) : PD X (.DictComp kx vx [⟨tg, iter, [], 0⟩] scope pos) (eDc on it m is fk fv) := by
  subst hon
  exact peOf (pe_dcN hu hc hN hi ok hg hk he hs) fun σ H Q h => dc_ok (fun _ _ _ q => q) hgg ho h
end
end G8

/-! G9: lists and dicts of one's own, written in place: they stand in slots `os`, at hidden addresses `A`. -/
namespace G8
open L2 PyProof.Rows PySem.Spec PySem

/-- what stands in a thing of one's own -/
inductive Own1 (W : Wd) (Hh H : Hp) (a : Addr) : PyData → Prop
  | lst {xs : List V} {ds : List PyData} : H a = some (.lst xs) → xs.length ≤ LIM → DRs W Hh xs ds → Own1 W Hh H a (.list ds)
  | dct {o : Obj} {xs : List (NestedKey × Addr × Value)} {kds : List (PyData × PyData)} : H a = some (dctO a o) → (a == sysModules) = false → xs.length ≤ LIM → DObj W o xs → DRx W Hh xs kds → Own1 W Hh H a (.dict kds)
section
variable {W : Wd} {Hh Hh' H H' : Hp} {a : Addr} {d : PyData}
theorem Own1.mono (e : Same Hh Hh') (q : ∀ o, H a = some o → H' a = some o) (h : Own1 W Hh H a d) : Own1 W Hh' H' a d := by
  cases h with
  | lst h1 h2 h3 => exact .lst (q _ h1) h2 (h3.mono e)
  | dct h1 h2 h3 h4 h5 => exact .dct (q _ h1) h2 h3 h4 (h5.mono e)
theorem Own1.ne (h : Own1 W Hh H a d) : H a ≠ none := by
  cases h with
  | lst h1 => rw [h1]; exact Option.some_ne_none _
  | dct h1 => rw [h1]; exact Option.some_ne_none _
theorem Own1.dr {Hv : Hp} (e : Same Hh Hv) (q : ∀ o, H a = some o → Hv a = some o) (h : Own1 W Hh H a d) : DR W Hv (.ref a) d := by
  cases h with
  | lst h1 h2 h3 => exact .lst (q _ h1) h2 (h3.mono e)
  | dct h1 h2 h3 h4 h5 => exact .dct (q _ h1) h2 h3 h4 (h5.mono e)
end
/-- all but A stays -/
abbrev Fr (A : List Addr) (H H' : Hp) : Prop := Same (hid A H) (hid A H')
theorem Fr.refl (A : List Addr) (H : Hp) : Fr A H H := Same.refl _
theorem Fr.of {A : List Addr} {H H' : Hp} (s : Same H H') : Fr A H H' := hid_same s
theorem Fr.at {A : List Addr} {H H' : Hp} (f : Fr A H H') {b : Addr} {o : HO} (hb : b ∉ A) (e : H b = some o) : H' b = some o := (hid_some (f b o (by rw [hid_out hb]; exact e))).2
theorem Fr.by {A : List Addr} {H H' : Hp} (k : ∀ b o, b ∉ A → H b = some o → H' b = some o) : Fr A H H' := fun b o e => by
  obtain ⟨h1, h2⟩ := hid_some e
  rw [hid_out h1]
  exact k b o h1 h2
theorem Fr.more {A B : List Addr} {H H' : Hp} (f : Fr A H H') (h : ∀ x ∈ A, x ∈ B) : Fr B H H' := .by fun b o hb e => f.at (fun z => hb (h b z)) e
theorem Fr.nil {H H' : Hp} (f : Fr [] H H') : Same H H' := fun b o e => f.at (by simp) e
theorem Fr.new {A : List Addr} {H H' : Hp} {a : Addr} {ob : HO} (n : H a = none) (f : Fr (A ++ [a]) (upd H a ob) H') : Fr A H H' := .by fun b o hb e => by
  have hne : b ≠ a := fun z => by rw [z, n] at e; cases e
  exact f.at (by simp [hb, hne]) (by rw [upd_ne hne]; exact e)

theorem wipeD_get (Γ : DE) : ∀ (vs : List Nat) (j : Nat), (wipeD Γ vs)[j]? = if j ∈ vs then (if j < Γ.length then some none else none) else Γ[j]?
  | [], j => by simp [wipeD]
  | v :: vs, j => by
    unfold wipeD
    have hl : (wipeD Γ vs).length = Γ.length := by
      induction vs with
      | nil => rfl
      | cons v vs ih => unfold wipeD; rw [List.length_set]; exact ih
    by_cases h : v = j
    · subst h
      rw [List.getElem?_set, if_pos rfl, if_pos List.mem_cons_self, hl]
    · rw [List.getElem?_set_ne h, wipeD_get Γ vs j]
      by_cases q : j ∈ vs
      · rw [if_pos q, if_pos (List.mem_cons_of_mem _ q)]
      · rw [if_neg q, if_neg (fun z => (List.mem_cons.mp z).elim (fun y => h y.symm) q)]
theorem wipeD_len (Γ : DE) : ∀ vs : List Nat, (wipeD Γ vs).length = Γ.length
  | [] => rfl
  | v :: vs => by unfold wipeD; rw [List.length_set]; exact wipeD_len Γ vs
theorem wipeD_some {Γ : DE} {vs : List Nat} {j : Nat} {d : PyData} (h : (wipeD Γ vs)[j]? = some (some d)) : j ∉ vs ∧ Γ[j]? = some (some d) := by
  rw [wipeD_get] at h
  split at h
  · split at h <;> cases h
  · exact ⟨‹_›, h⟩
theorem wipeD_of {Γ : DE} {vs : List Nat} {j : Nat} (h : j ∉ vs) : (wipeD Γ vs)[j]? = Γ[j]? := by rw [wipeD_get, if_neg h]

structure OR (W : Wd) (S A : List Addr) (os : List Nat) (Γ : DE) (σ : L2.St) (H : Hp) : Prop where
  trk : Trk (A ++ S) H
  nd : A.Nodup
  ndo : os.Nodup
  dis : ∀ a ∈ A, a ∉ S
  len : os.length = A.length
  env : EnvR W (hid (A ++ S) H) (wipeD Γ os) σ
  own : ∀ (k i : Nat) (a : Addr), os[k]? = some i → A[k]? = some a → σ[i]? = some (some (V.ref a)) ∧ ∃ d, Γ[i]? = some (some d) ∧ Own1 W (hid (A ++ S) H) H a d
section
variable {W : Wd} {S A : List Addr} {os : List Nat} {Γ : DE} {σ : L2.St} {H H' : Hp}
theorem OR.posn (R : OR W S A os Γ σ H) {i : Nat} (h : i ∈ os) : ∃ (k : Nat) (a : Addr) (d : PyData), os[k]? = some i ∧ A[k]? = some a ∧ σ[i]? = some (some (V.ref a)) ∧ Γ[i]? = some (some d) ∧ Own1 W (hid (A ++ S) H) H a d := by
  obtain ⟨k, hk, e⟩ := List.getElem_of_mem h
  have e1 : os[k]? = some i := by rw [List.getElem?_eq_getElem hk, e]
  have hk' : k < A.length := by rw [← R.len]; exact hk
  have e2 : A[k]? = some A[k] := List.getElem?_eq_getElem hk'
  obtain ⟨h1, d, h2, h3⟩ := R.own k i _ e1 e2
  exact ⟨k, _, d, e1, e2, h1, h2, h3⟩
theorem OR.trkS (R : OR W S A os Γ σ H) : Trk S H := fun a q => R.trk a (List.mem_append_right _ q)
theorem OR.gl (R : OR W S A os Γ σ H) : Γ.length = σ.length := by rw [← R.env.len, wipeD_len]
theorem OR.full (R : OR W S A os Γ σ H) : EnvR W (hid S H) Γ σ := ⟨R.gl, fun i d q => by
  have less : Same (hid (A ++ S) H) (hid S H) := hid_less fun a h => List.mem_append_right _ h
  by_cases hi : i ∈ os
  · obtain ⟨k, a, d', h1, h2, h3, h4, h5⟩ := R.posn hi
    rw [h4] at q
    cases q
    exact ⟨_, h3, h5.dr less fun o e => by rw [hid_out (R.dis a (List.mem_of_getElem? h2))]; exact e⟩
  · obtain ⟨v, h1, h2⟩ := R.env.get i d (by rw [wipeD_of hi]; exact q)
    exact ⟨v, h1, h2.mono less⟩⟩
theorem OR.mono (R : OR W S A os Γ σ H) (s : Same H H') : OR W S A os Γ σ H' := ⟨R.trk.same s, R.nd, R.ndo, R.dis, R.len, R.env.mono (hid_same s), fun k i a h1 h2 => by
  obtain ⟨h3, d, h4, h5⟩ := R.own k i a h1 h2
  exact ⟨h3, d, h4, h5.mono (hid_same s) fun o e => s a o e⟩⟩
theorem Fr.hidS (f : Fr A H H') (S : List Addr) : Same (hid (A ++ S) H) (hid (A ++ S) H') := f.more fun x h => List.mem_append_left _ h
theorem OR.set (R : OR W S A os Γ σ H) {i : Nat} {v : V} {d : PyData} (hi : i ∉ os) (r : DR W (hid (A ++ S) H) v d) : OR W S A os (Γ.set i (some d)) (σ.set i (some v)) H := by
  refine ⟨R.trk, R.nd, R.ndo, R.dis, R.len, ⟨by rw [wipeD_len, List.length_set, List.length_set, R.gl], fun j e q => ?_⟩, fun k j a h1 h2 => ?_⟩
  · obtain ⟨q1, q2⟩ := wipeD_some q
    by_cases hj : i = j
    · subst hj
      have hl : i < Γ.length := by
        by_cases z : i < Γ.length
        · exact z
        · rw [List.getElem?_eq_none (by rw [List.length_set]; omega)] at q2; cases q2
      rw [List.getElem?_set_self hl] at q2
      cases q2
      exact ⟨v, List.getElem?_set_self (by rw [← R.gl]; exact hl), r⟩
    · rw [List.getElem?_set_ne hj] at q2
      obtain ⟨u, a, b⟩ := R.env.get j e (by rw [wipeD_of q1]; exact q2)
      exact ⟨u, by rw [List.getElem?_set_ne hj]; exact a, b⟩
  · have hj : i ≠ j := fun z => hi (by rw [z]; exact List.mem_of_getElem? h1)
    rw [List.getElem?_set_ne hj, List.getElem?_set_ne hj]
    exact R.own k j a h1 h2
theorem OR.setAll : ∀ {is : List Nat} {vs : List V} {ds : List PyData} {Γ : DE} {σ : L2.St}, OR W S A os Γ σ H → (∀ i ∈ is, i ∉ os) → DRs W (hid (A ++ S) H) vs ds → OR W S A os (setAllD Γ is ds) (G8.setAll σ is vs) H
  | [], _, _, _, _, R, _, _ => by unfold setAllD G8.setAll; exact R
  | i :: is, _, _, _, _, R, _, .nil => by unfold setAllD G8.setAll; exact R
  | i :: is, _, _, _, _, R, h, .cons r t => by
    unfold setAllD G8.setAll
    exact OR.setAll (R.set (h i List.mem_cons_self) r) (fun j q => h j (List.mem_cons_of_mem _ q)) t
theorem nodup_at {α : Type} {l : List α} (h : l.Nodup) {j k : Nat} {x : α} (h1 : l[j]? = some x) (h2 : l[k]? = some x) : j = k := by
  obtain ⟨a1, a2⟩ := List.getElem?_eq_some_iff.mp h1
  obtain ⟨b1, b2⟩ := List.getElem?_eq_some_iff.mp h2
  have p := List.pairwise_iff_getElem.mp h
  rcases Nat.lt_trichotomy j k with z | z | z
  · exact absurd (a2.trans b2.symm) (p j k a1 b1 z)
  · exact z
  · exact absurd (b2.trans a2.symm) (p k j b1 a1 z)
/-- a write in place -/
theorem OR.write (R : OR W S A os Γ σ H) {k i : Nat} {a : Addr} {d : PyData} {ob : HO} (h1 : os[k]? = some i) (h2 : A[k]? = some a) (h : Own1 W (hid (A ++ S) H) (upd H a ob) a d) :
    OR W S A os (Γ.set i (some d)) σ (upd H a ob) ∧ Fr A H (upd H a ob) := by
  have hA : a ∈ A := List.mem_of_getElem? h2
  have hi : i ∈ os := List.mem_of_getElem? h1
  have eH : hid (A ++ S) (upd H a ob) = hid (A ++ S) H := hid_upd_in (List.mem_append_left _ hA)
  refine ⟨⟨fun b hb => ?_, R.nd, R.ndo, R.dis, R.len, ?_, fun k' j b g1 g2 => ?_⟩, .by fun b o hb e => by rw [upd_ne (fun z => hb (by rw [z]; exact hA))]; exact e⟩
  · by_cases z : b = a
    · subst z; rw [upd_same]; exact Option.some_ne_none _
    · rw [upd_ne z]; exact R.trk b hb
  · rw [eH]
    refine ⟨by rw [wipeD_len, List.length_set, R.gl], fun j e q => ?_⟩
    obtain ⟨q1, q2⟩ := wipeD_some q
    rw [List.getElem?_set_ne (fun z => q1 (by rw [← z]; exact hi))] at q2
    exact R.env.get j e (by rw [wipeD_of q1]; exact q2)
  · rw [eH]
    by_cases z : k' = k
    · subst z
      rw [h1] at g1
      rw [h2] at g2
      cases g1
      cases g2
      obtain ⟨c1, e, c2, _⟩ := R.own k' i a h1 h2
      refine ⟨c1, d, List.getElem?_set_self ?_, h⟩
      by_cases y : i < Γ.length
      · exact y
      · rw [List.getElem?_eq_none (by omega)] at c2; cases c2
    · have n1 : i ≠ j := fun y => z (nodup_at R.ndo g1 (by rw [← y] at *; exact h1))
      have n2 : b ≠ a := fun y => z (nodup_at R.nd g2 (by rw [y]; exact h2))
      obtain ⟨c1, e, c2, c3⟩ := R.own k' j b g1 g2
      exact ⟨c1, e, by rw [List.getElem?_set_ne n1]; exact c2, c3.mono (Same.refl _) fun o y => by rw [upd_ne n2]; exact y⟩
/-- a new thing of one's own -/
theorem OR.add (R : OR W S A os Γ σ H) {i : Nat} {a : Addr} {d : PyData} {ob : HO} (hn : H a = none) (hi : i ∉ os) (hl : i < Γ.length) (h : Own1 W (hid (A ++ S) H) (upd H a ob) a d) :
    OR W S (A ++ [a]) (os ++ [i]) (Γ.set i (some d)) (σ.set i (some (V.ref a))) (upd H a ob) := by
  have nA : a ∉ A := fun z => R.trk a (List.mem_append_left _ z) hn
  have nS : a ∉ S := fun z => R.trk a (List.mem_append_right _ z) hn
  have sm : Same (hid (A ++ S) H) (hid (A ++ [a] ++ S) (upd H a ob)) := fun b o e => by
    obtain ⟨h1, h2⟩ := hid_some e
    have nb : b ≠ a := fun z => by rw [z, hn] at h2; cases h2
    rw [hid_out (by simp only [List.mem_append] at h1; simp only [List.mem_append, List.mem_singleton]; exact fun z => z.elim (fun y => y.elim (fun x => h1 (.inl x)) nb) fun x => h1 (.inr x)), upd_ne nb]
    exact h2
  refine ⟨fun b hb => ?_, ?_, ?_, ?_, by rw [List.length_append, List.length_append, R.len]; rfl, ⟨by rw [wipeD_len, List.length_set, List.length_set, R.gl], fun j e q => ?_⟩, fun k j b g1 g2 => ?_⟩
  · by_cases z : b = a
    · subst z; rw [upd_same]; exact Option.some_ne_none _
    · rw [upd_ne z]
      refine R.trk b ?_
      simp only [List.mem_append, List.mem_singleton] at hb ⊢
      exact hb.elim (fun y => y.elim .inl fun x => absurd x z) .inr
  · exact List.nodup_append.mpr ⟨R.nd, by simp, fun x hx y hy => by rw [List.mem_singleton] at hy; subst hy; exact fun z => nA (by rw [← z]; exact hx)⟩
  · exact List.nodup_append.mpr ⟨R.ndo, by simp, fun x hx y hy => by rw [List.mem_singleton] at hy; subst hy; exact fun z => hi (by rw [← z]; exact hx)⟩
  · intro b hb
    rcases List.mem_append.mp hb with z | z
    · exact R.dis b z
    · rw [List.mem_singleton] at z; subst z; exact nS
  · obtain ⟨q1, q2⟩ := wipeD_some q
    simp only [List.mem_append, List.mem_singleton, not_or] at q1
    rw [List.getElem?_set_ne (Ne.symm q1.2)] at q2
    obtain ⟨u, c1, c2⟩ := R.env.get j e (by rw [wipeD_of q1.1]; exact q2)
    exact ⟨u, by rw [List.getElem?_set_ne (Ne.symm q1.2)]; exact c1, c2.mono sm⟩
  · by_cases hk : k < os.length
    · rw [List.getElem?_append_left hk] at g1
      rw [List.getElem?_append_left (by rw [← R.len]; exact hk)] at g2
      have n1 : i ≠ j := fun y => hi (by rw [y]; exact List.mem_of_getElem? g1)
      have n2 : b ≠ a := fun y => nA (by rw [← y]; exact List.mem_of_getElem? g2)
      obtain ⟨c1, e, c2, c3⟩ := R.own k j b g1 g2
      exact ⟨by rw [List.getElem?_set_ne n1]; exact c1, e, by rw [List.getElem?_set_ne n1]; exact c2, c3.mono sm fun o y => by rw [upd_ne n2]; exact y⟩
    · rw [List.getElem?_append_right (by omega)] at g1
      rw [List.getElem?_append_right (by rw [← R.len]; omega)] at g2
      have ek : k - os.length = 0 := by
        by_cases z : k - os.length = 0
        · exact z
        · rw [List.getElem?_eq_none (by simp; omega)] at g1; cases g1
      rw [ek] at g1
      rw [← R.len, ek] at g2
      cases g1
      cases g2
      exact ⟨List.getElem?_set_self (by rw [← R.gl]; exact hl), d, List.getElem?_set_self hl, h.mono sm fun o y => y⟩
theorem OR.drop {a : Addr} {i : Nat} (R : OR W S (A ++ [a]) (os ++ [i]) Γ σ H) : OR W S A os Γ σ H := by
  have hl : os.length = A.length := by have := R.len; simp only [List.length_append, List.length_singleton] at this; omega
  have sm : Same (hid (A ++ [a] ++ S) H) (hid (A ++ S) H) := hid_less fun b h => by simp only [List.mem_append, List.mem_singleton] at h ⊢; exact h.elim (fun y => .inl (.inl y)) .inr
  have nd := List.nodup_append.mp R.nd
  refine ⟨fun b h => R.trk b (by simp only [List.mem_append, List.mem_singleton] at h ⊢; exact h.elim (fun y => .inl (.inl y)) .inr), nd.1, (List.nodup_append.mp R.ndo).1, fun b h => R.dis b (List.mem_append_left _ h), hl, ⟨by rw [wipeD_len, R.gl], fun j e q => ?_⟩, fun k j b g1 g2 => ?_⟩
  · obtain ⟨q1, q2⟩ := wipeD_some q
    by_cases hj : j = i
    · subst hj
      obtain ⟨c1, e', c2, c3⟩ := R.own os.length j a (by simp) (by rw [hl]; simp)
      rw [c2] at q2
      cases q2
      refine ⟨_, c1, c3.dr sm fun o y => ?_⟩
      have na : a ∉ A := fun z => nd.2.2 a z a (by simp) rfl
      have ns := R.dis a (by simp)
      rw [hid_out (by simp [na, ns])]
      exact y
    · obtain ⟨u, c1, c2⟩ := R.env.get j e (by rw [wipeD_of (by simp [q1, hj])]; exact q2)
      exact ⟨u, c1, c2.mono sm⟩
  · obtain ⟨c1, e, c2, c3⟩ := R.own k j b (by rw [List.getElem?_append_left (List.getElem?_eq_some_iff.mp g1).1]; exact g1) (by rw [List.getElem?_append_left (List.getElem?_eq_some_iff.mp g2).1]; exact g2)
    exact ⟨c1, e, c2, c3.mono sm fun o y => y⟩
end
end G8

/-! G10: expressions and statements that write in place. -/
namespace G8
open L2 PyProof.Rows PySem.Spec PySem

abbrev ZE := DE → Option (PyData × DE)
def tZ (W : Wd) (os : List Nat) (f : ZE) : TE := fun σ H Q => ∃ S A Γ d Γ', OR W S A os Γ σ H ∧ f Γ = some (d, Γ') ∧ ∀ v H', Fr A H H' → OR W S A os Γ' σ H' → DR W (hid (A ++ S) H') v d → Q v H'
def tZs (W : Wd) (os : List Nat) (f : DE → Option (List PyData × DE)) : TA := fun σ H Q => ∃ S A Γ d Γ', OR W S A os Γ σ H ∧ f Γ = some (d, Γ') ∧ ∀ v H', Fr A H H' → OR W S A os Γ' σ H' → DRs W (hid (A ++ S) H') v d → Q v H'
def tZT (W : Wd) (os : List Nat) (f : DE → Option (Bool × DE)) : TT := fun σ H Q => ∃ S A Γ d Γ', OR W S A os Γ σ H ∧ f Γ = some (d, Γ') ∧ ∀ H', Fr A H H' → OR W S A os Γ' σ H' → Q d H'
def tZI (W : Wd) (os : List Nat) (f : DE → Option (List PyData × DE)) : TI := fun σ H R => ∃ S A Γ d Γ', OR W S A os Γ σ H ∧ f Γ = some (d, Γ') ∧ ∀ J H', Fr A H H' → OR W S A os Γ' σ H' → ItD W (hid (A ++ S) H') J d → R J H'
abbrev PZ (X : Cx) (os : List Nat) (e : Expr) (f : ZE) : Prop := PE X e (tZ (wd X) os f)
abbrev PZs (X : Cx) (os : List Nat) (es : List Expr) (f : DE → Option (List PyData × DE)) : Prop := PA X es (tZs (wd X) os f)
abbrev PZT (X : Cx) (os : List Nat) (e : Expr) (f : DE → Option (Bool × DE)) : Prop := PT X e (tZT (wd X) os f)
abbrev PZW (X : Cx) (os : List Nat) (e : Expr) (f : DE → Option (Bool × DE)) : Prop := PW X e (tZT (wd X) os f)
abbrev PZI (X : Cx) (os : List Nat) (tg e : Expr) (f : DE → Option (List PyData × DE)) : Prop := PI X tg e (tZI (wd X) os f)

/-! ### denotations -/
def zB {α β : Type} (f : DE → Option (α × DE)) (k : α → DE → Option β) : DE → Option β := fun Γ => (f Γ).bind fun p => k p.1 p.2
theorem zB_some {α β : Type} {f : DE → Option (α × DE)} {k : α → DE → Option β} {Γ : DE} {b : β} (h : zB f k Γ = some b) : ∃ a Γ1, f Γ = some (a, Γ1) ∧ k a Γ1 = some b := by
  obtain ⟨⟨a, Γ1⟩, h1, h2⟩ := bind_some h
  exact ⟨a, Γ1, h1, h2⟩
def zP (os : List Nat) (f : DE → Option PyData) : ZE := fun Γ => (f (wipeD Γ os)).bind fun d => some (d, Γ)
def scal : PyData → Bool
  | .none => true
  | .bool _ => true
  | .int _ => true
  | .str _ => true
  | _ => false
theorem DR.scal {W : Wd} {H H' : Hp} {v : V} {d : PyData} (h : scal d = true) (r : DR W H v d) : DR W H' v d := by
  cases r with
  | non => exact .non
  | bl b => exact .bl b
  | int i => exact .int i
  | str x => exact .str x
  | lst => cases h
  | tup => cases h
  | dct => cases h
def zF (f : DE → Option PyData) : ZE := fun Γ => (f Γ).bind fun d => if scal d = true then some (d, Γ) else none
def zN : DE → Option (List PyData × DE) := fun Γ => some ([], Γ)
def zC (f : ZE) (g : DE → Option (List PyData × DE)) : DE → Option (List PyData × DE) := zB f fun d => zB g fun ds Γ2 => some (d :: ds, Γ2)
def zTup (g : DE → Option (List PyData × DE)) : ZE := zB g fun ds Γ1 => if ds.length ≤ LIM then some (.tuple ds, Γ1) else none
def zLst (g : DE → Option (List PyData × DE)) : ZE := zB g fun ds Γ1 => if ds.length ≤ LIM then some (.list ds, Γ1) else none
def z2 (o : PyData → PyData → Option PyData) (f g : ZE) : ZE := zB f fun a => zB g fun b Γ2 => (o a b).bind fun r => some (r, Γ2)
def zT2 (o : PyData → PyData → Option PyData) (f g : ZE) : DE → Option (Bool × DE) := zB (z2 o f g) fun d Γ1 => (asB d).bind fun b => some (b, Γ1)
def zTP (t : DE → Option Bool) : DE → Option (Bool × DE) := fun Γ => (t Γ).bind fun b => some (b, Γ)
def zTA (f g : DE → Option (Bool × DE)) : DE → Option (Bool × DE) := zB f fun b Γ1 => if b = true then g Γ1 else some (false, Γ1)
def zCall (i : Nat) (F : PyData → List PyData → Option (PyData × PyData)) (gs : DE → Option (List PyData × DE)) : ZE := zB gs fun ds Γ1 => (eV i Γ1).bind fun o => (F o ds).bind fun p => some (p.1, Γ1.set i (some p.2))
def zIP (os : List Nat) (f : DE → Option (List PyData)) : DE → Option (List PyData × DE) := fun Γ => (f (wipeD Γ os)).bind fun d => some (d, Γ)
def zIR (f : ZE) : DE → Option (List PyData × DE) := zB f fun d Γ1 => (asI d).bind fun n => if n ≤ LIM ∧ -100000 ≤ n then some (rgD 0 n.toNat, Γ1) else none
def zTupOwn (i : Nat) : ZE := fun Γ => (eV i Γ).bind fun o => match o with
  | .list ds => some (.tuple ds, Γ)
  | _ => none
def isLi : PyData → Bool
  | .list _ => true
  | _ => false
def zPop (i : Nat) (f : ZE) : ZE := fun Γ => (eV i Γ).bind fun o => if isLi o = true then zB f (fun d Γ1 => (asI d).bind fun n => (eV i Γ1).bind fun o1 => match o1 with
  | .list ds => if 0 ≤ n then (ds[n.toNat]?).bind fun x => some (x, Γ1.set i (some (.list (ds.eraseIdx n.toNat)))) else none
  | _ => none) Γ else none

section
variable {W : Wd} {os : List Nat} {S A : List Addr} {Γ Γ' : DE} {σ : L2.St} {H : Hp}
theorem tZ_run {f : ZE} {d : PyData} {Q : VK} (R : OR W S A os Γ σ H) (h : f Γ = some (d, Γ')) (k : ∀ v H', Fr A H H' → OR W S A os Γ' σ H' → DR W (hid (A ++ S) H') v d → Q v H') : tZ W os f σ H Q := ⟨S, A, Γ, d, Γ', R, h, k⟩
theorem tZs_run {f : DE → Option (List PyData × DE)} {d : List PyData} {Q : List V → Hp → Prop} (R : OR W S A os Γ σ H) (h : f Γ = some (d, Γ')) (k : ∀ v H', Fr A H H' → OR W S A os Γ' σ H' → DRs W (hid (A ++ S) H') v d → Q v H') : tZs W os f σ H Q := ⟨S, A, Γ, d, Γ', R, h, k⟩
theorem tZT_run {f : DE → Option (Bool × DE)} {d : Bool} {Q : Bool → Hp → Prop} (R : OR W S A os Γ σ H) (h : f Γ = some (d, Γ')) (k : ∀ H', Fr A H H' → OR W S A os Γ' σ H' → Q d H') : tZT W os f σ H Q := ⟨S, A, Γ, d, Γ', R, h, k⟩
end

theorem DRs.eraseIdx {W : Wd} {H : Hp} : ∀ {vs : List V} {ds : List PyData} (k : Nat), DRs W H vs ds → DRs W H (vs.eraseIdx k) (ds.eraseIdx k)
  | _, _, _, .nil => .nil
  | _, _, 0, .cons _ t => t
  | _, _, k + 1, .cons r t => .cons r (DRs.eraseIdx k t)
theorem DRs.setAt {W : Wd} {H : Hp} {v : V} {d : PyData} (r : DR W H v d) : ∀ {vs : List V} {ds : List PyData} (k : Nat), DRs W H vs ds → DRs W H (vs.set k v) (ds.set k d)
  | _, _, _, .nil => .nil
  | _, _, 0, .cons _ t => .cons r t
  | _, _, k + 1, .cons q t => .cons q (DRs.setAt r k t)

/-! ### the promise of a def that draws from the stream in its first place -/
def spZ (W : Wd) (n : Nat) (F : PyData → List PyData → Option (PyData × PyData)) : Sp := fun vs H Q _ => ∃ S p us o ds d o', vs = V.ref p :: us ∧ us.length = n ∧ Trk (p :: S) H ∧ p ∉ S ∧ Own1 W (hid (p :: S) H) H p o ∧ DRs W (hid (p :: S) H) us ds ∧ F o ds = some (d, o') ∧
  ∀ v H', Fr [p] H H' → Own1 W (hid (p :: S) H') H' p o' → DR W (hid (p :: S) H') v d → Q v H'
structure OkZ (P : Program) (w : World) (K : PySem.W.Frag) (mg : Str → Option Value) (base : Heap) (x : Str) (k n : Nat) (F : PyData → List PyData → Option (PyData × PyData)) : Prop where
  len : ∀ o ds r, F o ds = some r → ds.length = n
  ex : ∃ (f : Addr) (fd : FuncData) (ps : List Str), mg x = some (.ref f) ∧ PySem.W.keepIn K (.ref f) = true ∧ Binds K fd ps [] ∧ ps.length = n + 1 ∧ FnOk P w K mg base CX0 k f fd ps (spZ ⟨P, w, K⟩ n F)
theorem OR.called {W : Wd} {S A : List Addr} {os : List Nat} {Γ : DE} {σ : L2.St} {H H' : Hp} {p : Addr} {i : Nat} {o : PyData} (R : OR W S (p :: A) (i :: os) Γ σ H) (f : Fr [p] H H') (h : Own1 W (hid (p :: A ++ S) H') H' p o) : OR W S (p :: A) (i :: os) (Γ.set i (some o)) σ H' := by
  have nd := List.nodup_cons.mp R.nd
  have ndo := List.nodup_cons.mp R.ndo
  have ff : Fr (p :: A) H H' := f.more fun x hx => by rw [List.mem_singleton] at hx; subst hx; exact List.mem_cons_self
  have sm := ff.hidS S
  refine ⟨fun b hb => ?_, R.nd, R.ndo, R.dis, R.len, ⟨by rw [wipeD_len, List.length_set, R.gl], fun j e q => ?_⟩, fun k j b g1 g2 => ?_⟩
  · by_cases z : b = p
    · subst z; exact h.ne
    · intro y
      have := R.trk b hb
      cases e : H b with
      | none => exact this e
      | some ob => rw [f.at (by simp [z]) e] at y; cases y
  · obtain ⟨q1, q2⟩ := wipeD_some q
    rw [List.getElem?_set_ne (fun z => q1 (by rw [← z]; exact List.mem_cons_self))] at q2
    obtain ⟨u, c1, c2⟩ := R.env.get j e (by rw [wipeD_of q1]; exact q2)
    exact ⟨u, c1, c2.mono sm⟩
  · obtain ⟨c1, e, c2, c3⟩ := R.own k j b g1 g2
    cases k with
    | zero =>
      cases g1
      cases g2
      refine ⟨c1, o, List.getElem?_set_self ?_, h⟩
      by_cases y : i < Γ.length
      · exact y
      · rw [List.getElem?_eq_none (by omega)] at c2; cases c2
    | succ k =>
      have m1 : j ∈ os := List.mem_of_getElem? (by simpa using g1)
      have m2 : b ∈ A := List.mem_of_getElem? (by simpa using g2)
      have n1 : i ≠ j := fun z => ndo.1 (by rw [z]; exact m1)
      have n2 : b ≠ p := fun z => nd.1 (by rw [← z]; exact m2)
      exact ⟨c1, e, by rw [List.getElem?_set_ne n1]; exact c2, c3.mono sm fun ob y => f.at (by simp [n2]) y⟩

section
variable {X : Cx} {os : List Nat} {a b e : Expr} {es rest : List Expr} {f g fa fb : ZE} {gs : DE → Option (List PyData × DE)} {p pos : Pos}
/-! ### expressions -/
theorem z_pure {h : DE → Option PyData} (he : PD X e h) : PZ X os e (zP os h) := peOf he fun σ H Q ⟨S, A, Γ, d, Γ', R, hf, k⟩ => by
  obtain ⟨x, h1, h2⟩ := bind_some hf
  cases h2
  exact tD_run R.trk R.env h1 fun v H' s t en r => k v H' (.of s) (R.mono s) r
theorem z_scal {h : DE → Option PyData} (he : PD X e h) : PZ X os e (zF h) := peOf he fun σ H Q ⟨S, A, Γ, d, Γ', R, hf, k⟩ => by
  obtain ⟨x, h1, h2⟩ := bind_some hf
  split at h2
  · rename_i hs
    cases h2
    exact tD_run R.trkS R.full h1 fun v H' s t en r => k v H' (.of s) (R.mono s) (r.scal hs)
  · cases h2
theorem zs_nil : PZs X os [] zN := paOf pa_nil fun σ H Q ⟨S, A, Γ, d, Γ', R, hf, k⟩ => by cases hf; exact k _ H (.refl _ _) R .nil
theorem zs_cons (ha : PZ X os e f) (hr : PZs X os es gs) (hs : starEach (e :: es) X.env = (false, eval e X.env) :: starEach es X.env := by rfl) : PZs X os (e :: es) (zC f gs) :=
  paOf (pa_cons ha hr hs) fun σ H Q ⟨S, A, Γ, d, Γ', R, hf, k⟩ => by
    obtain ⟨x, Γ1, h1, h2⟩ := zB_some hf
    obtain ⟨xs, Γ2, h3, h4⟩ := zB_some h2
    cases h4
    exact tZ_run R h1 fun v H1 f1 R1 r1 => tZs_run R1 h3 fun vs H2 f2 R2 r2 => k _ H2 (f1.trans f2) R2 (.cons (r1.mono (f2.hidS S)) r2)
theorem z_tup {x1} (h : PZs X os es gs) : PZ X os (.Tuple es x1 pos) (zTup gs) := peOf (pe_tupF h) fun σ H Q ⟨S, A, Γ, d, Γ', R, hf, k⟩ => by
  obtain ⟨ds, Γ1, h0, h1⟩ := zB_some hf
  split at h1
  · rename_i hz
    cases h1
    exact tZs_run R h0 fun vs H1 f1 R1 r1 => ⟨lim_line (by rw [r1.length]; exact hz), fun p o hp ho => k _ _ (f1.trans (Fr.of (same_new hp))) (R1.mono (same_new hp)) (.newT R1.trk hp ho (by rw [r1.length]; exact hz) r1)⟩
  · cases h1
theorem z_lst (h : PZs X os es gs) : PZ X os (.List es pos) (zLst gs) := peOf (pe_lst h) fun σ H Q ⟨S, A, Γ, d, Γ', R, hf, k⟩ => by
  obtain ⟨ds, Γ1, h0, h1⟩ := zB_some hf
  split at h1
  · rename_i hz
    cases h1
    exact tZs_run R h0 fun vs H1 f1 R1 r1 => ⟨lim_line (by rw [r1.length]; exact hz), fun p hp => k _ _ (f1.trans (Fr.of (same_new hp))) (R1.mono (same_new hp)) (.newL R1.trk hp (by rw [r1.length]; exact hz) r1)⟩
  · cases h1
theorem z_opk {g2 : PyData → PyData → Option PyData} {σ : L2.St} {H : Hp} {Q : VK} (h : tZ (wd X) os (z2 g2 fa fb) σ H Q) : tOp (rD2 (wd X) g2) (tZ (wd X) os fa) (tZ (wd X) os fb) σ H Q := by
  obtain ⟨S, A, Γ, d, Γ', R, hf, k⟩ := h
  obtain ⟨x, Γ1, h1, h2⟩ := zB_some hf
  obtain ⟨y, Γ2, h3, h4⟩ := zB_some h2
  obtain ⟨r, h5, h6⟩ := bind_some h4
  cases h6
  exact tZ_run R h1 fun v H1 f1 R1 r1 => tZ_run R1 h3 fun u H2 f2 R2 r2 => ⟨A ++ S, x, y, d, R2.trk, r1.mono (f2.hidS S), r2, h5, fun w H3 s3 r3 => k w H3 ((f1.trans f2).trans (Fr.of s3)) (R2.mono s3) r3⟩
theorem z_op {op : Operator} {g2 : PyData → PyData → Option PyData} (ho : OpD X (binaryOp op) g2) (ha : PZ X os a fa) (hb : PZ X os b fb) : PZ X os (.BinOp a op b pos) (z2 g2 fa fb) :=
  peOf (pe_op ho ha hb) fun σ H Q h => z_opk h
theorem z_ix {g2 : PyData → PyData → Option PyData} (hr : IxR X (rD2 (wd X) g2)) (ha : PZ X os a fa) (hb : PZ X os b fb) (hs : PlainIx b := by intro _ _; rfl) : PZ X os (.Subscript a b pos) (z2 g2 fa fb) :=
  peOf (pe_ix hr ha hb hs) fun σ H Q h => z_opk h
theorem zt_cmp {op : CmpOp} {g2 : PyData → PyData → Option PyData} (ho : OpD X (compareOp op) g2) (ha : PZ X os a fa) (hb : PZ X os b fb) (hm : behindInMarks op b = false := by first | exact nomark _ | rfl) : PZT X os (.Compare a [op] [b] pos) (zT2 g2 fa fb) :=
  ptOf (pt_cmpR ho ha hb hm) fun σ H Q ⟨S, A, Γ, c, Γ', R, hf, k⟩ => by
    obtain ⟨d, Γ1, h0, hc⟩ := zB_some hf
    obtain ⟨q, h1, h2⟩ := bind_some hc
    cases h2
    refine z_opk (tZ_run R h0 fun v H1 f1 R1 r1 => ?_)
    cases d with
    | bool z => cases h1; cases r1; exact ⟨_, rfl, k H1 f1 R1⟩
    | _ => cases h1
theorem zt_pure {t : DE → Option Bool} (ht : PDT X e t) : PZT X os e (zTP t) := ptOf ht fun σ H Q ⟨S, A, Γ, c, Γ', R, hf, k⟩ => by
  obtain ⟨x, h1, h2⟩ := bind_some hf
  cases h2
  exact tDT_run R.trkS R.full h1 fun H' s t en => k H' (.of s) (R.mono s)
theorem zw_and1 {t : DE → Option (Bool × DE)} (ha : PZT X os a t) : PZW X os (.BoolOp .And [a] pos) t := pw_and1 ha
theorem zw_and {t u : DE → Option (Bool × DE)} (ha : PZT X os a t) (hb : PZW X os (.BoolOp .And (b :: rest) pos) u) : PZW X os (.BoolOp .And (a :: b :: rest) pos) (zTA t u) :=
  pwOf (pw_and ha hb) fun σ H Q ⟨S, A, Γ, c, Γ', R, hf, k⟩ => by
    obtain ⟨d, Γ1, h0, hc⟩ := zB_some hf
    refine tZT_run R h0 fun H1 f1 R1 => ?_
    cases d with
    | true =>
      rw [if_pos rfl] at hc ⊢
      exact tZT_run R1 hc fun H2 f2 R2 => k H2 (f1.trans f2) R2
    | false =>
      rw [if_neg Bool.false_ne_true] at hc ⊢
      cases hc
      exact k H1 f1 R1
/-- a call that draws -/
theorem z_call {py : Pos} {y x : Str} {i j k n : Nat} {F : PyData → List PyData → Option (PyData × PyData)} (G : OkZ X.prog X.w X.K X.mg X.base x k n F) (hr : Room j X.A) (hk : k ≤ j) (ha : PZs X (i :: os) es gs) (hN : X.N[i]? = some y := by rfl)
    (hv : Vis X.env.scope y := by first | exact Or.inl rfl | exact Or.inr (Or.inl rfl) | exact Or.inr (Or.inr rfl)) (hd : (y == ("__debug__" : Str)) = false := by decide) (hcd : (y == ("__classdict__" : Str)) = false := by decide)
    (hg : Gl X x := by rfl) (hdb : (x == ("__debug__" : Str)) = false := by decide) (he : starEach (.Name y py :: es) X.env = (false, eval (.Name y py) X.env) :: starEach es X.env := by rfl) (hpl : (backTo pos (starEach es X.env)).any (·.1) = false := by rfl) :
    PZ X (i :: os) (.Call (.Name x p) (.Name y py :: es) [] pos) (zCall i F gs) := by
  obtain ⟨f, fd, ps, h1, h2, h3, h4, h5⟩ := G.ex
  exact peOf (pe_call h5 (hr.mono hk) hg h1 h2 h3 .nil pass0 (pa_cons (pe_var hN hv hd hcd) ha he) hdb he hpl) fun σ H Q ⟨S, A, Γ, d, Γ', R, hf, k⟩ => by
    obtain ⟨ds, Γ1, c1, c2⟩ := zB_some hf
    obtain ⟨o, c3, c4⟩ := bind_some c2
    obtain ⟨⟨d', o'⟩, c5, c6⟩ := bind_some c4
    cases c6
    match A, R, k with
    | [], R, _ => have := R.len; simp at this
    | p :: A, R, k =>
      obtain ⟨e1, _⟩ := R.own 0 i p rfl rfl
      refine ⟨_, e1, tZs_run R c1 fun vs H1 f1 R1 r1 => ?_⟩
      obtain ⟨_, o1, e2, e3⟩ := R1.own 0 i p rfl rfl
      have : o1 = o := by have := eV_get i Γ1 o c3; rw [e2] at this; cases this; rfl
      subst this
      have nd := List.nodup_cons.mp R1.nd
      exact ⟨A ++ S, p, vs, o1, ds, d', o', by rw [List.append_nil], by rw [r1.length]; exact G.len _ _ _ c5, R1.trk, by rw [List.mem_append]; exact fun z => z.elim nd.1 (R1.dis p List.mem_cons_self), e3, r1, c5,
        fun w H2 f2 o2 r2 => k w H2 (f1.trans (f2.more fun x hx => by rw [List.mem_singleton] at hx; subst hx; exact List.mem_cons_self)) (R1.called f2 o2) r2⟩
/-- tuple(a list of one's own) -/
theorem z_tupOwn (i : Nat) {py : Pos} {y : Str} (hi : i ∈ os) (hm : X.mg "tuple" = none) (hN : X.N[i]? = some y := by rfl)
    (hv : Vis X.env.scope y := by first | exact Or.inl rfl | exact Or.inr (Or.inl rfl) | exact Or.inr (Or.inr rfl)) (hd : (y == ("__debug__" : Str)) = false := by decide) (hcd : (y == ("__classdict__" : Str)) = false := by decide)
    (hg : Gl X "tuple" := by rfl) (he : starEach (.Name y py :: []) X.env = (false, eval (.Name y py) X.env) :: starEach [] X.env := by rfl) :
    PZ X os (.Call (.Name "tuple" p) [.Name y py] [] pos) (zTupOwn i) :=
  peOf (pe_callTy call_tupF hg hm (by decide +kernel) (pa_cons (pe_var hN hv hd hcd) pa_nil he) (by decide) (by decide) he rfl) fun σ H Q ⟨S, A, Γ, d, Γ', R, hf, k⟩ => by
    obtain ⟨o, c1, c2⟩ := bind_some hf
    obtain ⟨q, a, o', e1, e2, e3, e4, e5⟩ := R.posn hi
    have : o' = o := by have := eV_get i Γ o c1; rw [e4] at this; cases this; rfl
    subst this
    refine ⟨_, e3, a, ?_⟩
    cases e5 with
    | lst g1 g2 g3 =>
      cases c2
      exact ⟨_, rfl, .inl ⟨SqL.of g1, fun l ob hl ho => k _ _ (.of (same_new hl)) (R.mono (same_new hl)) (.newT R.trk hl ho g2 g3)⟩⟩
    | dct => cases c2
/-- x.pop(e), x a list of one's own -/
theorem z_pop (i : Nat) {py apos : Pos} {y : Str} (hi : i ∈ os) (ha : PZ X os e f) (hN : X.N[i]? = some y := by rfl)
    (hv : Vis X.env.scope y := by first | exact Or.inl rfl | exact Or.inr (Or.inl rfl) | exact Or.inr (Or.inr rfl)) (hd : (y == ("__debug__" : Str)) = false := by decide) (hcd : (y == ("__classdict__" : Str)) = false := by decide)
    (hbase : attributeBase (.Name y py) "pop" X.env (eval (.Name y py) X.env) = eval (.Name y py) X.env := by rfl)
    (hfew : ((backTo pos (starEach (e :: []) X.env)).all (fun x => !x.1) && (backToKw pos (keywordEach [] X.env)).all (fun x => x.1.isSome) && decide ((e :: []).length + ([] : List Keyword).length + (if ([] : List Keyword).isEmpty then 0 else 1) < 30)) = true := by rfl)
    (hline : (apos.endLine == pos.line) = true := by rfl) (hs : starEach (e :: []) X.env = (false, eval e X.env) :: starEach [] X.env := by rfl) :
    PZ X os (.Call (.Attribute (.Name y py) "pop" apos) [e] [] pos) (zPop i f) :=
  peOf (pe_bm PySem.F.plainAttrs_list PySem.F.slot_list_pop PySem.F.type_list_pop (show MtR X "list.pop" _ from mt_popAt) (pe_var hN hv hd hcd) (pa_cons ha pa_nil hs) hbase hfew hline hs rfl) fun σ H Q ⟨S, A, Γ, d, Γ', R, hf, k⟩ => by
    obtain ⟨o, c1, c2⟩ := bind_some hf
    split at c2
    · rename_i hl
      obtain ⟨q, a, o', e1, e2, e3, e4, e5⟩ := R.posn hi
      have : o' = o := by have := eV_get i Γ o c1; rw [e4] at this; cases this; rfl
      subst this
      obtain ⟨x, Γ1, c3, c4⟩ := zB_some c2
      obtain ⟨n, c5, c6⟩ := bind_some c4
      obtain ⟨o1, c7, c8⟩ := bind_some c6
      refine ⟨_, e3, ?_, tZ_run R c3 fun v H1 f1 R1 r1 => ?_⟩
      · cases e5 with
        | lst g1 g2 g3 => exact .inl ⟨rfl, _, SqL.of g1⟩
        | dct => cases hl
      · obtain ⟨_, o2, e6, e7⟩ := R1.own q i a e1 e2
        have : o2 = o1 := by have := eV_get i Γ1 o1 c7; rw [e6] at this; cases this; rfl
        subst this
        cases e7 with
        | dct => cases c8
        | @lst xs ds g1 g2 g3 =>
          simp only at c8
          split at c8
          · rename_i hn
            obtain ⟨w, c9, c10⟩ := bind_some c8
            cases c10
            cases x with
            | int m =>
              cases c5
              rw [r1.unI]
              obtain ⟨u, hu, ru⟩ := g3.get c9
              have hlt : n.toNat < xs.length := (List.getElem?_eq_some_iff.mp hu).1
              have hlim : xs.length ≤ 100000 := g2
              have ei : seqIndex? n xs.length = some n.toNat := by
                refine seqIndex_of hn ?_
                first | exact hlt | omega
              refine ⟨a, xs, n, n.toNat, u, rfl, rfl, g1, by omega, by omega, ei, hu, ?_⟩
              obtain ⟨R2, f2⟩ := R1.write e1 e2 (ob := .lst (xs.eraseIdx n.toNat)) (d := .list (ds.eraseIdx n.toNat)) (.lst (by rw [upd_same]) (Nat.le_trans (len_erase _ _) g2) (g3.eraseIdx _))
              exact k _ _ (f1.trans f2) R2 (by rw [hid_upd_in (List.mem_append_left _ (List.mem_of_getElem? e2))]; exact ru)
            | _ => cases c5
          · cases c8
    · cases c2
/-! ### what is walked -/
theorem zi_pure {tg : Expr} {h : DE → Option (List PyData)} (he : PId X tg e h) : PZI X os tg e (zIP os h) := piOf he fun σ H R' ⟨S, A, Γ, d, Γ', R, hf, k⟩ => by
  obtain ⟨x, h1, h2⟩ := bind_some hf
  cases h2
  exact ⟨A ++ S, _, d, R.trk, R.env, h1, fun J H' s it => k J H' (.of s) (R.mono s) it⟩
theorem zi_range {tg : Expr} (hm : X.mg "range" = none) (h : PZ X os e f) (hg : Gl X "range" := by rfl) (hs : starEach [e] X.env = [(false, eval e X.env)] := by rfl) (hs' : starEach [e] X.env = (false, eval e X.env) :: starEach [] X.env := by rfl) : PZI X os tg (.Call (.Name "range" p) [e] [] pos) (zIR f) :=
  piOf (pi_range1 hg hm (pa_cons h pa_nil hs') hs) fun σ H R' ⟨S, A, Γ, d, Γ', R, hf, k⟩ => by
    obtain ⟨x, Γ1, h1, h2⟩ := zB_some hf
    obtain ⟨n, h3, h4⟩ := bind_some h2
    split at h4
    · rename_i hn
      cases h4
      refine tZ_run R h1 fun v H1 f1 R1 r1 => ?_
      cases x with
      | int j =>
        cases h3
        have hn' : n ≤ 100000 := hn.1
        have hn2 : -100000 ≤ n := hn.2
        exact ⟨n, by rw [r1.unI], by omega, by omega, k _ H1 f1 R1 (itd_range (by show _ ≤ 100000; omega))⟩
      | _ => cases h3
    · cases h4
end
end G8

/-! G11: statements that write in place; defs made of them. -/
namespace G8
open L2 PyProof.Rows PySem.Spec PySem

inductive ZOut where
  | nx (Γ : DE)
  | rt (d : PyData) (Γ : DE)
abbrev ZG := DE → Option ZOut
def OB (W : Wd) (S A : List Addr) (os : List Nat) (Γ : DE) (H : Hp) : Prop := ∀ (k i : Nat) (a : Addr), os[k]? = some i → A[k]? = some a → ∃ d, Γ[i]? = some (some d) ∧ Own1 W (hid (A ++ S) H) H a d
def tZS (W : Wd) (n : Nat) (os : List Nat) (g : ZG) : TS := fun D σ H => ∃ S A Γ o, OR W S A os Γ σ H ∧ g Γ = some o ∧ (∀ Γ', o = .nx Γ' → ∀ σ' H', Fr A H H' → OR W S A os Γ' σ' H' → D.nx σ' H') ∧
  ∀ d Γ', o = .rt d Γ' → ∀ v H', Fr A H H' → OB W S (A.take n) (os.take n) Γ' H' → DR W (hid (A.take n ++ S) H') v d → D.rt v H'
abbrev PZS (X : Cx) (n : Nat) (os : List Nat) (st : Stmt) (g : ZG) : Prop := PS X st (tZS (wd X) n os g)
abbrev PZSs (X : Cx) (n : Nat) (os : List Nat) (sts : List Stmt) (g : ZG) : Prop := PSs X sts (tZS (wd X) n os g)
theorem OR.base {W : Wd} {S A : List Addr} {os : List Nat} {Γ : DE} {σ : L2.St} {H : Hp} (R : OR W S A os Γ σ H) (n : Nat) : OB W S (A.take n) (os.take n) Γ H := fun k i a h1 h2 => by
  have g1 : os[k]? = some i := by
    rw [List.getElem?_take] at h1
    split at h1
    · exact h1
    · cases h1
  have g2 : A[k]? = some a := by
    rw [List.getElem?_take] at h2
    split at h2
    · exact h2
    · cases h2
  obtain ⟨_, d, c1, c2⟩ := R.own k i a g1 g2
  exact ⟨d, c1, c2.mono (hid_less fun b hb => (List.mem_append.mp hb).elim (fun y => List.mem_append_left _ (List.mem_of_mem_take y)) (List.mem_append_right _)) fun o e => e⟩
theorem DR.base {W : Wd} {S A : List Addr} {H : Hp} {v : V} {d : PyData} (r : DR W (hid (A ++ S) H) v d) (n : Nat) : DR W (hid (A.take n ++ S) H) v d :=
  r.mono (hid_less fun b hb => (List.mem_append.mp hb).elim (fun y => List.mem_append_left _ (List.mem_of_mem_take y)) (List.mem_append_right _))

/-! ### denotations -/
def zNx : ZG := fun Γ => some (.nx Γ)
def zSeq (g h : ZG) : ZG := fun Γ => (g Γ).bind fun o => match o with
  | .nx Γ' => h Γ'
  | .rt d Γ' => some (.rt d Γ')
def zSet (i : Nat) (f : ZE) : ZG := zB f fun d Γ1 => some (.nx (Γ1.set i (some d)))
def zPut (is : List Nat) (m : PyData → Option (List PyData)) (f : ZE) : ZG := zB f fun d Γ1 => (m d).bind fun ds => some (.nx (setAllD Γ1 is ds))
def zRet (f : ZE) : ZG := zB f fun d Γ1 => some (.rt d Γ1)
def zIf (t : DE → Option (Bool × DE)) (g h : ZG) : ZG := zB t fun b Γ1 => if b = true then g Γ1 else h Γ1
def zLoop (m : PyData → Option (List PyData)) (is : List Nat) (b : ZG) : List PyData → DE → Option ZOut
  | [], Γ => some (.nx Γ)
  | d :: ds, Γ => (m d).bind fun es => (b (setAllD Γ is es)).bind fun o => match o with
    | .nx Γ' => zLoop m is b ds Γ'
    | .rt r Γ' => some (.rt r Γ')
def zFor (it : DE → Option (List PyData × DE)) (m : PyData → Option (List PyData)) (is : List Nat) (b : ZG) : ZG := zB it fun ds Γ1 => zLoop m is b ds Γ1
def zNew (os : List Nat) (i : Nat) (f : DE → Option PyData) (g : ZG) : ZG := fun Γ => if i < Γ.length then (f (wipeD Γ os)).bind fun d => g (Γ.set i (some d)) else none
def zApp (i : Nat) (f : ZE) : ZG := fun Γ => (eV i Γ).bind fun o => if isLi o = true then zB f (fun d Γ1 => (eV i Γ1).bind fun o1 => match o1 with
  | .list ds => if ds.length < LIM then some (.nx (Γ1.set i (some (.list (ds ++ [d]))))) else none
  | _ => none) Γ else none
def zSetIx (i k : Nat) (f : ZE) : ZG := zB f fun d Γ1 => (eV i Γ1).bind fun o1 => match o1 with
  | .list ds => if k < ds.length then some (.nx (Γ1.set i (some (.list (ds.set k d))))) else none
  | _ => none
def zDset (os : List Nat) (i : Nat) (fk fv : DE → Option PyData) : ZG := fun Γ => (fv (wipeD Γ os)).bind fun v => (fk (wipeD Γ os)).bind fun k => (tkD k).bind fun nk => (eV i Γ).bind fun o => match o with
  | .dict kds => if (dgetD kds nk).isNone = true ∧ kds.length < LIM then some (.nx (Γ.set i (some (.dict (kds ++ [(k, v)]))))) else none
  | _ => none
def zRel (g : ZG) : ZG := fun Γ => (g Γ).bind fun o => match o with
  | .nx _ => none
  | .rt d Γ' => some (.rt d Γ')
def zL (g : DE → Option Out) : ZG := fun Γ => (g Γ).bind fun o => match o with
  | .nx Γ' => some (.nx Γ')
  | .rt d => some (.rt d [])

/-! ### a new thing of one's own -/
def tNewZ (W : Wd) (os : List Nat) (f : DE → Option PyData) : TE := fun σ H Q => ∃ S A Γ d, OR W S A os Γ σ H ∧ f (wipeD Γ os) = some d ∧ ∀ p H1 ob, Same H H1 → H1 p = none → Own1 W (hid (A ++ S) H1) (upd H1 p ob) p d → Q (V.ref p) (upd H1 p ob)
abbrev PN (X : Cx) (os : List Nat) (e : Expr) (f : DE → Option PyData) : Prop := PE X e (tNewZ (wd X) os f)
def spN (W : Wd) (n : Nat) (F : List PyData → Option PyData) : Sp := fun vs H Q _ => ∃ S ds d, vs.length = n ∧ Trk S H ∧ DRs W (hid S H) vs ds ∧ F ds = some d ∧ ∀ p H1 ob, Same H H1 → H1 p = none → Own1 W (hid S H1) (upd H1 p ob) p d → Q (V.ref p) (upd H1 p ob)
structure OkN (P : Program) (w : World) (K : PySem.W.Frag) (mg : Str → Option Value) (base : Heap) (x : Str) (k n : Nat) (F : List PyData → Option PyData) : Prop where
  len : ∀ ds d, F ds = some d → ds.length = n
  ex : ∃ (f : Addr) (fd : FuncData) (ps : List Str), mg x = some (.ref f) ∧ PySem.W.keepIn K (.ref f) = true ∧ Binds K fd ps [] ∧ ps.length = n ∧ FnOk P w K mg base CX0 k f fd ps (spN ⟨P, w, K⟩ n F)
section
variable {X : Cx} {os : List Nat} {n : Nat} {e : Expr} {es : List Expr} {p pos : Pos} {f : ZE} {g h : ZG} {st : Stmt} {rest : List Stmt}
theorem n_lst {gs : DE → Option (List PyData)} (hs : PDs X es gs) : PN X os (.List es pos) (eLst gs) := peOf (pe_lst hs) fun σ H Q ⟨S, A, Γ, d, R, hf, k⟩ => by
  obtain ⟨ds, h0, h1⟩ := bind_some hf
  obtain ⟨h2, rfl⟩ := gd_some h1
  have h2 := of_decide_eq_true h2
  exact tDs_run R.trk R.env h0 fun vs H1 s1 t1 en1 r1 => ⟨lim_line (by rw [r1.length]; exact h2), fun p hp => k _ _ _ s1 hp (.lst (by rw [upd_same]) (by rw [r1.length]; exact h2) r1)⟩
theorem n_rgL {e : Expr} {f : DE → Option PyData} {p q pos pos' : Pos} (hc : X.calm = true) (hm : X.mg "list" = none) (hm2 : X.mg "range" = none) (he : PD X e f) (hg : Gl X "list" := by rfl) (hg2 : Gl X "range" := by rfl)
    (na : starEach [.Call (.Name "range" q) [e] [] pos'] X.env = (false, eval (.Call (.Name "range" q) [e] [] pos') X.env) :: starEach [] X.env := by rfl) (nb : starEach [e] X.env = (false, eval e X.env) :: starEach [] X.env := by rfl) :
    PN X os (.Call (.Name "list" p) [.Call (.Name "range" q) [e] [] pos'] [] pos) (eRgL f) :=
  peOf (pe_listRg hc hg hm (prg_1 hg2 hm2 he nb) na) fun σ H Q ⟨S, A, Γ, d, R, hf, k⟩ => by
    obtain ⟨x, h1, h2⟩ := bind_some hf
    obtain ⟨n, h3, h4⟩ := bind_some h2
    obtain ⟨h5, rfl⟩ := gd_some h4
    obtain ⟨ok, hz⟩ := rg_ok (of_decide_eq_true h5)
    refine tD_run R.trk R.env h1 fun v H1 s1 t1 en1 r1 => ?_
    cases x with
    | int j =>
      cases h3
      exact ⟨_, r1.unI, ok, fun p hp => k _ _ _ s1 hp (.lst (by rw [upd_same]) hz (upTo_DR _))⟩
    | _ => cases h3
def eD0 : DE → Option PyData := fun _ => some (.dict [])
theorem n_dict : PN X os (.Dict [] [] pos) eD0 := peOf pe_dnewN fun σ H Q ⟨S, A, Γ, d, R, hf, k⟩ => by
  cases hf
  exact fun p o hp hs D => k p H _ (Same.refl H) hp (.dct (by rw [upd_same]) hs (Nat.zero_le _) D .nil)
theorem n_call {gs : DE → Option (List PyData)} {x : Str} {j k n : Nat} {F : List PyData → Option PyData} (G : OkN X.prog X.w X.K X.mg X.base x k n F) (hr : Room j X.A) (hk : k ≤ j) (ha : PDs X (e :: es) gs) (hg : Gl X x := by rfl)
    (hdb : (x == ("__debug__" : Str)) = false := by decide) (he : starEach (e :: es) X.env = (false, eval e X.env) :: starEach es X.env := by rfl) (hpl : (backTo pos (starEach es X.env)).any (·.1) = false := by rfl) : PN X os (.Call (.Name x p) (e :: es) [] pos) (eCall F gs) := by
  obtain ⟨f, fd, ps, h1, h2, h3, h4, h5⟩ := G.ex
  exact peOf (pe_call h5 (hr.mono hk) hg h1 h2 h3 .nil pass0 ha hdb he hpl) fun σ H Q ⟨S, A, Γ, d, R, hf, k⟩ => by
    obtain ⟨ds, h0, h6⟩ := bind_some hf
    exact tDs_run R.trk R.env h0 fun vs H1 s1 t1 en1 r1 => ⟨A ++ S, ds, d, by rw [List.append_nil, r1.length]; exact G.len ds d h6, t1, by rw [List.append_nil]; exact r1, h6, fun p H2 ob s2 hp o1 => k p H2 ob (s1.trans s2) hp o1⟩

/-! ### statements -/
theorem zss_nil : PZSs X n os [] zNx := pssOf pss_nil fun D σ H ⟨S, A, Γ, o, R, hf, kn, _⟩ => by cases hf; exact kn Γ rfl σ H (.refl _ _) R
theorem zss_one (a : PZS X n os st g) : PZSs X n os [st] g := pss_one a
theorem zss_cons (a : PZS X n os st g) (b : PZSs X n os rest h) : PZSs X n os (st :: rest) (zSeq g h) := pssOf (pss_cons a b) fun D σ H ⟨S, A, Γ, o, R, hf, kn, kr⟩ => by
  obtain ⟨o1, h1, h2⟩ := bind_some hf
  refine ⟨S, A, Γ, o1, R, h1, fun Γ1 e σ1 H1 f1 R1 => ?_, fun d Γ1 e v H1 f1 B1 r1 => ?_⟩
  · subst e
    exact ⟨S, A, Γ1, o, R1, h2, fun Γ2 e σ2 H2 f2 R2 => kn Γ2 e σ2 H2 (f1.trans f2) R2, fun d Γ2 e v H2 f2 B2 r2 => kr d Γ2 e v H2 (f1.trans f2) B2 r2⟩
  · subst e
    cases h2
    exact kr d Γ1 rfl v H1 f1 B1 r1
theorem zs_fail : PZS X n os st (fun _ => none) := ⟨fun _ _ _ _ _ _ ⟨_, _, _, _, _, hf, _⟩ => nomatch hf⟩
theorem zs_set (i : Nat) {x : Str} {pos' : Pos} (he : PZ X os e f) (hN : X.N.Nodup) (ho : i ∉ os := by decide) (hi : X.N[i]? = some x := by rfl) (hx : Loc X.env.scope x := by first | exact Or.inl rfl | exact Or.inr rfl) (hs : swapsWith e (some (.Name x pos')) pos.line X.env = pure false := by rfl)
    (hf : X.fn x = true ∨ X.env.scope.names.lookup x = some .local := by first | exact .inl rfl | exact .inr rfl) : PZS X n os (.Assign [.Name x pos'] e pos) (zSet i f) :=
  psOf (ps_set hN hi hx he hs hf) fun D σ H ⟨S, A, Γ, o, R, hf, kn, _⟩ => by
    obtain ⟨d, Γ1, h1, h2⟩ := zB_some hf
    cases h2
    exact tZ_run R h1 fun v H1 f1 R1 r1 => kn _ rfl _ H1 f1 (R1.set ho r1)
theorem zs_put {tg : Expr} {tgt : TG} {is : List Nat} {m : PyData → Option (List PyData)} (he : PZ X os e f) (hgg : TgOk (wd X) tgt is m) (hg : PG X tg tgt) (ho : ∀ i ∈ is, i ∉ os := by decide) (hs : swapsWithSole [tg] e pos.line X.env = pure false := by rfl) (hw : swappedStores [tg] e X.env = pure none := by rfl)
    (h1 : (assignEach [tg] X.env).map (·.2) = [assign tg X.env] := by rfl) : PZS X n os (.Assign [tg] e pos) (zPut is m f) :=
  psOf (ps_asg he hg hs hw h1) fun D σ H ⟨S, A, Γ, o, R, hf, kn, _⟩ => by
    obtain ⟨d, Γ1, h1, h2⟩ := zB_some hf
    obtain ⟨ds, h3, h4⟩ := bind_some h2
    cases h4
    exact tZ_run R h1 fun v H1 f1 R1 r1 => hgg v d ds σ H1 (A ++ S) _ r1 h3 fun vs rs => kn _ rfl _ H1 f1 (R1.setAll ho rs)
theorem zs_ret (he : PZ X os e f) : PZS X n os (.Return (some e) pos) (zRet f) := psOf (ps_ret he) fun D σ H ⟨S, A, Γ, o, R, hf, _, kr⟩ => by
  obtain ⟨d, Γ1, h1, h2⟩ := zB_some hf
  cases h2
  exact tZ_run R h1 fun v H1 f1 R1 r1 => kr d Γ1 rfl v H1 f1 (R1.base n) (r1.base n)
theorem zs_if {t : DE → Option (Bool × DE)} {c : Expr} {a b : List Stmt} (hc : PZT X os c t) (ha : PZSs X n os a g) (hb : PZSs X n os b h) : PZS X n os (.If c a b pos) (zIf t g h) := psOf (ps_if hc ha hb) fun D σ H ⟨S, A, Γ, o, R, hf, kn, kr⟩ => by
  obtain ⟨z, Γ1, h1, h2⟩ := zB_some hf
  refine tZT_run R h1 fun H1 f1 R1 => ?_
  have go : ∀ {g' : ZG}, g' Γ1 = some o → tZS (wd X) n os g' D σ H1 := fun {g'} q => ⟨S, A, Γ1, o, R1, q, fun Γ2 e σ2 H2 f2 R2 => kn Γ2 e σ2 H2 (f1.trans f2) R2, fun d Γ2 e v H2 f2 B2 r2 => kr d Γ2 e v H2 (f1.trans f2) B2 r2⟩
  cases z with
  | true => rw [if_pos rfl] at h2 ⊢; exact go h2
  | false => rw [if_neg Bool.false_ne_true] at h2 ⊢; exact go h2
theorem zs_for {tg iter : Expr} {body : List Stmt} {it : DE → Option (List PyData × DE)} {tgt : TG} {is : List Nat} {m : PyData → Option (List PyData)} (hp : PassesOwn (model X.prog X.w) X.A X.env X.xe) (hc : X.calm = true) (hi : PZI X os tg iter it) (hgg : TgOk (wd X) tgt is m) (hg : PG X tg tgt) (hb : PZSs X n os body g)
    (ho : ∀ i ∈ is, i ∉ os := by decide) (hs : ∀ x, foldedSetIterable iter X.env x = pure x := by intro _; rfl) : PZS X n os (.For tg iter body [] pos) (zFor it m is g) :=
  psOf (ps_for hp hc hi hg hb hs) fun D σ H ⟨S, A, Γ, o, R, hf, kn, kr⟩ => by
    obtain ⟨ds, Γ1, h1, h2⟩ := zB_some hf
    refine ⟨S, A, Γ, ds, Γ1, R, h1, fun J H1 f1 R1 IT => ?_⟩
    refine ⟨fun i mm σ' H' => mm = ds.length - i ∧ i ≤ ds.length ∧ Fr A H1 H' ∧ ∃ Γ', OR (wd X) S A os Γ' σ' H' ∧ zLoop m is g (ds.drop i) Γ' = some o, ⟨_, rfl, Nat.zero_le _, .refl _ _, Γ1, R1, by rw [List.drop_zero]; exact h2⟩, ?_⟩
    rintro i mm σ' H' ⟨rfl, hle, f2, Γ', R', hl⟩
    have v1 : Same (hid (A ++ S) H1) (hid (A ++ S) H') := f2.hidS S
    have v0 : Same (hid (A ++ S) H1) H' := v1.trans (hid_sub _ _)
    by_cases hlt : i < ds.length
    · refine .inr ⟨IT.go i H' hlt v0, fun σ'' H'' => (fun i mm σ' H' => mm = ds.length - i ∧ i ≤ ds.length ∧ Fr A H1 H' ∧ ∃ Γ', OR (wd X) S A os Γ' σ' H' ∧ zLoop m is g (ds.drop i) Γ' = some o) (i + 1) (ds.length - (i + 1)) σ'' H'', fun σ'' H'' q => ⟨_, by omega, q⟩, fun x H3 y => ?_⟩
      rw [List.drop_of_get hlt] at hl
      simp only [zLoop] at hl
      obtain ⟨es, c1, c2⟩ := bind_some hl
      obtain ⟨o1, c3, c4⟩ := bind_some c2
      obtain ⟨s3, hx⟩ := IT.yld i H' x H3 _ v0 y (List.getElem?_eq_getElem hlt)
      have rx := hx (A ++ S) R'.trk v1
      have f3 : Fr A H' H3 := .of s3
      refine hgg x _ es σ' H3 (A ++ S) _ rx c1 fun vs rvs => ?_
      refine ⟨S, A, _, o1, (R'.mono s3).setAll ho rvs, c3, fun Γ2 e2 σ2 H2 q2 R2 => ?_, fun d Γ2 e2 v H2 q2 B2 r2 => ?_⟩
      · subst e2
        exact ⟨rfl, hlt, (f2.trans f3).trans q2, Γ2, R2, c4⟩
      · subst e2
        cases c4
        exact kr d Γ2 rfl v H2 (((f1.trans f2).trans f3).trans q2) B2 r2
    · have e : i = ds.length := by omega
      subst e
      refine .inl ⟨IT.stop H' v0, ?_⟩
      rw [List.drop_length] at hl
      cases hl
      exact kn Γ' rfl σ' H' (f1.trans f2) R'
theorem take_app {α : Type} {l : List α} {n : Nat} (h : n ≤ l.length) (x : α) : (l ++ [x]).take n = l.take n := by rw [List.take_append_of_le_length h]
/-- x = a new thing; from here on it is one's own -/
theorem zss_new (i : Nat) {x : Str} {pos' : Pos} {f : DE → Option PyData} (he : PN X os e f) (hr : PZSs X n (os ++ [i]) rest g) (hN : X.N.Nodup) (ho : i ∉ os := by decide) (hn : n ≤ os.length := by decide) (hi : X.N[i]? = some x := by rfl) (hx : Loc X.env.scope x := by first | exact Or.inl rfl | exact Or.inr rfl)
    (hs : swapsWith e (some (.Name x pos')) pos.line X.env = pure false := by rfl) (hf : X.fn x = true ∨ X.env.scope.names.lookup x = some .local := by first | exact .inl rfl | exact .inr rfl) : PZSs X n os (.Assign [.Name x pos'] e pos :: rest) (zNew os i f g) :=
  pssOf (pss_cons (ps_set hN hi hx he hs hf) hr) fun D σ H ⟨S, A, Γ, o, R, hf, kn, kr⟩ => by
    unfold zNew at hf
    split at hf
    · rename_i hl
      obtain ⟨d, h1, h2⟩ := bind_some hf
      refine ⟨S, A, Γ, d, R, h1, fun p H1 ob s1 hp o1 => ?_⟩
      have R1 := (R.mono s1).add hp ho hl o1
      have hA : n ≤ A.length := by rw [← R.len]; exact hn
      refine ⟨S, A ++ [p], _, o, R1, h2, fun Γ2 e2 σ2 H2 f2 R2 => kn Γ2 e2 σ2 H2 ((Fr.of s1).trans (Fr.new hp f2)) R2.drop, fun d2 Γ2 e2 v H2 f2 B2 r2 => ?_⟩
      rw [take_app hA] at B2 r2
      rw [take_app hn] at B2
      exact kr d2 Γ2 e2 v H2 ((Fr.of s1).trans (Fr.new hp f2)) B2 r2
    · cases hf
theorem snoc_of {α : Type} {l : List α} {n : Nat} (h : l.length = n + 1) : ∃ m x, l = m ++ [x] := ⟨l.dropLast, l.getLast (by intro z; rw [z] at h; cases h), (List.dropLast_concat_getLast _).symm⟩
/-- the last thing is one's own no longer -/
theorem zss_rel (i : Nat) (hr : PZSs X n os rest g) (hn : n ≤ os.length := by decide) : PZSs X n (os ++ [i]) rest (zRel g) := pssOf hr fun D σ H ⟨S, A, Γ, o, R, hf, kn, kr⟩ => by
  obtain ⟨A', a, rfl⟩ := snoc_of (l := A) (n := os.length) (by rw [← R.len]; simp)
  have R' := R.drop
  have hA : n ≤ A'.length := by rw [← R'.len]; exact hn
  obtain ⟨o1, h1, h2⟩ := bind_some hf
  refine ⟨S, A', Γ, o1, R', h1, fun Γ2 e2 σ2 H2 f2 R2 => ?_, fun d2 Γ2 e2 v H2 f2 B2 r2 => ?_⟩
  · subst e2; cases h2
  · subst e2
    cases h2
    refine kr d2 Γ2 rfl v H2 (f2.more fun x hx => List.mem_append_left _ hx) ?_ ?_
    · rw [take_app hA, take_app hn]; exact B2
    · rw [take_app hA]; exact r2
/-- nothing is one's own: the plain rules -/
theorem zss_plain {gg : DE → Option Out} (hr : PDSs X rest gg) : PZSs X 0 [] rest (zL gg) := pssOf hr fun D σ H ⟨S, A, Γ, o, R, hf, kn, kr⟩ => by
  have e : A = [] := List.length_eq_zero_iff.mp R.len.symm
  subst e
  obtain ⟨o1, h1, h2⟩ := bind_some hf
  refine ⟨S, Γ, o1, R.trk, R.env, h1, fun Γ' e σ' H' s en => ?_, fun d e v H' s r => ?_⟩
  · subst e
    cases h2
    exact kn Γ' rfl σ' H' (.of s) ⟨R.trk.same s, R.nd, R.ndo, R.dis, R.len, en, fun k i a q _ => by simp at q⟩
  · subst e
    cases h2
    exact kr d [] rfl v H' (.of s) (fun k i a q _ => by simp at q) r
end
end G8

/-! G12: append, items set, and whole defs. -/
namespace G8
open L2 PyProof.Rows PySem.Spec PySem
section
variable {X : Cx} {os : List Nat} {n : Nat} {e : Expr} {es : List Expr} {p pos : Pos} {f : ZE} {g h : ZG} {st : Stmt} {rest : List Stmt}
/-- x.append(e) -/
theorem zs_app (i : Nat) {py apos cpos : Pos} {y : Str} (ha : PZ X os e f) (hi : i ∈ os := by decide) (hN : X.N[i]? = some y := by rfl)
    (hv : Vis X.env.scope y := by first | exact Or.inl rfl | exact Or.inr (Or.inl rfl) | exact Or.inr (Or.inr rfl)) (hd : (y == ("__debug__" : Str)) = false := by decide) (hcd : (y == ("__classdict__" : Str)) = false := by decide)
    (hbase : attributeBase (.Name y py) "append" X.env (eval (.Name y py) X.env) = eval (.Name y py) X.env := by rfl)
    (hfew : ((backTo cpos (starEach (e :: []) X.env)).all (fun x => !x.1) && (backToKw cpos (keywordEach [] X.env)).all (fun x => x.1.isSome) && decide ((e :: []).length + ([] : List Keyword).length + (if ([] : List Keyword).isEmpty then 0 else 1) < 30)) = true := by rfl)
    (hline : (apos.endLine == cpos.line) = true := by rfl) (hs : starEach (e :: []) X.env = (false, eval e X.env) :: starEach [] X.env := by rfl)
    (hsw : swapsWith (.Call (.Attribute (.Name y py) "append" apos) [e] [] cpos) none pos.line X.env = pure false := by rfl) :
    PZS X n os (.Expr (.Call (.Attribute (.Name y py) "append" apos) [e] [] cpos) pos) (zApp i f) :=
  psOf (ps_expr (pe_bm PySem.F.plainAttrs_list PySem.F.slot_list_append PySem.F.type_list_append (show MtR X "list.append" _ from mt_append) (pe_var hN hv hd hcd) (pa_cons ha pa_nil hs) hbase hfew hline hs rfl) hsw) fun D σ H ⟨S, A, Γ, o, R, hf, kn, kr⟩ => by
    obtain ⟨o0, c1, c2⟩ := bind_some hf
    split at c2
    · rename_i hl
      obtain ⟨q, a, o', e1, e2, e3, e4, e5⟩ := R.posn hi
      have : o' = o0 := by have := eV_get i Γ o0 c1; rw [e4] at this; cases this; rfl
      subst this
      obtain ⟨x, Γ1, c3, c4⟩ := zB_some c2
      obtain ⟨o1, c7, c8⟩ := bind_some c4
      refine ⟨_, e3, ?_, tZ_run R c3 fun v H1 f1 R1 r1 => ?_⟩
      · cases e5 with
        | lst g1 g2 g3 => exact .inl ⟨rfl, _, SqL.of g1⟩
        | dct => cases hl
      · obtain ⟨_, o2, e6, e7⟩ := R1.own q i a e1 e2
        have : o2 = o1 := by have := eV_get i Γ1 o1 c7; rw [e6] at this; cases this; rfl
        subst this
        cases e7 with
        | dct => cases c8
        | @lst xs ds g1 g2 g3 =>
          simp only at c8
          split at c8
          · rename_i hn
            cases c8
            have hx : xs.length < LIM := by rw [g3.length]; exact hn
            obtain ⟨R2, f2⟩ := R1.write e1 e2 (ob := .lst (xs ++ [v])) (d := .list (ds ++ [x])) (.lst (by rw [upd_same]) (by rw [List.length_append]; exact hx) (g3.snoc r1))
            exact ⟨a, xs, v, rfl, rfl, g1, lim_line' hx, kn _ rfl σ _ (f1.trans f2) R2⟩
          · cases c8
    · cases c2
theorem ixN_nat {n k : Nat} (h : k < n) (hz : n ≤ LIM) : ixN n (k : Int) = some k := by
  have hz' : n ≤ 100000 := hz
  unfold ixN
  rw [if_pos (by omega), if_pos (by omega), Int.toNat_natCast]
/-- x[k] = e -/
theorem zs_setIx (i k : Nat) {py p2 p3 : Pos} {kk : Nat} {y : Str} (ha : PZ X os e f) (hi : i ∈ os := by decide) (hN : X.N[i]? = some y := by rfl)
    (hv : Vis X.env.scope y := by first | exact Or.inl rfl | exact Or.inr (Or.inl rfl) | exact Or.inr (Or.inr rfl)) (hd : (y == ("__debug__" : Str)) = false := by decide) (hcd : (y == ("__classdict__" : Str)) = false := by decide)
    (hs : swapsWithSole [.Subscript (.Name y py) (.Constant (.int (k : Int)) kk p2) p3] e pos.line X.env = pure false := by rfl) (hw : swappedStores [.Subscript (.Name y py) (.Constant (.int (k : Int)) kk p2) p3] e X.env = pure none := by rfl) :
    PZS X n os (.Assign [.Subscript (.Name y py) (.Constant (.int (k : Int)) kk p2) p3] e pos) (zSetIx i k f) :=
  psOf (ps_asg ha (pg_sub (pe_var hN hv hd hcd) pe_int set_list) hs hw) fun D σ H ⟨S, A, Γ, o, R, hf, kn, kr⟩ => by
    obtain ⟨x, Γ1, c1, c2⟩ := zB_some hf
    obtain ⟨o1, c3, c4⟩ := bind_some c2
    refine tZ_run R c1 fun v H1 f1 R1 r1 => ?_
    obtain ⟨q, a, o', e1, e2, e3, e4, e5⟩ := R1.posn hi
    have : o' = o1 := by have := eV_get i Γ1 o1 c3; rw [e4] at this; cases this; rfl
    subst this
    cases e5 with
    | dct => cases c4
    | @lst xs ds g1 g2 g3 =>
      simp only at c4
      split at c4
      · rename_i hk
        cases c4
        obtain ⟨R2, f2⟩ := R1.write e1 e2 (ob := .lst (xs.set k v)) (d := .list (ds.set k x)) (.lst (by rw [upd_same]) (by rw [List.length_set]; exact g2) (g3.setAt r1 k))
        exact ⟨_, e3, a, xs, k, k, rfl, rfl, g1, ixN_nat (by rw [g3.length]; exact hk) g2, kn _ rfl σ _ (f1.trans f2) R2⟩
      · cases c4
/-- d[k] = v, a new key -/
theorem zs_dset (hu : X.A.units + 20 < cLine) (i : Nat) {py p3 : Pos} {y : Str} {kx vx : Expr} {fk fv : DE → Option PyData} (hk : PD X kx fk) (he : PD X vx fv) (hi : i ∈ os := by decide) (hN : X.N[i]? = some y := by rfl)
    (hv : Vis X.env.scope y := by first | exact Or.inl rfl | exact Or.inr (Or.inl rfl) | exact Or.inr (Or.inr rfl)) (hd : (y == ("__debug__" : Str)) = false := by decide) (hcd : (y == ("__classdict__" : Str)) = false := by decide)
    (ha : ∀ v, assign (.Subscript (.Name y py) kx p3) X.env v = (do
      let ov ← holding [v] (eval (.Name y py) X.env)
      let iv ← holding [v, ov] (eval kx X.env)
      standAt p3
      holding [v, ov, iv] (setItem ov iv v)
      release [v, ov, iv] []) := by intro _; rfl)
    (hs : swapsWithSole [.Subscript (.Name y py) kx p3] vx pos.line X.env = pure false := by rfl) (hw : swappedStores [.Subscript (.Name y py) kx p3] vx X.env = pure none := by rfl)
    (h1 : (assignEach [.Subscript (.Name y py) kx p3] X.env).map (·.2) = [assign (.Subscript (.Name y py) kx p3) X.env] := by rfl) :
    PZS X n os (.Assign [.Subscript (.Name y py) kx p3] vx pos) (zDset os i fk fv) :=
  psOf (ps_asg he (pg_sub (pe_var hN hv hd hcd) hk (p_setN hu) ha) hs hw h1) fun D σ H ⟨S, A, Γ, o, R, hf, kn, kr⟩ => by
    obtain ⟨v, c1, c2⟩ := bind_some hf
    obtain ⟨k, c3, c4⟩ := bind_some c2
    obtain ⟨nk, c5, c6⟩ := bind_some c4
    obtain ⟨o1, c7, c8⟩ := bind_some c6
    refine tD_run R.trk R.env c1 fun w H1 s1 t1 en1 r1 => ?_
    have R1 := R.mono s1
    obtain ⟨q, a, o', e1, e2, e3, e4, e5⟩ := R1.posn hi
    have : o' = o1 := by have := eV_get i Γ o1 c7; rw [e4] at this; cases this; rfl
    subst this
    refine ⟨_, e3, tD_run R1.trk R1.env c3 fun kv H2 s2 t2 en2 r2 => ?_⟩
    have R2 := R1.mono s2
    obtain ⟨_, o2, e6, e7⟩ := R2.own q i a e1 e2
    rw [e4] at e6
    cases e6
    cases e7 with
    | lst => cases c8
    | @dct ob xs kds g1 g2 g3 g4 g5 =>
      simp only at c8
      split at c8
      · rename_i hc
        cases c8
        obtain ⟨b, rfl⟩ := tkD_ref c5 r2
        obtain ⟨ds, hd1, hd2, hd3⟩ := tkD_ok c5
        have hx : xs.length < LIM := by rw [dx_len g5]; exact hc.2
        refine ⟨a, b, rfl, rfl, ob, xs, A ++ S, kds, nk, k, g1, g4, g5, r2, c5, Option.isNone_iff_eq_none.mp hc.1, hx, fun ob' u D' ru => ?_⟩
        have ek : nk.data = k := keyD_data k nk hd2
        subst ek
        obtain ⟨R3, f3⟩ := R2.write e1 e2 (ob := dctO a ob') (d := .dict (kds ++ [(nk.data, v)])) (.dct (by rw [upd_same]) g2 (by rw [List.length_append]; exact hx) D' (DRx.snoc r2 hd3 ru (r1.mono (hid_same s2)) g5))
        exact kn _ rfl σ _ (((Fr.of s1).trans (Fr.of s2)).trans f3) R3
      · cases c8
/-- y = [..] on one line -/
theorem zs_setLc (i : Nat) {y : Str} {py : Pos} {elt tg iter : Expr} {ifs : List Expr} {scope : Scope} {own : List (Str × Nat)} {lpos spos : Pos} {it : DE → Option (List PyData)} {tgt : TG} {is : List Nat} {m : PyData → Option (List PyData)} {on : List Nat} {t : DE → Option Bool} {f : DE → Option PyData} (hc : X.calm = true) (hN : X.N.Nodup) (ok : BlkOk X.N X.env.scope scope own)
    (hi : PId X tg iter it) (hgg : TgOk (wd X) tgt is m) (ho : ∀ i ∈ is, i ∈ on) (hg : Blk X scope fun Y => PG Y tg tgt) (ht : Blk X scope fun Y => PDTs Y ifs t) (he : Blk X scope fun Y => PD Y elt f)
    (hsw : swapsWith (.ListComp elt [⟨tg, iter, ifs, 0⟩] scope lpos) (some (.Name y py)) spos.line X.env = pure true) (hos : i ∉ os := by decide) (hy : X.N[i]? = some y := by rfl) (hyl : X.env.scope.names.lookup y = some .local := by rfl)
    (hs : ∀ x, foldedSetIterable iter X.env x = pure x := by intro _; rfl) (hon : own.map (·.2) = on := by rfl) : PZS X n os (.Assign [.Name y py] (.ListComp elt [⟨tg, iter, ifs, 0⟩] scope lpos) spos) (zSet i (zP os (eLc on it m is t f))) := by
  subst hon
  exact psOf (ps_setLc hc hN hy hyl hsw hi ok hg ht he hs) fun D σ H ⟨S, A, Γ, o, R, hf, kn, _⟩ => by
    obtain ⟨d, Γ1, h1, h2⟩ := zB_some hf
    cases h2
    obtain ⟨x, h3, h4⟩ := bind_some h1
    cases h4
    exact lc_ok (fun _ _ _ q => q) hgg ho (tD_run R.trk R.env h3 fun v H1 s1 t1 en1 r1 => kn _ rfl _ H1 (.of s1) ((R.mono s1).set hos r1))
end
/-! ### defs -/
def runZ (n : Nat) (N : List Str) (g : ZG) : PyData → List PyData → Option (PyData × PyData) := fun o ds => if ds.length = n then (g (startD N (o :: ds))).bind fun z => match z with
  | .nx Γ => (eV 0 Γ).bind fun o' => some (.none, o')
  | .rt d Γ => (eV 0 Γ).bind fun o' => some (d, o')
  else none
theorem runZ_len {n : Nat} {N : List Str} {g : ZG} {o : PyData} {ds : List PyData} {r : PyData × PyData} (h : runZ n N g o ds = some r) : ds.length = n := by
  unfold runZ at h
  split at h
  · assumption
  · cases h
theorem or_start {W : Wd} {S : List Addr} {p : Addr} {N : List Str} {us : List V} {ds : List PyData} {o : PyData} {H : Hp} (hl : us.length < N.length) (t : Trk (p :: S) H) (hp : p ∉ S) (ho : Own1 W (hid (p :: S) H) H p o) (r : DRs W (hid (p :: S) H) us ds) :
    OR W S [p] [0] (startD N (o :: ds)) (L2.start N (V.ref p :: us)) H := by
  have en := EnvR.start (N := N) (DRs.cons DR.non r)
  refine ⟨t, by simp, by simp, fun a h => by rw [List.mem_singleton] at h; subst h; exact hp, rfl, ⟨?_, fun j e q => ?_⟩, fun k i a h1 h2 => ?_⟩
  · rw [wipeD_len]
    have := en.len
    simpa [startD, L2.start] using this
  · obtain ⟨q1, q2⟩ := wipeD_some q
    cases j with
    | zero => exact absurd List.mem_cons_self q1
    | succ j =>
      obtain ⟨u, c1, c2⟩ := en.get (j + 1) e (by simpa [startD] using q2)
      exact ⟨u, by simpa [L2.start] using c1, c2⟩
  · cases k with
    | succ k => simp at h1
    | zero =>
      cases h1
      cases h2
      exact ⟨by simp [L2.start], o, by simp [startD], ho⟩
theorem fn_z {P : Program} {w : World} {K : PySem.W.Frag} {mg : Str → Option Value} {base : Heap} {x qual : Str} {params : Arguments} {body : List Stmt} {scope : Scope} {f : Addr} {fd : FuncData} {N ps : List Str} {k n : Nat} {g : ZG}
    (F : FunD K x qual params body scope [] [] f fd) (S : FnScope N ps scope) (hn : ps.length = n + 1) (hN : n < N.length)
    (hb : ∀ (cdv : Value) (A : Around) (outer : List Env) (s : Shared) (H : Hp) (E : XK), Room k (A.deeper (envOfC qual scope s.heap.objs.size f cdv)) → PZSs (cxOf CX0 P w K mg base N qual scope f cdv A outer s H E).nox 1 [0] body g) :
    FnOk P w K mg base CX0 (k + 1) f fd ps (spZ ⟨P, w, K⟩ n (runZ n N g)) := by
  refine F.ok S (fun vs H Q E ⟨_, _, _, _, _, _, _, h, h', _⟩ => by rw [h, hn, List.length_cons, h']) (fun cdv A outer s H vs Q E hr h => ⟨tZS ⟨P, w, K⟩ 1 [0] g, PSs.nox (hb cdv A outer s H E hr), ?_⟩)
  obtain ⟨S', p, us, o, ds, d, o', rfl, hl, tr, hp, ho, r, hF, kk⟩ := h
  unfold runZ at hF
  split at hF
  · obtain ⟨z, h1, h2⟩ := bind_some hF
    refine ⟨S', [p], _, z, or_start (by rw [hl]; exact hN) tr hp ho r, h1, fun Γ' e σ' H' s' R' => ?_, fun d' Γ' e v H' s' B r' => ?_⟩
    · subst e
      obtain ⟨o2, h3, h4⟩ := bind_some h2
      cases h4
      obtain ⟨_, o3, e4, e5⟩ := R'.own 0 0 p rfl rfl
      have : o3 = o' := by have := eV_get 0 Γ' o' h3; rw [e4] at this; cases this; rfl
      subst this
      exact kk .non H' s' e5 .non
    · subst e
      obtain ⟨o2, h3, h4⟩ := bind_some h2
      cases h4
      obtain ⟨o3, e4, e5⟩ := B 0 0 p rfl rfl
      have : o3 = o' := by have := eV_get 0 Γ' o' h3; rw [e4] at this; cases this; rfl
      subst this
      exact kk v H' s' e5 r'
  · cases hF
def runFZ (n : Nat) (N : List Str) (g : ZG) : List PyData → Option PyData := fun ds => if ds.length = n then (g (startD N ds)).bind fun z => match z with
  | .nx _ => some .none
  | .rt d _ => some d
  else none
theorem runFZ_len {n : Nat} {N : List Str} {g : ZG} {ds : List PyData} {r : PyData} (h : runFZ n N g ds = some r) : ds.length = n := by
  unfold runFZ at h
  split at h
  · assumption
  · cases h
theorem or_plain {W : Wd} {S : List Addr} {Γ : DE} {σ : L2.St} {H : Hp} (t : Trk S H) (en : EnvR W (hid S H) Γ σ) : OR W S [] [] Γ σ H := ⟨t, by simp, by simp, fun a h => by simp at h, rfl, en, fun k i a h _ => by simp at h⟩
/-- a def that only reckons, with things of its own on the way -/
theorem fn_zpure {P : Program} {w : World} {K : PySem.W.Frag} {mg : Str → Option Value} {base : Heap} {x qual : Str} {params : Arguments} {body : List Stmt} {scope : Scope} {f : Addr} {fd : FuncData} {N ps : List Str} {k n : Nat} {g : ZG}
    (F : FunD K x qual params body scope [] [] f fd) (S : FnScope N ps scope) (hn : ps.length = n)
    (hb : ∀ (cdv : Value) (A : Around) (outer : List Env) (s : Shared) (H : Hp) (E : XK), Room k (A.deeper (envOfC qual scope s.heap.objs.size f cdv)) → PZSs (cxOf CX0 P w K mg base N qual scope f cdv A outer s H E).nox 0 [] body g) :
    FnOk P w K mg base CX0 (k + 1) f fd ps (spD ⟨P, w, K⟩ n (runFZ n N g)) := by
  refine F.ok S (fun vs H Q E ⟨_, _, _, h, _⟩ => by rw [h, hn]) (fun cdv A outer s H vs Q E hr h => ⟨tZS ⟨P, w, K⟩ 0 [] g, PSs.nox (hb cdv A outer s H E hr), ?_⟩)
  obtain ⟨S', ds, d, hl, tr, r, hF, kk⟩ := h
  unfold runFZ at hF
  split at hF
  · obtain ⟨z, h1, h2⟩ := bind_some hF
    refine ⟨S', [], _, z, or_plain tr (.start r), h1, fun Γ' e σ' H' s' R' => ?_, fun d' Γ' e v H' s' B r' => ?_⟩
    · subst e
      cases h2
      exact kk .non H' s'.nil .non
    · subst e
      cases h2
      exact kk v H' s'.nil r'
  · cases hF
def runN (n : Nat) (N : List Str) (f : DE → Option PyData) : List PyData → Option PyData := fun ds => if ds.length = n then f (startD N ds) else none
theorem runN_len {n : Nat} {N : List Str} {f : DE → Option PyData} {ds : List PyData} {r : PyData} (h : runN n N f ds = some r) : ds.length = n := by
  unfold runN at h
  split at h
  · assumption
  · cases h
/-- a def that hands back a new thing -/
theorem fn_new {P : Program} {w : World} {K : PySem.W.Frag} {mg : Str → Option Value} {base : Heap} {x qual : Str} {params : Arguments} {e : Expr} {rpos : Pos} {scope : Scope} {f : Addr} {fd : FuncData} {N ps : List Str} {k n : Nat} {g : DE → Option PyData}
    (F : FunD K x qual params [.Return (some e) rpos] scope [] [] f fd) (S : FnScope N ps scope) (hn : ps.length = n)
    (hb : ∀ (cdv : Value) (A : Around) (outer : List Env) (s : Shared) (H : Hp) (E : XK), Room k (A.deeper (envOfC qual scope s.heap.objs.size f cdv)) → PN (cxOf CX0 P w K mg base N qual scope f cdv A outer s H E).nox [] e g) :
    FnOk P w K mg base CX0 (k + 1) f fd ps (spN ⟨P, w, K⟩ n (runN n N g)) := by
  refine F.ok S (fun vs H Q E ⟨_, _, _, h, _⟩ => by rw [h, hn]) (fun cdv A outer s H vs Q E hr h => ⟨tRet (tNewZ ⟨P, w, K⟩ [] g), PSs.nox (pss_one (ps_ret (hb cdv A outer s H E hr))), ?_⟩)
  obtain ⟨S', ds, d, hl, tr, r, hF, kk⟩ := h
  unfold runN at hF
  split at hF
  · exact ⟨S', [], _, d, or_plain tr (.start r), hF, fun p H1 ob s1 hp o1 => kk p H1 ob s1 hp o1⟩
  · cases hF
end G8

/-! B8: the text by places, what the top has left. -/
namespace G8
open L2 PyProof.Rows PySem.Spec PySem
def top (i : Nat) : Stmt := PySem.Challenge.pw_rulerows_k42_whole_any_evidence.main.body.getD i (.Pass ⟨0, 0, 0, 0⟩)
abbrev s9 : Stmt := top 9
abbrev s10 : Stmt := top 10
abbrev s11 : Stmt := top 11
abbrev s12 : Stmt := top 12
abbrev s13 : Stmt := top 13
abbrev s14 : Stmt := top 14
abbrev s15 : Stmt := top 15
abbrev s16 : Stmt := top 16
abbrev s17 : Stmt := top 17
abbrev s19 : Stmt := top 19
abbrev s20 : Stmt := top 20
abbrev s21 : Stmt := top 21
abbrev s25 : Stmt := top 25
abbrev s26 : Stmt := top 26
abbrev s27 : Stmt := top 27
abbrev s28 : Stmt := top 28
abbrev s30 : Stmt := top 30
abbrev s31 : Stmt := top 31
abbrev s33 : Stmt := top 33
abbrev s34 : Stmt := top 34
abbrev s35 : Stmt := top 35
abbrev s36 : Stmt := top 36
abbrev s37 : Stmt := top 37
abbrev s38 : Stmt := top 38
abbrev s40 : Stmt := top 40
abbrev s41 : Stmt := top 41
abbrev s42 : Stmt := top 42
abbrev s43 : Stmt := top 43
abbrev s44 : Stmt := top 44
abbrev s45 : Stmt := top 45
abbrev s47 : Stmt := top 47
abbrev s49 : Stmt := top 49
abbrev s50 : Stmt := top 50
abbrev s51 : Stmt := top 51
abbrev s52 : Stmt := top 52
abbrev s54 : Stmt := top 54
abbrev s55 : Stmt := top 55
abbrev s56 : Stmt := top 56
abbrev s57 : Stmt := top 57
abbrev s58 : Stmt := top 58
abbrev s59 : Stmt := top 59
abbrev s60 : Stmt := top 60
abbrev s61 : Stmt := top 61
abbrev s62 : Stmt := top 62
abbrev s63 : Stmt := top 63
abbrev s64 : Stmt := top 64
abbrev s65 : Stmt := top 65
abbrev s66 : Stmt := top 66
abbrev s67 : Stmt := top 67
abbrev s68 : Stmt := top 68
abbrev s69 : Stmt := top 69
abbrev s70 : Stmt := top 70
abbrev s71 : Stmt := top 71
abbrev s72 : Stmt := top 72
abbrev s73 : Stmt := top 73
abbrev s74 : Stmt := top 74
abbrev FnP (K : PySem.W.Frag) (x : Str) (st : Stmt) (f : Addr) (fd : FuncData) : Prop := FunD K x x (defArgs st) (defBody st) (defScope st) [] [] f fd
structure Tx (K : PySem.W.Frag) (mg : Str → Option Value) : Prop where
  isinstance : mg "isinstance" = none
  int : mg "int" = none
  bool : mg "bool" = none
  tuple : mg "tuple" = none
  list : mg "list" = none
  str : mg "str" = none
  len : mg "len" = none
  all : mg "all" = none
  any : mg "any" = none
  range : mg "range" = none
  enumerate : mg "enumerate" = none
  sorted : mg "sorted" = none
  min : mg "min" = none
  max : mg "max" = none
  abs : mg "abs" = none
  MOST_FIELDS : ∃ t, mg "MOST_FIELDS" = some (.int 3 t)
  MOST_WIDTH : ∃ t, mg "MOST_WIDTH" = some (.int 8 t)
  MOST_RULES : ∃ t, mg "MOST_RULES" = some (.int 7 t)
  LAST_ACTION : ∃ t, mg "LAST_ACTION" = some (.int 5 t)
  MOST_PAIRS : ∃ t, mg "MOST_PAIRS" = some (.int 12 t)
  MOST_ACTION : ∃ t, mg "MOST_ACTION" = some (.int 5 t)
  d9 : ∃ f fd, FnP K "is_between" s9 f fd ∧ mg "is_between" = some (.ref f)
  d10 : ∃ f fd, FnP K "is_widths" s10 f fd ∧ mg "is_widths" = some (.ref f)
  d11 : ∃ f fd, FnP K "is_range" s11 f fd ∧ mg "is_range" = some (.ref f)
  d12 : ∃ f fd, FnP K "is_rule" s12 f fd ∧ mg "is_rule" = some (.ref f)
  d13 : ∃ f fd, FnP K "is_list" s13 f fd ∧ mg "is_list" = some (.ref f)
  d14 : ∃ f fd, FnP K "is_case" s14 f fd ∧ mg "is_case" = some (.ref f)
  d15 : ∃ f fd, FnP K "is_number" s15 f fd ∧ mg "is_number" = some (.ref f)
  d16 : ∃ f fd, FnP K "is_row" s16 f fd ∧ mg "is_row" = some (.ref f)
  d17 : ∃ f fd, FnP K "check_list" s17 f fd ∧ mg "check_list_lists" = some (.ref f)
  d19 : ∃ f fd, FnP K "cases_of" s19 f fd ∧ mg "cases_of" = some (.ref f)
  d20 : ∃ f fd, FnP K "matches_in" s20 f fd ∧ mg "matches_in" = some (.ref f)
  d21 : ∃ f fd, FnP K "decided" s21 f fd ∧ mg "decided" = some (.ref f)
  d25 : ∃ f fd, FnP K "is_action" s25 f fd ∧ mg "is_action" = some (.ref f)
  d26 : ∃ f fd, FnP K "are_pairs" s26 f fd ∧ mg "are_pairs" = some (.ref f)
  d27 : ∃ f fd, FnP K "is_wanted" s27 f fd ∧ mg "is_wanted" = some (.ref f)
  d28 : ∃ f fd, FnP K "check_list" s28 f fd ∧ mg "check_list" = some (.ref f)
  d30 : ∃ f fd, FnP K "ascending" s30 f fd ∧ mg "ascending" = some (.ref f)
  d31 : ∃ f fd, FnP K "wants" s31 f fd ∧ mg "wants" = some (.ref f)
  d33 : ∃ f fd, FnP K "check_both" s33 f fd ∧ mg "check_both" = some (.ref f)
  d34 : ∃ f fd, FnP K "kinds_of" s34 f fd ∧ mg "kinds_of" = some (.ref f)
  d35 : ∃ f fd, FnP K "action_by" s35 f fd ∧ mg "action_by" = some (.ref f)
  d36 : ∃ f fd, FnP K "wrong_kind" s36 f fd ∧ mg "wrong_kind" = some (.ref f)
  d37 : ∃ f fd, FnP K "barred" s37 f fd ∧ mg "barred" = some (.ref f)
  d38 : ∃ f fd, FnP K "is_whole" s38 f fd ∧ mg "is_whole" = some (.ref f)
  d40 : ∃ f fd, FnP K "placed_from" s40 f fd ∧ mg "placed_from" = some (.ref f)
  d41 : ∃ f fd, FnP K "some_row" s41 f fd ∧ mg "some_row" = some (.ref f)
  d42 : ∃ f fd, FnP K "checked" s42 f fd ∧ mg "checked" = some (.ref f)
  d43 : ∃ f fd, FnP K "need_some" s43 f fd ∧ mg "need_some" = some (.ref f)
  d44 : ∃ f fd, FnP K "check_number" s44 f fd ∧ mg "check_number" = some (.ref f)
  d45 : ∃ f fd, FnP K "check_two" s45 f fd ∧ mg "check_two" = some (.ref f)
  d47 : ∃ f fd, FnP K "demands_of" s47 f fd ∧ mg "demands_of" = some (.ref f)
  d49 : ∃ f fd, FnP K "before_evidence" s49 f fd ∧ mg "before_evidence" = some (.ref f)
  d50 : ∃ f fd, FnP K "is_pair" s50 f fd ∧ mg "is_pair" = some (.ref f)
  d51 : ∃ f fd, FnP K "is_fence" s51 f fd ∧ mg "is_fence" = some (.ref f)
  d52 : ∃ f fd, FnP K "accepts_before" s52 f fd ∧ mg "accepts_before" = some (.ref f)
  d54 : ∃ f fd, FnP K "_law_stream" s54 f fd ∧ mg "_law_stream" = some (.ref f)
  d55 : ∃ f fd, FnP K "_law_next" s55 f fd ∧ mg "_law_next" = some (.ref f)
  d56 : ∃ f fd, FnP K "_law_is_integer" s56 f fd ∧ mg "_law_is_integer" = some (.ref f)
  d57 : ∃ f fd, FnP K "_law_equal" s57 f fd ∧ mg "_law_equal" = some (.ref f)
  d58 : ∃ f fd, FnP K "_law_list" s58 f fd ∧ mg "_law_list" = some (.ref f)
  d59 : ∃ f fd, FnP K "_law_widths" s59 f fd ∧ mg "_law_widths" = some (.ref f)
  d60 : ∃ f fd, FnP K "_law_cases" s60 f fd ∧ mg "_law_cases" = some (.ref f)
  d61 : ∃ f fd, FnP K "_law_matches" s61 f fd ∧ mg "_law_matches" = some (.ref f)
  d62 : ∃ f fd, FnP K "_law_decides" s62 f fd ∧ mg "_law_decides" = some (.ref f)
  d63 : ∃ f fd, FnP K "_law_shuffled" s63 f fd ∧ mg "_law_shuffled" = some (.ref f)
  d64 : ∃ f fd, FnP K "_law_wanted" s64 f fd ∧ mg "_law_wanted" = some (.ref f)
  d65 : ∃ f fd, FnP K "_law_wants" s65 f fd ∧ mg "_law_wants" = some (.ref f)
  d66 : ∃ f fd, FnP K "_law_kinds" s66 f fd ∧ mg "_law_kinds" = some (.ref f)
  d67 : ∃ f fd, FnP K "_law_wrong" s67 f fd ∧ mg "_law_wrong" = some (.ref f)
  d68 : ∃ f fd, FnP K "_law_rows" s68 f fd ∧ mg "_law_rows" = some (.ref f)
  d69 : ∃ f fd, FnP K "_law_right_rows" s69 f fd ∧ mg "_law_right_rows" = some (.ref f)
  d70 : ∃ f fd, FnP K "_law_is_fence" s70 f fd ∧ mg "_law_is_fence" = some (.ref f)
  d71 : ∃ f fd, FnP K "_law_is_evidence" s71 f fd ∧ mg "_law_is_evidence" = some (.ref f)
  d72 : ∃ f fd, FnP K "_law_drawn_pairs" s72 f fd ∧ mg "_law_drawn_pairs" = some (.ref f)
  d73 : ∃ f fd, FnP K "_law_turned" s73 f fd ∧ mg "_law_turned" = some (.ref f)
  d74 : ∃ f fd, FnP K "law" s74 f fd ∧ mg "law" = some (.ref f)
  d28w : ∃ f fd, FnP K "check_list" s28 f fd ∧ mg "check_list_wanted" = some (.ref f)
theorem bt_int : bootBuiltins "int" = some (.type "int") := by decide +kernel
theorem bt_bool : bootBuiltins "bool" = some (.type "bool") := by decide +kernel
theorem bt_tuple : bootBuiltins "tuple" = some (.type "tuple") := by decide +kernel
theorem bt_list : bootBuiltins "list" = some (.type "list") := by decide +kernel
theorem bt_str : bootBuiltins "str" = some (.type "str") := by decide +kernel
theorem bt_len : bootBuiltins "len" = some (.builtin "len") := by decide +kernel
theorem bt_all : bootBuiltins "all" = some (.builtin "all") := by decide +kernel
theorem bt_any : bootBuiltins "any" = some (.builtin "any") := by decide +kernel
theorem bt_min : bootBuiltins "min" = some (.builtin "min") := by decide +kernel
theorem bt_max : bootBuiltins "max" = some (.builtin "max") := by decide +kernel
theorem bt_abs : bootBuiltins "abs" = some (.builtin "abs") := by decide +kernel
theorem bt_sorted : bootBuiltins "sorted" = some (.builtin "sorted") := by decide +kernel
theorem rm64 {k : Nat} {A : Around} (r : Room k A) : A.units + 64 < cLine := r.units
theorem rm65 {k : Nat} {A : Around} (r : Room k A) : A.units + 65 < cLine := by have := r.un; omega
theorem rm20 {k : Nat} {A : Around} (r : Room k A) : A.units + 20 < cLine := by have := r.un; omega
theorem rm1 {k : Nat} {A : Around} (r : Room k A) : A.units + 1 < cLine := by have := r.un; omega
theorem rm0 {k : Nat} {A : Around} (r : Room k A) : A.units < cLine := r.units0
end G8

namespace G8
open L2 PyProof.Rows PySem.Spec PySem
section
variable {P : Program} {w : World} {K : PySem.W.Frag} {mg : Str → Option Value} {base : Heap}

/-! ### 9: is_between -/
abbrev N9 : List Str := ["value", "low", "high"]
def g9 : DE → Option Out := gRet (eA (e1 (isiD "int") (eV 0)) (eA (eN (e1 (isiD "bool") (eV 0))) (e3 leD leD (eV 1) (eV 0) (eV 2))))
def F9 : List PyData → Option PyData := runF 3 N9 g9
theorem sc9 : FnScope N9 ["value", "low", "high"] (defScope s9) := ⟨rfl, rfl, rfl, by decide +kernel, rfl, by decide +kernel, by decide +kernel⟩
theorem ok9 (T : Tx K mg) : OkF P w K mg base "is_between" 1 3 F9 := by
  have nd := sc9.nd
  obtain ⟨f, fd, F, hm⟩ := T.d9
  refine ⟨fun ds d h => runF_len h, f, fd, ["value", "low", "high"], hm, F.kp, F.bindsN fun _ _ _ _ _ _ us hl => match us, hl with | [_, _, _], _ => rfl, rfl, fn_pure F sc9 rfl fun cdv A outer s H E hr => ?_⟩
  exact ss_one (s_ret (d_and (d_isi T.isinstance T.int bt_int (d_var 0)) (d_and (d_not (d_isi T.isinstance T.bool bt_bool (d_var 0))) (d_one (d_chain o_le o_le (d_var 1) (d_var 0) (d_var 2))))))
/-! ### 10: is_widths -/
abbrev N10 : List Str := ["value", "width"]
def g10 : DE → Option Out := gSeq (gIf (tO (tN (tTr (e1 (isiD "tuple") (eV 0)))) (tN (tB1 (e3 leD leD (eC (.int 1)) (eCall lenD (aC (eV 0) (aN))) (eC (.int 3)))))) (gRet (eC (.bool false))) (gNx)) (gRet (eCall allD (aC (eLc [1] (iS (eV 0)) m1 [1] (tTrue) (eCall F9 (aC (eV 1) (aC (eC (.int 1)) (aC (eC (.int 8)) (aN)))))) (aN))))
def F10 : List PyData → Option PyData := runF 1 N10 g10
theorem sc10 : FnScope N10 ["value"] (defScope s10) := ⟨rfl, rfl, rfl, by decide +kernel, rfl, by decide +kernel, by decide +kernel⟩
theorem ok10 (T : Tx K mg) : OkF P w K mg base "is_widths" 2 1 F10 := by
  have nd := sc10.nd
  obtain ⟨f, fd, F, hm⟩ := T.d10
  refine ⟨fun ds d h => runF_len h, f, fd, ["value"], hm, F.kp, F.bindsN fun _ _ _ _ _ _ us hl => match us, hl with | [_], _ => rfl, rfl, fn_pure F sc10 rfl fun cdv A outer s H E hr => ?_⟩
  exact ss_cons (s_if ((dw_or (dt_not (dt_truth (d_isi T.isinstance T.tuple bt_tuple (d_var 0)))) (dw_or1 (dt_not (dt_chain o_le o_le (d_int) (d_callB c_len T.len bt_len (da_cons (d_var 0) (da_nil))) (d_gint T.MOST_FIELDS))))).pt) (ss_one (s_ret (d_bl))) (ss_nil)) (ss_one (s_ret (d_callB (c_all rfl) T.all bt_all (da_cons (d_lc rfl nd (blkOk_by (N := N10) (sc := defScope s10) (own := [("width", 1)]) (by decide +kernel)) (i_seq (d_var 0)) (tg_name 1) (by decide) (fun _ _ _ _ _ => (pg_name (i := 1) nd rfl (Or.inl rfl))) (fun _ _ _ _ _ => dts_nil) (fun _ _ _ _ _ => d_call (ok9 T) hr (by decide) (da_cons (d_var 1) (da_cons (d_int) (da_cons (d_gint T.MOST_WIDTH) (da_nil)))))) (da_nil)))))
/-! ### 11: is_range -/
abbrev N11 : List Str := ["value", "width"]
def g11 : DE → Option Out := gSeq (gIf (tO (tN (tTr (e1 (isiD "tuple") (eV 0)))) (tO (tB1 (e2 neD (eCall lenD (aC (eV 0) (aN))) (eC (.int 2)))) (tN (tTr (eCall F9 (aC (e2 ixE (eV 0) (eC (.int 0))) (aC (eC (.int 0)) (aC (e2 subD (eV 1) (eC (.int 1))) (aN))))))))) (gRet (eC (.bool false))) (gNx)) (gRet (eCall F9 (aC (e2 ixE (eV 0) (eC (.int 1))) (aC (e2 ixE (eV 0) (eC (.int 0))) (aC (e2 subD (eV 1) (eC (.int 1))) (aN))))))
def F11 : List PyData → Option PyData := runF 2 N11 g11
theorem sc11 : FnScope N11 ["value", "width"] (defScope s11) := ⟨rfl, rfl, rfl, by decide +kernel, rfl, by decide +kernel, by decide +kernel⟩
theorem ok11 (T : Tx K mg) : OkF P w K mg base "is_range" 2 2 F11 := by
  have nd := sc11.nd
  obtain ⟨f, fd, F, hm⟩ := T.d11
  refine ⟨fun ds d h => runF_len h, f, fd, ["value", "width"], hm, F.kp, F.bindsN fun _ _ _ _ _ _ us hl => match us, hl with | [_, _], _ => rfl, rfl, fn_pure F sc11 rfl fun cdv A outer s H E hr => ?_⟩
  exact ss_cons (s_if ((dw_or (dt_not (dt_truth (d_isi T.isinstance T.tuple bt_tuple (d_var 0)))) (dw_or (dt_cmp (o_ne (rm64 hr)) (d_callB c_len T.len bt_len (da_cons (d_var 0) (da_nil))) (d_int)) (dw_or1 (dt_not (dt_truth (d_call (ok9 T) hr (by decide) (da_cons (d_ix (x_ix (rm20 hr)) (d_var 0) (d_int)) (da_cons (d_int) (da_cons (d_op o_sub (d_var 1) (d_int)) (da_nil)))))))))).pt) (ss_one (s_ret (d_bl))) (ss_nil)) (ss_one (s_ret (d_call (ok9 T) hr (by decide) (da_cons (d_ix (x_ix (rm20 hr)) (d_var 0) (d_int)) (da_cons (d_ix (x_ix (rm20 hr)) (d_var 0) (d_int)) (da_cons (d_op o_sub (d_var 1) (d_int)) (da_nil)))))))
/-! ### 12: is_rule -/
abbrev N12 : List Str := ["value", "widths", "at", "width"]
def g12 : DE → Option Out := gSeq (gIf (tO (tN (tTr (e1 (isiD "tuple") (eV 0)))) (tO (tB1 (e2 neD (eCall lenD (aC (eV 0) (aN))) (eC (.int 2)))) (tN (tTr (eCall F9 (aC (e2 ixE (eV 0) (eC (.int 0))) (aC (eC (.int 0)) (aC (eC (.int 5)) (aN))))))))) (gRet (eC (.bool false))) (gNx)) (gSeq (gIf (tO (tN (tTr (e1 (isiD "tuple") (e2 ixE (eV 0) (eC (.int 1)))))) (tB1 (e2 neD (eCall lenD (aC (e2 ixE (eV 0) (eC (.int 1))) (aN))) (eCall lenD (aC (eV 1) (aN)))))) (gRet (eC (.bool false))) (gNx)) (gRet (eCall allD (aC (eLc [2, 3] (iE (eV 1)) (mT 2) [2, 3] (tTrue) (eCall F11 (aC (e2 ixE (e2 ixE (eV 0) (eC (.int 1))) (eV 2)) (aC (eV 3) (aN))))) (aN)))))
def F12 : List PyData → Option PyData := runF 2 N12 g12
theorem sc12 : FnScope N12 ["value", "widths"] (defScope s12) := ⟨rfl, rfl, rfl, by decide +kernel, rfl, by decide +kernel, by decide +kernel⟩
theorem ok12 (T : Tx K mg) : OkF P w K mg base "is_rule" 3 2 F12 := by
  have nd := sc12.nd
  obtain ⟨f, fd, F, hm⟩ := T.d12
  refine ⟨fun ds d h => runF_len h, f, fd, ["value", "widths"], hm, F.kp, F.bindsN fun _ _ _ _ _ _ us hl => match us, hl with | [_, _], _ => rfl, rfl, fn_pure F sc12 rfl fun cdv A outer s H E hr => ?_⟩
  exact ss_cons (s_if ((dw_or (dt_not (dt_truth (d_isi T.isinstance T.tuple bt_tuple (d_var 0)))) (dw_or (dt_cmp (o_ne (rm64 hr)) (d_callB c_len T.len bt_len (da_cons (d_var 0) (da_nil))) (d_int)) (dw_or1 (dt_not (dt_truth (d_call (ok9 T) hr (by decide) (da_cons (d_ix (x_ix (rm20 hr)) (d_var 0) (d_int)) (da_cons (d_int) (da_cons (d_gint T.LAST_ACTION) (da_nil)))))))))).pt) (ss_one (s_ret (d_bl))) (ss_nil)) (ss_cons (s_if ((dw_or (dt_not (dt_truth (d_isi T.isinstance T.tuple bt_tuple (d_ix (x_ix (rm20 hr)) (d_var 0) (d_int))))) (dw_or1 (dt_cmp (o_ne (rm64 hr)) (d_callB c_len T.len bt_len (da_cons (d_ix (x_ix (rm20 hr)) (d_var 0) (d_int)) (da_nil))) (d_callB c_len T.len bt_len (da_cons (d_var 1) (da_nil)))))).pt) (ss_one (s_ret (d_bl))) (ss_nil)) (ss_one (s_ret (d_callB (c_all rfl) T.all bt_all (da_cons (d_lc rfl nd (blkOk_by (N := N12) (sc := defScope s12) (own := [("at", 2), ("width", 3)]) (by decide +kernel)) (i_enum T.enumerate (d_var 1)) (tg_tup [2, 3] rfl) (by decide) (fun _ _ _ _ _ => (pg_tup rfl (pgs_cons (pg_name (i := 2) nd rfl (Or.inl rfl)) (pgs_cons (pg_name (i := 3) nd rfl (Or.inl rfl)) pgs_nil)))) (fun _ _ _ _ _ => dts_nil) (fun _ _ _ _ _ => d_call (ok11 T) hr (by decide) (da_cons (d_ix (x_ix (rm20 hr)) (d_ix (x_ix (rm20 hr)) (d_var 0) (d_int)) (d_var 2)) (da_cons (d_var 3) (da_nil))))) (da_nil))))))
/-! ### 13: is_list -/
abbrev N13 : List Str := ["value", "rule"]
def g13 : DE → Option Out := gSeq (gIf (tO (tN (tTr (e1 (isiD "tuple") (eV 0)))) (tO (tB1 (e2 neD (eCall lenD (aC (eV 0) (aN))) (eC (.int 3)))) (tN (tTr (eCall F10 (aC (e2 ixE (eV 0) (eC (.int 0))) (aN))))))) (gRet (eC (.bool false))) (gNx)) (gSeq (gIf (tO (tN (tTr (e1 (isiD "tuple") (e2 ixE (eV 0) (eC (.int 1)))))) (tO (tB1 (e2 gtD (eCall lenD (aC (e2 ixE (eV 0) (eC (.int 1))) (aN))) (eC (.int 7)))) (tN (tTr (eCall F9 (aC (e2 ixE (eV 0) (eC (.int 2))) (aC (eC (.int 0)) (aC (eC (.int 5)) (aN))))))))) (gRet (eC (.bool false))) (gNx)) (gRet (eCall allD (aC (eLc [1] (iS (e2 ixE (eV 0) (eC (.int 1)))) m1 [1] (tTrue) (eCall F12 (aC (eV 1) (aC (e2 ixE (eV 0) (eC (.int 0))) (aN))))) (aN)))))
def F13 : List PyData → Option PyData := runF 1 N13 g13
theorem sc13 : FnScope N13 ["value"] (defScope s13) := ⟨rfl, rfl, rfl, by decide +kernel, rfl, by decide +kernel, by decide +kernel⟩
theorem ok13 (T : Tx K mg) : OkF P w K mg base "is_list" 4 1 F13 := by
  have nd := sc13.nd
  obtain ⟨f, fd, F, hm⟩ := T.d13
  refine ⟨fun ds d h => runF_len h, f, fd, ["value"], hm, F.kp, F.bindsN fun _ _ _ _ _ _ us hl => match us, hl with | [_], _ => rfl, rfl, fn_pure F sc13 rfl fun cdv A outer s H E hr => ?_⟩
  exact ss_cons (s_if ((dw_or (dt_not (dt_truth (d_isi T.isinstance T.tuple bt_tuple (d_var 0)))) (dw_or (dt_cmp (o_ne (rm64 hr)) (d_callB c_len T.len bt_len (da_cons (d_var 0) (da_nil))) (d_int)) (dw_or1 (dt_not (dt_truth (d_call (ok10 T) hr (by decide) (da_cons (d_ix (x_ix (rm20 hr)) (d_var 0) (d_int)) (da_nil)))))))).pt) (ss_one (s_ret (d_bl))) (ss_nil)) (ss_cons (s_if ((dw_or (dt_not (dt_truth (d_isi T.isinstance T.tuple bt_tuple (d_ix (x_ix (rm20 hr)) (d_var 0) (d_int))))) (dw_or (dt_cmp o_gt (d_callB c_len T.len bt_len (da_cons (d_ix (x_ix (rm20 hr)) (d_var 0) (d_int)) (da_nil))) (d_gint T.MOST_RULES)) (dw_or1 (dt_not (dt_truth (d_call (ok9 T) hr (by decide) (da_cons (d_ix (x_ix (rm20 hr)) (d_var 0) (d_int)) (da_cons (d_int) (da_cons (d_gint T.LAST_ACTION) (da_nil)))))))))).pt) (ss_one (s_ret (d_bl))) (ss_nil)) (ss_one (s_ret (d_callB (c_all rfl) T.all bt_all (da_cons (d_lc rfl nd (blkOk_by (N := N13) (sc := defScope s13) (own := [("rule", 1)]) (by decide +kernel)) (i_seq (d_ix (x_ix (rm20 hr)) (d_var 0) (d_int))) (tg_name 1) (by decide) (fun _ _ _ _ _ => (pg_name (i := 1) nd rfl (Or.inl rfl))) (fun _ _ _ _ _ => dts_nil) (fun _ _ _ _ _ => d_call (ok12 T) hr (by decide) (da_cons (d_var 1) (da_cons (d_ix (x_ix (rm20 hr)) (d_var 0) (d_int)) (da_nil))))) (da_nil))))))
/-! ### 14: is_case -/
abbrev N14 : List Str := ["listed", "value", "at", "width"]
def g14 : DE → Option Out := gSeq (gIf (tO (tN (tTr (e1 (isiD "tuple") (eV 1)))) (tB1 (e2 neD (eCall lenD (aC (eV 1) (aN))) (eCall lenD (aC (e2 ixE (eV 0) (eC (.int 0))) (aN)))))) (gRet (eC (.bool false))) (gNx)) (gRet (eCall allD (aC (eLc [2, 3] (iE (e2 ixE (eV 0) (eC (.int 0)))) (mT 2) [2, 3] (tTrue) (eCall F9 (aC (e2 ixE (eV 1) (eV 2)) (aC (eC (.int 0)) (aC (e2 subD (eV 3) (eC (.int 1))) (aN)))))) (aN))))
def F14 : List PyData → Option PyData := runF 2 N14 g14
theorem sc14 : FnScope N14 ["listed", "value"] (defScope s14) := ⟨rfl, rfl, rfl, by decide +kernel, rfl, by decide +kernel, by decide +kernel⟩
theorem ok14 (T : Tx K mg) : OkF P w K mg base "is_case" 2 2 F14 := by
  have nd := sc14.nd
  obtain ⟨f, fd, F, hm⟩ := T.d14
  refine ⟨fun ds d h => runF_len h, f, fd, ["listed", "value"], hm, F.kp, F.bindsN fun _ _ _ _ _ _ us hl => match us, hl with | [_, _], _ => rfl, rfl, fn_pure F sc14 rfl fun cdv A outer s H E hr => ?_⟩
  exact ss_cons (s_if ((dw_or (dt_not (dt_truth (d_isi T.isinstance T.tuple bt_tuple (d_var 1)))) (dw_or1 (dt_cmp (o_ne (rm64 hr)) (d_callB c_len T.len bt_len (da_cons (d_var 1) (da_nil))) (d_callB c_len T.len bt_len (da_cons (d_ix (x_ix (rm20 hr)) (d_var 0) (d_int)) (da_nil)))))).pt) (ss_one (s_ret (d_bl))) (ss_nil)) (ss_one (s_ret (d_callB (c_all rfl) T.all bt_all (da_cons (d_lc rfl nd (blkOk_by (N := N14) (sc := defScope s14) (own := [("at", 2), ("width", 3)]) (by decide +kernel)) (i_enum T.enumerate (d_ix (x_ix (rm20 hr)) (d_var 0) (d_int))) (tg_tup [2, 3] rfl) (by decide) (fun _ _ _ _ _ => (pg_tup rfl (pgs_cons (pg_name (i := 2) nd rfl (Or.inl rfl)) (pgs_cons (pg_name (i := 3) nd rfl (Or.inl rfl)) pgs_nil)))) (fun _ _ _ _ _ => dts_nil) (fun _ _ _ _ _ => d_call (ok9 T) hr (by decide) (da_cons (d_ix (x_ix (rm20 hr)) (d_var 1) (d_var 2)) (da_cons (d_int) (da_cons (d_op o_sub (d_var 3) (d_int)) (da_nil)))))) (da_nil)))))
/-! ### 15: is_number -/
abbrev N15 : List Str := ["listed", "value"]
def g15 : DE → Option Out := gRet (eCall F9 (aC (eV 1) (aC (eC (.int 0)) (aC (e2 subD (eCall lenD (aC (e2 ixE (eV 0) (eC (.int 1))) (aN))) (eC (.int 1))) (aN)))))
def F15 : List PyData → Option PyData := runF 2 N15 g15
theorem sc15 : FnScope N15 ["listed", "value"] (defScope s15) := ⟨rfl, rfl, rfl, by decide +kernel, rfl, by decide +kernel, by decide +kernel⟩
theorem ok15 (T : Tx K mg) : OkF P w K mg base "is_number" 2 2 F15 := by
  have nd := sc15.nd
  obtain ⟨f, fd, F, hm⟩ := T.d15
  refine ⟨fun ds d h => runF_len h, f, fd, ["listed", "value"], hm, F.kp, F.bindsN fun _ _ _ _ _ _ us hl => match us, hl with | [_, _], _ => rfl, rfl, fn_pure F sc15 rfl fun cdv A outer s H E hr => ?_⟩
  exact ss_one (s_ret (d_call (ok9 T) hr (by decide) (da_cons (d_var 1) (da_cons (d_int) (da_cons (d_op o_sub (d_callB c_len T.len bt_len (da_cons (d_ix (x_ix (rm20 hr)) (d_var 0) (d_int)) (da_nil))) (d_int)) (da_nil))))))
/-! ### 16: is_row -/
abbrev N16 : List Str := ["listed", "value", "number"]
def g16 : DE → Option Out := gSeq (gIf (tO (tN (tTr (e1 (isiD "tuple") (eV 1)))) (tN (tTr (eCall allD (aC (eLc [2] (iS (eV 1)) m1 [2] (tTrue) (eCall F15 (aC (eV 0) (aC (eV 2) (aN))))) (aN)))))) (gRet (eC (.bool false))) (gNx)) (gRet (e2 eqD (eCall sortedD (aC (eV 1) (aN))) (eRgL (eCall lenD (aC (e2 ixE (eV 0) (eC (.int 1))) (aN))))))
def F16 : List PyData → Option PyData := runF 2 N16 g16
theorem sc16 : FnScope N16 ["listed", "value"] (defScope s16) := ⟨rfl, rfl, rfl, by decide +kernel, rfl, by decide +kernel, by decide +kernel⟩
theorem ok16 (T : Tx K mg) : OkF P w K mg base "is_row" 3 2 F16 := by
  have nd := sc16.nd
  obtain ⟨f, fd, F, hm⟩ := T.d16
  refine ⟨fun ds d h => runF_len h, f, fd, ["listed", "value"], hm, F.kp, F.bindsN fun _ _ _ _ _ _ us hl => match us, hl with | [_, _], _ => rfl, rfl, fn_pure F sc16 rfl fun cdv A outer s H E hr => ?_⟩
  exact ss_cons (s_if ((dw_or (dt_not (dt_truth (d_isi T.isinstance T.tuple bt_tuple (d_var 1)))) (dw_or1 (dt_not (dt_truth (d_callB (c_all rfl) T.all bt_all (da_cons (d_lc rfl nd (blkOk_by (N := N16) (sc := defScope s16) (own := [("number", 2)]) (by decide +kernel)) (i_seq (d_var 1)) (tg_name 2) (by decide) (fun _ _ _ _ _ => (pg_name (i := 2) nd rfl (Or.inl rfl))) (fun _ _ _ _ _ => dts_nil) (fun _ _ _ _ _ => d_call (ok15 T) hr (by decide) (da_cons (d_var 0) (da_cons (d_var 2) (da_nil))))) (da_nil))))))).pt) (ss_one (s_ret (d_bl))) (ss_nil)) (ss_one (s_ret (d_cmp (o_eq (rm64 hr)) (d_callB c_sorted T.sorted bt_sorted (da_cons (d_var 1) (da_nil))) (d_rgL rfl T.list T.range (d_callB c_len T.len bt_len (da_cons (d_ix (x_ix (rm20 hr)) (d_var 0) (d_int)) (da_nil)))))))
/-! ### 17: check_list -/
abbrev N17 : List Str := ["listed", "name"]
def g17 : DE → Option Out := gIf (tN (tTr (eCall F13 (aC (eV 0) (aN))))) ((fun _ => none)) (gNx)
def F17 : List PyData → Option PyData := runF 2 N17 g17
theorem sc17 : FnScope N17 ["listed", "name"] (defScope s17) := ⟨rfl, rfl, rfl, by decide +kernel, rfl, by decide +kernel, by decide +kernel⟩
theorem ok17 (T : Tx K mg) : OkF P w K mg base "check_list_lists" 5 2 F17 := by
  have nd := sc17.nd
  obtain ⟨f, fd, F, hm⟩ := T.d17
  refine ⟨fun ds d h => runF_len h, f, fd, ["listed", "name"], hm, F.kp, F.bindsN fun _ _ _ _ _ _ us hl => match us, hl with | [_, _], _ => rfl, rfl, fn_pure F sc17 rfl fun cdv A outer s H E hr => ?_⟩
  exact ss_one (s_if (dt_not (dt_truth (d_call (ok13 T) hr (by decide) (da_cons (d_var 0) (da_nil))))) (ss_fail) (ss_nil))
/-! ### 19: cases_of -/
abbrev N19 : List Str := ["widths", "found", "width", "case", "value"]
def g19 : DE → Option Out := gSeq (gSet 1 (eLst (aC (eTup (aN)) (aN)))) (gSeq (gFor (iS (eV 0)) m1 [2] (gSet 1 (eLc2 [3, 4] (iS (eV 1)) m1 [3] (iR (eV 2)) m1 [4] (e2 addD (eV 3) (eTup (aC (eV 4) (aN))))))) (gRet (eV 1)))
def F19 : List PyData → Option PyData := runF 1 N19 g19
theorem sc19 : FnScope N19 ["widths"] (defScope s19) := ⟨rfl, rfl, rfl, by decide +kernel, rfl, by decide +kernel, by decide +kernel⟩
theorem ok19 (T : Tx K mg) : OkF P w K mg base "cases_of" 1 1 F19 := by
  have nd := sc19.nd
  obtain ⟨f, fd, F, hm⟩ := T.d19
  refine ⟨fun ds d h => runF_len h, f, fd, ["widths"], hm, F.kp, F.bindsN fun _ _ _ _ _ _ us hl => match us, hl with | [_], _ => rfl, rfl, fn_pure F sc19 rfl fun cdv A outer s H E hr => ?_⟩
  exact ss_cons (s_set 1 (d_lst (da_cons (d_tup (da_nil)) (da_nil))) nd) (ss_cons (s_for PassesOwn.never rfl (i_seq (d_var 0)) (tg_name 2) (pg_name (i := 2) nd rfl (Or.inr rfl)) (ss_one (s_setLc2 1 rfl nd (blkOk_by (N := N19) (sc := defScope s19) (own := [("case", 3), ("value", 4)]) (by decide +kernel)) (i_seq (d_var 1)) (tg_name 3) (by decide) (fun _ _ _ _ _ => (pg_name (i := 3) nd rfl (Or.inl rfl))) (fun _ _ _ _ _ => i_range T.range (d_var 2)) (tg_name 4) (by decide) (fun _ _ _ _ _ => (pg_name (i := 4) nd rfl (Or.inl rfl))) (fun _ _ _ _ _ => d_op o_add (d_var 3) (d_tup (da_cons (d_var 4) (da_nil)))) (sw_true rfl rfl rfl (by decide +kernel))))) (ss_one (s_ret (d_var 1))))
/-! ### 20: matches_in -/
abbrev N20 : List Str := ["listed", "number", "case", "ranges", "at", "value"]
def g20 : DE → Option Out := gSeq (gSet 3 (e2 ixE (e2 ixE (e2 ixE (eV 0) (eC (.int 1))) (eV 1)) (eC (.int 1)))) (gRet (eCall allD (aC (eLc [4, 5] (iE (eV 2)) (mT 2) [4, 5] (tTrue) (e3 leD leD (e2 ixE (e2 ixE (eV 3) (eV 4)) (eC (.int 0))) (eV 5) (e2 ixE (e2 ixE (eV 3) (eV 4)) (eC (.int 1))))) (aN))))
def F20 : List PyData → Option PyData := runF 3 N20 g20
theorem sc20 : FnScope N20 ["listed", "number", "case"] (defScope s20) := ⟨rfl, rfl, rfl, by decide +kernel, rfl, by decide +kernel, by decide +kernel⟩
theorem ok20 (T : Tx K mg) : OkF P w K mg base "matches_in" 1 3 F20 := by
  have nd := sc20.nd
  obtain ⟨f, fd, F, hm⟩ := T.d20
  refine ⟨fun ds d h => runF_len h, f, fd, ["listed", "number", "case"], hm, F.kp, F.bindsN fun _ _ _ _ _ _ us hl => match us, hl with | [_, _, _], _ => rfl, rfl, fn_pure F sc20 rfl fun cdv A outer s H E hr => ?_⟩
  exact ss_cons (s_set 3 (d_ix (x_ix (rm20 hr)) (d_ix (x_ix (rm20 hr)) (d_ix (x_ix (rm20 hr)) (d_var 0) (d_int)) (d_var 1)) (d_int)) nd) (ss_one (s_ret (d_callB (c_all rfl) T.all bt_all (da_cons (d_lc rfl nd (blkOk_by (N := N20) (sc := defScope s20) (own := [("at", 4), ("value", 5)]) (by decide +kernel)) (i_enum T.enumerate (d_var 2)) (tg_tup [4, 5] rfl) (by decide) (fun _ _ _ _ _ => (pg_tup rfl (pgs_cons (pg_name (i := 4) nd rfl (Or.inl rfl)) (pgs_cons (pg_name (i := 5) nd rfl (Or.inl rfl)) pgs_nil)))) (fun _ _ _ _ _ => dts_nil) (fun _ _ _ _ _ => d_chain o_le o_le (d_ix (x_ix (rm20 hr)) (d_ix (x_ix (rm20 hr)) (d_var 3) (d_var 4)) (d_int)) (d_var 5) (d_ix (x_ix (rm20 hr)) (d_ix (x_ix (rm20 hr)) (d_var 3) (d_var 4)) (d_int)))) (da_nil)))))
/-! ### 21: decided -/
abbrev N21 : List Str := ["listed", "row", "case", "number"]
def g21 : DE → Option Out := gSeq (gFor (iS (eV 1)) m1 [3] (gIf (tTr (eCall F20 (aC (eV 0) (aC (eV 3) (aC (eV 2) (aN)))))) (gRet (eTup (aC (e2 ixE (e2 ixE (e2 ixE (eV 0) (eC (.int 1))) (eV 3)) (eC (.int 0))) (aC (eV 3) (aN))))) (gNx))) (gRet (eTup (aC (e2 ixE (eV 0) (eC (.int 2))) (aC (eC .none) (aN)))))
def F21 : List PyData → Option PyData := runF 3 N21 g21
theorem sc21 : FnScope N21 ["listed", "row", "case"] (defScope s21) := ⟨rfl, rfl, rfl, by decide +kernel, rfl, by decide +kernel, by decide +kernel⟩
theorem ok21 (T : Tx K mg) : OkF P w K mg base "decided" 2 3 F21 := by
  have nd := sc21.nd
  obtain ⟨f, fd, F, hm⟩ := T.d21
  refine ⟨fun ds d h => runF_len h, f, fd, ["listed", "row", "case"], hm, F.kp, F.bindsN fun _ _ _ _ _ _ us hl => match us, hl with | [_, _, _], _ => rfl, rfl, fn_pure F sc21 rfl fun cdv A outer s H E hr => ?_⟩
  exact ss_cons (s_for PassesOwn.never rfl (i_seq (d_var 1)) (tg_name 3) (pg_name (i := 3) nd rfl (Or.inl rfl)) (ss_one (s_if (dt_truth (d_call (ok20 T) hr (by decide) (da_cons (d_var 0) (da_cons (d_var 3) (da_cons (d_var 2) (da_nil)))))) (ss_one (s_ret (d_tup (da_cons (d_ix (x_ix (rm20 hr)) (d_ix (x_ix (rm20 hr)) (d_ix (x_ix (rm20 hr)) (d_var 0) (d_int)) (d_var 3)) (d_int)) (da_cons (d_var 3) (da_nil)))))) (ss_nil)))) (ss_one (s_ret (d_tup (da_cons (d_ix (x_ix (rm20 hr)) (d_var 0) (d_int)) (da_cons (d_non) (da_nil))))))
end
end G8

namespace G8
open L2 PyProof.Rows PySem.Spec PySem
section
variable {P : Program} {w : World} {K : PySem.W.Frag} {mg : Str → Option Value} {base : Heap}

/-! ### 25: is_action -/
abbrev N25 : List Str := ["value"]
def g25 : DE → Option Out := gRet (eA (e1 (isiD "int") (eV 0)) (eA (eN (e1 (isiD "bool") (eV 0))) (e3 leD leD (eC (.int 0)) (eV 0) (eC (.int 5)))))
def F25 : List PyData → Option PyData := runF 1 N25 g25
theorem sc25 : FnScope N25 ["value"] (defScope s25) := ⟨rfl, rfl, rfl, by decide +kernel, rfl, by decide +kernel, by decide +kernel⟩
theorem ok25 (T : Tx K mg) : OkF P w K mg base "is_action" 1 1 F25 := by
  have nd := sc25.nd
  obtain ⟨f, fd, F, hm⟩ := T.d25
  refine ⟨fun ds d h => runF_len h, f, fd, ["value"], hm, F.kp, F.bindsN fun _ _ _ _ _ _ us hl => match us, hl with | [_], _ => rfl, rfl, fn_pure F sc25 rfl fun cdv A outer s H E hr => ?_⟩
  exact ss_one (s_ret (d_and (d_isi T.isinstance T.int bt_int (d_var 0)) (d_and (d_not (d_isi T.isinstance T.bool bt_bool (d_var 0))) (d_one (d_chain o_le o_le (d_int) (d_var 0) (d_gint T.MOST_ACTION))))))
/-! ### 26: are_pairs -/
abbrev N26 : List Str := ["listed", "value", "pair", "at"]
def g26 : DE → Option Out := gSeq (gIf (tO (tN (tTr (e1 (isiD "tuple") (eV 1)))) (tB1 (e2 gtD (eCall lenD (aC (eV 1) (aN))) (eC (.int 12))))) (gRet (eC (.bool false))) (gNx)) (gSeq (gFor (iS (eV 1)) m1 [2] (gIf (tO (tN (tTr (e1 (isiD "tuple") (eV 2)))) (tO (tB1 (e2 neD (eCall lenD (aC (eV 2) (aN))) (eC (.int 2)))) (tO (tN (tTr (eCall F14 (aC (eV 0) (aC (e2 ixE (eV 2) (eC (.int 0))) (aN)))))) (tN (tTr (eCall F25 (aC (e2 ixE (eV 2) (eC (.int 1))) (aN)))))))) (gRet (eC (.bool false))) (gNx))) (gRet (eCall allD (aC (eLc [3] (iR (e2 subD (eCall lenD (aC (eV 1) (aN))) (eC (.int 1)))) m1 [3] (tTrue) (e2 ltD (e2 ixE (e2 ixE (eV 1) (eV 3)) (eC (.int 0))) (e2 ixE (e2 ixE (eV 1) (e2 addD (eV 3) (eC (.int 1)))) (eC (.int 0))))) (aN)))))
def F26 : List PyData → Option PyData := runF 2 N26 g26
theorem sc26 : FnScope N26 ["listed", "value"] (defScope s26) := ⟨rfl, rfl, rfl, by decide +kernel, rfl, by decide +kernel, by decide +kernel⟩
theorem ok26 (T : Tx K mg) : OkF P w K mg base "are_pairs" 3 2 F26 := by
  have nd := sc26.nd
  obtain ⟨f, fd, F, hm⟩ := T.d26
  refine ⟨fun ds d h => runF_len h, f, fd, ["listed", "value"], hm, F.kp, F.bindsN fun _ _ _ _ _ _ us hl => match us, hl with | [_, _], _ => rfl, rfl, fn_pure F sc26 rfl fun cdv A outer s H E hr => ?_⟩
  exact ss_cons (s_if ((dw_or (dt_not (dt_truth (d_isi T.isinstance T.tuple bt_tuple (d_var 1)))) (dw_or1 (dt_cmp o_gt (d_callB c_len T.len bt_len (da_cons (d_var 1) (da_nil))) (d_gint T.MOST_PAIRS)))).pt) (ss_one (s_ret (d_bl))) (ss_nil)) (ss_cons (s_for PassesOwn.never rfl (i_seq (d_var 1)) (tg_name 2) (pg_name (i := 2) nd rfl (Or.inl rfl)) (ss_one (s_if ((dw_or (dt_not (dt_truth (d_isi T.isinstance T.tuple bt_tuple (d_var 2)))) (dw_or (dt_cmp (o_ne (rm64 hr)) (d_callB c_len T.len bt_len (da_cons (d_var 2) (da_nil))) (d_int)) (dw_or (dt_not (dt_truth (d_call (ok14 T) hr (by decide) (da_cons (d_var 0) (da_cons (d_ix (x_ix (rm20 hr)) (d_var 2) (d_int)) (da_nil)))))) (dw_or1 (dt_not (dt_truth (d_call (ok25 T) hr (by decide) (da_cons (d_ix (x_ix (rm20 hr)) (d_var 2) (d_int)) (da_nil))))))))).pt) (ss_one (s_ret (d_bl))) (ss_nil)))) (ss_one (s_ret (d_callB (c_all rfl) T.all bt_all (da_cons (d_lc rfl nd (blkOk_by (N := N26) (sc := defScope s26) (own := [("at", 3)]) (by decide +kernel)) (i_range T.range (d_op o_sub (d_callB c_len T.len bt_len (da_cons (d_var 1) (da_nil))) (d_int))) (tg_name 3) (by decide) (fun _ _ _ _ _ => (pg_name (i := 3) nd rfl (Or.inl rfl))) (fun _ _ _ _ _ => dts_nil) (fun _ _ _ _ _ => d_cmp (o_lt (rm0 hr)) (d_ix (x_ix (rm20 hr)) (d_ix (x_ix (rm20 hr)) (d_var 1) (d_var 3)) (d_int)) (d_ix (x_ix (rm20 hr)) (d_ix (x_ix (rm20 hr)) (d_var 1) (d_op o_add (d_var 3) (d_int))) (d_int)))) (da_nil))))))
/-! ### 28: check_list -/
abbrev N28 : List Str := ["listed"]
def g28 : DE → Option Out := gIf (tN (tTr (eCall F13 (aC (eV 0) (aN))))) ((fun _ => none)) (gNx)
def F28 : List PyData → Option PyData := runF 1 N28 g28
theorem sc28 : FnScope N28 ["listed"] (defScope s28) := ⟨rfl, rfl, rfl, by decide +kernel, rfl, by decide +kernel, by decide +kernel⟩
theorem ok28 (T : Tx K mg) : OkF P w K mg base "check_list" 5 1 F28 := by
  have nd := sc28.nd
  obtain ⟨f, fd, F, hm⟩ := T.d28
  refine ⟨fun ds d h => runF_len h, f, fd, ["listed"], hm, F.kp, F.bindsN fun _ _ _ _ _ _ us hl => match us, hl with | [_], _ => rfl, rfl, fn_pure F sc28 rfl fun cdv A outer s H E hr => ?_⟩
  exact ss_one (s_if (dt_not (dt_truth (d_call (ok13 T) hr (by decide) (da_cons (d_var 0) (da_nil))))) (ss_fail) (ss_nil))
theorem ok28w (T : Tx K mg) : OkF P w K mg base "check_list_wanted" 5 1 F28 := by
  have nd := sc28.nd
  obtain ⟨f, fd, F, hm⟩ := T.d28w
  refine ⟨fun ds d h => runF_len h, f, fd, ["listed"], hm, F.kp, F.bindsN fun _ _ _ _ _ _ us hl => match us, hl with | [_], _ => rfl, rfl, fn_pure F sc28 rfl fun cdv A outer s H E hr => ?_⟩
  exact ss_one (s_if (dt_not (dt_truth (d_call (ok13 T) hr (by decide) (da_cons (d_var 0) (da_nil))))) (ss_fail) (ss_nil))
/-! ### 27: is_wanted -/
abbrev N27 : List Str := ["listed", "value"]
def g27 : DE → Option Out := gSeq (gDrop (eCall F28 (aC (eV 0) (aN)))) (gSeq (gIf (tO (tN (tTr (e1 (isiD "tuple") (eV 1)))) (tO (tN (tTr (eV 1))) (tN (tTr (e1 (isiD "str") (e2 ixE (eV 1) (eC (.int 0)))))))) (gRet (eC (.bool false))) (gNx)) (gSeq (gIf (tB1 (e2 eqD (e2 ixE (eV 1) (eC (.int 0))) (eC (.str "self")))) (gRet (e2 eqD (eCall lenD (aC (eV 1) (aN))) (eC (.int 1)))) (gNx)) (gSeq (gIf (tB1 (e2 neD (eCall lenD (aC (eV 1) (aN))) (eC (.int 2)))) (gRet (eC (.bool false))) (gNx)) (gSeq (gIf (tB1 (e2 eqD (e2 ixE (eV 1) (eC (.int 0))) (eC (.str "list")))) (gRet (eA (eCall F13 (aC (e2 ixE (eV 1) (eC (.int 1))) (aN))) (e2 eqD (e2 ixE (e2 ixE (eV 1) (eC (.int 1))) (eC (.int 0))) (e2 ixE (eV 0) (eC (.int 0)))))) (gNx)) (gRet (eA (e2 eqD (e2 ixE (eV 1) (eC (.int 0))) (eC (.str "cases"))) (eCall F26 (aC (eV 0) (aC (e2 ixE (eV 1) (eC (.int 1))) (aN))))))))))
def F27 : List PyData → Option PyData := runF 2 N27 g27
theorem sc27 : FnScope N27 ["listed", "value"] (defScope s27) := ⟨rfl, rfl, rfl, by decide +kernel, rfl, by decide +kernel, by decide +kernel⟩
theorem ok27 (T : Tx K mg) : OkF P w K mg base "is_wanted" 6 2 F27 := by
  have nd := sc27.nd
  obtain ⟨f, fd, F, hm⟩ := T.d27
  refine ⟨fun ds d h => runF_len h, f, fd, ["listed", "value"], hm, F.kp, F.bindsN fun _ _ _ _ _ _ us hl => match us, hl with | [_, _], _ => rfl, rfl, fn_pure F sc27 rfl fun cdv A outer s H E hr => ?_⟩
  exact ss_cons (s_expr (d_call (ok28w T) hr (by decide) (da_cons (d_var 0) (da_nil)))) (ss_cons (s_if ((dw_or (dt_not (dt_truth (d_isi T.isinstance T.tuple bt_tuple (d_var 1)))) (dw_or (dt_not (dt_truth (d_var 1))) (dw_or1 (dt_not (dt_truth (d_isi T.isinstance T.str bt_str (d_ix (x_ix (rm20 hr)) (d_var 1) (d_int)))))))).pt) (ss_one (s_ret (d_bl))) (ss_nil)) (ss_cons (s_if (dt_cmp (o_eq (rm64 hr)) (d_ix (x_ix (rm20 hr)) (d_var 1) (d_int)) (d_str)) (ss_one (s_ret (d_cmp (o_eq (rm64 hr)) (d_callB c_len T.len bt_len (da_cons (d_var 1) (da_nil))) (d_int)))) (ss_nil)) (ss_cons (s_if (dt_cmp (o_ne (rm64 hr)) (d_callB c_len T.len bt_len (da_cons (d_var 1) (da_nil))) (d_int)) (ss_one (s_ret (d_bl))) (ss_nil)) (ss_cons (s_if (dt_cmp (o_eq (rm64 hr)) (d_ix (x_ix (rm20 hr)) (d_var 1) (d_int)) (d_str)) (ss_one (s_ret (d_and (d_call (ok13 T) hr (by decide) (da_cons (d_ix (x_ix (rm20 hr)) (d_var 1) (d_int)) (da_nil))) (d_one (d_cmp (o_eq (rm64 hr)) (d_ix (x_ix (rm20 hr)) (d_ix (x_ix (rm20 hr)) (d_var 1) (d_int)) (d_int)) (d_ix (x_ix (rm20 hr)) (d_var 0) (d_int))))))) (ss_nil)) (ss_one (s_ret (d_and (d_cmp (o_eq (rm64 hr)) (d_ix (x_ix (rm20 hr)) (d_var 1) (d_int)) (d_str)) (d_one (d_call (ok26 T) hr (by decide) (da_cons (d_var 0) (da_cons (d_ix (x_ix (rm20 hr)) (d_var 1) (d_int)) (da_nil))))))))))))
/-! ### 30: ascending -/
abbrev N30 : List Str := ["listed"]
def g30 : DE → Option Out := gRet (eRgT (eCall lenD (aC (e2 ixE (eV 0) (eC (.int 1))) (aN))))
def F30 : List PyData → Option PyData := runF 1 N30 g30
theorem sc30 : FnScope N30 ["listed"] (defScope s30) := ⟨rfl, rfl, rfl, by decide +kernel, rfl, by decide +kernel, by decide +kernel⟩
theorem ok30 (T : Tx K mg) : OkF P w K mg base "ascending" 1 1 F30 := by
  have nd := sc30.nd
  obtain ⟨f, fd, F, hm⟩ := T.d30
  refine ⟨fun ds d h => runF_len h, f, fd, ["listed"], hm, F.kp, F.bindsN fun _ _ _ _ _ _ us hl => match us, hl with | [_], _ => rfl, rfl, fn_pure F sc30 rfl fun cdv A outer s H E hr => ?_⟩
  exact ss_one (s_ret (d_rgT rfl T.tuple T.range (d_callB c_len T.len bt_len (da_cons (d_ix (x_ix (rm20 hr)) (d_var 0) (d_int)) (da_nil)))))
/-! ### 31: wants -/
abbrev N31 : List Str := ["listed", "wanted", "model", "case"]
def g31 : DE → Option Out := gSeq (gIf (tB1 (e2 eqD (e2 ixE (eV 1) (eC (.int 0))) (eC (.str "cases")))) (gRet (eCall listD (aC (e2 ixE (eV 1) (eC (.int 1))) (aN)))) (gNx)) (gSeq (gSet 2 (eIf (tB1 (e2 eqD (e2 ixE (eV 1) (eC (.int 0))) (eC (.str "self")))) (eV 0) (e2 ixE (eV 1) (eC (.int 1))))) (gRet (eLc [3] (iS (eCall F19 (aC (e2 ixE (eV 0) (eC (.int 0))) (aN)))) m1 [3] (tTrue) (eTup (aC (eV 3) (aC (e2 ixE (eCall F21 (aC (eV 2) (aC (eCall F30 (aC (eV 2) (aN))) (aC (eV 3) (aN))))) (eC (.int 0))) (aN)))))))
def F31 : List PyData → Option PyData := runF 2 N31 g31
theorem sc31 : FnScope N31 ["listed", "wanted"] (defScope s31) := ⟨rfl, rfl, rfl, by decide +kernel, rfl, by decide +kernel, by decide +kernel⟩
theorem ok31 (T : Tx K mg) : OkF P w K mg base "wants" 3 2 F31 := by
  have nd := sc31.nd
  obtain ⟨f, fd, F, hm⟩ := T.d31
  refine ⟨fun ds d h => runF_len h, f, fd, ["listed", "wanted"], hm, F.kp, F.bindsN fun _ _ _ _ _ _ us hl => match us, hl with | [_, _], _ => rfl, rfl, fn_pure F sc31 rfl fun cdv A outer s H E hr => ?_⟩
  exact ss_cons (s_if (dt_cmp (o_eq (rm64 hr)) (d_ix (x_ix (rm20 hr)) (d_var 1) (d_int)) (d_str)) (ss_one (s_ret (d_callTy c_list T.list bt_list (da_cons (d_ix (x_ix (rm20 hr)) (d_var 1) (d_int)) (da_nil))))) (ss_nil)) (ss_cons (s_set 2 (d_if (dt_cmp (o_eq (rm64 hr)) (d_ix (x_ix (rm20 hr)) (d_var 1) (d_int)) (d_str)) (d_var 0) (d_ix (x_ix (rm20 hr)) (d_var 1) (d_int))) nd) (ss_one (s_ret (d_lc rfl nd (blkOk_by (N := N31) (sc := defScope s31) (own := [("case", 3)]) (by decide +kernel)) (i_seq (d_call (ok19 T) hr (by decide) (da_cons (d_ix (x_ix (rm20 hr)) (d_var 0) (d_int)) (da_nil)))) (tg_name 3) (by decide) (fun _ _ _ _ _ => (pg_name (i := 3) nd rfl (Or.inl rfl))) (fun _ _ _ _ _ => dts_nil) (fun _ _ _ _ _ => d_tup (da_cons (d_var 3) (da_cons (d_ix (x_ix (rm20 hr)) (d_call (ok21 T) hr (by decide) (da_cons (d_var 2) (da_cons (d_call (ok30 T) hr (by decide) (da_cons (d_var 2) (da_nil))) (da_cons (d_var 3) (da_nil))))) (d_int)) (da_nil))))))))
/-! ### 33: check_both -/
abbrev N33 : List Str := ["listed", "wanted"]
def g33 : DE → Option Out := gSeq (gDrop (eCall F17 (aC (eV 0) (aC (eC (.str "listed")) (aN))))) (gIf (tN (tTr (eCall F27 (aC (eV 0) (aC (eV 1) (aN)))))) ((fun _ => none)) (gNx))
def F33 : List PyData → Option PyData := runF 2 N33 g33
theorem sc33 : FnScope N33 ["listed", "wanted"] (defScope s33) := ⟨rfl, rfl, rfl, by decide +kernel, rfl, by decide +kernel, by decide +kernel⟩
theorem ok33 (T : Tx K mg) : OkF P w K mg base "check_both" 7 2 F33 := by
  have nd := sc33.nd
  obtain ⟨f, fd, F, hm⟩ := T.d33
  refine ⟨fun ds d h => runF_len h, f, fd, ["listed", "wanted"], hm, F.kp, F.bindsN fun _ _ _ _ _ _ us hl => match us, hl with | [_, _], _ => rfl, rfl, fn_pure F sc33 rfl fun cdv A outer s H E hr => ?_⟩
  exact ss_cons (s_expr (d_call (ok17 T) hr (by decide) (da_cons (d_var 0) (da_cons (d_str) (da_nil))))) (ss_one (s_if (dt_not (dt_truth (d_call (ok27 T) hr (by decide) (da_cons (d_var 0) (da_cons (d_var 1) (da_nil)))))) (ss_fail) (ss_nil)))
end
end G8

namespace G8
open L2 PyProof.Rows PySem.Spec PySem
section
variable {P : Program} {w : World} {K : PySem.W.Frag} {mg : Str → Option Value} {base : Heap}

/-! ### 34: kinds_of -/
abbrev N34 : List Str := ["listed", "wanted", "found", "case", "action", "matching", "number"]
def g34 : ZG := zNew [] 2 (eD0) (zSeq (zFor (zIP [2] (iS (eCall F31 (aC (eV 0) (aC (eV 1) (aN)))))) (mT 2) [3, 4] (zSeq (zSet 5 (zP [2] (eCall tupleD (aC (eLc [6] (iR (eCall lenD (aC (e2 ixE (eV 0) (eC (.int 1))) (aN)))) m1 [6] (tTr (eCall F20 (aC (eV 0) (aC (eV 6) (aC (eV 3) (aN)))))) (eV 6)) (aN))))) (zIf (zTP (tB1 (e2 notInE (eTup (aC (eV 5) (aC (eV 4) (aN)))) (eV 2)))) (zDset [2] 2 (eTup (aC (eV 5) (aC (eV 4) (aN)))) (eV 3)) (zNx)))) (zRel (zL (gRet (eLc [5, 4] (iK (eV 2)) (mT 2) [5, 4] (tTrue) (eTup (aC (eV 5) (aC (eV 4) (aC (e2 ixE (eV 2) (eTup (aC (eV 5) (aC (eV 4) (aN))))) (aN))))))))))
def F34 : List PyData → Option PyData := runFZ 2 N34 g34
theorem sc34 : FnScope N34 ["listed", "wanted"] (defScope s34) := ⟨rfl, rfl, rfl, by decide +kernel, rfl, by decide +kernel, by decide +kernel⟩
theorem ok34 (T : Tx K mg) : OkF P w K mg base "kinds_of" 4 2 F34 := by
  have nd := sc34.nd
  obtain ⟨f, fd, F, hm⟩ := T.d34
  refine ⟨fun ds d h => runFZ_len h, f, fd, ["listed", "wanted"], hm, F.kp, F.bindsN fun _ _ _ _ _ _ us hl => match us, hl with | [_, _], _ => rfl, rfl, fn_zpure F sc34 rfl fun cdv A outer s H E hr => ?_⟩
  exact zss_new (os := []) 2 (n_dict) (show PZSs _ 0 [2] _ _ from (zss_cons (zs_for PassesOwn.never rfl (zi_pure (i_seq (d_call (ok31 T) hr (by decide) (da_cons (d_var 0) (da_cons (d_var 1) (da_nil)))))) (tg_tup [3, 4] rfl) (pg_tup rfl (pgs_cons (pg_name (i := 3) nd rfl (Or.inr rfl)) (pgs_cons (pg_name (i := 4) nd rfl (Or.inl rfl)) pgs_nil))) (zss_cons (zs_set 5 (z_pure (d_callTy c_tuple T.tuple bt_tuple (da_cons (d_lc rfl nd (blkOk_by (N := N34) (sc := defScope s34) (own := [("number", 6)]) (by decide +kernel)) (i_range T.range (d_callB c_len T.len bt_len (da_cons (d_ix (x_ix (rm20 hr)) (d_var 0) (d_int)) (da_nil)))) (tg_name 6) (by decide) (fun _ _ _ _ _ => (pg_name (i := 6) nd rfl (Or.inl rfl))) (fun _ _ _ _ _ => dts_one (dt_truth (d_call (ok20 T) hr (by decide) (da_cons (d_var 0) (da_cons (d_var 6) (da_cons (d_var 3) (da_nil))))))) (fun _ _ _ _ _ => d_var 6)) (da_nil)))) nd) (zss_one (zs_if (zt_pure (dt_cmp (o_notInE (rm65 hr)) (d_tup (da_cons (d_var 5) (da_cons (d_var 4) (da_nil)))) (d_var 2))) (zss_one (zs_dset (rm20 hr) 2 (d_tup (da_cons (d_var 5) (da_cons (d_var 4) (da_nil)))) (d_var 3))) (zss_nil))))) (zss_rel (os := []) 2 (zss_plain (ss_one (s_ret (d_lc rfl nd (blkOk_by (N := N34) (sc := defScope s34) (own := [("matching", 5), ("action", 4)]) (by decide +kernel)) (i_keys (d_var 2)) (tg_tup [5, 4] rfl) (by decide) (fun _ _ _ _ _ => (pg_tup rfl (pgs_cons (pg_name (i := 5) nd rfl (Or.inl rfl)) (pgs_cons (pg_name (i := 4) nd rfl (Or.inl rfl)) pgs_nil)))) (fun _ _ _ _ _ => dts_nil) (fun _ _ _ _ _ => d_tup (da_cons (d_var 5) (da_cons (d_var 4) (da_cons (d_ix (x_ix (rm20 hr)) (d_var 2) (d_tup (da_cons (d_var 5) (da_cons (d_var 4) (da_nil))))) (da_nil)))))))))))) nd
/-! ### 35: action_by -/
abbrev N35 : List Str := ["listed", "row", "matching", "number"]
def g35 : DE → Option Out := gSeq (gFor (iS (eV 1)) m1 [3] (gIf (tB1 (e2 inE (eV 3) (eV 2))) (gRet (e2 ixE (e2 ixE (e2 ixE (eV 0) (eC (.int 1))) (eV 3)) (eC (.int 0)))) (gNx))) (gRet (e2 ixE (eV 0) (eC (.int 2))))
def F35 : List PyData → Option PyData := runF 3 N35 g35
theorem sc35 : FnScope N35 ["listed", "row", "matching"] (defScope s35) := ⟨rfl, rfl, rfl, by decide +kernel, rfl, by decide +kernel, by decide +kernel⟩
theorem ok35 (T : Tx K mg) : OkF P w K mg base "action_by" 1 3 F35 := by
  have nd := sc35.nd
  obtain ⟨f, fd, F, hm⟩ := T.d35
  refine ⟨fun ds d h => runF_len h, f, fd, ["listed", "row", "matching"], hm, F.kp, F.bindsN fun _ _ _ _ _ _ us hl => match us, hl with | [_, _, _], _ => rfl, rfl, fn_pure F sc35 rfl fun cdv A outer s H E hr => ?_⟩
  exact ss_cons (s_for PassesOwn.never rfl (i_seq (d_var 1)) (tg_name 3) (pg_name (i := 3) nd rfl (Or.inl rfl)) (ss_one (s_if (dt_cmp (o_inE (rm65 hr)) (d_var 3) (d_var 2)) (ss_one (s_ret (d_ix (x_ix (rm20 hr)) (d_ix (x_ix (rm20 hr)) (d_ix (x_ix (rm20 hr)) (d_var 0) (d_int)) (d_var 3)) (d_int)))) (ss_nil)))) (ss_one (s_ret (d_ix (x_ix (rm20 hr)) (d_var 0) (d_int))))
/-! ### 36: wrong_kind -/
abbrev N36 : List Str := ["listed", "kinds", "row", "matching", "action", "case"]
def g36 : DE → Option Out := gSeq (gFor (iS (eV 1)) (mT 3) [3, 4, 5] (gIf (tB1 (e2 neD (eCall F35 (aC (eV 0) (aC (eV 2) (aC (eV 3) (aN))))) (eV 4))) (gRet (eV 5)) (gNx))) (gRet (eC .none))
def F36 : List PyData → Option PyData := runF 3 N36 g36
theorem sc36 : FnScope N36 ["listed", "kinds", "row"] (defScope s36) := ⟨rfl, rfl, rfl, by decide +kernel, rfl, by decide +kernel, by decide +kernel⟩
theorem ok36 (T : Tx K mg) : OkF P w K mg base "wrong_kind" 2 3 F36 := by
  have nd := sc36.nd
  obtain ⟨f, fd, F, hm⟩ := T.d36
  refine ⟨fun ds d h => runF_len h, f, fd, ["listed", "kinds", "row"], hm, F.kp, F.bindsN fun _ _ _ _ _ _ us hl => match us, hl with | [_, _, _], _ => rfl, rfl, fn_pure F sc36 rfl fun cdv A outer s H E hr => ?_⟩
  exact ss_cons (s_for PassesOwn.never rfl (i_seq (d_var 1)) (tg_tup [3, 4, 5] rfl) (pg_tup rfl (pgs_cons (pg_name (i := 3) nd rfl (Or.inl rfl)) (pgs_cons (pg_name (i := 4) nd rfl (Or.inl rfl)) (pgs_cons (pg_name (i := 5) nd rfl (Or.inl rfl)) pgs_nil)))) (ss_one (s_if (dt_cmp (o_ne (rm64 hr)) (d_call (ok35 T) hr (by decide) (da_cons (d_var 0) (da_cons (d_var 2) (da_cons (d_var 3) (da_nil))))) (d_var 4)) (ss_one (s_ret (d_var 5))) (ss_nil)))) (ss_one (s_ret (d_non)))
/-! ### 37: barred -/
abbrev N37 : List Str := ["listed", "kinds", "placed", "number", "matching", "action", "case", "other"]
def g37 : DE → Option Out := gSeq (gFor (iS (eV 1)) (mT 3) [4, 5, 6] (gIf (tA (tB1 (e2 inE (eV 3) (eV 4))) (tB1 (e2 neD (eV 5) (e2 ixE (e2 ixE (e2 ixE (eV 0) (eC (.int 1))) (eV 3)) (eC (.int 0)))))) (gIf (tN (tTr (eCall anyD (aC (eLc [7] (iS (eV 2)) m1 [7] (tTrue) (e2 inE (eV 7) (eV 4))) (aN))))) (gRet (eV 6)) (gNx)) (gNx))) (gRet (eC .none))
def F37 : List PyData → Option PyData := runF 4 N37 g37
theorem sc37 : FnScope N37 ["listed", "kinds", "placed", "number"] (defScope s37) := ⟨rfl, rfl, rfl, by decide +kernel, rfl, by decide +kernel, by decide +kernel⟩
theorem ok37 (T : Tx K mg) : OkF P w K mg base "barred" 1 4 F37 := by
  have nd := sc37.nd
  obtain ⟨f, fd, F, hm⟩ := T.d37
  refine ⟨fun ds d h => runF_len h, f, fd, ["listed", "kinds", "placed", "number"], hm, F.kp, F.bindsN fun _ _ _ _ _ _ us hl => match us, hl with | [_, _, _, _], _ => rfl, rfl, fn_pure F sc37 rfl fun cdv A outer s H E hr => ?_⟩
  exact ss_cons (s_for PassesOwn.never rfl (i_seq (d_var 1)) (tg_tup [4, 5, 6] rfl) (pg_tup rfl (pgs_cons (pg_name (i := 4) nd rfl (Or.inr rfl)) (pgs_cons (pg_name (i := 5) nd rfl (Or.inl rfl)) (pgs_cons (pg_name (i := 6) nd rfl (Or.inl rfl)) pgs_nil)))) (ss_one (s_if ((dw_and (dt_cmp (o_inE (rm65 hr)) (d_var 3) (d_var 4)) (dw_and1 (dt_cmp (o_ne (rm64 hr)) (d_var 5) (d_ix (x_ix (rm20 hr)) (d_ix (x_ix (rm20 hr)) (d_ix (x_ix (rm20 hr)) (d_var 0) (d_int)) (d_var 3)) (d_int))))).pt) (ss_one (s_if (dt_not (dt_truth (d_callB (c_any rfl) T.any bt_any (da_cons (d_lc rfl nd (blkOk_by (N := N37) (sc := defScope s37) (own := [("other", 7)]) (by decide +kernel)) (i_seq (d_var 2)) (tg_name 7) (by decide) (fun _ _ _ _ _ => (pg_name (i := 7) nd rfl (Or.inl rfl))) (fun _ _ _ _ _ => dts_nil) (fun _ _ _ _ _ => d_cmp (o_inE (rm65 hr)) (d_var 7) (d_var 4))) (da_nil))))) (ss_one (s_ret (d_var 6))) (ss_nil))) (ss_nil)))) (ss_one (s_ret (d_non)))
/-! ### 38: is_whole -/
abbrev N38 : List Str := ["value", "least", "most"]
def g38 : DE → Option Out := gRet (eA (e1 (isiD "int") (eV 0)) (eA (eN (e1 (isiD "bool") (eV 0))) (e3 leD leD (eV 1) (eV 0) (eV 2))))
def F38 : List PyData → Option PyData := runF 3 N38 g38
theorem sc38 : FnScope N38 ["value", "least", "most"] (defScope s38) := ⟨rfl, rfl, rfl, by decide +kernel, rfl, by decide +kernel, by decide +kernel⟩
theorem ok38 (T : Tx K mg) : OkF P w K mg base "is_whole" 1 3 F38 := by
  have nd := sc38.nd
  obtain ⟨f, fd, F, hm⟩ := T.d38
  refine ⟨fun ds d h => runF_len h, f, fd, ["value", "least", "most"], hm, F.kp, F.bindsN fun _ _ _ _ _ _ us hl => match us, hl with | [_, _, _], _ => rfl, rfl, fn_pure F sc38 rfl fun cdv A outer s H E hr => ?_⟩
  exact ss_one (s_ret (d_and (d_isi T.isinstance T.int bt_int (d_var 0)) (d_and (d_not (d_isi T.isinstance T.bool bt_bool (d_var 0))) (d_one (d_chain o_le o_le (d_var 1) (d_var 0) (d_var 2))))))
/-! ### 40: placed_from -/
abbrev N40 : List Str := ["listed", "kinds", "placed", "avoided", "found", "more", "fresh", "one"]
def g40 : DE → Option Out := gSeq (gSet 4 (eCall listD (aC (eV 2) (aN)))) (gSeq (gSet 5 (eC (.bool true))) (gSeq (whileL (tTr (eV 5)) (gSeq (gSet 6 (eLc [7] (iR (eCall lenD (aC (e2 ixE (eV 0) (eC (.int 1))) (aN)))) m1 [7] (tA (tB1 (e2 notInE (eV 7) (eV 4))) (tB1 (e2 notInE (eV 7) (eV 3)))) (eV 7))) (gSeq (gSet 6 (eLc [7] (iS (eV 6)) m1 [7] (tB1 (e2 isD (eCall F37 (aC (eV 0) (aC (eV 1) (aC (eV 4) (aC (eV 7) (aN)))))) (eC .none))) (eV 7))) (gSeq (gSet 4 (e2 addD (eV 4) (eSl (eV 6) none (some (eC (.int 1)))))) (gSet 5 (e2 neD (eV 6) (eLst (aN))))))) 20) (gRet (eV 4))))
def F40 : List PyData → Option PyData := runF 4 N40 g40
theorem sc40 : FnScope N40 ["listed", "kinds", "placed", "avoided"] (defScope s40) := ⟨rfl, rfl, rfl, by decide +kernel, rfl, by decide +kernel, by decide +kernel⟩
theorem ok40 (T : Tx K mg) : OkF P w K mg base "placed_from" 2 4 F40 := by
  have nd := sc40.nd
  obtain ⟨f, fd, F, hm⟩ := T.d40
  refine ⟨fun ds d h => runF_len h, f, fd, ["listed", "kinds", "placed", "avoided"], hm, F.kp, F.bindsN fun _ _ _ _ _ _ us hl => match us, hl with | [_, _, _, _], _ => rfl, rfl, fn_pure F sc40 rfl fun cdv A outer s H E hr => ?_⟩
  exact ss_cons (s_set 4 (d_callTy c_list T.list bt_list (da_cons (d_var 2) (da_nil))) nd) (ss_cons (s_set 5 (d_bl) nd) (ss_cons (s_while 20 PassesOwn.never (dt_truth (d_var 5)) (ss_cons (s_setLc 6 rfl nd (blkOk_by (N := N40) (sc := defScope s40) (own := [("one", 7)]) (by decide +kernel)) (i_range T.range (d_callB c_len T.len bt_len (da_cons (d_ix (x_ix (rm20 hr)) (d_var 0) (d_int)) (da_nil)))) (tg_name 7) (by decide) (fun _ _ _ _ _ => (pg_name (i := 7) nd rfl (Or.inl rfl))) (fun _ _ _ _ _ => dts_one ((dw_and (dt_cmp (o_notInE (rm65 hr)) (d_var 7) (d_var 4)) (dw_and1 (dt_cmp (o_notInE (rm65 hr)) (d_var 7) (d_var 3)))).pt)) (fun _ _ _ _ _ => d_var 7) (sw_true rfl rfl rfl (by decide +kernel))) (ss_cons (s_setLc 6 rfl nd (blkOk_by (N := N40) (sc := defScope s40) (own := [("one", 7)]) (by decide +kernel)) (i_seq (d_var 6)) (tg_name 7) (by decide) (fun _ _ _ _ _ => (pg_name (i := 7) nd rfl (Or.inl rfl))) (fun _ _ _ _ _ => dts_one (dt_cmp o_is (d_call (ok37 T) hr (by decide) (da_cons (d_var 0) (da_cons (d_var 1) (da_cons (d_var 4) (da_cons (d_var 7) (da_nil)))))) (d_non))) (fun _ _ _ _ _ => d_var 7) (sw_true rfl rfl rfl (by decide +kernel))) (ss_cons (s_set 4 (d_op o_add (d_var 4) (d_slice (d_var 6) do_none (do_some (d_int)))) nd) (ss_one (s_set 5 (d_cmp (o_ne (rm64 hr)) (d_var 6) (d_lst (da_nil))) nd)))))) (ss_one (s_ret (d_var 4)))))
/-! ### 41: some_row -/
abbrev N41 : List Str := ["listed", "kinds", "avoided", "ahead", "row"]
def g41 : DE → Option Out := gSeq (gSet 3 (eCall F40 (aC (eV 0) (aC (eV 1) (aC (eLst (aN)) (aC (eV 2) (aN))))))) (gSeq (gSet 4 (eCall tupleD (aC (eCall F40 (aC (eV 0) (aC (eV 1) (aC (eV 3) (aC (eTup (aN)) (aN)))))) (aN)))) (gSeq (gIf (tO (tB1 (e2 ltD (eCall lenD (aC (eV 4) (aN))) (eCall lenD (aC (e2 ixE (eV 0) (eC (.int 1))) (aN))))) (tB1 (e2 isntD (eCall F36 (aC (eV 0) (aC (eV 1) (aC (eV 4) (aN))))) (eC .none)))) (gRet (eC .none)) (gNx)) (gRet (eV 4))))
def F41 : List PyData → Option PyData := runF 3 N41 g41
theorem sc41 : FnScope N41 ["listed", "kinds", "avoided"] (defScope s41) := ⟨rfl, rfl, rfl, by decide +kernel, rfl, by decide +kernel, by decide +kernel⟩
theorem ok41 (T : Tx K mg) : OkF P w K mg base "some_row" 3 3 F41 := by
  have nd := sc41.nd
  obtain ⟨f, fd, F, hm⟩ := T.d41
  refine ⟨fun ds d h => runF_len h, f, fd, ["listed", "kinds", "avoided"], hm, F.kp, F.bindsN fun _ _ _ _ _ _ us hl => match us, hl with | [_, _, _], _ => rfl, rfl, fn_pure F sc41 rfl fun cdv A outer s H E hr => ?_⟩
  exact ss_cons (s_set 3 (d_call (ok40 T) hr (by decide) (da_cons (d_var 0) (da_cons (d_var 1) (da_cons (d_lst (da_nil)) (da_cons (d_var 2) (da_nil)))))) nd) (ss_cons (s_set 4 (d_callTy c_tuple T.tuple bt_tuple (da_cons (d_call (ok40 T) hr (by decide) (da_cons (d_var 0) (da_cons (d_var 1) (da_cons (d_var 3) (da_cons (d_tup (da_nil)) (da_nil)))))) (da_nil))) nd) (ss_cons (s_if ((dw_or (dt_cmp (o_lt (rm0 hr)) (d_callB c_len T.len bt_len (da_cons (d_var 4) (da_nil))) (d_callB c_len T.len bt_len (da_cons (d_ix (x_ix (rm20 hr)) (d_var 0) (d_int)) (da_nil)))) (dw_or1 (dt_cmp o_isnt (d_call (ok36 T) hr (by decide) (da_cons (d_var 0) (da_cons (d_var 1) (da_cons (d_var 4) (da_nil))))) (d_non)))).pt) (ss_one (s_ret (d_non))) (ss_nil)) (ss_one (s_ret (d_var 4)))))
/-! ### 42: checked -/
abbrev N42 : List Str := ["listed", "wanted"]
def g42 : DE → Option Out := gSeq (gDrop (eCall F33 (aC (eV 0) (aC (eV 1) (aN))))) (gRet (eCall F34 (aC (eV 0) (aC (eV 1) (aN)))))
def F42 : List PyData → Option PyData := runF 2 N42 g42
theorem sc42 : FnScope N42 ["listed", "wanted"] (defScope s42) := ⟨rfl, rfl, rfl, by decide +kernel, rfl, by decide +kernel, by decide +kernel⟩
theorem ok42 (T : Tx K mg) : OkF P w K mg base "checked" 8 2 F42 := by
  have nd := sc42.nd
  obtain ⟨f, fd, F, hm⟩ := T.d42
  refine ⟨fun ds d h => runF_len h, f, fd, ["listed", "wanted"], hm, F.kp, F.bindsN fun _ _ _ _ _ _ us hl => match us, hl with | [_, _], _ => rfl, rfl, fn_pure F sc42 rfl fun cdv A outer s H E hr => ?_⟩
  exact ss_cons (s_expr (d_call (ok33 T) hr (by decide) (da_cons (d_var 0) (da_cons (d_var 1) (da_nil))))) (ss_one (s_ret (d_call (ok34 T) hr (by decide) (da_cons (d_var 0) (da_cons (d_var 1) (da_nil))))))
/-! ### 43: need_some -/
abbrev N43 : List Str := ["listed", "kinds"]
def g43 : DE → Option Out := gIf (tB1 (e2 isD (eCall F41 (aC (eV 0) (aC (eV 1) (aC (eTup (aN)) (aN))))) (eC .none))) ((fun _ => none)) (gNx)
def F43 : List PyData → Option PyData := runF 2 N43 g43
theorem sc43 : FnScope N43 ["listed", "kinds"] (defScope s43) := ⟨rfl, rfl, rfl, by decide +kernel, rfl, by decide +kernel, by decide +kernel⟩
theorem ok43 (T : Tx K mg) : OkF P w K mg base "need_some" 4 2 F43 := by
  have nd := sc43.nd
  obtain ⟨f, fd, F, hm⟩ := T.d43
  refine ⟨fun ds d h => runF_len h, f, fd, ["listed", "kinds"], hm, F.kp, F.bindsN fun _ _ _ _ _ _ us hl => match us, hl with | [_, _], _ => rfl, rfl, fn_pure F sc43 rfl fun cdv A outer s H E hr => ?_⟩
  exact ss_one (s_if (dt_cmp o_is (d_call (ok41 T) hr (by decide) (da_cons (d_var 0) (da_cons (d_var 1) (da_cons (d_tup (da_nil)) (da_nil))))) (d_non)) (ss_fail) (ss_nil))
/-! ### 44: check_number -/
abbrev N44 : List Str := ["listed", "value", "name"]
def g44 : DE → Option Out := gIf (tN (tTr (eCall F38 (aC (eV 1) (aC (eC (.int 0)) (aC (e2 subD (eCall lenD (aC (e2 ixE (eV 0) (eC (.int 1))) (aN))) (eC (.int 1))) (aN))))))) ((fun _ => none)) (gNx)
def F44 : List PyData → Option PyData := runF 3 N44 g44
theorem sc44 : FnScope N44 ["listed", "value", "name"] (defScope s44) := ⟨rfl, rfl, rfl, by decide +kernel, rfl, by decide +kernel, by decide +kernel⟩
theorem ok44 (T : Tx K mg) : OkF P w K mg base "check_number" 2 3 F44 := by
  have nd := sc44.nd
  obtain ⟨f, fd, F, hm⟩ := T.d44
  refine ⟨fun ds d h => runF_len h, f, fd, ["listed", "value", "name"], hm, F.kp, F.bindsN fun _ _ _ _ _ _ us hl => match us, hl with | [_, _, _], _ => rfl, rfl, fn_pure F sc44 rfl fun cdv A outer s H E hr => ?_⟩
  exact ss_one (s_if (dt_not (dt_truth (d_call (ok38 T) hr (by decide) (da_cons (d_var 1) (da_cons (d_int) (da_cons (d_op o_sub (d_callB c_len T.len bt_len (da_cons (d_ix (x_ix (rm20 hr)) (d_var 0) (d_int)) (da_nil))) (d_int)) (da_nil))))))) (ss_fail) (ss_nil))
/-! ### 45: check_two -/
abbrev N45 : List Str := ["listed", "first", "second"]
def g45 : DE → Option Out := gSeq (gDrop (eCall F44 (aC (eV 0) (aC (eV 1) (aC (eC (.str "first")) (aN)))))) (gSeq (gDrop (eCall F44 (aC (eV 0) (aC (eV 2) (aC (eC (.str "second")) (aN)))))) (gIf (tB1 (e2 eqD (eV 1) (eV 2))) ((fun _ => none)) (gNx)))
def F45 : List PyData → Option PyData := runF 3 N45 g45
theorem sc45 : FnScope N45 ["listed", "first", "second"] (defScope s45) := ⟨rfl, rfl, rfl, by decide +kernel, rfl, by decide +kernel, by decide +kernel⟩
theorem ok45 (T : Tx K mg) : OkF P w K mg base "check_two" 3 3 F45 := by
  have nd := sc45.nd
  obtain ⟨f, fd, F, hm⟩ := T.d45
  refine ⟨fun ds d h => runF_len h, f, fd, ["listed", "first", "second"], hm, F.kp, F.bindsN fun _ _ _ _ _ _ us hl => match us, hl with | [_, _, _], _ => rfl, rfl, fn_pure F sc45 rfl fun cdv A outer s H E hr => ?_⟩
  exact ss_cons (s_expr (d_call (ok44 T) hr (by decide) (da_cons (d_var 0) (da_cons (d_var 1) (da_cons (d_str) (da_nil)))))) (ss_cons (s_expr (d_call (ok44 T) hr (by decide) (da_cons (d_var 0) (da_cons (d_var 2) (da_cons (d_str) (da_nil)))))) (ss_one (s_if (dt_cmp (o_eq (rm64 hr)) (d_var 1) (d_var 2)) (ss_fail) (ss_nil))))
/-! ### 47: demands_of -/
abbrev N47 : List Str := ["listed", "wanted", "case", "action"]
def g47 : DE → Option Out := gRet (eDc [2, 3] (iS (eCall F31 (aC (eV 0) (aC (eV 1) (aN))))) (mT 2) [2, 3] (eV 2) (eV 3))
def F47 : List PyData → Option PyData := runF 2 N47 g47
theorem sc47 : FnScope N47 ["listed", "wanted"] (defScope s47) := ⟨rfl, rfl, rfl, by decide +kernel, rfl, by decide +kernel, by decide +kernel⟩
theorem ok47 (T : Tx K mg) : OkF P w K mg base "demands_of" 4 2 F47 := by
  have nd := sc47.nd
  obtain ⟨f, fd, F, hm⟩ := T.d47
  refine ⟨fun ds d h => runF_len h, f, fd, ["listed", "wanted"], hm, F.kp, F.bindsN fun _ _ _ _ _ _ us hl => match us, hl with | [_, _], _ => rfl, rfl, fn_pure F sc47 rfl fun cdv A outer s H E hr => ?_⟩
  exact ss_one (s_ret (d_dc (rm20 hr) rfl nd (blkOk_by (N := N47) (sc := defScope s47) (own := [("case", 2), ("action", 3)]) (by decide +kernel)) (i_seq (d_call (ok31 T) hr (by decide) (da_cons (d_var 0) (da_cons (d_var 1) (da_nil))))) (tg_tup [2, 3] rfl) (by decide) (fun _ _ _ _ _ => (pg_tup rfl (pgs_cons (pg_name (i := 2) nd rfl (Or.inl rfl)) (pgs_cons (pg_name (i := 3) nd rfl (Or.inl rfl)) pgs_nil)))) (fun _ _ _ _ _ => d_var 2) (fun _ _ _ _ _ => d_var 3)))
/-! ### 49: before_evidence -/
abbrev N49 : List Str := ["listed", "wanted", "first", "second", "kinds", "placed", "left", "one"]
def g49 : DE → Option Out := gSeq (gSet 4 (eCall F42 (aC (eV 0) (aC (eV 1) (aN))))) (gSeq (gDrop (eCall F45 (aC (eV 0) (aC (eV 2) (aC (eV 3) (aN)))))) (gSeq (gDrop (eCall F43 (aC (eV 0) (aC (eV 4) (aN))))) (gSeq (gSet 5 (eCall F40 (aC (eV 0) (aC (eV 4) (aC (eLst (aN)) (aC (eTup (aC (eV 2) (aN))) (aN))))))) (gSeq (gIf (tB1 (e2 inE (eV 3) (eV 5))) (gRet (eTup (aC (eC (.str "not")) (aC (eCall F41 (aC (eV 0) (aC (eV 4) (aC (eTup (aC (eV 2) (aN))) (aN))))) (aN))))) (gNx)) (gSeq (gSet 6 (eLc [7] (iR (eCall lenD (aC (e2 ixE (eV 0) (eC (.int 1))) (aN)))) m1 [7] (tA (tB1 (e2 notInE (eV 7) (eV 5))) (tB1 (e2 neD (eV 7) (eV 2)))) (eV 7))) (gRet (eTup (aC (eC (.str "always")) (aC (eCall tupleD (aC (eLc [7] (iS (eV 6)) m1 [7] (tTrue) (eTup (aC (eV 7) (aC (eCall F37 (aC (eV 0) (aC (eV 4) (aC (eV 5) (aC (eV 7) (aN)))))) (aN))))) (aN))) (aN))))))))))
def F49 : List PyData → Option PyData := runF 4 N49 g49
theorem sc49 : FnScope N49 ["listed", "wanted", "first", "second"] (defScope s49) := ⟨rfl, rfl, rfl, by decide +kernel, rfl, by decide +kernel, by decide +kernel⟩
theorem ok49 (T : Tx K mg) : OkF P w K mg base "before_evidence" 9 4 F49 := by
  have nd := sc49.nd
  obtain ⟨f, fd, F, hm⟩ := T.d49
  refine ⟨fun ds d h => runF_len h, f, fd, ["listed", "wanted", "first", "second"], hm, F.kp, F.bindsN fun _ _ _ _ _ _ us hl => match us, hl with | [_, _, _, _], _ => rfl, rfl, fn_pure F sc49 rfl fun cdv A outer s H E hr => ?_⟩
  exact ss_cons (s_set 4 (d_call (ok42 T) hr (by decide) (da_cons (d_var 0) (da_cons (d_var 1) (da_nil)))) nd) (ss_cons (s_expr (d_call (ok45 T) hr (by decide) (da_cons (d_var 0) (da_cons (d_var 2) (da_cons (d_var 3) (da_nil)))))) (ss_cons (s_expr (d_call (ok43 T) hr (by decide) (da_cons (d_var 0) (da_cons (d_var 4) (da_nil))))) (ss_cons (s_set 5 (d_call (ok40 T) hr (by decide) (da_cons (d_var 0) (da_cons (d_var 4) (da_cons (d_lst (da_nil)) (da_cons (d_tup (da_cons (d_var 2) (da_nil))) (da_nil)))))) nd) (ss_cons (s_if (dt_cmp (o_inE (rm65 hr)) (d_var 3) (d_var 5)) (ss_one (s_ret (d_tup (da_cons (d_str) (da_cons (d_call (ok41 T) hr (by decide) (da_cons (d_var 0) (da_cons (d_var 4) (da_cons (d_tup (da_cons (d_var 2) (da_nil))) (da_nil))))) (da_nil)))))) (ss_nil)) (ss_cons (s_setLc 6 rfl nd (blkOk_by (N := N49) (sc := defScope s49) (own := [("one", 7)]) (by decide +kernel)) (i_range T.range (d_callB c_len T.len bt_len (da_cons (d_ix (x_ix (rm20 hr)) (d_var 0) (d_int)) (da_nil)))) (tg_name 7) (by decide) (fun _ _ _ _ _ => (pg_name (i := 7) nd rfl (Or.inl rfl))) (fun _ _ _ _ _ => dts_one ((dw_and (dt_cmp (o_notInE (rm65 hr)) (d_var 7) (d_var 5)) (dw_and1 (dt_cmp (o_ne (rm64 hr)) (d_var 7) (d_var 2)))).pt)) (fun _ _ _ _ _ => d_var 7) (sw_true rfl rfl rfl (by decide +kernel))) (ss_one (s_ret (d_tup (da_cons (d_str) (da_cons (d_callTy c_tuple T.tuple bt_tuple (da_cons (d_lc rfl nd (blkOk_by (N := N49) (sc := defScope s49) (own := [("one", 7)]) (by decide +kernel)) (i_seq (d_var 6)) (tg_name 7) (by decide) (fun _ _ _ _ _ => (pg_name (i := 7) nd rfl (Or.inl rfl))) (fun _ _ _ _ _ => dts_nil) (fun _ _ _ _ _ => d_tup (da_cons (d_var 7) (da_cons (d_call (ok37 T) hr (by decide) (da_cons (d_var 0) (da_cons (d_var 4) (da_cons (d_var 5) (da_cons (d_var 7) (da_nil)))))) (da_nil))))) (da_nil))) (da_nil)))))))))))
/-! ### 50: is_pair -/
abbrev N50 : List Str := ["listed", "value"]
def g50 : DE → Option Out := gSeq (gIf (tO (tN (tTr (e1 (isiD "tuple") (eV 1)))) (tB1 (e2 neD (eCall lenD (aC (eV 1) (aN))) (eC (.int 2))))) (gRet (eC (.bool false))) (gNx)) (gRet (eA (eCall F38 (aC (e2 ixE (eV 1) (eC (.int 0))) (aC (eC (.int 0)) (aC (e2 subD (eCall lenD (aC (e2 ixE (eV 0) (eC (.int 1))) (aN))) (eC (.int 1))) (aN))))) (eCall F14 (aC (eV 0) (aC (e2 ixE (eV 1) (eC (.int 1))) (aN))))))
def F50 : List PyData → Option PyData := runF 2 N50 g50
theorem sc50 : FnScope N50 ["listed", "value"] (defScope s50) := ⟨rfl, rfl, rfl, by decide +kernel, rfl, by decide +kernel, by decide +kernel⟩
theorem ok50 (T : Tx K mg) : OkF P w K mg base "is_pair" 3 2 F50 := by
  have nd := sc50.nd
  obtain ⟨f, fd, F, hm⟩ := T.d50
  refine ⟨fun ds d h => runF_len h, f, fd, ["listed", "value"], hm, F.kp, F.bindsN fun _ _ _ _ _ _ us hl => match us, hl with | [_, _], _ => rfl, rfl, fn_pure F sc50 rfl fun cdv A outer s H E hr => ?_⟩
  exact ss_cons (s_if ((dw_or (dt_not (dt_truth (d_isi T.isinstance T.tuple bt_tuple (d_var 1)))) (dw_or1 (dt_cmp (o_ne (rm64 hr)) (d_callB c_len T.len bt_len (da_cons (d_var 1) (da_nil))) (d_int)))).pt) (ss_one (s_ret (d_bl))) (ss_nil)) (ss_one (s_ret (d_and (d_call (ok38 T) hr (by decide) (da_cons (d_ix (x_ix (rm20 hr)) (d_var 1) (d_int)) (da_cons (d_int) (da_cons (d_op o_sub (d_callB c_len T.len bt_len (da_cons (d_ix (x_ix (rm20 hr)) (d_var 0) (d_int)) (da_nil))) (d_int)) (da_nil))))) (d_one (d_call (ok14 T) hr (by decide) (da_cons (d_var 0) (da_cons (d_ix (x_ix (rm20 hr)) (d_var 1) (d_int)) (da_nil))))))))
/-! ### 51: is_fence -/
abbrev N51 : List Str := ["listed", "demands", "first", "value", "numbers", "others", "number", "case", "one", "other", "pair", "at"]
def g51 : DE → Option Out := gSeq (gIf (tO (tN (tTr (e1 (isiD "tuple") (eV 3)))) (tN (tTr (eCall allD (aC (eLc [10] (iS (eV 3)) m1 [10] (tTrue) (eCall F50 (aC (eV 0) (aC (eV 10) (aN))))) (aN)))))) (gRet (eC (.bool false))) (gNx)) (gSeq (gSet 4 (eLc [6, 7] (iS (eV 3)) (mT 2) [6, 7] (tTrue) (eV 6))) (gSeq (gIf (tO (tB1 (e2 inE (eV 2) (eV 4))) (tN (tTr (eCall allD (aC (eLc [11] (iR (e2 subD (eCall lenD (aC (eV 4) (aN))) (eC (.int 1)))) m1 [11] (tTrue) (e2 ltD (e2 ixE (eV 4) (eV 11)) (e2 ixE (eV 4) (e2 addD (eV 11) (eC (.int 1)))))) (aN)))))) (gRet (eC (.bool false))) (gNx)) (gSeq (gSet 5 (eLc [8] (iR (eCall lenD (aC (e2 ixE (eV 0) (eC (.int 1))) (aN)))) m1 [8] (tA (tB1 (e2 neD (eV 8) (eV 2))) (tB1 (e2 notInE (eV 8) (eV 4)))) (eV 8))) (gSeq (gFor (iS (eV 3)) (mT 2) [6, 7] (gSeq (gIf (tO (tB1 (e2 notInE (eV 7) (eV 1))) (tO (tB1 (e2 eqD (e2 ixE (eV 1) (eV 7)) (e2 ixE (e2 ixE (e2 ixE (eV 0) (eC (.int 1))) (eV 6)) (eC (.int 0))))) (tN (tTr (eCall F20 (aC (eV 0) (aC (eV 6) (aC (eV 7) (aN))))))))) (gRet (eC (.bool false))) (gNx)) (gIf (tTr (eCall anyD (aC (eLc [9] (iS (eV 5)) m1 [9] (tTrue) (eCall F20 (aC (eV 0) (aC (eV 9) (aC (eV 7) (aN)))))) (aN)))) (gRet (eC (.bool false))) (gNx)))) (gRet (eC (.bool true)))))))
def F51 : List PyData → Option PyData := runF 4 N51 g51
theorem sc51 : FnScope N51 ["listed", "demands", "first", "value"] (defScope s51) := ⟨rfl, rfl, rfl, by decide +kernel, rfl, by decide +kernel, by decide +kernel⟩
theorem ok51 (T : Tx K mg) : OkF P w K mg base "is_fence" 4 4 F51 := by
  have nd := sc51.nd
  obtain ⟨f, fd, F, hm⟩ := T.d51
  refine ⟨fun ds d h => runF_len h, f, fd, ["listed", "demands", "first", "value"], hm, F.kp, F.bindsN fun _ _ _ _ _ _ us hl => match us, hl with | [_, _, _, _], _ => rfl, rfl, fn_pure F sc51 rfl fun cdv A outer s H E hr => ?_⟩
  exact ss_cons (s_if ((dw_or (dt_not (dt_truth (d_isi T.isinstance T.tuple bt_tuple (d_var 3)))) (dw_or1 (dt_not (dt_truth (d_callB (c_all rfl) T.all bt_all (da_cons (d_lc rfl nd (blkOk_by (N := N51) (sc := defScope s51) (own := [("pair", 10)]) (by decide +kernel)) (i_seq (d_var 3)) (tg_name 10) (by decide) (fun _ _ _ _ _ => (pg_name (i := 10) nd rfl (Or.inl rfl))) (fun _ _ _ _ _ => dts_nil) (fun _ _ _ _ _ => d_call (ok50 T) hr (by decide) (da_cons (d_var 0) (da_cons (d_var 10) (da_nil))))) (da_nil))))))).pt) (ss_one (s_ret (d_bl))) (ss_nil)) (ss_cons (s_set 4 (d_lc rfl nd (blkOk_by (N := N51) (sc := defScope s51) (own := [("number", 6), ("case", 7)]) (by decide +kernel)) (i_seq (d_var 3)) (tg_tup [6, 7] rfl) (by decide) (fun _ _ _ _ _ => (pg_tup rfl (pgs_cons (pg_name (i := 6) nd rfl (Or.inl rfl)) (pgs_cons (pg_name (i := 7) nd rfl (Or.inl rfl)) pgs_nil)))) (fun _ _ _ _ _ => dts_nil) (fun _ _ _ _ _ => d_var 6)) nd) (ss_cons (s_if ((dw_or (dt_cmp (o_inE (rm65 hr)) (d_var 2) (d_var 4)) (dw_or1 (dt_not (dt_truth (d_callB (c_all rfl) T.all bt_all (da_cons (d_lc rfl nd (blkOk_by (N := N51) (sc := defScope s51) (own := [("at", 11)]) (by decide +kernel)) (i_range T.range (d_op o_sub (d_callB c_len T.len bt_len (da_cons (d_var 4) (da_nil))) (d_int))) (tg_name 11) (by decide) (fun _ _ _ _ _ => (pg_name (i := 11) nd rfl (Or.inl rfl))) (fun _ _ _ _ _ => dts_nil) (fun _ _ _ _ _ => d_cmp (o_lt (rm0 hr)) (d_ix (x_ix (rm20 hr)) (d_var 4) (d_var 11)) (d_ix (x_ix (rm20 hr)) (d_var 4) (d_op o_add (d_var 11) (d_int))))) (da_nil))))))).pt) (ss_one (s_ret (d_bl))) (ss_nil)) (ss_cons (s_setLc 5 rfl nd (blkOk_by (N := N51) (sc := defScope s51) (own := [("one", 8)]) (by decide +kernel)) (i_range T.range (d_callB c_len T.len bt_len (da_cons (d_ix (x_ix (rm20 hr)) (d_var 0) (d_int)) (da_nil)))) (tg_name 8) (by decide) (fun _ _ _ _ _ => (pg_name (i := 8) nd rfl (Or.inl rfl))) (fun _ _ _ _ _ => dts_one ((dw_and (dt_cmp (o_ne (rm64 hr)) (d_var 8) (d_var 2)) (dw_and1 (dt_cmp (o_notInE (rm65 hr)) (d_var 8) (d_var 4)))).pt)) (fun _ _ _ _ _ => d_var 8) (sw_true rfl rfl rfl (by decide +kernel))) (ss_cons (s_for PassesOwn.never rfl (i_seq (d_var 3)) (tg_tup [6, 7] rfl) (pg_tup rfl (pgs_cons (pg_name (i := 6) nd rfl (Or.inl rfl)) (pgs_cons (pg_name (i := 7) nd rfl (Or.inr rfl)) pgs_nil))) (ss_cons (s_if ((dw_or (dt_cmp (o_notInE (rm65 hr)) (d_var 7) (d_var 1)) (dw_or (dt_cmp (o_eq (rm64 hr)) (d_ix (x_ix (rm20 hr)) (d_var 1) (d_var 7)) (d_ix (x_ix (rm20 hr)) (d_ix (x_ix (rm20 hr)) (d_ix (x_ix (rm20 hr)) (d_var 0) (d_int)) (d_var 6)) (d_int))) (dw_or1 (dt_not (dt_truth (d_call (ok20 T) hr (by decide) (da_cons (d_var 0) (da_cons (d_var 6) (da_cons (d_var 7) (da_nil)))))))))).pt) (ss_one (s_ret (d_bl))) (ss_nil)) (ss_one (s_if (dt_truth (d_callB (c_any rfl) T.any bt_any (da_cons (d_lc rfl nd (blkOk_by (N := N51) (sc := defScope s51) (own := [("other", 9)]) (by decide +kernel)) (i_seq (d_var 5)) (tg_name 9) (by decide) (fun _ _ _ _ _ => (pg_name (i := 9) nd rfl (Or.inl rfl))) (fun _ _ _ _ _ => dts_nil) (fun _ _ _ _ _ => d_call (ok20 T) hr (by decide) (da_cons (d_var 0) (da_cons (d_var 9) (da_cons (d_var 7) (da_nil)))))) (da_nil)))) (ss_one (s_ret (d_bl))) (ss_nil))))) (ss_one (s_ret (d_bl)))))))
/-! ### 52: accepts_before -/
abbrev N52 : List Str := ["listed", "wanted", "first", "second", "value", "kinds", "row", "number", "case"]
def g52 : DE → Option Out := gSeq (gSet 5 (eCall F42 (aC (eV 0) (aC (eV 1) (aN))))) (gSeq (gDrop (eCall F45 (aC (eV 0) (aC (eV 2) (aC (eV 3) (aN)))))) (gSeq (gDrop (eCall F43 (aC (eV 0) (aC (eV 5) (aN))))) (gSeq (gIf (tO (tN (tTr (e1 (isiD "tuple") (eV 4)))) (tO (tB1 (e2 neD (eCall lenD (aC (eV 4) (aN))) (eC (.int 2)))) (tN (tTr (e1 (isiD "str") (e2 ixE (eV 4) (eC (.int 0)))))))) (gRet (eC (.bool false))) (gNx)) (gSeq (gIf (tB1 (e2 eqD (e2 ixE (eV 4) (eC (.int 0))) (eC (.str "not")))) (gSeq (gSet 6 (e2 ixE (eV 4) (eC (.int 1)))) (gRet (eA (eCall F16 (aC (eV 0) (aC (eV 6) (aN)))) (eA (e2 isD (eCall F36 (aC (eV 0) (aC (eV 5) (aC (eV 6) (aN))))) (eC .none)) (e2 ltD (eM indexD (eV 6) (aC (eV 3) aN)) (eM indexD (eV 6) (aC (eV 2) aN))))))) (gNx)) (gSeq (gIf (tO (tB1 (e2 neD (e2 ixE (eV 4) (eC (.int 0))) (eC (.str "always")))) (tN (tTr (eCall F51 (aC (eV 0) (aC (eCall F47 (aC (eV 0) (aC (eV 1) (aN)))) (aC (eV 2) (aC (e2 ixE (eV 4) (eC (.int 1))) (aN))))))))) (gRet (eC (.bool false))) (gNx)) (gRet (e2 inE (eV 3) (eLc [7, 8] (iS (e2 ixE (eV 4) (eC (.int 1)))) (mT 2) [7, 8] (tTrue) (eV 7)))))))))
def F52 : List PyData → Option PyData := runF 5 N52 g52
theorem sc52 : FnScope N52 ["listed", "wanted", "first", "second", "value"] (defScope s52) := ⟨rfl, rfl, rfl, by decide +kernel, rfl, by decide +kernel, by decide +kernel⟩
theorem ok52 (T : Tx K mg) : OkF P w K mg base "accepts_before" 9 5 F52 := by
  have nd := sc52.nd
  obtain ⟨f, fd, F, hm⟩ := T.d52
  refine ⟨fun ds d h => runF_len h, f, fd, ["listed", "wanted", "first", "second", "value"], hm, F.kp, F.bindsN fun _ _ _ _ _ _ us hl => match us, hl with | [_, _, _, _, _], _ => rfl, rfl, fn_pure F sc52 rfl fun cdv A outer s H E hr => ?_⟩
  exact ss_cons (s_set 5 (d_call (ok42 T) hr (by decide) (da_cons (d_var 0) (da_cons (d_var 1) (da_nil)))) nd) (ss_cons (s_expr (d_call (ok45 T) hr (by decide) (da_cons (d_var 0) (da_cons (d_var 2) (da_cons (d_var 3) (da_nil)))))) (ss_cons (s_expr (d_call (ok43 T) hr (by decide) (da_cons (d_var 0) (da_cons (d_var 5) (da_nil))))) (ss_cons (s_if ((dw_or (dt_not (dt_truth (d_isi T.isinstance T.tuple bt_tuple (d_var 4)))) (dw_or (dt_cmp (o_ne (rm64 hr)) (d_callB c_len T.len bt_len (da_cons (d_var 4) (da_nil))) (d_int)) (dw_or1 (dt_not (dt_truth (d_isi T.isinstance T.str bt_str (d_ix (x_ix (rm20 hr)) (d_var 4) (d_int)))))))).pt) (ss_one (s_ret (d_bl))) (ss_nil)) (ss_cons (s_if (dt_cmp (o_eq (rm64 hr)) (d_ix (x_ix (rm20 hr)) (d_var 4) (d_int)) (d_str)) (ss_cons (s_set 6 (d_ix (x_ix (rm20 hr)) (d_var 4) (d_int)) nd) (ss_one (s_ret (d_and (d_call (ok16 T) hr (by decide) (da_cons (d_var 0) (da_cons (d_var 6) (da_nil)))) (d_and (d_cmp o_is (d_call (ok36 T) hr (by decide) (da_cons (d_var 0) (da_cons (d_var 5) (da_cons (d_var 6) (da_nil))))) (d_non)) (d_one (d_cmp (o_lt (rm0 hr)) (d_tidx (d_var 6) (d_var 3)) (d_tidx (d_var 6) (d_var 2))))))))) (ss_nil)) (ss_cons (s_if ((dw_or (dt_cmp (o_ne (rm64 hr)) (d_ix (x_ix (rm20 hr)) (d_var 4) (d_int)) (d_str)) (dw_or1 (dt_not (dt_truth (d_call (ok51 T) hr (by decide) (da_cons (d_var 0) (da_cons (d_call (ok47 T) hr (by decide) (da_cons (d_var 0) (da_cons (d_var 1) (da_nil)))) (da_cons (d_var 2) (da_cons (d_ix (x_ix (rm20 hr)) (d_var 4) (d_int)) (da_nil)))))))))).pt) (ss_one (s_ret (d_bl))) (ss_nil)) (ss_one (s_ret (d_cmp (o_inE (rm65 hr)) (d_var 3) (d_lc rfl nd (blkOk_by (N := N52) (sc := defScope s52) (own := [("number", 7), ("case", 8)]) (by decide +kernel)) (i_seq (d_ix (x_ix (rm20 hr)) (d_var 4) (d_int))) (tg_tup [7, 8] rfl) (by decide) (fun _ _ _ _ _ => (pg_tup rfl (pgs_cons (pg_name (i := 7) nd rfl (Or.inl rfl)) (pgs_cons (pg_name (i := 8) nd rfl (Or.inl rfl)) pgs_nil)))) (fun _ _ _ _ _ => dts_nil) (fun _ _ _ _ _ => d_var 7))))))))))
end
end G8

namespace G8
open L2 PyProof.Rows PySem.Spec PySem
section
variable {P : Program} {w : World} {K : PySem.W.Frag} {mg : Str → Option Value} {base : Heap}

/-! ### 54: _law_stream -/
abbrev N54 : List Str := ["_law_script"]
def g54 : DE → Option PyData := eLst (aC (eCall listD (aC (eV 0) (aN))) (aC (eC (.int 0)) (aC (eC (.int 0)) (aN))))
def F54 : List PyData → Option PyData := runN 1 N54 g54
theorem sc54 : FnScope N54 ["_law_script"] (defScope s54) := ⟨rfl, rfl, rfl, by decide +kernel, rfl, by decide +kernel, by decide +kernel⟩
theorem ok54 (T : Tx K mg) : OkN P w K mg base "_law_stream" 1 1 F54 := by
  have nd := sc54.nd
  obtain ⟨f, fd, F, hm⟩ := T.d54
  refine ⟨fun ds d h => runN_len h, f, fd, ["_law_script"], hm, F.kp, F.bindsN fun _ _ _ _ _ _ us hl => match us, hl with | [_], _ => rfl, rfl, fn_new F sc54 rfl fun cdv A outer s H E hr => ?_⟩
  exact n_lst (da_cons (d_callTy c_list T.list bt_list (da_cons (d_var 0) (da_nil))) (da_cons (d_int) (da_cons (d_int) (da_nil))))
/-! ### 55: _law_next -/
abbrev N55 : List Str := ["_law_stream_here", "_law_many", "_law_digit", "_law_k", "_law_cell"]
def g55 : ZG := zSeq (zIf (zTP (tB1 (e2 eqD (e2 ixE (eV 0) (eC (.int 1))) (eC (.int 0))))) (zSeq (zSet 3 (zF (e2 ixE (eV 0) (eC (.int 2))))) (zSeq (zSet 4 (zP [0] (e2 addD (eC (.int 7)) (eV 3)))) (zSeq (zIf (zTP (tB1 (e2 ltD (eV 3) (eCall lenD (aC (e2 ixE (eV 0) (eC (.int 0))) (aN)))))) (zSet 4 (zF (eCall absD (aC (e2 ixE (e2 ixE (eV 0) (eC (.int 0))) (eV 3)) (aN))))) (zNx)) (zSeq (zIf (zTP (tB1 (e2 ltD (eV 4) (e2 powD (eC (.int 10)) (eC (.int 18)))))) (zSeq (zSet 4 (zP [0] (e2 modD (eCall intD (aC (e2 addD (e2 addD (e2 mulD (eV 4) (eC (.int 48271))) (e2 mulD (eV 3) (eC (.int 69621)))) (eC (.int 11))) (aN))) (eC (.int 2147483647))))) (zSet 4 (zP [0] (e2 addD (e2 mulD (e2 modD (eCall intD (aC (e2 addD (e2 mulD (eV 4) (eC (.int 16807))) (eC (.int 13))) (aN))) (eC (.int 2147483647))) (eC (.int 65537))) (eV 4))))) (zNx)) (zSeq (zSetIx 0 1 (zP [0] (eV 4))) (zSetIx 0 2 (zP [0] (e2 addD (eV 3) (eC (.int 1)))))))))) (zNx)) (zSeq (zSet 2 (zF (e2 modD (eCall intD (aC (e2 ixE (eV 0) (eC (.int 1))) (aN))) (eV 1)))) (zSeq (zSetIx 0 1 (zF (e2 fdivD (e2 ixE (eV 0) (eC (.int 1))) (eV 1)))) (zRet (zP [0] (eV 2)))))
def F55 : PyData → List PyData → Option (PyData × PyData) := runZ 1 N55 g55
theorem sc55 : FnScope N55 ["_law_stream_here", "_law_many"] (defScope s55) := ⟨rfl, rfl, rfl, by decide +kernel, rfl, by decide +kernel, by decide +kernel⟩
theorem ok55 (T : Tx K mg) : OkZ P w K mg base "_law_next" 1 1 F55 := by
  have nd := sc55.nd
  obtain ⟨f, fd, F, hm⟩ := T.d55
  refine ⟨fun o ds d h => runZ_len h, f, fd, ["_law_stream_here", "_law_many"], hm, F.kp, F.bindsN fun _ _ _ _ _ _ us hl => match us, hl with | [_, _], _ => rfl, rfl, fn_z F sc55 rfl (by decide) fun cdv A outer s H E hr => ?_⟩
  exact zss_cons (zs_if (zt_pure (dt_cmp (o_eq (rm64 hr)) (d_ix (x_ix (rm20 hr)) (d_var 0) (d_int)) (d_int))) (zss_cons (zs_set 3 (z_scal (d_ix (x_ix (rm20 hr)) (d_var 0) (d_int))) nd) (zss_cons (zs_set 4 (z_pure (d_op o_add (d_int) (d_var 3))) nd) (zss_cons (zs_if (zt_pure (dt_cmp (o_lt (rm0 hr)) (d_var 3) (d_callB c_len T.len bt_len (da_cons (d_ix (x_ix (rm20 hr)) (d_var 0) (d_int)) (da_nil))))) (zss_one (zs_set 4 (z_scal (d_callB c_abs T.abs bt_abs (da_cons (d_ix (x_ix (rm20 hr)) (d_ix (x_ix (rm20 hr)) (d_var 0) (d_int)) (d_var 3)) (da_nil)))) nd)) (zss_nil)) (zss_cons (zs_if (zt_pure (dt_cmp (o_lt (rm0 hr)) (d_var 4) (d_op o_pow (d_int) (d_int)))) (zss_cons (zs_set 4 (z_pure (d_op o_mod (d_callTy c_int T.int bt_int (da_cons (d_op o_add (d_op o_add (d_op o_mul (d_var 4) (d_int)) (d_op o_mul (d_var 3) (d_int))) (d_int)) (da_nil))) (d_int))) nd) (zss_one (zs_set 4 (z_pure (d_op o_add (d_op o_mul (d_op o_mod (d_callTy c_int T.int bt_int (da_cons (d_op o_add (d_op o_mul (d_var 4) (d_int)) (d_int)) (da_nil))) (d_int)) (d_int)) (d_var 4))) nd))) (zss_nil)) (zss_cons (zs_setIx 0 1 (z_pure (d_var 4))) (zss_one (zs_setIx 0 2 (z_pure (d_op o_add (d_var 3) (d_int)))))))))) (zss_nil)) (zss_cons (zs_set 2 (z_scal (d_op o_mod (d_callTy c_int T.int bt_int (da_cons (d_ix (x_ix (rm20 hr)) (d_var 0) (d_int)) (da_nil))) (d_var 1))) nd) (zss_cons (zs_setIx 0 1 (z_scal (d_op o_fdiv (d_ix (x_ix (rm20 hr)) (d_var 0) (d_int)) (d_var 1)))) (zss_one (zs_ret (z_pure (d_var 2))))))
/-! ### 56: _law_is_integer -/
abbrev N56 : List Str := ["_law_actual"]
def g56 : DE → Option Out := gRet (eA (e1 (isiD "int") (eV 0)) (eN (e1 (isiD "bool") (eV 0))))
def F56 : List PyData → Option PyData := runF 1 N56 g56
theorem sc56 : FnScope N56 ["_law_actual"] (defScope s56) := ⟨rfl, rfl, rfl, by decide +kernel, rfl, by decide +kernel, by decide +kernel⟩
theorem ok56 (T : Tx K mg) : OkF P w K mg base "_law_is_integer" 1 1 F56 := by
  have nd := sc56.nd
  obtain ⟨f, fd, F, hm⟩ := T.d56
  refine ⟨fun ds d h => runF_len h, f, fd, ["_law_actual"], hm, F.kp, F.bindsN fun _ _ _ _ _ _ us hl => match us, hl with | [_], _ => rfl, rfl, fn_pure F sc56 rfl fun cdv A outer s H E hr => ?_⟩
  exact ss_one (s_ret (d_and (d_isi T.isinstance T.int bt_int (d_var 0)) (d_one (d_not (d_isi T.isinstance T.bool bt_bool (d_var 0))))))
/-! ### 57: _law_equal -/
abbrev N57 : List Str := ["_law_actual", "_law_due", "_law_at"]
def g57 : DE → Option Out := gSeq (gIf (tB1 (e2 isD (eV 1) (eC .none))) (gRet (e2 isD (eV 0) (eC .none))) (gNx)) (gSeq (gIf (tTr (e1 (isiD "bool") (eV 1))) (gRet (eA (e1 (isiD "bool") (eV 0)) (e2 eqD (eV 0) (eV 1)))) (gNx)) ((fun _ => none)))
def F57 : List PyData → Option PyData := runF 2 N57 g57
theorem sc57 : FnScope N57 ["_law_actual", "_law_due"] (defScope s57) := ⟨rfl, rfl, rfl, by decide +kernel, rfl, by decide +kernel, by decide +kernel⟩
theorem ok57 (T : Tx K mg) : OkF P w K mg base "_law_equal" 1 2 F57 := by
  have nd := sc57.nd
  obtain ⟨f, fd, F, hm⟩ := T.d57
  refine ⟨fun ds d h => runF_len h, f, fd, ["_law_actual", "_law_due"], hm, F.kp, F.bindsN fun _ _ _ _ _ _ us hl => match us, hl with | [_, _], _ => rfl, rfl, fn_pure F sc57 rfl fun cdv A outer s H E hr => ?_⟩
  exact ss_cons (s_if (dt_cmp o_is (d_var 1) (d_non)) (ss_one (s_ret (d_cmp o_is (d_var 0) (d_non)))) (ss_nil)) (ss_cons (s_if (dt_truth (d_isi T.isinstance T.bool bt_bool (d_var 1))) (ss_one (s_ret (d_and (d_isi T.isinstance T.bool bt_bool (d_var 0)) (d_one (d_cmp (o_eq (rm64 hr)) (d_var 0) (d_var 1)))))) (ss_nil)) (ss_fail))
/-! ### 60: _law_cases -/
abbrev N60 : List Str := ["_law_widths_here", "_law_found", "_law_width", "_law_longer", "_law_case", "_law_value"]
def g60 : DE → Option Out := gSeq (gSet 1 (eLst (aC (eTup (aN)) (aN)))) (gSeq (gFor (iS (eV 0)) m1 [2] (gSeq (gSet 3 (eLst (aN))) (gSeq (gFor (iS (eV 1)) m1 [4] (gSet 3 (e2 addD (eV 3) (eLc [5] (iR (eV 2)) m1 [5] (tTrue) (e2 addD (eV 4) (eTup (aC (eV 5) (aN)))))))) (gSet 1 (eV 3))))) (gRet (eV 1)))
def F60 : List PyData → Option PyData := runF 1 N60 g60
theorem sc60 : FnScope N60 ["_law_widths_here"] (defScope s60) := ⟨rfl, rfl, rfl, by decide +kernel, rfl, by decide +kernel, by decide +kernel⟩
theorem ok60 (T : Tx K mg) : OkF P w K mg base "_law_cases" 1 1 F60 := by
  have nd := sc60.nd
  obtain ⟨f, fd, F, hm⟩ := T.d60
  refine ⟨fun ds d h => runF_len h, f, fd, ["_law_widths_here"], hm, F.kp, F.bindsN fun _ _ _ _ _ _ us hl => match us, hl with | [_], _ => rfl, rfl, fn_pure F sc60 rfl fun cdv A outer s H E hr => ?_⟩
  exact ss_cons (s_set 1 (d_lst (da_cons (d_tup (da_nil)) (da_nil))) nd) (ss_cons (s_for PassesOwn.never rfl (i_seq (d_var 0)) (tg_name 2) (pg_name (i := 2) nd rfl (Or.inl rfl)) (ss_cons (s_set 3 (d_lst (da_nil)) nd) (ss_cons (s_for PassesOwn.never rfl (i_seq (d_var 1)) (tg_name 4) (pg_name (i := 4) nd rfl (Or.inr rfl)) (ss_one (s_set 3 (d_op o_add (d_var 3) (d_lc rfl nd (blkOk_by (N := N60) (sc := defScope s60) (own := [("_law_value", 5)]) (by decide +kernel)) (i_range T.range (d_var 2)) (tg_name 5) (by decide) (fun _ _ _ _ _ => (pg_name (i := 5) nd rfl (Or.inl rfl))) (fun _ _ _ _ _ => dts_nil) (fun _ _ _ _ _ => d_op o_add (d_var 4) (d_tup (da_cons (d_var 5) (da_nil)))))) nd))) (ss_one (s_set 1 (d_var 3) nd))))) (ss_one (s_ret (d_var 1))))
/-! ### 61: _law_matches -/
abbrev N61 : List Str := ["_law_listed", "_law_number", "_law_case", "_law_ranges", "_law_k"]
def g61 : DE → Option Out := gSeq (gSet 3 (e2 ixE (e2 ixE (e2 ixE (eV 0) (eC (.int 1))) (eV 1)) (eC (.int 1)))) (gRet (eCall allD (aC (eLc [4] (iR (eCall lenD (aC (eV 2) (aN)))) m1 [4] (tTrue) (e3 leD leD (e2 ixE (e2 ixE (eV 3) (eV 4)) (eC (.int 0))) (e2 ixE (eV 2) (eV 4)) (e2 ixE (e2 ixE (eV 3) (eV 4)) (eC (.int 1))))) (aN))))
def F61 : List PyData → Option PyData := runF 3 N61 g61
theorem sc61 : FnScope N61 ["_law_listed", "_law_number", "_law_case"] (defScope s61) := ⟨rfl, rfl, rfl, by decide +kernel, rfl, by decide +kernel, by decide +kernel⟩
theorem ok61 (T : Tx K mg) : OkF P w K mg base "_law_matches" 1 3 F61 := by
  have nd := sc61.nd
  obtain ⟨f, fd, F, hm⟩ := T.d61
  refine ⟨fun ds d h => runF_len h, f, fd, ["_law_listed", "_law_number", "_law_case"], hm, F.kp, F.bindsN fun _ _ _ _ _ _ us hl => match us, hl with | [_, _, _], _ => rfl, rfl, fn_pure F sc61 rfl fun cdv A outer s H E hr => ?_⟩
  exact ss_cons (s_set 3 (d_ix (x_ix (rm20 hr)) (d_ix (x_ix (rm20 hr)) (d_ix (x_ix (rm20 hr)) (d_var 0) (d_int)) (d_var 1)) (d_int)) nd) (ss_one (s_ret (d_callB (c_all rfl) T.all bt_all (da_cons (d_lc rfl nd (blkOk_by (N := N61) (sc := defScope s61) (own := [("_law_k", 4)]) (by decide +kernel)) (i_range T.range (d_callB c_len T.len bt_len (da_cons (d_var 2) (da_nil)))) (tg_name 4) (by decide) (fun _ _ _ _ _ => (pg_name (i := 4) nd rfl (Or.inl rfl))) (fun _ _ _ _ _ => dts_nil) (fun _ _ _ _ _ => d_chain o_le o_le (d_ix (x_ix (rm20 hr)) (d_ix (x_ix (rm20 hr)) (d_var 3) (d_var 4)) (d_int)) (d_ix (x_ix (rm20 hr)) (d_var 2) (d_var 4)) (d_ix (x_ix (rm20 hr)) (d_ix (x_ix (rm20 hr)) (d_var 3) (d_var 4)) (d_int)))) (da_nil)))))
/-! ### 62: _law_decides -/
abbrev N62 : List Str := ["_law_listed", "_law_row", "_law_case", "_law_number"]
def g62 : DE → Option Out := gSeq (gFor (iS (eV 1)) m1 [3] (gIf (tTr (eCall F61 (aC (eV 0) (aC (eV 3) (aC (eV 2) (aN)))))) (gRet (e2 ixE (e2 ixE (e2 ixE (eV 0) (eC (.int 1))) (eV 3)) (eC (.int 0)))) (gNx))) (gRet (e2 ixE (eV 0) (eC (.int 2))))
def F62 : List PyData → Option PyData := runF 3 N62 g62
theorem sc62 : FnScope N62 ["_law_listed", "_law_row", "_law_case"] (defScope s62) := ⟨rfl, rfl, rfl, by decide +kernel, rfl, by decide +kernel, by decide +kernel⟩
theorem ok62 (T : Tx K mg) : OkF P w K mg base "_law_decides" 2 3 F62 := by
  have nd := sc62.nd
  obtain ⟨f, fd, F, hm⟩ := T.d62
  refine ⟨fun ds d h => runF_len h, f, fd, ["_law_listed", "_law_row", "_law_case"], hm, F.kp, F.bindsN fun _ _ _ _ _ _ us hl => match us, hl with | [_, _, _], _ => rfl, rfl, fn_pure F sc62 rfl fun cdv A outer s H E hr => ?_⟩
  exact ss_cons (s_for PassesOwn.never rfl (i_seq (d_var 1)) (tg_name 3) (pg_name (i := 3) nd rfl (Or.inl rfl)) (ss_one (s_if (dt_truth (d_call (ok61 T) hr (by decide) (da_cons (d_var 0) (da_cons (d_var 3) (da_cons (d_var 2) (da_nil)))))) (ss_one (s_ret (d_ix (x_ix (rm20 hr)) (d_ix (x_ix (rm20 hr)) (d_ix (x_ix (rm20 hr)) (d_var 0) (d_int)) (d_var 3)) (d_int)))) (ss_nil)))) (ss_one (s_ret (d_ix (x_ix (rm20 hr)) (d_var 0) (d_int))))
/-! ### 65: _law_wants -/
abbrev N65 : List Str := ["_law_listed", "_law_wanted_here", "_law_model", "_law_row", "_law_case"]
def g65 : DE → Option Out := gSeq (gIf (tB1 (e2 eqD (e2 ixE (eV 1) (eC (.int 0))) (eC (.str "cases")))) (gRet (eCall listD (aC (e2 ixE (eV 1) (eC (.int 1))) (aN)))) (gNx)) (gSeq (gSet 2 (eV 0)) (gSeq (gIf (tB1 (e2 eqD (e2 ixE (eV 1) (eC (.int 0))) (eC (.str "list")))) (gSet 2 (e2 ixE (eV 1) (eC (.int 1)))) (gNx)) (gSeq (gSet 3 (eRgL (eCall lenD (aC (e2 ixE (eV 2) (eC (.int 1))) (aN))))) (gRet (eLc [4] (iS (eCall F60 (aC (e2 ixE (eV 0) (eC (.int 0))) (aN)))) m1 [4] (tTrue) (eTup (aC (eV 4) (aC (eCall F62 (aC (eV 2) (aC (eV 3) (aC (eV 4) (aN))))) (aN)))))))))
def F65 : List PyData → Option PyData := runF 2 N65 g65
theorem sc65 : FnScope N65 ["_law_listed", "_law_wanted_here"] (defScope s65) := ⟨rfl, rfl, rfl, by decide +kernel, rfl, by decide +kernel, by decide +kernel⟩
theorem ok65 (T : Tx K mg) : OkF P w K mg base "_law_wants" 3 2 F65 := by
  have nd := sc65.nd
  obtain ⟨f, fd, F, hm⟩ := T.d65
  refine ⟨fun ds d h => runF_len h, f, fd, ["_law_listed", "_law_wanted_here"], hm, F.kp, F.bindsN fun _ _ _ _ _ _ us hl => match us, hl with | [_, _], _ => rfl, rfl, fn_pure F sc65 rfl fun cdv A outer s H E hr => ?_⟩
  exact ss_cons (s_if (dt_cmp (o_eq (rm64 hr)) (d_ix (x_ix (rm20 hr)) (d_var 1) (d_int)) (d_str)) (ss_one (s_ret (d_callTy c_list T.list bt_list (da_cons (d_ix (x_ix (rm20 hr)) (d_var 1) (d_int)) (da_nil))))) (ss_nil)) (ss_cons (s_set 2 (d_var 0) nd) (ss_cons (s_if (dt_cmp (o_eq (rm64 hr)) (d_ix (x_ix (rm20 hr)) (d_var 1) (d_int)) (d_str)) (ss_one (s_set 2 (d_ix (x_ix (rm20 hr)) (d_var 1) (d_int)) nd)) (ss_nil)) (ss_cons (s_set 3 (d_rgL rfl T.list T.range (d_callB c_len T.len bt_len (da_cons (d_ix (x_ix (rm20 hr)) (d_var 2) (d_int)) (da_nil)))) nd) (ss_one (s_ret (d_lc rfl nd (blkOk_by (N := N65) (sc := defScope s65) (own := [("_law_case", 4)]) (by decide +kernel)) (i_seq (d_call (ok60 T) hr (by decide) (da_cons (d_ix (x_ix (rm20 hr)) (d_var 0) (d_int)) (da_nil)))) (tg_name 4) (by decide) (fun _ _ _ _ _ => (pg_name (i := 4) nd rfl (Or.inl rfl))) (fun _ _ _ _ _ => dts_nil) (fun _ _ _ _ _ => d_tup (da_cons (d_var 4) (da_cons (d_call (ok62 T) hr (by decide) (da_cons (d_var 2) (da_cons (d_var 3) (da_cons (d_var 4) (da_nil))))) (da_nil))))))))))
/-! ### 66: _law_kinds -/
abbrev N66 : List Str := ["_law_listed", "_law_pairs", "_law_found", "_law_case", "_law_action", "_law_matching", "_law_number", "_law_one", "_law_told", "_law_first"]
def g66 : ZG := zNew [] 2 (eLst (aN)) (zSeq (zFor (zIP [2] (iS (eV 1))) (mT 2) [3, 4] (zSeq (zSet 5 (zP [2] (eLc [6] (iR (eCall lenD (aC (e2 ixE (eV 0) (eC (.int 1))) (aN)))) m1 [6] (tTr (eCall F61 (aC (eV 0) (aC (eV 6) (aC (eV 3) (aN)))))) (eV 6)))) (zIf (zTP (tB1 (e2 notInE (eTup (aC (eV 5) (aC (eV 4) (aN)))) (eLc [7, 8, 9] (iS (eV 2)) (mT 3) [7, 8, 9] (tTrue) (eTup (aC (eV 7) (aC (eV 8) (aN)))))))) (zApp 2 (zP [2] (eTup (aC (eV 5) (aC (eV 4) (aC (eV 3) (aN))))))) (zNx)))) (zRel (zL (gRet (eV 2)))))
def F66 : List PyData → Option PyData := runFZ 2 N66 g66
theorem sc66 : FnScope N66 ["_law_listed", "_law_pairs"] (defScope s66) := ⟨rfl, rfl, rfl, by decide +kernel, rfl, by decide +kernel, by decide +kernel⟩
theorem ok66 (T : Tx K mg) : OkF P w K mg base "_law_kinds" 2 2 F66 := by
  have nd := sc66.nd
  obtain ⟨f, fd, F, hm⟩ := T.d66
  refine ⟨fun ds d h => runFZ_len h, f, fd, ["_law_listed", "_law_pairs"], hm, F.kp, F.bindsN fun _ _ _ _ _ _ us hl => match us, hl with | [_, _], _ => rfl, rfl, fn_zpure F sc66 rfl fun cdv A outer s H E hr => ?_⟩
  exact zss_new (os := []) 2 (n_lst (da_nil)) (show PZSs _ 0 [2] _ _ from (zss_cons (zs_for PassesOwn.never rfl (zi_pure (i_seq (d_var 1))) (tg_tup [3, 4] rfl) (pg_tup rfl (pgs_cons (pg_name (i := 3) nd rfl (Or.inr rfl)) (pgs_cons (pg_name (i := 4) nd rfl (Or.inl rfl)) pgs_nil))) (zss_cons (zs_setLc 5 rfl nd (blkOk_by (N := N66) (sc := defScope s66) (own := [("_law_number", 6)]) (by decide +kernel)) (i_range T.range (d_callB c_len T.len bt_len (da_cons (d_ix (x_ix (rm20 hr)) (d_var 0) (d_int)) (da_nil)))) (tg_name 6) (by decide) (fun _ _ _ _ _ => (pg_name (i := 6) nd rfl (Or.inl rfl))) (fun _ _ _ _ _ => dts_one (dt_truth (d_call (ok61 T) hr (by decide) (da_cons (d_var 0) (da_cons (d_var 6) (da_cons (d_var 3) (da_nil))))))) (fun _ _ _ _ _ => d_var 6) (sw_true rfl rfl rfl (by decide +kernel))) (zss_one (zs_if (zt_pure (dt_cmp (o_notInE (rm65 hr)) (d_tup (da_cons (d_var 5) (da_cons (d_var 4) (da_nil)))) (d_lc rfl nd (blkOk_by (N := N66) (sc := defScope s66) (own := [("_law_one", 7), ("_law_told", 8), ("_law_first", 9)]) (by decide +kernel)) (i_seq (d_var 2)) (tg_tup [7, 8, 9] rfl) (by decide) (fun _ _ _ _ _ => (pg_tup rfl (pgs_cons (pg_name (i := 7) nd rfl (Or.inl rfl)) (pgs_cons (pg_name (i := 8) nd rfl (Or.inl rfl)) (pgs_cons (pg_name (i := 9) nd rfl (Or.inl rfl)) pgs_nil))))) (fun _ _ _ _ _ => dts_nil) (fun _ _ _ _ _ => d_tup (da_cons (d_var 7) (da_cons (d_var 8) (da_nil))))))) (zss_one (zs_app 2 (z_pure (d_tup (da_cons (d_var 5) (da_cons (d_var 4) (da_cons (d_var 3) (da_nil)))))))) (zss_nil))))) (zss_rel (os := []) 2 (zss_plain (ss_one (s_ret (d_var 2))))))) nd
/-! ### 67: _law_wrong -/
abbrev N67 : List Str := ["_law_listed", "_law_kinds_here", "_law_row", "_law_matching", "_law_action", "_law_case", "_law_deciding", "_law_told", "_law_number"]
def g67 : DE → Option Out := gSeq (gFor (iS (eV 1)) (mT 3) [3, 4, 5] (gSeq (gSet 6 (eLc [8] (iS (eV 2)) m1 [8] (tB1 (e2 inE (eV 8) (eV 3))) (eV 8))) (gSeq (gSet 7 (e2 ixE (eV 0) (eC (.int 2)))) (gSeq (gIf (tTr (eV 6)) (gSet 7 (e2 ixE (e2 ixE (e2 ixE (eV 0) (eC (.int 1))) (e2 ixE (eV 6) (eC (.int 0)))) (eC (.int 0)))) (gNx)) (gIf (tB1 (e2 neD (eV 7) (eV 4))) (gRet (eV 5)) (gNx)))))) (gRet (eC .none))
def F67 : List PyData → Option PyData := runF 3 N67 g67
theorem sc67 : FnScope N67 ["_law_listed", "_law_kinds_here", "_law_row"] (defScope s67) := ⟨rfl, rfl, rfl, by decide +kernel, rfl, by decide +kernel, by decide +kernel⟩
theorem ok67 (T : Tx K mg) : OkF P w K mg base "_law_wrong" 1 3 F67 := by
  have nd := sc67.nd
  obtain ⟨f, fd, F, hm⟩ := T.d67
  refine ⟨fun ds d h => runF_len h, f, fd, ["_law_listed", "_law_kinds_here", "_law_row"], hm, F.kp, F.bindsN fun _ _ _ _ _ _ us hl => match us, hl with | [_, _, _], _ => rfl, rfl, fn_pure F sc67 rfl fun cdv A outer s H E hr => ?_⟩
  exact ss_cons (s_for PassesOwn.never rfl (i_seq (d_var 1)) (tg_tup [3, 4, 5] rfl) (pg_tup rfl (pgs_cons (pg_name (i := 3) nd rfl (Or.inr rfl)) (pgs_cons (pg_name (i := 4) nd rfl (Or.inl rfl)) (pgs_cons (pg_name (i := 5) nd rfl (Or.inl rfl)) pgs_nil)))) (ss_cons (s_setLc 6 rfl nd (blkOk_by (N := N67) (sc := defScope s67) (own := [("_law_number", 8)]) (by decide +kernel)) (i_seq (d_var 2)) (tg_name 8) (by decide) (fun _ _ _ _ _ => (pg_name (i := 8) nd rfl (Or.inl rfl))) (fun _ _ _ _ _ => dts_one (dt_cmp (o_inE (rm65 hr)) (d_var 8) (d_var 3))) (fun _ _ _ _ _ => d_var 8) (sw_true rfl rfl rfl (by decide +kernel))) (ss_cons (s_set 7 (d_ix (x_ix (rm20 hr)) (d_var 0) (d_int)) nd) (ss_cons (s_if (dt_truth (d_var 6)) (ss_one (s_set 7 (d_ix (x_ix (rm20 hr)) (d_ix (x_ix (rm20 hr)) (d_ix (x_ix (rm20 hr)) (d_var 0) (d_int)) (d_ix (x_ix (rm20 hr)) (d_var 6) (d_int))) (d_int)) nd)) (ss_nil)) (ss_one (s_if (dt_cmp (o_ne (rm64 hr)) (d_var 7) (d_var 4)) (ss_one (s_ret (d_var 5))) (ss_nil))))))) (ss_one (s_ret (d_non)))
/-! ### 68: _law_rows -/
abbrev N68 : List Str := ["_law_many", "_law_rows_here", "_law_k", "_law_longer", "_law_row", "_law_one"]
def g68 : DE → Option Out := gSeq (gSet 1 (eLst (aC (eTup (aN)) (aN)))) (gSeq (gFor (iR (eV 0)) m1 [2] (gSeq (gSet 3 (eLst (aN))) (gSeq (gFor (iS (eV 1)) m1 [4] (gSet 3 (e2 addD (eV 3) (eLc [5] (iR (eV 0)) m1 [5] (tB1 (e2 notInE (eV 5) (eV 4))) (e2 addD (eV 4) (eTup (aC (eV 5) (aN)))))))) (gSet 1 (eV 3))))) (gRet (eV 1)))
def F68 : List PyData → Option PyData := runF 1 N68 g68
theorem sc68 : FnScope N68 ["_law_many"] (defScope s68) := ⟨rfl, rfl, rfl, by decide +kernel, rfl, by decide +kernel, by decide +kernel⟩
theorem ok68 (T : Tx K mg) : OkF P w K mg base "_law_rows" 1 1 F68 := by
  have nd := sc68.nd
  obtain ⟨f, fd, F, hm⟩ := T.d68
  refine ⟨fun ds d h => runF_len h, f, fd, ["_law_many"], hm, F.kp, F.bindsN fun _ _ _ _ _ _ us hl => match us, hl with | [_], _ => rfl, rfl, fn_pure F sc68 rfl fun cdv A outer s H E hr => ?_⟩
  exact ss_cons (s_set 1 (d_lst (da_cons (d_tup (da_nil)) (da_nil))) nd) (ss_cons (s_for PassesOwn.never rfl (i_range T.range (d_var 0)) (tg_name 2) (pg_name (i := 2) nd rfl (Or.inl rfl)) (ss_cons (s_set 3 (d_lst (da_nil)) nd) (ss_cons (s_for PassesOwn.never rfl (i_seq (d_var 1)) (tg_name 4) (pg_name (i := 4) nd rfl (Or.inr rfl)) (ss_one (s_set 3 (d_op o_add (d_var 3) (d_lc rfl nd (blkOk_by (N := N68) (sc := defScope s68) (own := [("_law_one", 5)]) (by decide +kernel)) (i_range T.range (d_var 0)) (tg_name 5) (by decide) (fun _ _ _ _ _ => (pg_name (i := 5) nd rfl (Or.inl rfl))) (fun _ _ _ _ _ => dts_one (dt_cmp (o_notInE (rm65 hr)) (d_var 5) (d_var 4))) (fun _ _ _ _ _ => d_op o_add (d_var 4) (d_tup (da_cons (d_var 5) (da_nil)))))) nd))) (ss_one (s_set 1 (d_var 3) nd))))) (ss_one (s_ret (d_var 1))))
/-! ### 69: _law_right_rows -/
abbrev N69 : List Str := ["_law_listed", "_law_kinds_here", "_law_row"]
def g69 : DE → Option Out := gRet (eLc [2] (iS (eCall F68 (aC (eCall lenD (aC (e2 ixE (eV 0) (eC (.int 1))) (aN))) (aN)))) m1 [2] (tB1 (e2 isD (eCall F67 (aC (eV 0) (aC (eV 1) (aC (eV 2) (aN))))) (eC .none))) (eV 2))
def F69 : List PyData → Option PyData := runF 2 N69 g69
theorem sc69 : FnScope N69 ["_law_listed", "_law_kinds_here"] (defScope s69) := ⟨rfl, rfl, rfl, by decide +kernel, rfl, by decide +kernel, by decide +kernel⟩
theorem ok69 (T : Tx K mg) : OkF P w K mg base "_law_right_rows" 2 2 F69 := by
  have nd := sc69.nd
  obtain ⟨f, fd, F, hm⟩ := T.d69
  refine ⟨fun ds d h => runF_len h, f, fd, ["_law_listed", "_law_kinds_here"], hm, F.kp, F.bindsN fun _ _ _ _ _ _ us hl => match us, hl with | [_, _], _ => rfl, rfl, fn_pure F sc69 rfl fun cdv A outer s H E hr => ?_⟩
  exact ss_one (s_ret (d_lc rfl nd (blkOk_by (N := N69) (sc := defScope s69) (own := [("_law_row", 2)]) (by decide +kernel)) (i_seq (d_call (ok68 T) hr (by decide) (da_cons (d_callB c_len T.len bt_len (da_cons (d_ix (x_ix (rm20 hr)) (d_var 0) (d_int)) (da_nil))) (da_nil)))) (tg_name 2) (by decide) (fun _ _ _ _ _ => (pg_name (i := 2) nd rfl (Or.inl rfl))) (fun _ _ _ _ _ => dts_one (dt_cmp o_is (d_call (ok67 T) hr (by decide) (da_cons (d_var 0) (da_cons (d_var 1) (da_cons (d_var 2) (da_nil))))) (d_non))) (fun _ _ _ _ _ => d_var 2)))
end
end G8

namespace G8
open L2 PyProof.Rows PySem.Spec PySem
section
variable {P : Program} {w : World} {K : PySem.W.Frag} {mg : Str → Option Value} {base : Heap}

/-! ### 58: _law_list -/
abbrev N58 : List Str := ["_law_stream_here", "_law_widths_here", "_law_least", "_law_most", "_law_rules", "_law_k", "_law_ranges", "_law_width", "_law_low", "_law_high"]
def g58 : ZG := zNew [0] 4 (eLst (aN)) (zSeq (zFor (zIR (z2 addD (zP [0, 4] (eV 2)) (zCall 0 F55 (zC (zP [0, 4] (e2 addD (e2 subD (eV 3) (eV 2)) (eC (.int 1)))) (zN))))) m1 [5] (zNew [0, 4] 6 (eLst (aN)) (zSeq (zFor (zIP [0, 4, 6] (iS (eV 1))) m1 [7] (zSeq (zSet 8 (zCall 0 F55 (zC (zP [0, 4, 6] (eV 7)) (zN)))) (zSeq (zSet 9 (zCall 0 F55 (zC (zP [0, 4, 6] (eV 7)) (zN)))) (zApp 6 (zP [0, 4, 6] (eTup (aC (eCall minD (aC (eV 8) (aC (eV 9) (aN)))) (aC (eCall maxD (aC (eV 8) (aC (eV 9) (aN)))) (aN))))))))) (zApp 4 (zTup (zC (zCall 0 F55 (zC (zP [0, 4, 6] (eC (.int 3))) (zN))) (zC (zTupOwn 6) (zN)))))))) (zRet (zTup (zC (zP [0, 4] (eV 1)) (zC (zTupOwn 4) (zC (zCall 0 F55 (zC (zP [0, 4] (eC (.int 3))) (zN))) (zN)))))))
def F58 : PyData → List PyData → Option (PyData × PyData) := runZ 3 N58 g58
theorem sc58 : FnScope N58 ["_law_stream_here", "_law_widths_here", "_law_least", "_law_most"] (defScope s58) := ⟨rfl, rfl, rfl, by decide +kernel, rfl, by decide +kernel, by decide +kernel⟩
theorem ok58 (T : Tx K mg) : OkZ P w K mg base "_law_list" 2 3 F58 := by
  have nd := sc58.nd
  obtain ⟨f, fd, F, hm⟩ := T.d58
  refine ⟨fun o ds d h => runZ_len h, f, fd, ["_law_stream_here", "_law_widths_here", "_law_least", "_law_most"], hm, F.kp, F.bindsN fun _ _ _ _ _ _ us hl => match us, hl with | [_, _, _, _], _ => rfl, rfl, fn_z F sc58 rfl (by decide) fun cdv A outer s H E hr => ?_⟩
  exact zss_new (os := [0]) 4 (n_lst (da_nil)) (show PZSs _ 1 [0, 4] _ _ from (zss_cons (zs_for PassesOwn.never rfl (zi_range T.range (z_op o_add (z_pure (d_var 2)) (z_call (ok55 T) hr (by decide) (zs_cons (z_pure (d_op o_add (d_op o_sub (d_var 3) (d_var 2)) (d_int))) (zs_nil))))) (tg_name 5) (pg_name (i := 5) nd rfl (Or.inl rfl)) (zss_new (os := [0, 4]) 6 (n_lst (da_nil)) (show PZSs _ 1 [0, 4, 6] _ _ from (zss_cons (zs_for PassesOwn.never rfl (zi_pure (i_seq (d_var 1))) (tg_name 7) (pg_name (i := 7) nd rfl (Or.inl rfl)) (zss_cons (zs_set 8 (z_call (ok55 T) hr (by decide) (zs_cons (z_pure (d_var 7)) (zs_nil))) nd) (zss_cons (zs_set 9 (z_call (ok55 T) hr (by decide) (zs_cons (z_pure (d_var 7)) (zs_nil))) nd) (zss_one (zs_app 6 (z_pure (d_tup (da_cons (d_callB (c_min rfl) T.min bt_min (da_cons (d_var 8) (da_cons (d_var 9) (da_nil)))) (da_cons (d_callB (c_max rfl) T.max bt_max (da_cons (d_var 8) (da_cons (d_var 9) (da_nil)))) (da_nil)))))))))) (zss_one (zs_app 4 (z_tup (zs_cons (z_call (ok55 T) hr (by decide) (zs_cons (z_pure (d_int)) (zs_nil))) (zs_cons (z_tupOwn 6 (by decide) T.tuple) (zs_nil)))))))) nd)) (zss_one (zs_ret (z_tup (zs_cons (z_pure (d_var 1)) (zs_cons (z_tupOwn 4 (by decide) T.tuple) (zs_cons (z_call (ok55 T) hr (by decide) (zs_cons (z_pure (d_int)) (zs_nil))) (zs_nil))))))))) nd
/-! ### 59: _law_widths -/
abbrev N59 : List Str := ["_law_stream_here"]
def g59 : ZG := zRet (z2 ixE (zP [0] (eLst (aC (eTup (aC (eC (.int 4)) (aN))) (aC (eTup (aC (eC (.int 6)) (aN))) (aC (eTup (aC (eC (.int 3)) (aC (eC (.int 3)) (aN)))) (aC (eTup (aC (eC (.int 8)) (aN))) (aC (eTup (aC (eC (.int 2)) (aC (eC (.int 4)) (aN)))) (aC (eTup (aC (eC (.int 2)) (aC (eC (.int 2)) (aC (eC (.int 2)) (aN))))) (aN))))))))) (zCall 0 F55 (zC (zP [0] (eC (.int 6))) (zN))))
def F59 : PyData → List PyData → Option (PyData × PyData) := runZ 0 N59 g59
theorem sc59 : FnScope N59 ["_law_stream_here"] (defScope s59) := ⟨rfl, rfl, rfl, by decide +kernel, rfl, by decide +kernel, by decide +kernel⟩
theorem ok59 (T : Tx K mg) : OkZ P w K mg base "_law_widths" 2 0 F59 := by
  have nd := sc59.nd
  obtain ⟨f, fd, F, hm⟩ := T.d59
  refine ⟨fun o ds d h => runZ_len h, f, fd, ["_law_stream_here"], hm, F.kp, F.bindsN fun _ _ _ _ _ _ us hl => match us, hl with | [_], _ => rfl, rfl, fn_z F sc59 rfl (by decide) fun cdv A outer s H E hr => ?_⟩
  exact zss_one (zs_ret (z_ix (x_ix (rm20 hr)) (z_pure (d_lst (da_cons (d_tup (da_cons (d_int) (da_nil))) (da_cons (d_tup (da_cons (d_int) (da_nil))) (da_cons (d_tup (da_cons (d_int) (da_cons (d_int) (da_nil)))) (da_cons (d_tup (da_cons (d_int) (da_nil))) (da_cons (d_tup (da_cons (d_int) (da_cons (d_int) (da_nil)))) (da_cons (d_tup (da_cons (d_int) (da_cons (d_int) (da_cons (d_int) (da_nil))))) (da_nil))))))))) (z_call (ok55 T) hr (by decide) (zs_cons (z_pure (d_int)) (zs_nil)))))
/-! ### 63: _law_shuffled -/
abbrev N63 : List Str := ["_law_stream_here", "_law_many", "_law_left", "_law_found", "_law_k"]
def g63 : ZG := zNew [0] 2 (eRgL (eV 1)) (zNew [0, 2] 3 (eLst (aN)) (zSeq (zFor (zIP [0, 2, 3] (iR (eV 1))) m1 [4] (zApp 3 (zPop 2 (zCall 0 F55 (zC (zF (eCall lenD (aC (eV 2) (aN)))) (zN)))))) (zRet (zTupOwn 3))))
def F63 : PyData → List PyData → Option (PyData × PyData) := runZ 1 N63 g63
theorem sc63 : FnScope N63 ["_law_stream_here", "_law_many"] (defScope s63) := ⟨rfl, rfl, rfl, by decide +kernel, rfl, by decide +kernel, by decide +kernel⟩
theorem ok63 (T : Tx K mg) : OkZ P w K mg base "_law_shuffled" 2 1 F63 := by
  have nd := sc63.nd
  obtain ⟨f, fd, F, hm⟩ := T.d63
  refine ⟨fun o ds d h => runZ_len h, f, fd, ["_law_stream_here", "_law_many"], hm, F.kp, F.bindsN fun _ _ _ _ _ _ us hl => match us, hl with | [_, _], _ => rfl, rfl, fn_z F sc63 rfl (by decide) fun cdv A outer s H E hr => ?_⟩
  exact zss_new (os := [0]) 2 (n_rgL rfl T.list T.range (d_var 1)) (show PZSs _ 1 [0, 2] _ _ from (zss_new (os := [0, 2]) 3 (n_lst (da_nil)) (show PZSs _ 1 [0, 2, 3] _ _ from (zss_cons (zs_for PassesOwn.never rfl (zi_pure (i_range T.range (d_var 1))) (tg_name 4) (pg_name (i := 4) nd rfl (Or.inl rfl)) (zss_one (zs_app 3 (z_pop 2 (by decide) (z_call (ok55 T) hr (by decide) (zs_cons (z_scal (d_callB c_len T.len bt_len (da_cons (d_var 2) (da_nil)))) (zs_nil))))))) (zss_one (zs_ret (z_tupOwn 3 (by decide) T.tuple))))) nd)) nd
/-! ### 64: _law_wanted -/
abbrev N64 : List Str := ["_law_stream_here", "_law_listed", "_law_pick", "_law_many", "_law_row", "_law_other", "_law_found", "_law_case", "_law_order", "_law_rules", "_law_k", "_law_action", "_law_number"]
def g64 : ZG := zSeq (zSet 2 (zCall 0 F55 (zC (zP [0] (eC (.int 4))) (zN)))) (zSeq (zSet 3 (zP [0] (eCall lenD (aC (e2 ixE (eV 1) (eC (.int 1))) (aN))))) (zSeq (zIf (zTP (tB1 (e2 eqD (eV 2) (eC (.int 0))))) (zRet (zP [0] (eTup (aC (eC (.str "self")) (aN))))) (zNx)) (zSeq (zIf (zTP (tB1 (e2 eqD (eV 2) (eC (.int 1))))) (zSeq (zSet 8 (zCall 0 F63 (zC (zP [0] (eV 3)) (zN)))) (zSeq (zSet 9 (zP [0] (eLc [12] (iS (eV 8)) m1 [12] (tTrue) (e2 ixE (e2 ixE (eV 1) (eC (.int 1))) (eV 12))))) (zSeq (zFor (zIR (zCall 0 F55 (zC (zP [0] (eC (.int 2))) (zN)))) m1 [10] (zSet 9 (zP [0] (e2 addD (eSl (eV 9) none (some (eC (.int 1)))) (eSl (eV 9) (some (eC (.int 2))) none))))) (zRet (zP [0] (eTup (aC (eC (.str "list")) (aC (eTup (aC (e2 ixE (eV 1) (eC (.int 0))) (aC (eCall tupleD (aC (eV 9) (aN))) (aC (e2 ixE (eV 1) (eC (.int 2))) (aN))))) (aN))))))))) (zNx)) (zSeq (zSet 4 (zCall 0 F63 (zC (zP [0] (eV 3)) (zN)))) (zSeq (zSet 5 (zCall 0 F63 (zC (zP [0] (eV 3)) (zN)))) (zNew [0] 6 (eLst (aN)) (zSeq (zFor (zIP [0, 6] (iS (eCall F60 (aC (e2 ixE (eV 1) (eC (.int 0))) (aN))))) m1 [7] (zIf (zTA (zTP (tB1 (e2 ltD (eCall lenD (aC (eV 6) (aN))) (eC (.int 12))))) (zT2 eqD (zCall 0 F55 (zC (zP [0, 6] (eC (.int 2))) (zN))) (zP [0, 6] (eC (.int 0))))) (zSeq (zSet 11 (zP [0, 6] (eCall F62 (aC (eV 1) (aC (eV 4) (aC (eV 7) (aN))))))) (zSeq (zIf (zT2 eqD (zCall 0 F55 (zC (zP [0, 6] (eC (.int 6))) (zN))) (zP [0, 6] (eC (.int 0)))) (zSet 11 (z2 ixE (zLst (zC (zP [0, 6] (eCall F62 (aC (eV 1) (aC (eV 5) (aC (eV 7) (aN)))))) (zC (zCall 0 F55 (zC (zP [0, 6] (eC (.int 3))) (zN))) (zN)))) (zP [0, 6] (eCall intD (aC (e2 eqD (eV 2) (eC (.int 3))) (aN)))))) (zNx)) (zApp 6 (zP [0, 6] (eTup (aC (eV 7) (aC (eV 11) (aN)))))))) (zNx))) (zRet (zTup (zC (zP [0, 6] (eC (.str "cases"))) (zC (zTupOwn 6) (zN))))))))))))
def F64 : PyData → List PyData → Option (PyData × PyData) := runZ 1 N64 g64
theorem sc64 : FnScope N64 ["_law_stream_here", "_law_listed"] (defScope s64) := ⟨rfl, rfl, rfl, by decide +kernel, rfl, by decide +kernel, by decide +kernel⟩
theorem ok64 (T : Tx K mg) : OkZ P w K mg base "_law_wanted" 3 1 F64 := by
  have nd := sc64.nd
  obtain ⟨f, fd, F, hm⟩ := T.d64
  refine ⟨fun o ds d h => runZ_len h, f, fd, ["_law_stream_here", "_law_listed"], hm, F.kp, F.bindsN fun _ _ _ _ _ _ us hl => match us, hl with | [_, _], _ => rfl, rfl, fn_z F sc64 rfl (by decide) fun cdv A outer s H E hr => ?_⟩
  exact zss_cons (zs_set 2 (z_call (ok55 T) hr (by decide) (zs_cons (z_pure (d_int)) (zs_nil))) nd) (zss_cons (zs_set 3 (z_pure (d_callB c_len T.len bt_len (da_cons (d_ix (x_ix (rm20 hr)) (d_var 1) (d_int)) (da_nil)))) nd) (zss_cons (zs_if (zt_pure (dt_cmp (o_eq (rm64 hr)) (d_var 2) (d_int))) (zss_one (zs_ret (z_pure (d_tup (da_cons (d_str) (da_nil)))))) (zss_nil)) (zss_cons (zs_if (zt_pure (dt_cmp (o_eq (rm64 hr)) (d_var 2) (d_int))) (zss_cons (zs_set 8 (z_call (ok63 T) hr (by decide) (zs_cons (z_pure (d_var 3)) (zs_nil))) nd) (zss_cons (zs_setLc 9 rfl nd (blkOk_by (N := N64) (sc := defScope s64) (own := [("_law_number", 12)]) (by decide +kernel)) (i_seq (d_var 8)) (tg_name 12) (by decide) (fun _ _ _ _ _ => (pg_name (i := 12) nd rfl (Or.inl rfl))) (fun _ _ _ _ _ => dts_nil) (fun _ _ _ _ _ => d_ix (x_ix (rm20 hr)) (d_ix (x_ix (rm20 hr)) (d_var 1) (d_int)) (d_var 12)) (sw_true rfl rfl rfl (by decide +kernel))) (zss_cons (zs_for PassesOwn.never rfl (zi_range T.range (z_call (ok55 T) hr (by decide) (zs_cons (z_pure (d_int)) (zs_nil)))) (tg_name 10) (pg_name (i := 10) nd rfl (Or.inl rfl)) (zss_one (zs_set 9 (z_pure (d_op o_add (d_slice (d_var 9) do_none (do_some (d_int))) (d_slice (d_var 9) (do_some (d_int)) do_none))) nd))) (zss_one (zs_ret (z_pure (d_tup (da_cons (d_str) (da_cons (d_tup (da_cons (d_ix (x_ix (rm20 hr)) (d_var 1) (d_int)) (da_cons (d_callTy c_tuple T.tuple bt_tuple (da_cons (d_var 9) (da_nil))) (da_cons (d_ix (x_ix (rm20 hr)) (d_var 1) (d_int)) (da_nil))))) (da_nil)))))))))) (zss_nil)) (zss_cons (zs_set 4 (z_call (ok63 T) hr (by decide) (zs_cons (z_pure (d_var 3)) (zs_nil))) nd) (zss_cons (zs_set 5 (z_call (ok63 T) hr (by decide) (zs_cons (z_pure (d_var 3)) (zs_nil))) nd) (zss_new (os := [0]) 6 (n_lst (da_nil)) (show PZSs _ 1 [0, 6] _ _ from (zss_cons (zs_for PassesOwn.never rfl (zi_pure (i_seq (d_call (ok60 T) hr (by decide) (da_cons (d_ix (x_ix (rm20 hr)) (d_var 1) (d_int)) (da_nil))))) (tg_name 7) (pg_name (i := 7) nd rfl (Or.inl rfl)) (zss_one (zs_if ((zw_and (zt_pure (dt_cmp (o_lt (rm0 hr)) (d_callB c_len T.len bt_len (da_cons (d_var 6) (da_nil))) (d_int))) (zw_and1 (zt_cmp (o_eq (rm64 hr)) (z_call (ok55 T) hr (by decide) (zs_cons (z_pure (d_int)) (zs_nil))) (z_pure (d_int))))).pt) (zss_cons (zs_set 11 (z_pure (d_call (ok62 T) hr (by decide) (da_cons (d_var 1) (da_cons (d_var 4) (da_cons (d_var 7) (da_nil)))))) nd) (zss_cons (zs_if (zt_cmp (o_eq (rm64 hr)) (z_call (ok55 T) hr (by decide) (zs_cons (z_pure (d_int)) (zs_nil))) (z_pure (d_int))) (zss_one (zs_set 11 (z_ix (x_ix (rm20 hr)) (z_lst (zs_cons (z_pure (d_call (ok62 T) hr (by decide) (da_cons (d_var 1) (da_cons (d_var 5) (da_cons (d_var 7) (da_nil)))))) (zs_cons (z_call (ok55 T) hr (by decide) (zs_cons (z_pure (d_int)) (zs_nil))) (zs_nil)))) (z_pure (d_callTy c_int T.int bt_int (da_cons (d_cmp (o_eq (rm64 hr)) (d_var 2) (d_int)) (da_nil))))) nd)) (zss_nil)) (zss_one (zs_app 6 (z_pure (d_tup (da_cons (d_var 7) (da_cons (d_var 11) (da_nil))))))))) (zss_nil)))) (zss_one (zs_ret (z_tup (zs_cons (z_pure (d_str)) (zs_cons (z_tupOwn 6 (by decide) T.tuple) (zs_nil)))))))) nd))))))
/-! ### 70: _law_is_fence -/
abbrev N70 : List Str := ["_law_listed", "_law_pairs", "_law_first", "_law_value", "_law_numbers", "_law_pair", "_law_number", "_law_case", "_law_actions", "_law_others", "_law_told", "_law_action", "_law_one", "_law_k", "_law_other"]
def g70 : ZG := zSeq (zIf (zTP (tN (tTr (e1 (isiD "tuple") (eV 3))))) (zRet (zP [] (eC (.bool false)))) (zNx)) (zNew [] 4 (eLst (aN)) (zSeq (zFor (zIP [4] (iS (eV 3))) m1 [5] (zSeq (zIf (zTP (tO (tN (tTr (e1 (isiD "tuple") (eV 5)))) (tO (tB1 (e2 neD (eCall lenD (aC (eV 5) (aN))) (eC (.int 2)))) (tO (tN (tTr (eCall F56 (aC (e2 ixE (eV 5) (eC (.int 0))) (aN))))) (tN (tTr (e1 (isiD "tuple") (e2 ixE (eV 5) (eC (.int 1)))))))))) (zRet (zP [4] (eC (.bool false)))) (zNx)) (zSeq (zIf (zTP (tO (tN (tB1 (e3 leD ltD (eC (.int 0)) (e2 ixE (eV 5) (eC (.int 0))) (eCall lenD (aC (e2 ixE (eV 0) (eC (.int 1))) (aN)))))) (tN (tTr (eCall allD (aC (eLc [12] (iS (e2 ixE (eV 5) (eC (.int 1)))) m1 [12] (tTrue) (eCall F56 (aC (eV 12) (aN)))) (aN))))))) (zRet (zP [4] (eC (.bool false)))) (zNx)) (zApp 4 (zP [4] (e2 ixE (eV 5) (eC (.int 0)))))))) (zRel (zL (gSeq (gIf (tO (tB1 (e2 inE (eV 2) (eV 4))) (tTr (eCall anyD (aC (eLc [13] (iR (e2 subD (eCall lenD (aC (eV 4) (aN))) (eC (.int 1)))) m1 [13] (tTrue) (e2 geD (e2 ixE (eV 4) (eV 13)) (e2 ixE (eV 4) (e2 addD (eV 13) (eC (.int 1)))))) (aN))))) (gRet (eC (.bool false))) (gNx)) (gSeq (gFor (iS (eV 3)) (mT 2) [6, 7] (gSeq (gSet 8 (eLc [10, 11] (iS (eV 1)) (mT 2) [10, 11] (tB1 (e2 eqD (eV 10) (eV 7))) (eV 11))) (gSeq (gIf (tO (tN (tTr (eV 8))) (tO (tB1 (e2 eqD (e2 ixE (eV 8) (eC (.int 0))) (e2 ixE (e2 ixE (e2 ixE (eV 0) (eC (.int 1))) (eV 6)) (eC (.int 0))))) (tN (tTr (eCall F61 (aC (eV 0) (aC (eV 6) (aC (eV 7) (aN))))))))) (gRet (eC (.bool false))) (gNx)) (gSeq (gSet 9 (eLc [12] (iR (eCall lenD (aC (e2 ixE (eV 0) (eC (.int 1))) (aN)))) m1 [12] (tA (tB1 (e2 neD (eV 12) (eV 2))) (tB1 (e2 notInE (eV 12) (eV 4)))) (eV 12))) (gIf (tTr (eCall anyD (aC (eLc [14] (iS (eV 9)) m1 [14] (tTrue) (eCall F61 (aC (eV 0) (aC (eV 14) (aC (eV 7) (aN)))))) (aN)))) (gRet (eC (.bool false))) (gNx)))))) (gRet (eC (.bool true)))))))))
def F70 : List PyData → Option PyData := runFZ 4 N70 g70
theorem sc70 : FnScope N70 ["_law_listed", "_law_pairs", "_law_first", "_law_value"] (defScope s70) := ⟨rfl, rfl, rfl, by decide +kernel, rfl, by decide +kernel, by decide +kernel⟩
theorem ok70 (T : Tx K mg) : OkF P w K mg base "_law_is_fence" 2 4 F70 := by
  have nd := sc70.nd
  obtain ⟨f, fd, F, hm⟩ := T.d70
  refine ⟨fun ds d h => runFZ_len h, f, fd, ["_law_listed", "_law_pairs", "_law_first", "_law_value"], hm, F.kp, F.bindsN fun _ _ _ _ _ _ us hl => match us, hl with | [_, _, _, _], _ => rfl, rfl, fn_zpure F sc70 rfl fun cdv A outer s H E hr => ?_⟩
  exact zss_cons (zs_if (zt_pure (dt_not (dt_truth (d_isi T.isinstance T.tuple bt_tuple (d_var 3))))) (zss_one (zs_ret (z_pure (d_bl)))) (zss_nil)) (zss_new (os := []) 4 (n_lst (da_nil)) (show PZSs _ 0 [4] _ _ from (zss_cons (zs_for PassesOwn.never rfl (zi_pure (i_seq (d_var 3))) (tg_name 5) (pg_name (i := 5) nd rfl (Or.inl rfl)) (zss_cons (zs_if (zt_pure ((dw_or (dt_not (dt_truth (d_isi T.isinstance T.tuple bt_tuple (d_var 5)))) (dw_or (dt_cmp (o_ne (rm64 hr)) (d_callB c_len T.len bt_len (da_cons (d_var 5) (da_nil))) (d_int)) (dw_or (dt_not (dt_truth (d_call (ok56 T) hr (by decide) (da_cons (d_ix (x_ix (rm20 hr)) (d_var 5) (d_int)) (da_nil))))) (dw_or1 (dt_not (dt_truth (d_isi T.isinstance T.tuple bt_tuple (d_ix (x_ix (rm20 hr)) (d_var 5) (d_int))))))))).pt)) (zss_one (zs_ret (z_pure (d_bl)))) (zss_nil)) (zss_cons (zs_if (zt_pure ((dw_or (dt_not (dt_chain o_le (o_lt (rm0 hr)) (d_int) (d_ix (x_ix (rm20 hr)) (d_var 5) (d_int)) (d_callB c_len T.len bt_len (da_cons (d_ix (x_ix (rm20 hr)) (d_var 0) (d_int)) (da_nil))))) (dw_or1 (dt_not (dt_truth (d_callB (c_all rfl) T.all bt_all (da_cons (d_lc rfl nd (blkOk_by (N := N70) (sc := defScope s70) (own := [("_law_one", 12)]) (by decide +kernel)) (i_seq (d_ix (x_ix (rm20 hr)) (d_var 5) (d_int))) (tg_name 12) (by decide) (fun _ _ _ _ _ => (pg_name (i := 12) nd rfl (Or.inl rfl))) (fun _ _ _ _ _ => dts_nil) (fun _ _ _ _ _ => d_call (ok56 T) hr (by decide) (da_cons (d_var 12) (da_nil)))) (da_nil))))))).pt)) (zss_one (zs_ret (z_pure (d_bl)))) (zss_nil)) (zss_one (zs_app 4 (z_pure (d_ix (x_ix (rm20 hr)) (d_var 5) (d_int)))))))) (zss_rel (os := []) 4 (zss_plain (ss_cons (s_if ((dw_or (dt_cmp (o_inE (rm65 hr)) (d_var 2) (d_var 4)) (dw_or1 (dt_truth (d_callB (c_any rfl) T.any bt_any (da_cons (d_lc rfl nd (blkOk_by (N := N70) (sc := defScope s70) (own := [("_law_k", 13)]) (by decide +kernel)) (i_range T.range (d_op o_sub (d_callB c_len T.len bt_len (da_cons (d_var 4) (da_nil))) (d_int))) (tg_name 13) (by decide) (fun _ _ _ _ _ => (pg_name (i := 13) nd rfl (Or.inl rfl))) (fun _ _ _ _ _ => dts_nil) (fun _ _ _ _ _ => d_cmp o_ge (d_ix (x_ix (rm20 hr)) (d_var 4) (d_var 13)) (d_ix (x_ix (rm20 hr)) (d_var 4) (d_op o_add (d_var 13) (d_int))))) (da_nil)))))).pt) (ss_one (s_ret (d_bl))) (ss_nil)) (ss_cons (s_for PassesOwn.never rfl (i_seq (d_var 3)) (tg_tup [6, 7] rfl) (pg_tup rfl (pgs_cons (pg_name (i := 6) nd rfl (Or.inl rfl)) (pgs_cons (pg_name (i := 7) nd rfl (Or.inr rfl)) pgs_nil))) (ss_cons (s_setLc 8 rfl nd (blkOk_by (N := N70) (sc := defScope s70) (own := [("_law_told", 10), ("_law_action", 11)]) (by decide +kernel)) (i_seq (d_var 1)) (tg_tup [10, 11] rfl) (by decide) (fun _ _ _ _ _ => (pg_tup rfl (pgs_cons (pg_name (i := 10) nd rfl (Or.inl rfl)) (pgs_cons (pg_name (i := 11) nd rfl (Or.inl rfl)) pgs_nil)))) (fun _ _ _ _ _ => dts_one (dt_cmp (o_eq (rm64 hr)) (d_var 10) (d_var 7))) (fun _ _ _ _ _ => d_var 11) (sw_true rfl rfl rfl (by decide +kernel))) (ss_cons (s_if ((dw_or (dt_not (dt_truth (d_var 8))) (dw_or (dt_cmp (o_eq (rm64 hr)) (d_ix (x_ix (rm20 hr)) (d_var 8) (d_int)) (d_ix (x_ix (rm20 hr)) (d_ix (x_ix (rm20 hr)) (d_ix (x_ix (rm20 hr)) (d_var 0) (d_int)) (d_var 6)) (d_int))) (dw_or1 (dt_not (dt_truth (d_call (ok61 T) hr (by decide) (da_cons (d_var 0) (da_cons (d_var 6) (da_cons (d_var 7) (da_nil)))))))))).pt) (ss_one (s_ret (d_bl))) (ss_nil)) (ss_cons (s_setLc 9 rfl nd (blkOk_by (N := N70) (sc := defScope s70) (own := [("_law_one", 12)]) (by decide +kernel)) (i_range T.range (d_callB c_len T.len bt_len (da_cons (d_ix (x_ix (rm20 hr)) (d_var 0) (d_int)) (da_nil)))) (tg_name 12) (by decide) (fun _ _ _ _ _ => (pg_name (i := 12) nd rfl (Or.inl rfl))) (fun _ _ _ _ _ => dts_one ((dw_and (dt_cmp (o_ne (rm64 hr)) (d_var 12) (d_var 2)) (dw_and1 (dt_cmp (o_notInE (rm65 hr)) (d_var 12) (d_var 4)))).pt)) (fun _ _ _ _ _ => d_var 12) (sw_true rfl rfl rfl (by decide +kernel))) (ss_one (s_if (dt_truth (d_callB (c_any rfl) T.any bt_any (da_cons (d_lc rfl nd (blkOk_by (N := N70) (sc := defScope s70) (own := [("_law_other", 14)]) (by decide +kernel)) (i_seq (d_var 9)) (tg_name 14) (by decide) (fun _ _ _ _ _ => (pg_name (i := 14) nd rfl (Or.inl rfl))) (fun _ _ _ _ _ => dts_nil) (fun _ _ _ _ _ => d_call (ok61 T) hr (by decide) (da_cons (d_var 0) (da_cons (d_var 14) (da_cons (d_var 7) (da_nil)))))) (da_nil)))) (ss_one (s_ret (d_bl))) (ss_nil))))))) (ss_one (s_ret (d_bl))))))))) nd)
/-! ### 71: _law_is_evidence -/
abbrev N71 : List Str := ["_law_listed", "_law_pairs", "_law_kinds_here", "_law_first", "_law_second", "_law_value", "_law_row", "_law_number", "_law_case", "_law_one"]
def g71 : DE → Option Out := gSeq (gIf (tO (tN (tTr (e1 (isiD "tuple") (eV 5)))) (tB1 (e2 neD (eCall lenD (aC (eV 5) (aN))) (eC (.int 2))))) (gRet (eC (.bool false))) (gNx)) (gSeq (gIf (tB1 (e2 eqD (e2 ixE (eV 5) (eC (.int 0))) (eC (.str "not")))) (gSeq (gSet 6 (e2 ixE (eV 5) (eC (.int 1)))) (gSeq (gIf (tO (tN (tTr (e1 (isiD "tuple") (eV 6)))) (tO (tN (tTr (eCall allD (aC (eLc [9] (iS (eV 6)) m1 [9] (tTrue) (eCall F56 (aC (eV 9) (aN)))) (aN))))) (tB1 (e2 neD (eCall sortedD (aC (eV 6) (aN))) (eRgL (eCall lenD (aC (e2 ixE (eV 0) (eC (.int 1))) (aN)))))))) (gRet (eC (.bool false))) (gNx)) (gRet (eA (e2 isD (eCall F67 (aC (eV 0) (aC (eV 2) (aC (eV 6) (aN))))) (eC .none)) (e2 ltD (eM indexD (eV 6) (aC (eV 4) aN)) (eM indexD (eV 6) (aC (eV 3) aN))))))) (gNx)) (gSeq (gIf (tO (tB1 (e2 neD (e2 ixE (eV 5) (eC (.int 0))) (eC (.str "always")))) (tN (tTr (eCall F70 (aC (eV 0) (aC (eV 1) (aC (eV 3) (aC (e2 ixE (eV 5) (eC (.int 1))) (aN))))))))) (gRet (eC (.bool false))) (gNx)) (gRet (e2 inE (eV 4) (eLc [7, 8] (iS (e2 ixE (eV 5) (eC (.int 1)))) (mT 2) [7, 8] (tTrue) (eV 7))))))
def F71 : List PyData → Option PyData := runF 6 N71 g71
theorem sc71 : FnScope N71 ["_law_listed", "_law_pairs", "_law_kinds_here", "_law_first", "_law_second", "_law_value"] (defScope s71) := ⟨rfl, rfl, rfl, by decide +kernel, rfl, by decide +kernel, by decide +kernel⟩
theorem ok71 (T : Tx K mg) : OkF P w K mg base "_law_is_evidence" 3 6 F71 := by
  have nd := sc71.nd
  obtain ⟨f, fd, F, hm⟩ := T.d71
  refine ⟨fun ds d h => runF_len h, f, fd, ["_law_listed", "_law_pairs", "_law_kinds_here", "_law_first", "_law_second", "_law_value"], hm, F.kp, F.bindsN fun _ _ _ _ _ _ us hl => match us, hl with | [_, _, _, _, _, _], _ => rfl, rfl, fn_pure F sc71 rfl fun cdv A outer s H E hr => ?_⟩
  exact ss_cons (s_if ((dw_or (dt_not (dt_truth (d_isi T.isinstance T.tuple bt_tuple (d_var 5)))) (dw_or1 (dt_cmp (o_ne (rm64 hr)) (d_callB c_len T.len bt_len (da_cons (d_var 5) (da_nil))) (d_int)))).pt) (ss_one (s_ret (d_bl))) (ss_nil)) (ss_cons (s_if (dt_cmp (o_eq (rm64 hr)) (d_ix (x_ix (rm20 hr)) (d_var 5) (d_int)) (d_str)) (ss_cons (s_set 6 (d_ix (x_ix (rm20 hr)) (d_var 5) (d_int)) nd) (ss_cons (s_if ((dw_or (dt_not (dt_truth (d_isi T.isinstance T.tuple bt_tuple (d_var 6)))) (dw_or (dt_not (dt_truth (d_callB (c_all rfl) T.all bt_all (da_cons (d_lc rfl nd (blkOk_by (N := N71) (sc := defScope s71) (own := [("_law_one", 9)]) (by decide +kernel)) (i_seq (d_var 6)) (tg_name 9) (by decide) (fun _ _ _ _ _ => (pg_name (i := 9) nd rfl (Or.inl rfl))) (fun _ _ _ _ _ => dts_nil) (fun _ _ _ _ _ => d_call (ok56 T) hr (by decide) (da_cons (d_var 9) (da_nil)))) (da_nil))))) (dw_or1 (dt_cmp (o_ne (rm64 hr)) (d_callB c_sorted T.sorted bt_sorted (da_cons (d_var 6) (da_nil))) (d_rgL rfl T.list T.range (d_callB c_len T.len bt_len (da_cons (d_ix (x_ix (rm20 hr)) (d_var 0) (d_int)) (da_nil)))))))).pt) (ss_one (s_ret (d_bl))) (ss_nil)) (ss_one (s_ret (d_and (d_cmp o_is (d_call (ok67 T) hr (by decide) (da_cons (d_var 0) (da_cons (d_var 2) (da_cons (d_var 6) (da_nil))))) (d_non)) (d_one (d_cmp (o_lt (rm0 hr)) (d_tidx (d_var 6) (d_var 4)) (d_tidx (d_var 6) (d_var 3))))))))) (ss_nil)) (ss_cons (s_if ((dw_or (dt_cmp (o_ne (rm64 hr)) (d_ix (x_ix (rm20 hr)) (d_var 5) (d_int)) (d_str)) (dw_or1 (dt_not (dt_truth (d_call (ok70 T) hr (by decide) (da_cons (d_var 0) (da_cons (d_var 1) (da_cons (d_var 3) (da_cons (d_ix (x_ix (rm20 hr)) (d_var 5) (d_int)) (da_nil)))))))))).pt) (ss_one (s_ret (d_bl))) (ss_nil)) (ss_one (s_ret (d_cmp (o_inE (rm65 hr)) (d_var 4) (d_lc rfl nd (blkOk_by (N := N71) (sc := defScope s71) (own := [("_law_number", 7), ("_law_case", 8)]) (by decide +kernel)) (i_seq (d_ix (x_ix (rm20 hr)) (d_var 5) (d_int))) (tg_tup [7, 8] rfl) (by decide) (fun _ _ _ _ _ => (pg_tup rfl (pgs_cons (pg_name (i := 7) nd rfl (Or.inl rfl)) (pgs_cons (pg_name (i := 8) nd rfl (Or.inl rfl)) pgs_nil)))) (fun _ _ _ _ _ => dts_nil) (fun _ _ _ _ _ => d_var 7)))))))
/-! ### 72: _law_drawn_pairs -/
abbrev N72 : List Str := ["_law_stream_here", "_law_listed", "_law_cases_here", "_law_found", "_law_number"]
def g72 : ZG := zSeq (zSet 2 (zP [0] (eCall F60 (aC (e2 ixE (eV 1) (eC (.int 0))) (aN))))) (zNew [0] 3 (eLst (aN)) (zSeq (zFor (zIP [0, 3] (iR (eCall lenD (aC (e2 ixE (eV 1) (eC (.int 1))) (aN))))) m1 [4] (zIf (zT2 eqD (zCall 0 F55 (zC (zP [0, 3] (eC (.int 2))) (zN))) (zP [0, 3] (eC (.int 0)))) (zApp 3 (zTup (zC (zP [0, 3] (eV 4)) (zC (z2 ixE (zP [0, 3] (eV 2)) (zCall 0 F55 (zC (zP [0, 3] (eCall lenD (aC (eV 2) (aN)))) (zN)))) (zN))))) (zNx))) (zRet (zTupOwn 3))))
def F72 : PyData → List PyData → Option (PyData × PyData) := runZ 1 N72 g72
theorem sc72 : FnScope N72 ["_law_stream_here", "_law_listed"] (defScope s72) := ⟨rfl, rfl, rfl, by decide +kernel, rfl, by decide +kernel, by decide +kernel⟩
theorem ok72 (T : Tx K mg) : OkZ P w K mg base "_law_drawn_pairs" 2 1 F72 := by
  have nd := sc72.nd
  obtain ⟨f, fd, F, hm⟩ := T.d72
  refine ⟨fun o ds d h => runZ_len h, f, fd, ["_law_stream_here", "_law_listed"], hm, F.kp, F.bindsN fun _ _ _ _ _ _ us hl => match us, hl with | [_, _], _ => rfl, rfl, fn_z F sc72 rfl (by decide) fun cdv A outer s H E hr => ?_⟩
  exact zss_cons (zs_set 2 (z_pure (d_call (ok60 T) hr (by decide) (da_cons (d_ix (x_ix (rm20 hr)) (d_var 1) (d_int)) (da_nil)))) nd) (zss_new (os := [0]) 3 (n_lst (da_nil)) (show PZSs _ 1 [0, 3] _ _ from (zss_cons (zs_for PassesOwn.never rfl (zi_pure (i_range T.range (d_callB c_len T.len bt_len (da_cons (d_ix (x_ix (rm20 hr)) (d_var 1) (d_int)) (da_nil))))) (tg_name 4) (pg_name (i := 4) nd rfl (Or.inl rfl)) (zss_one (zs_if (zt_cmp (o_eq (rm64 hr)) (z_call (ok55 T) hr (by decide) (zs_cons (z_pure (d_int)) (zs_nil))) (z_pure (d_int))) (zss_one (zs_app 3 (z_tup (zs_cons (z_pure (d_var 4)) (zs_cons (z_ix (x_ix (rm20 hr)) (z_pure (d_var 2)) (z_call (ok55 T) hr (by decide) (zs_cons (z_pure (d_callB c_len T.len bt_len (da_cons (d_var 2) (da_nil)))) (zs_nil)))) (zs_nil)))))) (zss_nil)))) (zss_one (zs_ret (z_tupOwn 3 (by decide) T.tuple))))) nd)
/-! ### 73: _law_turned -/
abbrev N73 : List Str := ["_law_stream_here", "_law_listed", "_law_value", "_law_pick", "_law_many", "_law_cases_here", "_law_case", "_law_pairs", "_law_at", "_law_number", "_law_odd", "_law_row"]
def g73 : ZG := zSeq (zSet 3 (zCall 0 F55 (zC (zP [0] (eC (.int 8))) (zN)))) (zSeq (zSet 4 (zP [0] (eCall lenD (aC (e2 ixE (eV 1) (eC (.int 1))) (aN))))) (zSeq (zSet 5 (zP [0] (eCall F60 (aC (e2 ixE (eV 1) (eC (.int 0))) (aN))))) (zSeq (zSet 6 (z2 ixE (zP [0] (eV 5)) (zCall 0 F55 (zC (zP [0] (eCall lenD (aC (eV 5) (aN)))) (zN))))) (zSeq (zIf (zTP (tB1 (e2 eqD (eV 3) (eC (.int 0))))) (zRet (z2 ixE (zP [0] (eLst (aC (eC .none) (aC (eCall listD (aC (eV 2) (aN))) (aC (eSl (eV 2) none (some (eC (.int 1)))) (aC (e2 addD (eV 2) (eTup (aC (eC (.int 0)) (aN)))) (aC (eTup (aC (eC .none) (aC (e2 ixE (eV 2) (eC (.int 1))) (aN)))) (aC (eTup (aC (e2 ixE (eV 2) (eC (.int 0))) (aC (eC .none) (aN)))) (aC (eTup (aC (e2 ixE (eV 2) (eC (.int 0))) (aC (eCall listD (aC (e2 ixE (eV 2) (eC (.int 1))) (aN))) (aN)))) (aC (eTup (aC (eC (.str "both")) (aC (e2 ixE (eV 2) (eC (.int 1))) (aN)))) (aN))))))))))) (zCall 0 F55 (zC (zP [0] (eC (.int 8))) (zN))))) (zNx)) (zSeq (zIf (zTP (tB1 (e2 eqD (eV 3) (eC (.int 1))))) (zRet (zTup (zC (zP [0] (eC (.str "not"))) (zC (zCall 0 F63 (zC (zP [0] (eV 4)) (zN))) (zN))))) (zNx)) (zSeq (zIf (zTP (tB1 (e2 eqD (eV 3) (eC (.int 2))))) (zRet (zTup (zC (zP [0] (eC (.str "always"))) (zC (zCall 0 F72 (zC (zP [0] (eV 1)) (zN))) (zN))))) (zNx)) (zSeq (zIf (zTP (tB1 (e2 eqD (eV 3) (eC (.int 3))))) (zRet (zP [0] (eTup (aC (e1 swapD (e2 ixE (eV 2) (eC (.int 0)))) (aC (e2 ixE (eV 2) (eC (.int 1))) (aN)))))) (zNx)) (zSeq (zIf (zTP (tO (tB1 (e2 eqD (e2 ixE (eV 2) (eC (.int 0))) (eC (.str "not")))) (tN (tTr (e2 ixE (eV 2) (eC (.int 1))))))) (zSeq (zSet 11 (zP [0] (e2 ixE (eV 2) (eC (.int 1))))) (zRet (zTup (zC (zP [0] (e2 ixE (eV 2) (eC (.int 0)))) (zC (z2 ixE (zP [0] (eLst (aC (eSl (eV 11) (some (eC (.int 1))) none) (aC (e1 revD (eV 11)) (aC (e2 addD (eV 11) (eSl (eV 11) none (some (eC (.int 1))))) (aC (e2 addD (eTup (aC (eC (.bool true)) (aN))) (eSl (eV 11) (some (eC (.int 1))) none)) (aC (e2 addD (eTup (aC (e1 negD (eC (.int 1))) (aN))) (eSl (eV 11) (some (eC (.int 1))) none)) (aC (e2 addD (eSl (eV 11) none (some (e1 negD (eC (.int 1))))) (eTup (aC (eV 4) (aN)))) (aN))))))))) (zCall 0 F55 (zC (zP [0] (eC (.int 6))) (zN)))) (zN)))))) (zNx)) (zSeq (zSet 7 (zP [0] (e2 ixE (eV 2) (eC (.int 1))))) (zSeq (zSet 8 (zCall 0 F55 (zC (zP [0] (eCall lenD (aC (eV 7) (aN)))) (zN)))) (zSeq (zSet 9 (zP [0] (e2 ixE (e2 ixE (eV 7) (eV 8)) (eC (.int 0))))) (zSeq (zSet 10 (zLst (zC (zP [0] (eTup (aC (eV 9) (aC (eV 6) (aN))))) (zC (zTup (zC (zCall 0 F55 (zC (zP [0] (eV 4)) (zN))) (zC (zP [0] (e2 ixE (e2 ixE (eV 7) (eV 8)) (eC (.int 1)))) (zN)))) (zC (zP [0] (eTup (aC (eC (.bool true)) (aC (eV 6) (aN))))) (zC (zP [0] (eTup (aC (eV 4) (aC (eV 6) (aN))))) (zC (zP [0] (eTup (aC (e1 negD (eC (.int 1))) (aC (eV 6) (aN))))) (zC (zP [0] (eTup (aC (eV 9) (aN)))) (zC (zP [0] (eLst (aC (eV 9) (aC (eV 6) (aN))))) (zC (zP [0] (eTup (aC (eV 9) (aC (eC .none) (aN))))) (zN))))))))))) (zSeq (zSet 10 (zP [0] (e2 addD (eV 10) (eLst (aC (eTup (aC (eV 9) (aC (eCall listD (aC (eV 6) (aN))) (aN)))) (aC (eTup (aC (eV 9) (aC (e2 addD (eV 6) (eTup (aC (eC (.int 0)) (aN)))) (aN)))) (aC (eTup (aC (eV 9) (aC (e2 repD (eTup (aC (eC (.int 8)) (aN))) (eCall lenD (aC (eV 6) (aN)))) (aN)))) (aC (eTup (aC (eV 9) (aC (e2 addD (eTup (aC (eC (.bool true)) (aN))) (eSl (eV 6) (some (eC (.int 1))) none)) (aN)))) (aN))))))))) (zSeq (zIf (zTP (tB1 (e2 ltD (eV 3) (eC (.int 6))))) (zRet (zTup (zC (zP [0] (e2 ixE (eV 2) (eC (.int 0)))) (zC (z2 addD (z2 addD (zP [0] (eSl (eV 7) none (some (eV 8)))) (zTup (zC (z2 ixE (zP [0] (eV 10)) (zCall 0 F55 (zC (zP [0] (eC (.int 12))) (zN)))) (zN)))) (zP [0] (eSl (eV 7) (some (e2 addD (eV 8) (eC (.int 1)))) none))) (zN))))) (zNx)) (zSeq (zIf (zTP (tB1 (e2 eqD (eV 3) (eC (.int 6))))) (zRet (zTup (zC (zP [0] (e2 ixE (eV 2) (eC (.int 0)))) (zC (z2 ixE (zP [0] (eLst (aC (e2 addD (eSl (eV 7) none (some (eV 8))) (eSl (eV 7) (some (e2 addD (eV 8) (eC (.int 1)))) none)) (aC (e1 revD (eV 7)) (aC (e2 addD (eV 7) (eSl (eV 7) (some (e1 negD (eC (.int 1)))) none)) (aC (e2 addD (e2 addD (eSl (eV 7) none (some (eV 8))) (eTup (aC (eTup (aC (eV 9) (aC (eV 6) (aN)))) (aN)))) (eSl (eV 7) (some (eV 8)) none)) (aN))))))) (zCall 0 F55 (zC (zP [0] (eC (.int 4))) (zN)))) (zN))))) (zNx)) (zRet (zP [0] (eV 2))))))))))))))))))
def F73 : PyData → List PyData → Option (PyData × PyData) := runZ 2 N73 g73
theorem sc73 : FnScope N73 ["_law_stream_here", "_law_listed", "_law_value"] (defScope s73) := ⟨rfl, rfl, rfl, by decide +kernel, rfl, by decide +kernel, by decide +kernel⟩
theorem ok73 (T : Tx K mg) : OkZ P w K mg base "_law_turned" 3 2 F73 := by
  have nd := sc73.nd
  obtain ⟨f, fd, F, hm⟩ := T.d73
  refine ⟨fun o ds d h => runZ_len h, f, fd, ["_law_stream_here", "_law_listed", "_law_value"], hm, F.kp, F.bindsN fun _ _ _ _ _ _ us hl => match us, hl with | [_, _, _], _ => rfl, rfl, fn_z F sc73 rfl (by decide) fun cdv A outer s H E hr => ?_⟩
  exact zss_cons (zs_set 3 (z_call (ok55 T) hr (by decide) (zs_cons (z_pure (d_int)) (zs_nil))) nd) (zss_cons (zs_set 4 (z_pure (d_callB c_len T.len bt_len (da_cons (d_ix (x_ix (rm20 hr)) (d_var 1) (d_int)) (da_nil)))) nd) (zss_cons (zs_set 5 (z_pure (d_call (ok60 T) hr (by decide) (da_cons (d_ix (x_ix (rm20 hr)) (d_var 1) (d_int)) (da_nil)))) nd) (zss_cons (zs_set 6 (z_ix (x_ix (rm20 hr)) (z_pure (d_var 5)) (z_call (ok55 T) hr (by decide) (zs_cons (z_pure (d_callB c_len T.len bt_len (da_cons (d_var 5) (da_nil)))) (zs_nil)))) nd) (zss_cons (zs_if (zt_pure (dt_cmp (o_eq (rm64 hr)) (d_var 3) (d_int))) (zss_one (zs_ret (z_ix (x_ix (rm20 hr)) (z_pure (d_lst (da_cons (d_non) (da_cons (d_callTy c_list T.list bt_list (da_cons (d_var 2) (da_nil))) (da_cons (d_slice (d_var 2) do_none (do_some (d_int))) (da_cons (d_op o_add (d_var 2) (d_tup (da_cons (d_int) (da_nil)))) (da_cons (d_tup (da_cons (d_non) (da_cons (d_ix (x_ix (rm20 hr)) (d_var 2) (d_int)) (da_nil)))) (da_cons (d_tup (da_cons (d_ix (x_ix (rm20 hr)) (d_var 2) (d_int)) (da_cons (d_non) (da_nil)))) (da_cons (d_tup (da_cons (d_ix (x_ix (rm20 hr)) (d_var 2) (d_int)) (da_cons (d_callTy c_list T.list bt_list (da_cons (d_ix (x_ix (rm20 hr)) (d_var 2) (d_int)) (da_nil))) (da_nil)))) (da_cons (d_tup (da_cons (d_str) (da_cons (d_ix (x_ix (rm20 hr)) (d_var 2) (d_int)) (da_nil)))) (da_nil))))))))))) (z_call (ok55 T) hr (by decide) (zs_cons (z_pure (d_int)) (zs_nil)))))) (zss_nil)) (zss_cons (zs_if (zt_pure (dt_cmp (o_eq (rm64 hr)) (d_var 3) (d_int))) (zss_one (zs_ret (z_tup (zs_cons (z_pure (d_str)) (zs_cons (z_call (ok63 T) hr (by decide) (zs_cons (z_pure (d_var 4)) (zs_nil))) (zs_nil)))))) (zss_nil)) (zss_cons (zs_if (zt_pure (dt_cmp (o_eq (rm64 hr)) (d_var 3) (d_int))) (zss_one (zs_ret (z_tup (zs_cons (z_pure (d_str)) (zs_cons (z_call (ok72 T) hr (by decide) (zs_cons (z_pure (d_var 1)) (zs_nil))) (zs_nil)))))) (zss_nil)) (zss_cons (zs_if (zt_pure (dt_cmp (o_eq (rm64 hr)) (d_var 3) (d_int))) (zss_one (zs_ret (z_pure (d_tup (da_cons (d_swap (rm1 hr) (d_ix (x_ix (rm20 hr)) (d_var 2) (d_int))) (da_cons (d_ix (x_ix (rm20 hr)) (d_var 2) (d_int)) (da_nil))))))) (zss_nil)) (zss_cons (zs_if (zt_pure ((dw_or (dt_cmp (o_eq (rm64 hr)) (d_ix (x_ix (rm20 hr)) (d_var 2) (d_int)) (d_str)) (dw_or1 (dt_not (dt_truth (d_ix (x_ix (rm20 hr)) (d_var 2) (d_int)))))).pt)) (zss_cons (zs_set 11 (z_pure (d_ix (x_ix (rm20 hr)) (d_var 2) (d_int))) nd) (zss_one (zs_ret (z_tup (zs_cons (z_pure (d_ix (x_ix (rm20 hr)) (d_var 2) (d_int))) (zs_cons (z_ix (x_ix (rm20 hr)) (z_pure (d_lst (da_cons (d_slice (d_var 11) (do_some (d_int)) do_none) (da_cons (d_rev (d_var 11)) (da_cons (d_op o_add (d_var 11) (d_slice (d_var 11) do_none (do_some (d_int)))) (da_cons (d_op o_add (d_tup (da_cons (d_bl) (da_nil))) (d_slice (d_var 11) (do_some (d_int)) do_none)) (da_cons (d_op o_add (d_tup (da_cons (d_neg (d_int)) (da_nil))) (d_slice (d_var 11) (do_some (d_int)) do_none)) (da_cons (d_op o_add (d_slice (d_var 11) do_none (do_some (d_neg (d_int)))) (d_tup (da_cons (d_var 4) (da_nil)))) (da_nil))))))))) (z_call (ok55 T) hr (by decide) (zs_cons (z_pure (d_int)) (zs_nil)))) (zs_nil))))))) (zss_nil)) (zss_cons (zs_set 7 (z_pure (d_ix (x_ix (rm20 hr)) (d_var 2) (d_int))) nd) (zss_cons (zs_set 8 (z_call (ok55 T) hr (by decide) (zs_cons (z_pure (d_callB c_len T.len bt_len (da_cons (d_var 7) (da_nil)))) (zs_nil))) nd) (zss_cons (zs_set 9 (z_pure (d_ix (x_ix (rm20 hr)) (d_ix (x_ix (rm20 hr)) (d_var 7) (d_var 8)) (d_int))) nd) (zss_cons (zs_set 10 (z_lst (zs_cons (z_pure (d_tup (da_cons (d_var 9) (da_cons (d_var 6) (da_nil))))) (zs_cons (z_tup (zs_cons (z_call (ok55 T) hr (by decide) (zs_cons (z_pure (d_var 4)) (zs_nil))) (zs_cons (z_pure (d_ix (x_ix (rm20 hr)) (d_ix (x_ix (rm20 hr)) (d_var 7) (d_var 8)) (d_int))) (zs_nil)))) (zs_cons (z_pure (d_tup (da_cons (d_bl) (da_cons (d_var 6) (da_nil))))) (zs_cons (z_pure (d_tup (da_cons (d_var 4) (da_cons (d_var 6) (da_nil))))) (zs_cons (z_pure (d_tup (da_cons (d_neg (d_int)) (da_cons (d_var 6) (da_nil))))) (zs_cons (z_pure (d_tup (da_cons (d_var 9) (da_nil)))) (zs_cons (z_pure (d_lst (da_cons (d_var 9) (da_cons (d_var 6) (da_nil))))) (zs_cons (z_pure (d_tup (da_cons (d_var 9) (da_cons (d_non) (da_nil))))) (zs_nil)))))))))) nd) (zss_cons (zs_set 10 (z_pure (d_op o_add (d_var 10) (d_lst (da_cons (d_tup (da_cons (d_var 9) (da_cons (d_callTy c_list T.list bt_list (da_cons (d_var 6) (da_nil))) (da_nil)))) (da_cons (d_tup (da_cons (d_var 9) (da_cons (d_op o_add (d_var 6) (d_tup (da_cons (d_int) (da_nil)))) (da_nil)))) (da_cons (d_tup (da_cons (d_var 9) (da_cons (d_op o_rep (d_tup (da_cons (d_int) (da_nil))) (d_callB c_len T.len bt_len (da_cons (d_var 6) (da_nil)))) (da_nil)))) (da_cons (d_tup (da_cons (d_var 9) (da_cons (d_op o_add (d_tup (da_cons (d_bl) (da_nil))) (d_slice (d_var 6) (do_some (d_int)) do_none)) (da_nil)))) (da_nil)))))))) nd) (zss_cons (zs_if (zt_pure (dt_cmp (o_lt (rm0 hr)) (d_var 3) (d_int))) (zss_one (zs_ret (z_tup (zs_cons (z_pure (d_ix (x_ix (rm20 hr)) (d_var 2) (d_int))) (zs_cons (z_op o_add (z_op o_add (z_pure (d_slice (d_var 7) do_none (do_some (d_var 8)))) (z_tup (zs_cons (z_ix (x_ix (rm20 hr)) (z_pure (d_var 10)) (z_call (ok55 T) hr (by decide) (zs_cons (z_pure (d_int)) (zs_nil)))) (zs_nil)))) (z_pure (d_slice (d_var 7) (do_some (d_op o_add (d_var 8) (d_int))) do_none))) (zs_nil)))))) (zss_nil)) (zss_cons (zs_if (zt_pure (dt_cmp (o_eq (rm64 hr)) (d_var 3) (d_int))) (zss_one (zs_ret (z_tup (zs_cons (z_pure (d_ix (x_ix (rm20 hr)) (d_var 2) (d_int))) (zs_cons (z_ix (x_ix (rm20 hr)) (z_pure (d_lst (da_cons (d_op o_add (d_slice (d_var 7) do_none (do_some (d_var 8))) (d_slice (d_var 7) (do_some (d_op o_add (d_var 8) (d_int))) do_none)) (da_cons (d_rev (d_var 7)) (da_cons (d_op o_add (d_var 7) (d_slice (d_var 7) (do_some (d_neg (d_int))) do_none)) (da_cons (d_op o_add (d_op o_add (d_slice (d_var 7) do_none (do_some (d_var 8))) (d_tup (da_cons (d_tup (da_cons (d_var 9) (da_cons (d_var 6) (da_nil)))) (da_nil)))) (d_slice (d_var 7) (do_some (d_var 8)) do_none)) (da_nil))))))) (z_call (ok55 T) hr (by decide) (zs_cons (z_pure (d_int)) (zs_nil)))) (zs_nil)))))) (zss_nil)) (zss_one (zs_ret (z_pure (d_var 2)))))))))))))))))))
/-! ### 74: law -/
abbrev N74 : List Str := ["_law_script", "_law_stream_here", "_law_listed", "_law_wanted_here", "_law_pairs", "_law_kinds_here", "_law_rights", "_law_many", "_law_first", "_law_second", "_law_always", "_law_turn", "_law_values", "_law_at", "_law_value", "_law_due", "_law_word", "_law_told", "_law_row", "_law_case", "_law_action"]
def gT74 : ZG := zSeq (zSet 2 (zCall 1 F58 (zC (zCall 1 F59 (zN)) (zC (zP [1] (eC (.int 2))) (zC (zP [1] (eC (.int 4))) (zN)))))) (zSeq (zSet 3 (zCall 1 F64 (zC (zP [1] (eV 2)) (zN)))) (zSeq (zSet 4 (zP [1] (eCall F65 (aC (eV 2) (aC (eV 3) (aN)))))) (zSeq (zSet 5 (zP [1] (eCall F66 (aC (eV 2) (aC (eV 4) (aN)))))) (zSeq (zSet 6 (zP [1] (eCall F69 (aC (eV 2) (aC (eV 5) (aN)))))) (zSeq (zIf (zTP (tN (tTr (eV 6)))) (zRet (zP [1] (eC (.bool true)))) (zNx)) (zSeq (zSet 7 (zP [1] (eCall lenD (aC (e2 ixE (eV 2) (eC (.int 1))) (aN))))) (zSeq (zSet 8 (zCall 1 F55 (zC (zP [1] (eV 7)) (zN)))) (zSeq (zSet 9 (z2 modD (z2 addD (zP [1] (e2 addD (eV 8) (eC (.int 1)))) (zCall 1 F55 (zC (zP [1] (e2 subD (eV 7) (eC (.int 1)))) (zN)))) (zP [1] (eV 7)))) (zSeq (zSet 10 (zP [1] (eCall allD (aC (eLc [18] (iS (eV 6)) m1 [18] (tTrue) (e2 ltD (eM indexD (eV 18) (aC (eV 8) aN)) (eM indexD (eV 18) (aC (eV 9) aN)))) (aN))))) (zSeq (zFor (zIP [1] (iR (eC (.int 6)))) m1 [11] (zSeq (zSet 14 (zP [1] (eCall F49 (aC (eV 2) (aC (eV 3) (aC (eV 8) (aC (eV 9) (aN)))))))) (zSeq (zIf (zT2 eqD (zCall 1 F55 (zC (zP [1] (eC (.int 4))) (zN))) (zP [1] (eC (.int 0)))) (zSet 14 (zP [1] (eCall F49 (aC (eV 2) (aC (eV 3) (aC (eV 9) (aC (eV 8) (aN)))))))) (zNx)) (zSeq (zIf (zT2 gtD (zCall 1 F55 (zC (zP [1] (eC (.int 6))) (zN))) (zP [1] (eC (.int 0)))) (zSet 14 (zCall 1 F73 (zC (zP [1] (eV 2)) (zC (zP [1] (eV 14)) (zN))))) (zNx)) (zSeq (zSet 15 (zP [1] (eCall F71 (aC (eV 2) (aC (eV 4) (aC (eV 5) (aC (eV 8) (aC (eV 9) (aC (eV 14) (aN)))))))))) (zIf (zTP (tO (tN (tTr (eCall F57 (aC (eCall F52 (aC (eV 2) (aC (eV 3) (aC (eV 8) (aC (eV 9) (aC (eV 14) (aN))))))) (aC (eV 15) (aN)))))) (tA (tTr (eV 15)) (tB1 (e2 neD (e2 eqD (e2 ixE (eV 14) (eC (.int 0))) (eC (.str "always"))) (eV 10)))))) (zRet (zP [1] (eC (.bool false)))) (zNx))))))) (zSeq (zPut [16, 17] (mT 2) (zP [1] (eCall F49 (aC (eV 2) (aC (eV 3) (aC (eV 8) (aC (eV 9) (aN)))))))) (zSeq (zIf (zTP (tB1 (e2 neD (eV 16) (eC (.str "always"))))) (zRet (zP [1] (eC (.bool true)))) (zNx)) (zSeq (zSet 12 (zP [1] (eLc [13] (iR (eCall lenD (aC (eV 17) (aN)))) m1 [13] (tTrue) (e2 addD (eSl (eV 17) none (some (eV 13))) (eSl (eV 17) (some (e2 addD (eV 13) (eC (.int 1)))) none))))) (zSeq (zFor (zIP [1] (iR (eCall lenD (aC (eV 17) (aN))))) m1 [13] (zSet 12 (zP [1] (e2 addD (eV 12) (eLc [19, 20] (iS (eSl (eV 4) none (some (eC (.int 12))))) (mT 2) [19, 20] (tTrue) (e2 addD (e2 addD (eSl (eV 17) none (some (eV 13))) (eTup (aC (eTup (aC (e2 ixE (e2 ixE (eV 17) (eV 13)) (eC (.int 0))) (aC (eV 19) (aN)))) (aN)))) (eSl (eV 17) (some (e2 addD (eV 13) (eC (.int 1)))) none))))))) (zSeq (zFor (zIP [1] (iS (eV 12))) m1 [14] (zSeq (zSet 15 (zP [1] (eCall F71 (aC (eV 2) (aC (eV 4) (aC (eV 5) (aC (eV 8) (aC (eV 9) (aC (eTup (aC (eV 16) (aC (eV 14) (aN)))) (aN)))))))))) (zIf (zTP (tB1 (e2 neD (eCall F52 (aC (eV 2) (aC (eV 3) (aC (eV 8) (aC (eV 9) (aC (eTup (aC (eV 16) (aC (eV 14) (aN)))) (aN))))))) (eV 15)))) (zRet (zP [1] (eC (.bool false)))) (zNx)))) (zRet (zP [1] (eC (.bool true)))))))))))))))))))
theorem sc74 : FnScope N74 ["_law_script"] (defScope s74) := ⟨rfl, rfl, rfl, by decide +kernel, rfl, by decide +kernel, by decide +kernel⟩
theorem okT {f : Addr} (T : Tx K mg) (cdv : Value) (A : Around) (outer : List Env) (s : Shared) (H : Hp) (E : XK) (hr : Room 9 (A.deeper (envOfC "law" (defScope s74) s.heap.objs.size f cdv))) : PZSs (cxOf CX0 P w K mg base N74 "law" (defScope s74) f cdv A outer s H E).nox 0 [1] (defBody s74).tail gT74 := by
  have nd := sc74.nd
  exact zss_cons (zs_set 2 (z_call (ok58 T) hr (by decide) (zs_cons (z_call (ok59 T) hr (by decide) (zs_nil)) (zs_cons (z_pure (d_int)) (zs_cons (z_pure (d_int)) (zs_nil))))) nd) (zss_cons (zs_set 3 (z_call (ok64 T) hr (by decide) (zs_cons (z_pure (d_var 2)) (zs_nil))) nd) (zss_cons (zs_set 4 (z_pure (d_call (ok65 T) hr (by decide) (da_cons (d_var 2) (da_cons (d_var 3) (da_nil))))) nd) (zss_cons (zs_set 5 (z_pure (d_call (ok66 T) hr (by decide) (da_cons (d_var 2) (da_cons (d_var 4) (da_nil))))) nd) (zss_cons (zs_set 6 (z_pure (d_call (ok69 T) hr (by decide) (da_cons (d_var 2) (da_cons (d_var 5) (da_nil))))) nd) (zss_cons (zs_if (zt_pure (dt_not (dt_truth (d_var 6)))) (zss_one (zs_ret (z_pure (d_bl)))) (zss_nil)) (zss_cons (zs_set 7 (z_pure (d_callB c_len T.len bt_len (da_cons (d_ix (x_ix (rm20 hr)) (d_var 2) (d_int)) (da_nil)))) nd) (zss_cons (zs_set 8 (z_call (ok55 T) hr (by decide) (zs_cons (z_pure (d_var 7)) (zs_nil))) nd) (zss_cons (zs_set 9 (z_op o_mod (z_op o_add (z_pure (d_op o_add (d_var 8) (d_int))) (z_call (ok55 T) hr (by decide) (zs_cons (z_pure (d_op o_sub (d_var 7) (d_int))) (zs_nil)))) (z_pure (d_var 7))) nd) (zss_cons (zs_set 10 (z_pure (d_callB (c_all rfl) T.all bt_all (da_cons (d_lc rfl nd (blkOk_by (N := N74) (sc := defScope s74) (own := [("_law_row", 18)]) (by decide +kernel)) (i_seq (d_var 6)) (tg_name 18) (by decide) (fun _ _ _ _ _ => (pg_name (i := 18) nd rfl (Or.inl rfl))) (fun _ _ _ _ _ => dts_nil) (fun _ _ _ _ _ => d_cmp (o_lt (rm0 hr)) (d_tidx (d_var 18) (d_var 8)) (d_tidx (d_var 18) (d_var 9)))) (da_nil)))) nd) (zss_cons (zs_for PassesOwn.never rfl (zi_pure (i_range T.range (d_int))) (tg_name 11) (pg_name (i := 11) nd rfl (Or.inl rfl)) (zss_cons (zs_set 14 (z_pure (d_call (ok49 T) hr (by decide) (da_cons (d_var 2) (da_cons (d_var 3) (da_cons (d_var 8) (da_cons (d_var 9) (da_nil))))))) nd) (zss_cons (zs_if (zt_cmp (o_eq (rm64 hr)) (z_call (ok55 T) hr (by decide) (zs_cons (z_pure (d_int)) (zs_nil))) (z_pure (d_int))) (zss_one (zs_set 14 (z_pure (d_call (ok49 T) hr (by decide) (da_cons (d_var 2) (da_cons (d_var 3) (da_cons (d_var 9) (da_cons (d_var 8) (da_nil))))))) nd)) (zss_nil)) (zss_cons (zs_if (zt_cmp o_gt (z_call (ok55 T) hr (by decide) (zs_cons (z_pure (d_int)) (zs_nil))) (z_pure (d_int))) (zss_one (zs_set 14 (z_call (ok73 T) hr (by decide) (zs_cons (z_pure (d_var 2)) (zs_cons (z_pure (d_var 14)) (zs_nil)))) nd)) (zss_nil)) (zss_cons (zs_set 15 (z_pure (d_call (ok71 T) hr (by decide) (da_cons (d_var 2) (da_cons (d_var 4) (da_cons (d_var 5) (da_cons (d_var 8) (da_cons (d_var 9) (da_cons (d_var 14) (da_nil))))))))) nd) (zss_one (zs_if (zt_pure ((dw_or (dt_not (dt_truth (d_call (ok57 T) hr (by decide) (da_cons (d_call (ok52 T) hr (by decide) (da_cons (d_var 2) (da_cons (d_var 3) (da_cons (d_var 8) (da_cons (d_var 9) (da_cons (d_var 14) (da_nil))))))) (da_cons (d_var 15) (da_nil)))))) (dw_or1 ((dw_and (dt_truth (d_var 15)) (dw_and1 (dt_cmp (o_ne (rm64 hr)) (d_cmp (o_eq (rm64 hr)) (d_ix (x_ix (rm20 hr)) (d_var 14) (d_int)) (d_str)) (d_var 10)))).pt))).pt)) (zss_one (zs_ret (z_pure (d_bl)))) (zss_nil)))))))) (zss_cons (zs_put (z_pure (d_call (ok49 T) hr (by decide) (da_cons (d_var 2) (da_cons (d_var 3) (da_cons (d_var 8) (da_cons (d_var 9) (da_nil))))))) (tg_tup [16, 17] rfl) (pg_tup rfl (pgs_cons (pg_name (i := 16) nd rfl (Or.inl rfl)) (pgs_cons (pg_name (i := 17) nd rfl (Or.inr rfl)) pgs_nil)))) (zss_cons (zs_if (zt_pure (dt_cmp (o_ne (rm64 hr)) (d_var 16) (d_str))) (zss_one (zs_ret (z_pure (d_bl)))) (zss_nil)) (zss_cons (zs_setLc 12 rfl nd (blkOk_by (N := N74) (sc := defScope s74) (own := [("_law_at", 13)]) (by decide +kernel)) (i_range T.range (d_callB c_len T.len bt_len (da_cons (d_var 17) (da_nil)))) (tg_name 13) (by decide) (fun _ _ _ _ _ => (pg_name (i := 13) nd rfl (Or.inl rfl))) (fun _ _ _ _ _ => dts_nil) (fun _ _ _ _ _ => d_op o_add (d_slice (d_var 17) do_none (do_some (d_var 13))) (d_slice (d_var 17) (do_some (d_op o_add (d_var 13) (d_int))) do_none)) (sw_true rfl rfl rfl (by decide +kernel))) (zss_cons (zs_for PassesOwn.never rfl (zi_pure (i_range T.range (d_callB c_len T.len bt_len (da_cons (d_var 17) (da_nil))))) (tg_name 13) (pg_name (i := 13) nd rfl (Or.inr rfl)) (zss_one (zs_set 12 (z_pure (d_op o_add (d_var 12) (d_lc rfl nd (blkOk_by (N := N74) (sc := defScope s74) (own := [("_law_case", 19), ("_law_action", 20)]) (by decide +kernel)) (i_seq (d_slice (d_var 4) do_none (do_some (d_int)))) (tg_tup [19, 20] rfl) (by decide) (fun _ _ _ _ _ => (pg_tup rfl (pgs_cons (pg_name (i := 19) nd rfl (Or.inl rfl)) (pgs_cons (pg_name (i := 20) nd rfl (Or.inl rfl)) pgs_nil)))) (fun _ _ _ _ _ => dts_nil) (fun _ _ _ _ _ => d_op o_add (d_op o_add (d_slice (d_var 17) do_none (do_some (d_var 13))) (d_tup (da_cons (d_tup (da_cons (d_ix (x_ix (rm20 hr)) (d_ix (x_ix (rm20 hr)) (d_var 17) (d_var 13)) (d_int)) (da_cons (d_var 19) (da_nil)))) (da_nil)))) (d_slice (d_var 17) (do_some (d_op o_add (d_var 13) (d_int))) do_none))))) nd))) (zss_cons (zs_for PassesOwn.never rfl (zi_pure (i_seq (d_var 12))) (tg_name 14) (pg_name (i := 14) nd rfl (Or.inl rfl)) (zss_cons (zs_set 15 (z_pure (d_call (ok71 T) hr (by decide) (da_cons (d_var 2) (da_cons (d_var 4) (da_cons (d_var 5) (da_cons (d_var 8) (da_cons (d_var 9) (da_cons (d_tup (da_cons (d_var 16) (da_cons (d_var 14) (da_nil)))) (da_nil))))))))) nd) (zss_one (zs_if (zt_pure (dt_cmp (o_ne (rm64 hr)) (d_call (ok52 T) hr (by decide) (da_cons (d_var 2) (da_cons (d_var 3) (da_cons (d_var 8) (da_cons (d_var 9) (da_cons (d_tup (da_cons (d_var 16) (da_cons (d_var 14) (da_nil)))) (da_nil))))))) (d_var 15))) (zss_one (zs_ret (z_pure (d_bl)))) (zss_nil))))) (zss_one (zs_ret (z_pure (d_bl)))))))))))))))))))
abbrev lawK : Nat := 10
end
end G8

/-! M1: rules to reckon the denotations. -/
namespace G8
open L2 PyProof.Rows PySem.Spec PySem

/-! ### what a value is -/
theorem k_NoneType_int : kitB "NoneType" "int" = some false := by decide +kernel
theorem k_NoneType_bool : kitB "NoneType" "bool" = some false := by decide +kernel
theorem k_NoneType_tuple : kitB "NoneType" "tuple" = some false := by decide +kernel
theorem k_NoneType_str : kitB "NoneType" "str" = some false := by decide +kernel
theorem k_NoneType_list : kitB "NoneType" "list" = some false := by decide +kernel
theorem k_bool_int : kitB "bool" "int" = some true := by decide +kernel
theorem k_bool_bool : kitB "bool" "bool" = some true := by decide +kernel
theorem k_bool_tuple : kitB "bool" "tuple" = some false := by decide +kernel
theorem k_bool_str : kitB "bool" "str" = some false := by decide +kernel
theorem k_bool_list : kitB "bool" "list" = some false := by decide +kernel
theorem k_int_int : kitB "int" "int" = some true := by decide +kernel
theorem k_int_bool : kitB "int" "bool" = some false := by decide +kernel
theorem k_int_tuple : kitB "int" "tuple" = some false := by decide +kernel
theorem k_int_str : kitB "int" "str" = some false := by decide +kernel
theorem k_int_list : kitB "int" "list" = some false := by decide +kernel
theorem k_str_int : kitB "str" "int" = some false := by decide +kernel
theorem k_str_bool : kitB "str" "bool" = some false := by decide +kernel
theorem k_str_tuple : kitB "str" "tuple" = some false := by decide +kernel
theorem k_str_str : kitB "str" "str" = some true := by decide +kernel
theorem k_str_list : kitB "str" "list" = some false := by decide +kernel
theorem k_list_int : kitB "list" "int" = some false := by decide +kernel
theorem k_list_bool : kitB "list" "bool" = some false := by decide +kernel
theorem k_list_tuple : kitB "list" "tuple" = some false := by decide +kernel
theorem k_list_str : kitB "list" "str" = some false := by decide +kernel
theorem k_list_list : kitB "list" "list" = some true := by decide +kernel
theorem k_tuple_int : kitB "tuple" "int" = some false := by decide +kernel
theorem k_tuple_bool : kitB "tuple" "bool" = some false := by decide +kernel
theorem k_tuple_tuple : kitB "tuple" "tuple" = some true := by decide +kernel
theorem k_tuple_str : kitB "tuple" "str" = some false := by decide +kernel
theorem k_tuple_list : kitB "tuple" "list" = some false := by decide +kernel
def isI : PyData → Bool
  | .int _ => true
  | .bool _ => true
  | _ => false
def isBo : PyData → Bool
  | .bool _ => true
  | _ => false
def isT : PyData → Bool
  | .tuple _ => true
  | _ => false
def isSt : PyData → Bool
  | .str _ => true
  | _ => false
def noDict : PyData → Bool
  | .dict _ => false
  | _ => true
theorem isi_int {d : PyData} (h : noDict d = true) : isiD "int" d = some (.bool (isI d)) := by
  cases d with
  | dict _ => cases h
  | _ => simp only [isiD, tyN, isI, isBo, isT, isSt, Option.bind_some, k_NoneType_int, k_NoneType_bool, k_NoneType_tuple, k_NoneType_str, k_NoneType_list, k_bool_int, k_bool_bool, k_bool_tuple, k_bool_str, k_bool_list, k_int_int, k_int_bool, k_int_tuple, k_int_str, k_int_list, k_str_int, k_str_bool, k_str_tuple, k_str_str, k_str_list, k_list_int, k_list_bool, k_list_tuple, k_list_str, k_list_list, k_tuple_int, k_tuple_bool, k_tuple_tuple, k_tuple_str, k_tuple_list]
theorem isi_bool {d : PyData} (h : noDict d = true) : isiD "bool" d = some (.bool (isBo d)) := by
  cases d with
  | dict _ => cases h
  | _ => simp only [isiD, tyN, isI, isBo, isT, isSt, Option.bind_some, k_NoneType_int, k_NoneType_bool, k_NoneType_tuple, k_NoneType_str, k_NoneType_list, k_bool_int, k_bool_bool, k_bool_tuple, k_bool_str, k_bool_list, k_int_int, k_int_bool, k_int_tuple, k_int_str, k_int_list, k_str_int, k_str_bool, k_str_tuple, k_str_str, k_str_list, k_list_int, k_list_bool, k_list_tuple, k_list_str, k_list_list, k_tuple_int, k_tuple_bool, k_tuple_tuple, k_tuple_str, k_tuple_list]
theorem isi_tuple {d : PyData} (h : noDict d = true) : isiD "tuple" d = some (.bool (isT d)) := by
  cases d with
  | dict _ => cases h
  | _ => simp only [isiD, tyN, isI, isBo, isT, isSt, Option.bind_some, k_NoneType_int, k_NoneType_bool, k_NoneType_tuple, k_NoneType_str, k_NoneType_list, k_bool_int, k_bool_bool, k_bool_tuple, k_bool_str, k_bool_list, k_int_int, k_int_bool, k_int_tuple, k_int_str, k_int_list, k_str_int, k_str_bool, k_str_tuple, k_str_str, k_str_list, k_list_int, k_list_bool, k_list_tuple, k_list_str, k_list_list, k_tuple_int, k_tuple_bool, k_tuple_tuple, k_tuple_str, k_tuple_list]
theorem isi_str {d : PyData} (h : noDict d = true) : isiD "str" d = some (.bool (isSt d)) := by
  cases d with
  | dict _ => cases h
  | _ => simp only [isiD, tyN, isI, isBo, isT, isSt, Option.bind_some, k_NoneType_int, k_NoneType_bool, k_NoneType_tuple, k_NoneType_str, k_NoneType_list, k_bool_int, k_bool_bool, k_bool_tuple, k_bool_str, k_bool_list, k_int_int, k_int_bool, k_int_tuple, k_int_str, k_int_list, k_str_int, k_str_bool, k_str_tuple, k_str_str, k_str_list, k_list_int, k_list_bool, k_list_tuple, k_list_str, k_list_list, k_tuple_int, k_tuple_bool, k_tuple_tuple, k_tuple_str, k_tuple_list]
theorem isi_tup (l : List PyData) : isiD "tuple" (.tuple l) = some (.bool true) := by simp only [isiD, tyN, Option.bind_some, k_NoneType_int, k_NoneType_bool, k_NoneType_tuple, k_NoneType_str, k_NoneType_list, k_bool_int, k_bool_bool, k_bool_tuple, k_bool_str, k_bool_list, k_int_int, k_int_bool, k_int_tuple, k_int_str, k_int_list, k_str_int, k_str_bool, k_str_tuple, k_str_str, k_str_list, k_list_int, k_list_bool, k_list_tuple, k_list_str, k_list_list, k_tuple_int, k_tuple_bool, k_tuple_tuple, k_tuple_str, k_tuple_list]
theorem isi_strs (l : Str) : isiD "str" (.str l) = some (.bool true) := by simp only [isiD, tyN, Option.bind_some, k_NoneType_int, k_NoneType_bool, k_NoneType_tuple, k_NoneType_str, k_NoneType_list, k_bool_int, k_bool_bool, k_bool_tuple, k_bool_str, k_bool_list, k_int_int, k_int_bool, k_int_tuple, k_int_str, k_int_list, k_str_int, k_str_bool, k_str_tuple, k_str_str, k_str_list, k_list_int, k_list_bool, k_list_tuple, k_list_str, k_list_list, k_tuple_int, k_tuple_bool, k_tuple_tuple, k_tuple_str, k_tuple_list]

/-! ### equality of data -/
theorem shp_int (i : Int) : SeqAt.shaped (.int i) = true := by simp [SeqAt.shaped, PyData.canLay0, PyData.depth]
theorem shp_bool (i : Bool) : SeqAt.shaped (.bool i) = true := by simp [SeqAt.shaped, PyData.canLay0, PyData.depth]
theorem shp_none : SeqAt.shaped .none = true := by simp [SeqAt.shaped, PyData.canLay0, PyData.depth]
theorem eqD_int (i j : Int) : eqD (.int i) (.int j) = some (.bool (decide (i = j))) := by
  simp only [eqD, shp_int, Bool.and_self, gd, if_true, PyData.eqv]
  rfl
theorem neD_int (i j : Int) : neD (.int i) (.int j) = some (.bool (!decide (i = j))) := by
  simp only [neD, shp_int, Bool.and_self, gd, if_true, PyData.eqv]
  rfl
theorem addD_int (i j : Int) : addD (.int i) (.int j) = some (.int (i + j)) := rfl
theorem ltD_int (i j : Int) : ltD (.int i) (.int j) = some (.bool (decide (i < j))) := rfl
theorem gd_lim {n : Nat} (h : n ≤ LIM) (d : PyData) : gd (decide (n ≤ LIM)) d = some d := by
  simp only [gd, decide_eq_true h, if_true]

/-! ### int tuples -/
abbrev dIs (l : List Int) : List PyData := l.map PyData.int
abbrev dI (l : List Int) : PyData := .tuple (dIs l)
theorem lay_ints : ∀ l : List Int, PyData.canLayAll0 (dIs l) = true
  | [] => by simp [PyData.canLayAll0]
  | i :: l => by simp only [List.map_cons, PyData.canLayAll0, PyData.canLay0, Bool.true_and]; exact lay_ints l

theorem ints_inj {a b : List Int} (h : dIs a = dIs b) : a = b := by
  have := congrArg intsD h
  rw [intsD_map, intsD_map] at this
  exact Option.some.inj this
theorem eqv_ints : ∀ a b : List Int, PyData.eqvAll (dIs a) (dIs b) = decide (a = b)
  | [], [] => by simp [PyData.eqvAll]
  | [], _ :: _ => by simp [PyData.eqvAll]
  | _ :: _, [] => by simp [PyData.eqvAll]
  | i :: a, j :: b => by
    simp only [List.map_cons, PyData.eqvAll, PyData.eqv, eqv_ints a b, List.cons.injEq, Bool.decide_and]
    rfl
theorem depth_ints : ∀ l : List Int, PyData.depthAll (dIs l) = 0
  | [] => by simp [PyData.depthAll]
  | i :: l => by simp only [List.map_cons, PyData.depthAll, PyData.depth, depth_ints l]; rfl
theorem shp_L (l : List Int) : SeqAt.shaped (.list (dIs l)) = true := by simp [SeqAt.shaped, PyData.canLay0, PyData.depth, lay_ints, depth_ints]
theorem shp_T (l : List Int) : SeqAt.shaped (dI l) = true := by simp [SeqAt.shaped, PyData.canLay0, PyData.depth, lay_ints, depth_ints]
theorem eqD_L (a b : List Int) : eqD (.list (dIs a)) (.list (dIs b)) = some (.bool (decide (a = b))) := by
  simp only [eqD, shp_L, Bool.and_self, gd, if_true, PyData.eqv, eqv_ints]
theorem neD_L (a b : List Int) : neD (.list (dIs a)) (.list (dIs b)) = some (.bool (!decide (a = b))) := by
  simp only [neD, shp_L, Bool.and_self, gd, if_true, PyData.eqv, eqv_ints]
theorem eqD_T (a b : List Int) : eqD (dI a) (dI b) = some (.bool (decide (a = b))) := by
  simp only [eqD, shp_T, Bool.and_self, gd, if_true, PyData.eqv, eqv_ints]
theorem memD_L (i : Int) (l : List Int) : memD (.int i) (.list (dIs l)) = some (decide (i ∈ l)) := by
  simp only [memD, shp_int, shp_L, Bool.and_self, if_true]
  congr 1
  induction l with
  | nil => simp
  | cons j l ih =>
    simp only [List.map_cons, List.any_cons, ih, PyData.eqv, List.mem_cons, Bool.decide_or]
    congr 1
    by_cases h : i = j
    · subst h; simp
    · rw [decide_eq_false h]; simp; exact fun z => h z.symm
theorem memD_T (i : Int) (l : List Int) : memD (.int i) (dI l) = some (decide (i ∈ l)) := by
  simp only [memD, intsD_map, Option.bind_some]
  congr 1
  induction l with
  | nil => simp
  | cons j l ih =>
    simp only [List.any_cons, ih, List.mem_cons, Bool.decide_or]
    congr 1
    by_cases h : i = j
    · subst h; simp
    · rw [decide_eq_false h]; simp; exact fun z => h z.symm

/-! ### lists and ranges -/
def rng (n : Nat) : List Int := (List.range n).map fun (i : Nat) => (i : Int)
theorem rgD_eq (n : Nat) : rgD 0 n = dIs (rng n) := by simp [rgD, rng]
theorem upTo_eq (n : Nat) : upTo (n : Int) = dIs (rng n) := by simp [upTo, rng]
theorem mem_rng {n : Nat} {i : Int} : i ∈ rng n ↔ 0 ≤ i ∧ i < n := by
  simp only [rng, List.mem_map, List.mem_range]
  constructor
  · rintro ⟨a, h, rfl⟩
    omega
  · rintro ⟨h1, h2⟩
    exact ⟨i.toNat, by omega, by omega⟩
theorem atI_eq {α : Type} {xs : List α} {i : Int} (h : 0 ≤ i) : atI xs i = xs[i.toNat]? := by
  unfold atI ixN
  rw [if_pos h]
  by_cases q : i < xs.length
  · rw [if_pos q]; rfl
  · rw [if_neg q, List.getElem?_eq_none (by omega)]; rfl
theorem ixE_T {xs : List PyData} {i : Int} (h : 0 ≤ i) : ixE (.tuple xs) (.int i) = xs[i.toNat]? := atI_eq h
theorem ixE_L {xs : List PyData} {i : Int} (h : 0 ≤ i) : ixE (.list xs) (.int i) = xs[i.toNat]? := atI_eq h
theorem ixE_0 (xs : List PyData) : ixE (.tuple xs) (.int 0) = xs[0]? := ixE_T (by decide)
theorem ixE_1 (xs : List PyData) : ixE (.tuple xs) (.int 1) = xs[1]? := ixE_T (by decide)
theorem ixE_2 (xs : List PyData) : ixE (.tuple xs) (.int 2) = xs[2]? := ixE_T (by decide)
theorem ixE_n (xs : List PyData) (n : Nat) : ixE (.tuple xs) (.int (n : Int)) = xs[n]? := by rw [ixE_T (by omega)]; rfl
theorem ixE_m (xs : List PyData) (n : Nat) : ixE (.list xs) (.int (n : Int)) = xs[n]? := by rw [ixE_L (by omega)]; rfl

/-! ### comprehensions -/
section
variable {α : Type} {own is : List Nat} {it : DE → Option (List PyData)} {m : PyData → Option (List PyData)} {t : DE → Option Bool} {f : DE → Option PyData} {Γ : DE}
theorem compL_map (enc : α → PyData) (p : α → Bool) (q : α → PyData) : ∀ (xs : List α), (∀ x ∈ xs, ∃ es, m (enc x) = some es ∧ t (setAllD Γ is es) = some (p x) ∧ (p x = true → f (setAllD Γ is es) = some (q x))) → compL m is t f Γ (xs.map enc) = some ((xs.filter p).map q)
  | [], _ => rfl
  | x :: xs, h => by
    obtain ⟨es, h1, h2, h3⟩ := h x List.mem_cons_self
    simp only [List.map_cons, compL, h1, h2, Option.bind_some, compL_map enc p q xs fun y hy => h y (List.mem_cons_of_mem _ hy)]
    cases e : p x with
    | true => simp only [h3 e, Option.bind_some, if_true, List.filter_cons, e, List.map_cons]
    | false => simp [List.filter_cons, e]
theorem eLc_map {xs : List α} {enc : α → PyData} {p : α → Bool} {q : α → PyData} (hi : it Γ = some (xs.map enc)) (h : ∀ x ∈ xs, ∃ es, m (enc x) = some es ∧ t (setAllD (wipeD Γ own) is es) = some (p x) ∧ (p x = true → f (setAllD (wipeD Γ own) is es) = some (q x))) :
    eLc own it m is t f Γ = some (.list ((xs.filter p).map q)) := by
  unfold eLc
  rw [hi, Option.bind_some, compL_map enc p q xs h, Option.bind_some]
/-- with no test -/
theorem eLc_all {xs : List α} {enc : α → PyData} {q : α → PyData} (hi : it Γ = some (xs.map enc)) (h : ∀ x ∈ xs, ∃ es, m (enc x) = some es ∧ f (setAllD (wipeD Γ own) is es) = some (q x)) :
    eLc own it m is tTrue f Γ = some (.list (xs.map q)) := by
  have := eLc_map (own := own) (t := tTrue) (is := is) (m := m) (f := f) (p := fun _ => true) (q := q) hi fun x hx => by
    obtain ⟨es, h1, h2⟩ := h x hx
    exact ⟨es, h1, rfl, fun _ => h2⟩
  rw [this, List.filter_eq_self.mpr fun _ _ => rfl]
end
theorem boolsD_of {α : Type} (q : α → Bool) : ∀ xs : List α, boolsD (xs.map fun x => .bool (q x)) = some (xs.map q)
  | [] => rfl
  | x :: xs => by simp only [List.map_cons, boolsD, boolsD_of q xs, Option.bind_some]
theorem allD_of {α : Type} (q : α → Bool) (xs : List α) : allD [.list (xs.map fun x => .bool (q x))] = some (.bool (xs.all q)) := by
  simp only [allD, boolsD_of, Option.bind_some, List.all_map]
  rfl
theorem anyD_of {α : Type} (q : α → Bool) (xs : List α) : anyD [.list (xs.map fun x => .bool (q x))] = some (.bool (xs.any q)) := by
  simp only [anyD, boolsD_of, Option.bind_some, List.any_map]
  rfl

/-! ### walks -/
/-- a walk that may end early -/
def fl {α S R : Type} (step : S → α → S ⊕ R) : S → List α → S ⊕ R
  | s, [] => .inl s
  | s, x :: xs => match step s x with
    | .inl s' => fl step s' xs
    | .inr r => .inr r
theorem loopL_fl {α S : Type} {m : PyData → Option (List PyData)} {is : List Nat} {b : DE → Option Out} (I : S → DE → Prop) (enc : α → PyData) (step : S → α → S ⊕ PyData) : ∀ (xs : List α) (s : S) (Γ : DE), I s Γ →
    (∀ s Γ x, x ∈ xs → I s Γ → ∃ es, m (enc x) = some es ∧ (∀ s', step s x = .inl s' → ∃ Γ', b (setAllD Γ is es) = some (.nx Γ') ∧ I s' Γ') ∧ ∀ r, step s x = .inr r → b (setAllD Γ is es) = some (.rt r)) →
    (∀ s', fl step s xs = .inl s' → ∃ Γ', loopL m is b (xs.map enc) Γ = some (.nx Γ') ∧ I s' Γ') ∧ ∀ r, fl step s xs = .inr r → loopL m is b (xs.map enc) Γ = some (.rt r)
  | [], s, Γ, hI, _ => ⟨fun s' e => by cases e; exact ⟨Γ, rfl, hI⟩, fun r e => by cases e⟩
  | x :: xs, s, Γ, hI, h => by
    obtain ⟨es, h1, h2, h3⟩ := h s Γ x List.mem_cons_self hI
    simp only [List.map_cons, loopL, h1, Option.bind_some, fl]
    cases e : step s x with
    | inl s' =>
      obtain ⟨Γ', h4, h5⟩ := h2 s' e
      simp only [h4, Option.bind_some]
      exact loopL_fl I enc step xs s' Γ' h5 fun s Γ y hy => h s Γ y (List.mem_cons_of_mem _ hy)
    | inr r =>
      simp only [h3 r e, Option.bind_some]
      exact ⟨fun s' z => (by cases z), fun r' z => (by cases z; rfl)⟩
theorem zLoop_fl {α S : Type} {m : PyData → Option (List PyData)} {is : List Nat} {b : ZG} (I : S → DE → Prop) (enc : α → PyData) (step : S → α → S ⊕ PyData) : ∀ (xs : List α) (s : S) (Γ : DE), I s Γ →
    (∀ s Γ x, x ∈ xs → I s Γ → ∃ es, m (enc x) = some es ∧ (∀ s', step s x = .inl s' → ∃ Γ', b (setAllD Γ is es) = some (.nx Γ') ∧ I s' Γ') ∧ ∀ r, step s x = .inr r → ∃ Γ', b (setAllD Γ is es) = some (.rt r Γ')) →
    (∀ s', fl step s xs = .inl s' → ∃ Γ', zLoop m is b (xs.map enc) Γ = some (.nx Γ') ∧ I s' Γ') ∧ ∀ r, fl step s xs = .inr r → ∃ Γ', zLoop m is b (xs.map enc) Γ = some (.rt r Γ')
  | [], s, Γ, hI, _ => ⟨fun s' e => by cases e; exact ⟨Γ, rfl, hI⟩, fun r e => by cases e⟩
  | x :: xs, s, Γ, hI, h => by
    obtain ⟨es, h1, h2, h3⟩ := h s Γ x List.mem_cons_self hI
    simp only [List.map_cons, zLoop, h1, Option.bind_some, fl]
    cases e : step s x with
    | inl s' =>
      obtain ⟨Γ', h4, h5⟩ := h2 s' e
      simp only [h4, Option.bind_some]
      exact zLoop_fl I enc step xs s' Γ' h5 fun s Γ y hy => h s Γ y (List.mem_cons_of_mem _ hy)
    | inr r =>
      obtain ⟨Γ', h4⟩ := h3 r e
      simp only [h4, Option.bind_some]
      exact ⟨fun s' z => (by cases z), fun r' z => (by cases z; exact ⟨Γ', rfl⟩)⟩
/-- a walk whose every turn keeps what is promised (the draws: some state) -/
theorem zLoop_some {α : Type} {m : PyData → Option (List PyData)} {is : List Nat} {b : ZG} (I : Nat → DE → Prop) (enc : α → PyData) : ∀ (xs : List α) (k : Nat) (Γ : DE), I k Γ →
    (∀ k Γ x, x ∈ xs → I k Γ → ∃ es, m (enc x) = some es ∧ ∃ Γ', b (setAllD Γ is es) = some (.nx Γ') ∧ I (k + 1) Γ') → ∃ Γ', zLoop m is b (xs.map enc) Γ = some (.nx Γ') ∧ I (k + xs.length) Γ'
  | [], k, Γ, hI, _ => ⟨Γ, rfl, hI⟩
  | x :: xs, k, Γ, hI, h => by
    obtain ⟨es, h1, Γ', h2, h3⟩ := h k Γ x List.mem_cons_self hI
    simp only [List.map_cons, zLoop, h1, Option.bind_some, h2]
    obtain ⟨Γ2, h4, h5⟩ := zLoop_some I enc xs (k + 1) Γ' h3 fun k Γ y hy => h k Γ y (List.mem_cons_of_mem _ hy)
    exact ⟨Γ2, h4, by rw [List.length_cons, Nat.add_comm xs.length 1, ← Nat.add_assoc]; exact h5⟩

theorem runF_rt {n : Nat} {N : List Str} {g : DE → Option Out} {ds : List PyData} {d : PyData} (hl : ds.length = n) (h : g (startD N ds) = some (.rt d)) : runF n N g ds = some d := by
  simp [runF, hl, h]
theorem runFZ_rt {n : Nat} {N : List Str} {g : ZG} {ds : List PyData} {d : PyData} {Γ : DE} (hl : ds.length = n) (h : g (startD N ds) = some (.rt d Γ)) : runFZ n N g ds = some d := by
  simp [runFZ, hl, h]
section
variable {α S : Type} {m : PyData → Option (List PyData)} {is : List Nat} {it : DE → Option (List PyData)} {b g2 : DE → Option Out} {Γ : DE} {R : Option Out}
theorem seq_fl (I : S → DE → Prop) (enc : α → PyData) (step : S → α → S ⊕ PyData) (xs : List α) (s : S) (hi : it Γ = some (xs.map enc)) (hI : I s Γ)
    (h : ∀ s Γ x, x ∈ xs → I s Γ → ∃ es, m (enc x) = some es ∧ (∀ s', step s x = .inl s' → ∃ Γ', b (setAllD Γ is es) = some (.nx Γ') ∧ I s' Γ') ∧ ∀ r, step s x = .inr r → b (setAllD Γ is es) = some (.rt r))
    (hl : ∀ s', fl step s xs = .inl s' → ∀ Γ', I s' Γ' → g2 Γ' = R) (hr : ∀ r, fl step s xs = .inr r → some (.rt r) = R) : gSeq (gFor it m is b) g2 Γ = R := by
  obtain ⟨h1, h2⟩ := loopL_fl (b := b) I enc step xs s Γ hI h
  simp only [gSeq, gFor, hi, Option.bind_some]
  cases e : fl step s xs with
  | inl s' =>
    obtain ⟨Γ', h3, h4⟩ := h1 s' e
    rw [h3]
    exact hl s' e Γ' h4
  | inr r =>
    rw [h2 r e]
    exact hr r e
/-- the first that p picks ends the walk -/
theorem seq_find (I : DE → Prop) (enc : α → PyData) (p : α → Bool) (r : α → PyData) (xs : List α) (hi : it Γ = some (xs.map enc)) (hI : I Γ)
    (h : ∀ Γ x, x ∈ xs → I Γ → ∃ es, m (enc x) = some es ∧ (p x = true → b (setAllD Γ is es) = some (.rt (r x))) ∧ (p x = false → ∃ Γ', b (setAllD Γ is es) = some (.nx Γ') ∧ I Γ'))
    (hn : xs.find? p = none → ∀ Γ', I Γ' → g2 Γ' = R) (hs : ∀ x, xs.find? p = some x → some (.rt (r x)) = R) : gSeq (gFor it m is b) g2 Γ = R := by
  have ff : ∀ xs : List α, fl (fun (_ : Unit) x => if p x = true then Sum.inr (r x) else Sum.inl ()) () xs = (xs.find? p).elim (.inl ()) fun x => .inr (r x) := fun xs => by
    induction xs with
    | nil => rfl
    | cons x xs ih =>
      simp only [fl, List.find?_cons]
      cases e : p x with
      | true => simp
      | false => simp [ih]
  refine seq_fl (fun (_ : Unit) => I) enc (fun _ x => if p x = true then Sum.inr (r x) else Sum.inl ()) xs () hi hI (fun s Γ x hx hΓ => ?_) (fun s' e Γ' hΓ => ?_) fun r' e => ?_
  · obtain ⟨es, a1, a2, a3⟩ := h Γ x hx hΓ
    refine ⟨es, a1, fun s' e => ?_, fun r' e => ?_⟩
    · cases q : p x with
      | true => simp [q] at e
      | false => exact a3 q
    · cases q : p x with
      | true => simp [q] at e; subst e; exact a2 q
      | false => simp [q] at e
  · rw [ff] at e
    cases q : xs.find? p with
    | none => exact hn q Γ' hΓ
    | some x => rw [q] at e; cases e
  · rw [ff] at e
    cases q : xs.find? p with
    | none => rw [q] at e; cases e
    | some x => rw [q] at e; cases e; exact hs x q
end
section
variable {α S : Type} {m : PyData → Option (List PyData)} {is : List Nat} {it : DE → Option (List PyData × DE)} {b g2 : ZG} {Γ Γ1 : DE} {P : Option ZOut → Prop}
theorem zseq_fl (I : S → DE → Prop) (enc : α → PyData) (step : S → α → S ⊕ PyData) (xs : List α) (s : S) (hi : it Γ = some (xs.map enc, Γ1)) (hI : I s Γ1)
    (h : ∀ s Γ x, x ∈ xs → I s Γ → ∃ es, m (enc x) = some es ∧ (∀ s', step s x = .inl s' → ∃ Γ', b (setAllD Γ is es) = some (.nx Γ') ∧ I s' Γ') ∧ ∀ r, step s x = .inr r → ∃ Γ', b (setAllD Γ is es) = some (.rt r Γ'))
    (hl : ∀ s', fl step s xs = .inl s' → ∀ Γ', I s' Γ' → P (g2 Γ')) (hr : ∀ r, fl step s xs = .inr r → ∀ Γ', P (some (.rt r Γ'))) : P (zSeq (zFor it m is b) g2 Γ) := by
  obtain ⟨h1, h2⟩ := zLoop_fl (b := b) I enc step xs s Γ1 hI h
  simp only [zSeq, zFor, zB, hi, Option.bind_some]
  cases e : fl step s xs with
  | inl s' =>
    obtain ⟨Γ', h3, h4⟩ := h1 s' e
    rw [h3]
    exact hl s' e Γ' h4
  | inr r =>
    obtain ⟨Γ', h3⟩ := h2 r e
    rw [h3]
    exact hr r e Γ'
/-- a walk to its end; what holds is counted -/
theorem zseq_some (I : Nat → DE → Prop) (enc : α → PyData) (xs : List α) (hi : it Γ = some (xs.map enc, Γ1)) (hI : I 0 Γ1)
    (h : ∀ k Γ x, x ∈ xs → I k Γ → ∃ es, m (enc x) = some es ∧ ∃ Γ', b (setAllD Γ is es) = some (.nx Γ') ∧ I (k + 1) Γ')
    (hl : ∀ Γ', I xs.length Γ' → P (g2 Γ')) : P (zSeq (zFor it m is b) g2 Γ) := by
  obtain ⟨Γ', h1, h2⟩ := zLoop_some (b := b) I enc xs 0 Γ1 hI h
  simp only [zSeq, zFor, zB, hi, Option.bind_some, h1]
  exact hl Γ' (by rw [Nat.zero_add] at h2; exact h2)
end
end G8

/-! M2: the checks of lists.py and wanted.py, reckoned. -/
namespace G8
open L2 PyProof.Rows PySem.Spec PySem

/-- a whole number between -/
def btw (d : PyData) (lo hi : Int) : Bool := match d with
  | .int i => decide (lo ≤ i) && decide (i ≤ hi)
  | _ => false
theorem F9_eq {d : PyData} (h : noDict d = true) (lo hi : Int) : F9 [d, .int lo, .int hi] = some (.bool (btw d lo hi)) := by
  cases d with
  | dict _ => cases h
  | int i =>
    by_cases q : lo ≤ i <;> simp [F9, g9, runF, runFZ, startD, gSeq, gIf, gRet, gSet, gPut, gDrop, gNx, gFor, eA, eO, eN, eIf, e1, e2, e3, eTup, eLst, eCall, eM, eSl, oN, aN, aC, tA, tO, tN, tTr, tB1, tTrue, eC, eV, asB, asI, asL, asTT, truD, wipeD, setAllD, m1, mT, lenD, subD, addD_int, leD, ltD_int, gtD, geD, eqD_int, neD_int, gd_lim, isi_int h, isi_bool h, isI, isBo, btw, q]
  | _ => simp [F9, g9, runF, runFZ, startD, gSeq, gIf, gRet, gSet, gPut, gDrop, gNx, gFor, eA, eO, eN, eIf, e1, e2, e3, eTup, eLst, eCall, eM, eSl, oN, aN, aC, tA, tO, tN, tTr, tB1, tTrue, eC, eV, asB, asI, asL, asTT, truD, wipeD, setAllD, m1, mT, lenD, subD, addD_int, leD, ltD_int, gtD, geD, eqD_int, neD_int, gd_lim, isi_int h, isi_bool h, isI, isBo, btw]
theorem F25_eq {d : PyData} (h : noDict d = true) : F25 [d] = some (.bool (btw d 0 5)) := by
  cases d with
  | dict _ => cases h
  | int i =>
    by_cases q : 0 ≤ i <;> simp [F25, g25, runF, runFZ, startD, gSeq, gIf, gRet, gSet, gPut, gDrop, gNx, gFor, eA, eO, eN, eIf, e1, e2, e3, eTup, eLst, eCall, eM, eSl, oN, aN, aC, tA, tO, tN, tTr, tB1, tTrue, eC, eV, asB, asI, asL, asTT, truD, wipeD, setAllD, m1, mT, lenD, subD, addD_int, leD, ltD_int, gtD, geD, eqD_int, neD_int, gd_lim, isi_int h, isi_bool h, isI, isBo, btw, q]
  | _ => simp [F25, g25, runF, runFZ, startD, gSeq, gIf, gRet, gSet, gPut, gDrop, gNx, gFor, eA, eO, eN, eIf, e1, e2, e3, eTup, eLst, eCall, eM, eSl, oN, aN, aC, tA, tO, tN, tTr, tB1, tTrue, eC, eV, asB, asI, asL, asTT, truD, wipeD, setAllD, m1, mT, lenD, subD, addD_int, leD, ltD_int, gtD, geD, eqD_int, neD_int, gd_lim, isi_int h, isi_bool h, isI, isBo, btw]
theorem F38_eq {d : PyData} (h : noDict d = true) (lo hi : Int) : F38 [d, .int lo, .int hi] = some (.bool (btw d lo hi)) := by
  cases d with
  | dict _ => cases h
  | int i =>
    by_cases q : lo ≤ i <;> simp [F38, g38, runF, runFZ, startD, gSeq, gIf, gRet, gSet, gPut, gDrop, gNx, gFor, eA, eO, eN, eIf, e1, e2, e3, eTup, eLst, eCall, eM, eSl, oN, aN, aC, tA, tO, tN, tTr, tB1, tTrue, eC, eV, asB, asI, asL, asTT, truD, wipeD, setAllD, m1, mT, lenD, subD, addD_int, leD, ltD_int, gtD, geD, eqD_int, neD_int, gd_lim, isi_int h, isi_bool h, isI, isBo, btw, q]
  | _ => simp [F38, g38, runF, runFZ, startD, gSeq, gIf, gRet, gSet, gPut, gDrop, gNx, gFor, eA, eO, eN, eIf, e1, e2, e3, eTup, eLst, eCall, eM, eSl, oN, aN, aC, tA, tO, tN, tTr, tB1, tTrue, eC, eV, asB, asI, asL, asTT, truD, wipeD, setAllD, m1, mT, lenD, subD, addD_int, leD, ltD_int, gtD, geD, eqD_int, neD_int, gd_lim, isi_int h, isi_bool h, isI, isBo, btw]

theorem F9_int (i lo hi : Int) : F9 [.int i, .int lo, .int hi] = some (.bool (decide (lo ≤ i) && decide (i ≤ hi))) := F9_eq rfl lo hi
theorem F38_int (i lo hi : Int) : F38 [.int i, .int lo, .int hi] = some (.bool (decide (lo ≤ i) && decide (i ≤ hi))) := F38_eq rfl lo hi
theorem F25_int (i : Int) : F25 [.int i] = some (.bool (decide (0 ≤ i) && decide (i ≤ 5))) := F25_eq rfl

/-! ### lists of rules -/
abbrev Rg := List (Int × Int)
def dR (r : Rg) : PyData := .tuple (r.map fun p => .tuple [.int p.1, .int p.2])
def dRule (r : Int × Rg) : PyData := .tuple [.int r.1, dR r.2]
structure Ls where
  ws : List Int
  rs : List (Int × Rg)
  df : Int
def dL (l : Ls) : PyData := .tuple [dI l.ws, .tuple (l.rs.map dRule), .int l.df]
def opts : List (List Int) := [[4], [6], [3, 3], [8], [2, 4], [2, 2, 2]]
structure OkL (l : Ls) : Prop where
  w : l.ws ∈ opts
  few : l.rs.length ≤ 4
  one : 1 ≤ l.rs.length
  r : ∀ r ∈ l.rs, 0 ≤ r.1 ∧ r.1 ≤ 5 ∧ r.2.length = l.ws.length ∧ ∀ (k : Nat) (p : Int × Int) (w : Int), r.2[k]? = some p → l.ws[k]? = some w → 0 ≤ p.1 ∧ p.1 ≤ p.2 ∧ p.2 ≤ w - 1
  d : 0 ≤ l.df ∧ l.df ≤ 5
theorem OkL.wl {l : Ls} (h : OkL l) : 1 ≤ l.ws.length ∧ l.ws.length ≤ 3 ∧ ∀ w ∈ l.ws, 1 ≤ w ∧ w ≤ 8 := by
  have : ∀ ws ∈ opts, 1 ≤ ws.length ∧ ws.length ≤ 3 ∧ ∀ w ∈ ws, (1 : Int) ≤ w ∧ w ≤ 8 := by decide
  exact this _ h.w
theorem F10_eq {l : Ls} (h : OkL l) : F10 [dI l.ws] = some (.bool true) := by
  obtain ⟨h1, h2, h3⟩ := h.wl
  have i1 : (1 : Int) ≤ (l.ws.length : Int) := by omega
  have i2 : (l.ws.length : Int) ≤ 3 := by omega
  simp [F10, g10, runF, runFZ, startD, gSeq, gIf, gRet, gSet, gPut, gDrop, gNx, gFor, eA, eO, eN, eIf, e1, e2, e3, eTup, eLst, eCall, eM, eSl, oN, aN, aC, tA, tO, tN, tTr, tB1, tTrue, eC, eV, asB, asI, asL, asTT, truD, wipeD, setAllD, m1, mT, lenD, subD, addD_int, leD, ltD_int, gtD, geD, eqD_int, neD_int, gd_lim, iS, isi_tup, i1, i2]
  rw [eLc_all (enc := PyData.int) (q := fun w => .bool (btw (.int w) 1 8)) (xs := l.ws)]
  · simp only [Option.bind_some, allD_of]
    simp [btw]
    exact h3
  · simp [iS, eV, asL]
  · exact fun w hw => ⟨[.int w], rfl, by simp [runF, runFZ, startD, gSeq, gIf, gRet, gSet, gPut, gDrop, gNx, gFor, eA, eO, eN, eIf, e1, e2, e3, eTup, eLst, eCall, eM, eSl, oN, aN, aC, tA, tO, tN, tTr, tB1, tTrue, eC, eV, asB, asI, asL, asTT, truD, wipeD, setAllD, m1, mT, lenD, subD, addD_int, leD, ltD_int, gtD, geD, eqD_int, neD_int, gd_lim, F9_int, btw]⟩
theorem F11_eq {lo hi w : Int} (h1 : 0 ≤ lo) (h2 : lo ≤ hi) (h3 : hi ≤ w - 1) : F11 [.tuple [.int lo, .int hi], .int w] = some (.bool true) := by
  have e : lo ≤ w - 1 := by omega
  simp [F11, g11, runF, runFZ, startD, gSeq, gIf, gRet, gSet, gPut, gDrop, gNx, gFor, eA, eO, eN, eIf, e1, e2, e3, eTup, eLst, eCall, eM, eSl, oN, aN, aC, tA, tO, tN, tTr, tB1, tTrue, eC, eV, asB, asI, asL, asTT, truD, wipeD, setAllD, m1, mT, lenD, subD, addD_int, leD, ltD_int, gtD, geD, eqD_int, neD_int, gd_lim, isi_tup, ixE_0, ixE_1, F9_int, h1, h2, h3, e]
theorem F12_eq {l : Ls} (h : OkL l) {r : Int × Rg} (hr : r ∈ l.rs) : F12 [dRule r, dI l.ws] = some (.bool true) := by
  obtain ⟨h1, h2, h3, h4⟩ := h.r r hr
  have e : ((r.2.length : Nat) : Int) = (l.ws.length : Nat) := by omega
  simp [F12, g12, runF, runFZ, startD, gSeq, gIf, gRet, gSet, gPut, gDrop, gNx, gFor, eA, eO, eN, eIf, e1, e2, e3, eTup, eLst, eCall, eM, eSl, oN, aN, aC, tA, tO, tN, tTr, tB1, tTrue, eC, eV, asB, asI, asL, asTT, truD, wipeD, setAllD, m1, mT, lenD, subD, addD_int, leD, ltD_int, gtD, geD, eqD_int, neD_int, gd_lim, isi_tup, ixE_0, ixE_1, F9_int, dRule, dR, h1, h2, e]
  rw [eLc_all (enc := fun p : Int × Nat => PyData.tuple [.int (p.2 : Nat), .int p.1]) (q := fun _ => .bool true) (xs := l.ws.zipIdx)]
  · simp only [Option.bind_some, allD_of]
    simp
  · simp [iE, runF, runFZ, startD, gSeq, gIf, gRet, gSet, gPut, gDrop, gNx, gFor, eA, eO, eN, eIf, e1, e2, e3, eTup, eLst, eCall, eM, eSl, oN, aN, aC, tA, tO, tN, tTr, tB1, tTrue, eC, eV, asB, asI, asL, asTT, truD, wipeD, setAllD, m1, mT, lenD, subD, addD_int, leD, ltD_int, gtD, geD, eqD_int, neD_int, gd_lim, List.zipIdx_map]
  · rintro ⟨w, k⟩ hw
    refine ⟨[.int (k : Nat), .int w], rfl, ?_⟩
    have hk := List.mem_zipIdx_iff_getElem?.mp hw
    have hk' : k < r.2.length := by rw [h3]; exact (List.getElem?_eq_some_iff.mp hk).1
    obtain ⟨q1, q2, q3⟩ := h4 k r.2[k] w (List.getElem?_eq_getElem hk') hk
    simp [runF, runFZ, startD, gSeq, gIf, gRet, gSet, gPut, gDrop, gNx, gFor, eA, eO, eN, eIf, e1, e2, e3, eTup, eLst, eCall, eM, eSl, oN, aN, aC, tA, tO, tN, tTr, tB1, tTrue, eC, eV, asB, asI, asL, asTT, truD, wipeD, setAllD, m1, mT, lenD, subD, addD_int, leD, ltD_int, gtD, geD, eqD_int, neD_int, gd_lim, ixE_1, ixE_n, hk', F11_eq q1 q2 q3]
theorem F13_eq {l : Ls} (h : OkL l) : F13 [dL l] = some (.bool true) := by
  have i1 : ¬ (7 : Int) < (l.rs.length : Int) := by have := h.few; omega
  simp [F13, g13, runF, runFZ, startD, gSeq, gIf, gRet, gSet, gPut, gDrop, gNx, gFor, eA, eO, eN, eIf, e1, e2, e3, eTup, eLst, eCall, eM, eSl, oN, aN, aC, tA, tO, tN, tTr, tB1, tTrue, eC, eV, asB, asI, asL, asTT, truD, wipeD, setAllD, m1, mT, lenD, subD, addD_int, leD, ltD_int, gtD, geD, eqD_int, neD_int, gd_lim, isi_tup, ixE_0, ixE_1, ixE_2, F9_int, dL, F10_eq h, h.d.1, h.d.2, i1]
  rw [eLc_all (enc := dRule) (q := fun _ => .bool true) (xs := l.rs)]
  · simp only [Option.bind_some, allD_of]
    simp
  · simp [iS, runF, runFZ, startD, gSeq, gIf, gRet, gSet, gPut, gDrop, gNx, gFor, eA, eO, eN, eIf, e1, e2, e3, eTup, eLst, eCall, eM, eSl, oN, aN, aC, tA, tO, tN, tTr, tB1, tTrue, eC, eV, asB, asI, asL, asTT, truD, wipeD, setAllD, m1, mT, lenD, subD, addD_int, leD, ltD_int, gtD, geD, eqD_int, neD_int, gd_lim, ixE_1]
  · exact fun r hr => ⟨[dRule r], rfl, by simp [runF, runFZ, startD, gSeq, gIf, gRet, gSet, gPut, gDrop, gNx, gFor, eA, eO, eN, eIf, e1, e2, e3, eTup, eLst, eCall, eM, eSl, oN, aN, aC, tA, tO, tN, tTr, tB1, tTrue, eC, eV, asB, asI, asL, asTT, truD, wipeD, setAllD, m1, mT, lenD, subD, addD_int, leD, ltD_int, gtD, geD, eqD_int, neD_int, gd_lim, ixE_0, F12_eq h hr]⟩
theorem F17_eq {l : Ls} (h : OkL l) (d : PyData) : F17 [dL l, d] = some .none := by simp [F17, g17, runF, runFZ, startD, gSeq, gIf, gRet, gSet, gPut, gDrop, gNx, gFor, eA, eO, eN, eIf, e1, e2, e3, eTup, eLst, eCall, eM, eSl, oN, aN, aC, tA, tO, tN, tTr, tB1, tTrue, eC, eV, asB, asI, asL, asTT, truD, wipeD, setAllD, m1, mT, lenD, subD, addD_int, leD, ltD_int, gtD, geD, eqD_int, neD_int, gd_lim, F13_eq h]
theorem F28_eq {l : Ls} (h : OkL l) : F28 [dL l] = some .none := by simp [F28, g28, runF, runFZ, startD, gSeq, gIf, gRet, gSet, gPut, gDrop, gNx, gFor, eA, eO, eN, eIf, e1, e2, e3, eTup, eLst, eCall, eM, eSl, oN, aN, aC, tA, tO, tN, tTr, tB1, tTrue, eC, eV, asB, asI, asL, asTT, truD, wipeD, setAllD, m1, mT, lenD, subD, addD_int, leD, ltD_int, gtD, geD, eqD_int, neD_int, gd_lim, F13_eq h]

/-! ### cases, for any data -/
/-- all the parts of x are of a kind that can be looked at -/
def plainL (l : List PyData) : Prop := ∀ d ∈ l, noDict d = true
def isCase (l : Ls) (d : PyData) : Bool := match d with
  | .tuple ds => decide (ds.length = l.ws.length) && (ds.zip l.ws).all fun p => btw p.1 0 (p.2 - 1)
  | _ => false
theorem F14_eq {l : Ls} {d : PyData} (h : noDict d = true) (hp : ∀ ds, d = .tuple ds → plainL ds) : F14 [dL l, d] = some (.bool (isCase l d)) := by
  cases d with
  | dict _ => cases h
  | tuple ds =>
    by_cases e : ds.length = l.ws.length
    · have e' : ((ds.length : Nat) : Int) = (l.ws.length : Nat) := by omega
      simp [F14, g14, runF, runFZ, startD, gSeq, gIf, gRet, gSet, gPut, gDrop, gNx, gFor, eA, eO, eN, eIf, e1, e2, e3, eTup, eLst, eCall, eM, eSl, oN, aN, aC, tA, tO, tN, tTr, tB1, tTrue, eC, eV, asB, asI, asL, asTT, truD, wipeD, setAllD, m1, mT, lenD, subD, addD_int, leD, ltD_int, gtD, geD, eqD_int, neD_int, gd_lim, isi_tup, ixE_0, dL, e, e', isCase]
      rw [eLc_all (enc := fun p : Int × Nat => PyData.tuple [.int (p.2 : Nat), .int p.1]) (q := fun p => .bool (btw (ds.getD p.2 .none) 0 (p.1 - 1))) (xs := l.ws.zipIdx)]
      · simp only [Option.bind_some, allD_of]
        simp
        rw [Bool.eq_iff_iff]
        simp only [List.all_eq_true]
        constructor
        · rintro q ⟨x, w⟩ hx
          obtain ⟨k, hk, ek⟩ := List.getElem_of_mem hx
          rw [List.getElem_zip] at ek
          simp only [List.length_zip] at hk
          have := q (l.ws[k], k) (List.mem_zipIdx_iff_getElem?.mpr (List.getElem?_eq_getElem (by omega)))
          cases ek
          simpa [List.getD_eq_getElem?_getD, List.getElem?_eq_getElem (show k < ds.length by omega)] using this
        · rintro q ⟨w, k⟩ hx
          have hk := List.mem_zipIdx_iff_getElem?.mp hx
          obtain ⟨k1, k2⟩ := List.getElem?_eq_some_iff.mp hk
          have := q (ds[k]'(by omega), w) (by
            refine List.mem_iff_getElem?.mpr ⟨k, ?_⟩
            rw [List.getElem?_zip_eq_some]
            exact ⟨List.getElem?_eq_getElem (by omega), hk⟩)
          simpa [List.getD_eq_getElem?_getD, List.getElem?_eq_getElem (show k < ds.length by omega)] using this
      · simp [iE, runF, runFZ, startD, gSeq, gIf, gRet, gSet, gPut, gDrop, gNx, gFor, eA, eO, eN, eIf, e1, e2, e3, eTup, eLst, eCall, eM, eSl, oN, aN, aC, tA, tO, tN, tTr, tB1, tTrue, eC, eV, asB, asI, asL, asTT, truD, wipeD, setAllD, m1, mT, lenD, subD, addD_int, leD, ltD_int, gtD, geD, eqD_int, neD_int, gd_lim, ixE_0, List.zipIdx_map]
      · rintro ⟨w, k⟩ hw
        refine ⟨[.int (k : Nat), .int w], rfl, ?_⟩
        have hk := List.mem_zipIdx_iff_getElem?.mp hw
        have hk' : k < ds.length := by rw [e]; exact (List.getElem?_eq_some_iff.mp hk).1
        simp [runF, runFZ, startD, gSeq, gIf, gRet, gSet, gPut, gDrop, gNx, gFor, eA, eO, eN, eIf, e1, e2, e3, eTup, eLst, eCall, eM, eSl, oN, aN, aC, tA, tO, tN, tTr, tB1, tTrue, eC, eV, asB, asI, asL, asTT, truD, wipeD, setAllD, m1, mT, lenD, subD, addD_int, leD, ltD_int, gtD, geD, eqD_int, neD_int, gd_lim, ixE_n, hk', List.getD_eq_getElem?_getD]
        rw [F9_eq (hp ds rfl _ (List.getElem_mem hk'))]
    · have e' : ¬ ((ds.length : Nat) : Int) = (l.ws.length : Nat) := by omega
      simp [F14, g14, runF, runFZ, startD, gSeq, gIf, gRet, gSet, gPut, gDrop, gNx, gFor, eA, eO, eN, eIf, e1, e2, e3, eTup, eLst, eCall, eM, eSl, oN, aN, aC, tA, tO, tN, tTr, tB1, tTrue, eC, eV, asB, asI, asL, asTT, truD, wipeD, setAllD, m1, mT, lenD, subD, addD_int, leD, ltD_int, gtD, geD, eqD_int, neD_int, gd_lim, isi_tup, ixE_0, dL, e, e', isCase]
  | _ => simp [F14, g14, runF, runFZ, startD, gSeq, gIf, gRet, gSet, gPut, gDrop, gNx, gFor, eA, eO, eN, eIf, e1, e2, e3, eTup, eLst, eCall, eM, eSl, oN, aN, aC, tA, tO, tN, tTr, tB1, tTrue, eC, eV, asB, asI, asL, asTT, truD, wipeD, setAllD, m1, mT, lenD, subD, addD_int, leD, ltD_int, gtD, geD, eqD_int, neD_int, gd_lim, isi_tuple h, isT, ixE_0, dL, isCase]
theorem F15_eq {l : Ls} {d : PyData} (h : noDict d = true) : F15 [dL l, d] = some (.bool (btw d 0 ((l.rs.length : Int) - 1))) := by
  simp [F15, g15, runF, runFZ, startD, gSeq, gIf, gRet, gSet, gPut, gDrop, gNx, gFor, eA, eO, eN, eIf, e1, e2, e3, eTup, eLst, eCall, eM, eSl, oN, aN, aC, tA, tO, tN, tTr, tB1, tTrue, eC, eV, asB, asI, asL, asTT, truD, wipeD, setAllD, m1, mT, lenD, subD, addD_int, leD, ltD_int, gtD, geD, eqD_int, neD_int, gd_lim, dL, ixE_1, F9_eq h]
end G8

/-! M3: cases, rows, what matches, what decides. -/
namespace G8
open L2 PyProof.Rows PySem.Spec PySem

/-! ### all cases, all rows -/
def casesM (ws : List Int) : List (List Int) := ws.foldl (fun fs w => fs.flatMap fun c => (rng w.toNat).map fun v => c ++ [v]) [[]]
def rowsStep (n : Nat) (rs : List (List Int)) : List (List Int) := rs.flatMap fun r => ((rng n).filter fun i => decide (i ∉ r)).map fun i => r ++ [i]
def rowsK (n : Nat) : Nat → List (List Int)
  | 0 => [[]]
  | k + 1 => rowsStep n (rowsK n k)
def rowsM (n : Nat) : List (List Int) := rowsK n n
theorem F19_eq : ∀ ws ∈ opts, F19 [dI ws] = some (.list ((casesM ws).map dI)) := by
  intro ws h
  simp only [opts, List.mem_cons, List.not_mem_nil, or_false] at h
  rcases h with h | h | h | h | h | h <;> subst h <;> kernel_rfl
theorem F60_eq : ∀ ws ∈ opts, F60 [dI ws] = some (.list ((casesM ws).map dI)) := by
  intro ws h
  simp only [opts, List.mem_cons, List.not_mem_nil, or_false] at h
  rcases h with h | h | h | h | h | h <;> subst h <;> kernel_rfl
theorem F68_eq {n : Nat} (h : n ≤ 4) : F68 [.int (n : Int)] = some (.list ((rowsM n).map dI)) := by
  match n, h with
  | 0, _ => kernel_rfl
  | 1, _ => kernel_rfl
  | 2, _ => kernel_rfl
  | 3, _ => kernel_rfl
  | 4, _ => kernel_rfl
theorem cases_all : ∀ ws ∈ opts, (casesM ws).length ≤ 9 ∧ 1 ≤ (casesM ws).length ∧ (casesM ws).Nodup ∧ (casesM ws).Pairwise (fun a b => HT.lexLt a b = true) ∧ ∀ c ∈ casesM ws, c.length = ws.length ∧ ∀ p ∈ c.zip ws, 0 ≤ p.1 ∧ p.1 ≤ p.2 - 1 := by decide +kernel
theorem cases_len {ws c : List Int} (h : ws ∈ opts) (hc : c ∈ casesM ws) : c.length = ws.length := ((cases_all ws h).2.2.2.2 c hc).1
theorem rowsK_mem (n : Nat) : ∀ (k : Nat) (r : List Int), r ∈ rowsK n k ↔ r.length = k ∧ r.Nodup ∧ ∀ i ∈ r, i ∈ rng n
  | 0, r => by
    simp only [rowsK, List.mem_singleton]
    constructor
    · rintro rfl; simp
    · rintro ⟨h, _⟩; exact List.length_eq_zero_iff.mp h
  | k + 1, r => by
    simp only [rowsK, rowsStep, List.mem_flatMap, List.mem_map, List.mem_filter, decide_eq_true_eq]
    constructor
    · rintro ⟨a, ha, i, ⟨h1, h2⟩, rfl⟩
      obtain ⟨q1, q2, q3⟩ := (rowsK_mem n k a).mp ha
      refine ⟨by simp [q1], ?_, ?_⟩
      · rw [List.nodup_append]
        exact ⟨q2, by simp, fun x hx y hy => by rw [List.mem_singleton] at hy; subst hy; exact fun z => h2 (by rw [← z]; exact hx)⟩
      · intro x hx
        rcases List.mem_append.mp hx with z | z
        · exact q3 x z
        · rw [List.mem_singleton] at z; subst z; exact h1
    · rintro ⟨h1, h2, h3⟩
      obtain ⟨a, x, rfl⟩ := snoc_of h1
      have nd := List.nodup_append.mp h2
      refine ⟨a, (rowsK_mem n k a).mpr ⟨by simpa using h1, nd.1, fun i hi => h3 i (List.mem_append_left _ hi)⟩, x, ⟨h3 x (by simp), fun z => nd.2.2 x z x (by simp) rfl⟩, rfl⟩
theorem rowsM_mem {n : Nat} {r : List Int} : r ∈ rowsM n ↔ r.length = n ∧ r.Nodup ∧ ∀ i ∈ r, i ∈ rng n := rowsK_mem n n r

/-! ### rules -/
def act (l : Ls) (i : Int) : Int := ((l.rs[i.toNat]?).map (·.1)).getD 0
def rgs (l : Ls) (i : Int) : Rg := ((l.rs[i.toNat]?).map (·.2)).getD []
def mt (r : Rg) (c : List Int) : Bool := c.zipIdx.all fun p => decide ((r.getD p.2 (0, -1)).1 ≤ p.1) && decide (p.1 ≤ (r.getD p.2 (0, -1)).2)
def Mt (l : Ls) (i : Int) (c : List Int) : Bool := mt (rgs l i) c
section
variable {l : Ls}
theorem rule_at {i : Int} (h1 : 0 ≤ i) (h2 : i < l.rs.length) : l.rs[i.toNat]? = some (act l i, rgs l i) := by
  have : i.toNat < l.rs.length := by omega
  simp [act, rgs, List.getElem?_eq_getElem this]
theorem rule_ix {i : Int} (h1 : 0 ≤ i) (h2 : i < l.rs.length) : ixE (.tuple (l.rs.map dRule)) (.int i) = some (dRule (act l i, rgs l i)) := by
  rw [ixE_T h1, List.getElem?_map, rule_at h1 h2]
  rfl
theorem rule_mem {i : Int} (h1 : 0 ≤ i) (h2 : i < l.rs.length) : (act l i, rgs l i) ∈ l.rs := List.mem_of_getElem? (rule_at h1 h2)
theorem rg_len (ok : OkL l) {i : Int} (h1 : 0 ≤ i) (h2 : i < l.rs.length) : (rgs l i).length = l.ws.length := (ok.r _ (rule_mem h1 h2)).2.2.1
theorem F20_eq (ok : OkL l) {i : Int} (h1 : 0 ≤ i) (h2 : i < l.rs.length) {c : List Int} (hc : c.length = l.ws.length) : F20 [dL l, .int i, dI c] = some (.bool (Mt l i c)) := by
  have hl := rg_len ok h1 h2
  simp [F20, g20, runF, runFZ, startD, gSeq, gIf, gRet, gSet, gPut, gDrop, gNx, gFor, eA, eO, eN, eIf, e1, e2, e3, eTup, eLst, eCall, eM, eSl, oN, aN, aC, tA, tO, tN, tTr, tB1, tTrue, eC, eV, asB, asI, asL, asTT, truD, wipeD, setAllD, m1, mT, lenD, subD, addD_int, leD, ltD_int, gtD, geD, eqD_int, neD_int, gd_lim, ixE_1, dL, rule_ix h1 h2, dRule, dR]
  rw [eLc_all (enc := fun p : Int × Nat => PyData.tuple [.int (p.2 : Nat), .int p.1]) (q := fun p => .bool (decide (((rgs l i).getD p.2 (0, -1)).1 ≤ p.1) && decide (p.1 ≤ ((rgs l i).getD p.2 (0, -1)).2))) (xs := c.zipIdx)]
  · simp only [Option.bind_some, allD_of]
    simp [Mt, mt]
  · simp [iE, runF, runFZ, startD, gSeq, gIf, gRet, gSet, gPut, gDrop, gNx, gFor, eA, eO, eN, eIf, e1, e2, e3, eTup, eLst, eCall, eM, eSl, oN, aN, aC, tA, tO, tN, tTr, tB1, tTrue, eC, eV, asB, asI, asL, asTT, truD, wipeD, setAllD, m1, mT, lenD, subD, addD_int, leD, ltD_int, gtD, geD, eqD_int, neD_int, gd_lim, List.zipIdx_map]
  · rintro ⟨v, k⟩ hv
    refine ⟨[.int (k : Nat), .int v], rfl, ?_⟩
    have hk := (List.getElem?_eq_some_iff.mp (List.mem_zipIdx_iff_getElem?.mp hv)).1
    have hk' : k < (rgs l i).length := by omega
    simp only [runF, runFZ, startD, gSeq, gIf, gRet, gSet, gPut, gDrop, gNx, gFor, eA, eO, eN, eIf, e1, e2, e3, eTup, eLst, eCall, eM, eSl, oN, aN, aC, tA, tO, tN, tTr, tB1, tTrue, eC, eV, asB, asI, asL, asTT, truD, wipeD, setAllD, m1, mT, lenD, subD, addD_int, leD, ltD_int, gtD, geD, eqD_int, neD_int, gd_lim, Option.bind_some, ixE_n, List.getElem?_map, List.getElem?_eq_getElem hk', Option.map_some, ixE_0, ixE_1, List.getElem?_cons_zero, List.getElem?_cons_succ, List.getD_eq_getElem?_getD, Option.getD_some, List.set_cons_succ, List.set_cons_zero]
    by_cases q : ((rgs l i)[k]).1 ≤ v <;> simp [q, leD]
theorem F61_eq (ok : OkL l) {i : Int} (h1 : 0 ≤ i) (h2 : i < l.rs.length) {c : List Int} (hc : c.length = l.ws.length) : F61 [dL l, .int i, dI c] = some (.bool (Mt l i c)) := by
  have hl := rg_len ok h1 h2
  have hw := ok.wl.2.1
  have e1 : (c.length : Int) ≤ 100000 := by omega
  simp [F61, g61, runF, runFZ, startD, gSeq, gIf, gRet, gSet, gPut, gDrop, gNx, gFor, eA, eO, eN, eIf, e1, e2, e3, eTup, eLst, eCall, eM, eSl, oN, aN, aC, tA, tO, tN, tTr, tB1, tTrue, eC, eV, asB, asI, asL, asTT, truD, wipeD, setAllD, m1, mT, lenD, subD, addD_int, leD, ltD_int, gtD, geD, eqD_int, neD_int, gd_lim, ixE_1, dL, rule_ix h1 h2, dRule, dR]
  rw [eLc_all (enc := fun k : Nat => PyData.int (k : Int)) (q := fun k => .bool (decide (((rgs l i).getD k (0, -1)).1 ≤ c.getD k 0) && decide (c.getD k 0 ≤ ((rgs l i).getD k (0, -1)).2))) (xs := List.range c.length)]
  · simp only [Option.bind_some, allD_of]
    simp only [Option.bind_some, Mt, mt, Option.some.injEq, PyData.bool.injEq]
    rw [Bool.eq_iff_iff]
    simp only [List.all_eq_true]
    constructor
    · rintro q ⟨v, k⟩ hv
      have hk := List.mem_zipIdx_iff_getElem?.mp hv
      have := q k (List.mem_range.mpr (List.getElem?_eq_some_iff.mp hk).1)
      simpa [List.getD_eq_getElem?_getD, hk] using this
    · intro q k hk
      have hk' := List.mem_range.mp hk
      have := q (c[k], k) (List.mem_zipIdx_iff_getElem?.mpr (List.getElem?_eq_getElem hk'))
      simpa [List.getD_eq_getElem?_getD, List.getElem?_eq_getElem hk'] using this
  · simp [iR, runF, runFZ, startD, gSeq, gIf, gRet, gSet, gPut, gDrop, gNx, gFor, eA, eO, eN, eIf, e1, e2, e3, eTup, eLst, eCall, eM, eSl, oN, aN, aC, tA, tO, tN, tTr, tB1, tTrue, eC, eV, asB, asI, asL, asTT, truD, wipeD, setAllD, m1, mT, lenD, subD, addD_int, leD, ltD_int, gtD, geD, eqD_int, neD_int, gd_lim, e1, rgD, LIM]
  · intro k hk
    have hk0 := List.mem_range.mp hk
    refine ⟨[.int (k : Nat)], rfl, ?_⟩
    have hk' : k < (rgs l i).length := by omega
    simp only [runF, runFZ, startD, gSeq, gIf, gRet, gSet, gPut, gDrop, gNx, gFor, eA, eO, eN, eIf, e1, e2, e3, eTup, eLst, eCall, eM, eSl, oN, aN, aC, tA, tO, tN, tTr, tB1, tTrue, eC, eV, asB, asI, asL, asTT, truD, wipeD, setAllD, m1, mT, lenD, subD, addD_int, leD, ltD_int, gtD, geD, eqD_int, neD_int, gd_lim, Option.bind_some, ixE_n, List.getElem?_map, List.getElem?_eq_getElem hk', List.getElem?_eq_getElem hk0, Option.map_some, ixE_0, ixE_1, List.getElem?_cons_zero, List.getElem?_cons_succ, List.getD_eq_getElem?_getD, Option.getD_some, List.set_cons_succ, List.set_cons_zero]
    by_cases q : ((rgs l i)[k]).1 ≤ c[k] <;> simp [q, leD]
end
end G8

/-! M4: what decides; what is wanted. -/
namespace G8
open L2 PyProof.Rows PySem.Spec PySem

def dec (l : Ls) (row : List Int) (c : List Int) : Int := ((row.find? fun i => Mt l i c).map (act l)).getD l.df
section
variable {l : Ls}
theorem ix_act {i : Int} (q1 : 0 ≤ i) (q2 : i < l.rs.length) : e2 ixE (e2 ixE (e2 ixE (fun _ => some (dL l)) (eC (.int 1))) (fun _ => some (.int i))) (eC (.int 0)) [] = some (.int (act l i)) := by
  simp [e2, eC, dL, ixE_1, rule_ix q1 q2, dRule, ixE_0]
theorem dL_1 : ixE (dL l) (.int 1) = some (.tuple (l.rs.map dRule)) := by simp [dL, ixE_1]
theorem dL_0 : ixE (dL l) (.int 0) = some (dI l.ws) := by simp [dL, ixE_0]
theorem dL_2 : ixE (dL l) (.int 2) = some (.int l.df) := by simp [dL, ixE_2]
theorem dRule_0 (r : Int × Rg) : ixE (dRule r) (.int 0) = some (.int r.1) := by simp [dRule, ixE_0]
theorem F21_eq (ok : OkL l) {row c : List Int} (hr : ∀ i ∈ row, i ∈ rng l.rs.length) (hc : c.length = l.ws.length) : ∃ x, F21 [dL l, dI row, dI c] = some (.tuple [.int (dec l row c), x]) := by
  refine ⟨((row.find? fun i => Mt l i c).map PyData.int).getD .none, runF_rt rfl ?_⟩
  unfold g21
  refine seq_find (fun Γ => ∃ a, Γ = [some (dL l), some (dI row), some (dI c), a]) PyData.int (fun i => Mt l i c) (fun i => .tuple [.int (act l i), .int i]) row (by simp [iS, runF, runFZ, startD, gSeq, gIf, gRet, gSet, gPut, gDrop, gNx, gFor, eA, eO, eN, eIf, e1, e2, e3, eTup, eLst, eCall, eM, eSl, oN, aN, aC, tA, tO, tN, tTr, tB1, tTrue, eC, eV, asB, asI, asL, asTT, truD, wipeD, setAllD, m1, mT, lenD, subD, addD_int, leD, ltD_int, gtD, geD, eqD_int, neD_int, gd_lim]) ⟨_, rfl⟩ ?_ ?_ ?_
  · rintro Γ x hx ⟨a, rfl⟩
    obtain ⟨q1, q2⟩ := mem_rng.mp (hr x hx)
    refine ⟨[.int x], rfl, fun q => ?_, fun q => ⟨[some (dL l), some (dI row), some (dI c), some (.int x)], ?_, _, rfl⟩⟩
    · simp [runF, runFZ, startD, gSeq, gIf, gRet, gSet, gPut, gDrop, gNx, gFor, eA, eO, eN, eIf, e1, e2, e3, eTup, eLst, eCall, eM, eSl, oN, aN, aC, tA, tO, tN, tTr, tB1, tTrue, eC, eV, asB, asI, asL, asTT, truD, wipeD, setAllD, m1, mT, lenD, subD, addD_int, leD, ltD_int, gtD, geD, eqD_int, neD_int, gd_lim, F20_eq ok q1 q2 hc, q, dL_1, rule_ix q1 q2, dRule_0, gd, LIM]
    · simp [runF, runFZ, startD, gSeq, gIf, gRet, gSet, gPut, gDrop, gNx, gFor, eA, eO, eN, eIf, e1, e2, e3, eTup, eLst, eCall, eM, eSl, oN, aN, aC, tA, tO, tN, tTr, tB1, tTrue, eC, eV, asB, asI, asL, asTT, truD, wipeD, setAllD, m1, mT, lenD, subD, addD_int, leD, ltD_int, gtD, geD, eqD_int, neD_int, gd_lim, F20_eq ok q1 q2 hc, q]
  · rintro e Γ' ⟨a, rfl⟩
    simp [runF, runFZ, startD, gSeq, gIf, gRet, gSet, gPut, gDrop, gNx, gFor, eA, eO, eN, eIf, e1, e2, e3, eTup, eLst, eCall, eM, eSl, oN, aN, aC, tA, tO, tN, tTr, tB1, tTrue, eC, eV, asB, asI, asL, asTT, truD, wipeD, setAllD, m1, mT, lenD, subD, addD_int, leD, ltD_int, gtD, geD, eqD_int, neD_int, gd_lim, dL_2, dec, e, gd, LIM]
  · intro x e
    simp [dec, e]
theorem F62_eq (ok : OkL l) {row c : List Int} {rd : PyData} (hd : asL rd = some (dIs row)) (hr : ∀ i ∈ row, i ∈ rng l.rs.length) (hc : c.length = l.ws.length) : F62 [dL l, rd, dI c] = some (.int (dec l row c)) := by
  refine runF_rt rfl ?_
  unfold g62
  refine seq_find (fun Γ => ∃ a, Γ = [some (dL l), some rd, some (dI c), a]) PyData.int (fun i => Mt l i c) (fun i => .int (act l i)) row (by show (some rd).bind asL = _; exact hd) ⟨_, rfl⟩ ?_ ?_ ?_
  · rintro Γ x hx ⟨a, rfl⟩
    obtain ⟨q1, q2⟩ := mem_rng.mp (hr x hx)
    refine ⟨[.int x], rfl, fun q => ?_, fun q => ⟨[some (dL l), some rd, some (dI c), some (.int x)], ?_, _, rfl⟩⟩
    · simp [runF, runFZ, startD, gSeq, gIf, gRet, gSet, gPut, gDrop, gNx, gFor, eA, eO, eN, eIf, e1, e2, e3, eTup, eLst, eCall, eM, eSl, oN, aN, aC, tA, tO, tN, tTr, tB1, tTrue, eC, eV, asB, asI, asL, asTT, truD, wipeD, setAllD, m1, mT, lenD, subD, addD_int, leD, ltD_int, gtD, geD, eqD_int, neD_int, gd_lim, F61_eq ok q1 q2 hc, q, dL_1, rule_ix q1 q2, dRule_0, gd, LIM]
    · simp [runF, runFZ, startD, gSeq, gIf, gRet, gSet, gPut, gDrop, gNx, gFor, eA, eO, eN, eIf, e1, e2, e3, eTup, eLst, eCall, eM, eSl, oN, aN, aC, tA, tO, tN, tTr, tB1, tTrue, eC, eV, asB, asI, asL, asTT, truD, wipeD, setAllD, m1, mT, lenD, subD, addD_int, leD, ltD_int, gtD, geD, eqD_int, neD_int, gd_lim, F61_eq ok q1 q2 hc, q]
  · rintro e Γ' ⟨a, rfl⟩
    simp [runF, runFZ, startD, gSeq, gIf, gRet, gSet, gPut, gDrop, gNx, gFor, eA, eO, eN, eIf, e1, e2, e3, eTup, eLst, eCall, eM, eSl, oN, aN, aC, tA, tO, tN, tTr, tB1, tTrue, eC, eV, asB, asI, asL, asTT, truD, wipeD, setAllD, m1, mT, lenD, subD, addD_int, leD, ltD_int, gtD, geD, eqD_int, neD_int, gd_lim, dL_2, dec, e]
  · intro x e
    simp [dec, e]
end
/-! ### what is wanted -/
abbrev Pr := List Int × Int
def dP (p : Pr) : PyData := .tuple [dI p.1, .int p.2]
inductive Wt where
  | self
  | lst (m : Ls)
  | cas (P : List Pr)
def dW : Wt → PyData
  | .self => .tuple [.str "self"]
  | .lst m => .tuple [.str "list", dL m]
  | .cas P => .tuple [.str "cases", .tuple (P.map dP)]
def OkW (l : Ls) : Wt → Prop
  | .self => True
  | .lst m => OkL m ∧ m.ws = l.ws
  | .cas P => P.length ≤ 12 ∧ (P.map (·.1)).Sublist (casesM l.ws) ∧ ∀ p ∈ P, 0 ≤ p.2 ∧ p.2 ≤ 5
def wantsM (l : Ls) : Wt → List Pr
  | .self => (casesM l.ws).map fun c => (c, dec l (rng l.rs.length) c)
  | .lst m => (casesM l.ws).map fun c => (c, dec m (rng m.rs.length) c)
  | .cas P => P
theorem shp_self : SeqAt.shaped (.str "self") = true := by decide +kernel
theorem shp_list : SeqAt.shaped (.str "list") = true := by decide +kernel
theorem shp_cases : SeqAt.shaped (.str "cases") = true := by decide +kernel
theorem shp_not : SeqAt.shaped (.str "not") = true := by decide +kernel
theorem shp_always : SeqAt.shaped (.str "always") = true := by decide +kernel
theorem shp_both : SeqAt.shaped (.str "both") = true := by decide +kernel
theorem eq_ss : eqD (.str "self") (.str "self") = some (.bool true) := by kernel_rfl
theorem eq_ls : eqD (.str "list") (.str "self") = some (.bool false) := by kernel_rfl
theorem eq_cs : eqD (.str "cases") (.str "self") = some (.bool false) := by kernel_rfl
theorem eq_ll : eqD (.str "list") (.str "list") = some (.bool true) := by kernel_rfl
theorem eq_cl : eqD (.str "cases") (.str "list") = some (.bool false) := by kernel_rfl
theorem eq_sl : eqD (.str "self") (.str "list") = some (.bool false) := by kernel_rfl
theorem eq_cc : eqD (.str "cases") (.str "cases") = some (.bool true) := by kernel_rfl
theorem eq_sc : eqD (.str "self") (.str "cases") = some (.bool false) := by kernel_rfl
theorem eq_lc : eqD (.str "list") (.str "cases") = some (.bool false) := by kernel_rfl
section
variable {l : Ls}
theorem rng_ok (n : Nat) : ∀ i ∈ rng n, i ∈ rng n := fun _ h => h
theorem lim4 (ok : OkL l) : ((l.rs.length : Nat) : Int) ≤ 100000 := by have := ok.few; omega
theorem F30_eq (ok : OkL l) : F30 [dL l] = some (dI (rng l.rs.length)) := by
  have := lim4 ok
  simp [F30, g30, eRgT, runF, runFZ, startD, gSeq, gIf, gRet, gSet, gPut, gDrop, gNx, gFor, eA, eO, eN, eIf, e1, e2, e3, eTup, eLst, eCall, eM, eSl, oN, aN, aC, tA, tO, tN, tTr, tB1, tTrue, eC, eV, asB, asI, asL, asTT, truD, wipeD, setAllD, m1, mT, lenD, subD, addD_int, leD, ltD_int, gtD, geD, eqD_int, neD_int, gd_lim, dL_1, upTo_eq, gd, LIM, this]
theorem F31_eq (ok : OkL l) {w : Wt} (hw : OkW l w) : F31 [dL l, dW w] = some (.list ((wantsM l w).map dP)) := by
  have go : ∀ m : Ls, OkL m → m.ws = l.ws → ∀ Γ : DE, Γ.length = 4 → eV 0 Γ = some (dL l) → eV 2 Γ = some (dL m) → eLc [3] (iS (eCall F19 (aC (e2 ixE (eV 0) (eC (.int 0))) (aN)))) m1 [3] (tTrue) (eTup (aC (eV 3) (aC (e2 ixE (eCall F21 (aC (eV 2) (aC (eCall F30 (aC (eV 2) (aN))) (aC (eV 3) (aN))))) (eC (.int 0))) (aN)))) Γ
      = some (.list (((casesM l.ws).map fun c => (c, dec m (rng m.rs.length) c)).map dP)) := fun m om ew Γ hl h0 h2 => by
    match Γ, hl, h0, h2 with
    | [a, b, c, d], _, h0, h2 =>
      simp only [eV] at h0 h2
      subst h0
      subst h2
      rw [eLc_all (enc := dI) (q := fun c => dP (c, dec m (rng m.rs.length) c)) (xs := casesM l.ws)]
      · rw [List.map_map]
        rfl
      · simp [iS, runF, runFZ, startD, gSeq, gIf, gRet, gSet, gPut, gDrop, gNx, gFor, eA, eO, eN, eIf, e1, e2, e3, eTup, eLst, eCall, eM, eSl, oN, aN, aC, tA, tO, tN, tTr, tB1, tTrue, eC, eV, asB, asI, asL, asTT, truD, wipeD, setAllD, m1, mT, lenD, subD, addD_int, leD, ltD_int, gtD, geD, eqD_int, neD_int, gd_lim, dL_0, F19_eq _ ok.w]
      · intro c hc
        refine ⟨[dI c], rfl, ?_⟩
        obtain ⟨x, hx⟩ := F21_eq om (rng_ok _) (c := c) (by rw [cases_len ok.w hc, ew])
        simp [runF, runFZ, startD, gSeq, gIf, gRet, gSet, gPut, gDrop, gNx, gFor, eA, eO, eN, eIf, e1, e2, e3, eTup, eLst, eCall, eM, eSl, oN, aN, aC, tA, tO, tN, tTr, tB1, tTrue, eC, eV, asB, asI, asL, asTT, truD, wipeD, setAllD, m1, mT, lenD, subD, addD_int, leD, ltD_int, gtD, geD, eqD_int, neD_int, gd_lim, F30_eq om, hx, ixE_0, gd, LIM, dP]
  cases w with
  | cas P => simp [F31, g31, runF, runFZ, startD, gSeq, gIf, gRet, gSet, gPut, gDrop, gNx, gFor, eA, eO, eN, eIf, e1, e2, e3, eTup, eLst, eCall, eM, eSl, oN, aN, aC, tA, tO, tN, tTr, tB1, tTrue, eC, eV, asB, asI, asL, asTT, truD, wipeD, setAllD, m1, mT, lenD, subD, addD_int, leD, ltD_int, gtD, geD, eqD_int, neD_int, gd_lim, dW, ixE_0, ixE_1, eq_cc, listD, wantsM]
  | self =>
    simp [F31, g31, runF, runFZ, startD, gSeq, gIf, gRet, gSet, gPut, gDrop, gNx, gFor, eA, eO, eN, eIf, e1, e2, e3, eTup, eLst, eCall, eM, eSl, oN, aN, aC, tA, tO, tN, tTr, tB1, tTrue, eC, eV, asB, asI, asL, asTT, truD, wipeD, setAllD, m1, mT, lenD, subD, addD_int, leD, ltD_int, gtD, geD, eqD_int, neD_int, gd_lim, dW, ixE_0, ixE_1, eq_sc, eq_ss]
    rw [go l ok rfl _ rfl rfl rfl]
    rfl
  | lst m =>
    simp [F31, g31, runF, runFZ, startD, gSeq, gIf, gRet, gSet, gPut, gDrop, gNx, gFor, eA, eO, eN, eIf, e1, e2, e3, eTup, eLst, eCall, eM, eSl, oN, aN, aC, tA, tO, tN, tTr, tB1, tTrue, eC, eV, asB, asI, asL, asTT, truD, wipeD, setAllD, m1, mT, lenD, subD, addD_int, leD, ltD_int, gtD, geD, eqD_int, neD_int, gd_lim, dW, ixE_0, ixE_1, eq_lc, eq_ls]
    rw [go m hw.1 hw.2 _ rfl rfl rfl]
    rfl
theorem F65_eq (ok : OkL l) {w : Wt} (hw : OkW l w) : F65 [dL l, dW w] = some (.list ((wantsM l w).map dP)) := by
  have go : ∀ m : Ls, OkL m → m.ws = l.ws → ∀ Γ : DE, Γ.length = 5 → eV 0 Γ = some (dL l) → eV 2 Γ = some (dL m) → eV 3 Γ = some (.list (dIs (rng m.rs.length))) → eLc [4] (iS (eCall F60 (aC (e2 ixE (eV 0) (eC (.int 0))) (aN)))) m1 [4] (tTrue) (eTup (aC (eV 4) (aC (eCall F62 (aC (eV 2) (aC (eV 3) (aC (eV 4) (aN))))) (aN)))) Γ
      = some (.list (((casesM l.ws).map fun c => (c, dec m (rng m.rs.length) c)).map dP)) := fun m om ew Γ hl h0 h2 h3 => by
    match Γ, hl, h0, h2, h3 with
    | [a, b, c, d, e], _, h0, h2, h3 =>
      simp only [eV] at h0 h2 h3
      subst h0
      subst h2
      subst h3
      rw [eLc_all (enc := dI) (q := fun c => dP (c, dec m (rng m.rs.length) c)) (xs := casesM l.ws)]
      · rw [List.map_map]
        rfl
      · simp [iS, runF, runFZ, startD, gSeq, gIf, gRet, gSet, gPut, gDrop, gNx, gFor, eA, eO, eN, eIf, e1, e2, e3, eTup, eLst, eCall, eM, eSl, oN, aN, aC, tA, tO, tN, tTr, tB1, tTrue, eC, eV, asB, asI, asL, asTT, truD, wipeD, setAllD, m1, mT, lenD, subD, addD_int, leD, ltD_int, gtD, geD, eqD_int, neD_int, gd_lim, dL_0, F60_eq _ ok.w]
      · intro c hc
        refine ⟨[dI c], rfl, ?_⟩
        have hx := F62_eq om (rd := .list (dIs (rng m.rs.length))) rfl (rng_ok _) (c := c) (by rw [cases_len ok.w hc, ew])
        simp [runF, runFZ, startD, gSeq, gIf, gRet, gSet, gPut, gDrop, gNx, gFor, eA, eO, eN, eIf, e1, e2, e3, eTup, eLst, eCall, eM, eSl, oN, aN, aC, tA, tO, tN, tTr, tB1, tTrue, eC, eV, asB, asI, asL, asTT, truD, wipeD, setAllD, m1, mT, lenD, subD, addD_int, leD, ltD_int, gtD, geD, eqD_int, neD_int, gd_lim, hx, gd, LIM, dP]
  cases w with
  | cas P => simp [F65, g65, runF, runFZ, startD, gSeq, gIf, gRet, gSet, gPut, gDrop, gNx, gFor, eA, eO, eN, eIf, e1, e2, e3, eTup, eLst, eCall, eM, eSl, oN, aN, aC, tA, tO, tN, tTr, tB1, tTrue, eC, eV, asB, asI, asL, asTT, truD, wipeD, setAllD, m1, mT, lenD, subD, addD_int, leD, ltD_int, gtD, geD, eqD_int, neD_int, gd_lim, dW, ixE_0, ixE_1, eq_cc, listD, wantsM]
  | self =>
    have := lim4 ok
    simp [F65, g65, runF, runFZ, startD, gSeq, gIf, gRet, gSet, gPut, gDrop, gNx, gFor, eA, eO, eN, eIf, e1, e2, e3, eTup, eLst, eCall, eM, eSl, oN, aN, aC, tA, tO, tN, tTr, tB1, tTrue, eC, eV, asB, asI, asL, asTT, truD, wipeD, setAllD, m1, mT, lenD, subD, addD_int, leD, ltD_int, gtD, geD, eqD_int, neD_int, gd_lim, dW, ixE_0, ixE_1, eq_sc, eq_sl, dL_1, eRgL, upTo_eq, gd, LIM, this]
    rw [go l ok rfl _ rfl rfl rfl rfl]
    rfl
  | lst m =>
    have := lim4 hw.1
    simp [F65, g65, runF, runFZ, startD, gSeq, gIf, gRet, gSet, gPut, gDrop, gNx, gFor, eA, eO, eN, eIf, e1, e2, e3, eTup, eLst, eCall, eM, eSl, oN, aN, aC, tA, tO, tN, tTr, tB1, tTrue, eC, eV, asB, asI, asL, asTT, truD, wipeD, setAllD, m1, mT, lenD, subD, addD_int, leD, ltD_int, gtD, geD, eqD_int, neD_int, gd_lim, dW, ixE_0, ixE_1, eq_lc, eq_ll, dL_1, eRgL, upTo_eq, gd, LIM, this]
    rw [go m hw.1 hw.2 _ rfl rfl rfl rfl]
    rfl
end
end G8

/-! M5: the checks of what is wanted; the kinds of cases. -/
namespace G8
open L2 PyProof.Rows PySem.Spec PySem
section
variable {t : DE → Option Bool} {g h : DE → Option Out} {f : DE → Option PyData} {Γ : DE} {R : Option Out} {d : PyData}
theorem seq_no (ht : t Γ = some false) (hh : h Γ = R) : gSeq (gIf t g gNx) h Γ = R := by simp [gSeq, gIf, ht, gNx, hh]
theorem seq_yes (ht : t Γ = some true) (hh : g Γ = some (.rt d)) (e : some (.rt d) = R) : gSeq (gIf t g gNx) h Γ = R := by subst e; simp [gSeq, gIf, ht, hh]
theorem seq_set {i : Nat} (hf : f Γ = some d) (hh : h (Γ.set i (some d)) = R) : gSeq (gSet i f) h Γ = R := by simp [gSeq, gSet, hf, hh]
theorem seq_drop (hf : f Γ = some d) (hh : h Γ = R) : gSeq (gDrop f) h Γ = R := by simp [gSeq, gDrop, hf, hh]
theorem ret_of (hf : f Γ = some d) : gRet f Γ = some (.rt d) := by simp [gRet, hf]
end
theorem ixE_s (xs : List PyData) (n : Nat) : ixE (.tuple xs) (.int ((n : Int) + 1)) = xs[n + 1]? := ixE_n xs (n + 1)
theorem ixE_sm (xs : List PyData) (n : Nat) : ixE (.list xs) (.int ((n : Int) + 1)) = xs[n + 1]? := ixE_m xs (n + 1)
section
variable {l : Ls}
theorem plain_ints (c : List Int) : plainL (dIs c) := fun d h => by
  obtain ⟨i, _, rfl⟩ := List.mem_map.mp h
  rfl
theorem isCase_of (ok : OkL l) {c : List Int} (hc : c ∈ casesM l.ws) : isCase l (dI c) = true := by
  obtain ⟨h1, h2⟩ := (cases_all _ ok.w).2.2.2.2 c hc
  simp only [isCase, List.length_map, h1, decide_true, Bool.true_and, List.all_eq_true]
  rintro ⟨d, w⟩ h
  obtain ⟨k, hk⟩ := List.mem_iff_getElem?.mp h
  rw [List.getElem?_zip_eq_some] at hk
  obtain ⟨k1, k2⟩ := hk
  simp only [List.getElem?_map] at k1
  cases e : c[k]? with
  | none => rw [e] at k1; cases k1
  | some v =>
    rw [e] at k1
    cases k1
    have := h2 (v, w) (List.mem_iff_getElem?.mpr ⟨k, by rw [List.getElem?_zip_eq_some]; exact ⟨e, k2⟩⟩)
    simp [btw, this.1, this.2]
theorem F14_case (ok : OkL l) {c : List Int} (hc : c ∈ casesM l.ws) : F14 [dL l, dI c] = some (.bool true) := by
  rw [F14_eq rfl fun ds e => by cases e; exact plain_ints c, isCase_of ok hc]
theorem find_none {α : Type} (xs : List α) : xs.find? (fun _ => false) = none := by simp
theorem F26_eq (ok : OkL l) {P : List Pr} (hw : OkW l (.cas P)) : F26 [dL l, .tuple (P.map dP)] = some (.bool true) := by
  obtain ⟨h1, h2, h3⟩ := hw
  have hm : ∀ p ∈ P, p.1 ∈ casesM l.ws := fun p hp => h2.subset (List.mem_map_of_mem hp)
  have hlt : (P.map (·.1)).Pairwise fun a b => HT.lexLt a b = true := (cases_all _ ok.w).2.2.2.1.sublist h2
  have i1 : ¬ (12 : Int) < (P.length : Int) := by omega
  have i2 : (P.length : Int) ≤ 100001 := by omega
  refine runF_rt rfl ?_
  unfold g26
  refine seq_no (by simp [runF, runFZ, startD, gSeq, gIf, gRet, gSet, gPut, gDrop, gNx, gFor, eA, eO, eN, eIf, e1, e2, e3, eTup, eLst, eCall, eM, eSl, oN, aN, aC, tA, tO, tN, tTr, tB1, tTrue, eC, eV, asB, asI, asL, asTT, truD, wipeD, setAllD, m1, mT, lenD, subD, addD_int, leD, ltD_int, gtD, geD, eqD_int, neD_int, gd_lim, isi_tup, i1]) ?_
  refine seq_find (fun Γ => ∃ a b, Γ = [some (dL l), some (.tuple (P.map dP)), a, b]) dP (fun _ => false) (fun _ => .none) P (by simp [iS, runF, runFZ, startD, gSeq, gIf, gRet, gSet, gPut, gDrop, gNx, gFor, eA, eO, eN, eIf, e1, e2, e3, eTup, eLst, eCall, eM, eSl, oN, aN, aC, tA, tO, tN, tTr, tB1, tTrue, eC, eV, asB, asI, asL, asTT, truD, wipeD, setAllD, m1, mT, lenD, subD, addD_int, leD, ltD_int, gtD, geD, eqD_int, neD_int, gd_lim]) ⟨_, _, rfl⟩ ?_ ?_ ?_
  · rintro Γ x hx ⟨a, b, rfl⟩
    refine ⟨[dP x], rfl, fun q => (by cases q), fun _ => ⟨[some (dL l), some (.tuple (P.map dP)), some (dP x), b], ?_, _, _, rfl⟩⟩
    simp [runF, runFZ, startD, gSeq, gIf, gRet, gSet, gPut, gDrop, gNx, gFor, eA, eO, eN, eIf, e1, e2, e3, eTup, eLst, eCall, eM, eSl, oN, aN, aC, tA, tO, tN, tTr, tB1, tTrue, eC, eV, asB, asI, asL, asTT, truD, wipeD, setAllD, m1, mT, lenD, subD, addD_int, leD, ltD_int, gtD, geD, eqD_int, neD_int, gd_lim, dP, isi_tup, ixE_0, ixE_1, F14_case ok (hm x hx), F25_int, h3 x hx]
  · rintro e Γ' ⟨a, b, rfl⟩
    refine ret_of ?_
    simp only [eCall, aC, aN]
    rw [eLc_all (enc := fun k : Nat => PyData.int (k : Int)) (q := fun k => .bool true) (xs := List.range (P.length - 1))]
    · simp only [Option.bind_some, allD_of]
      simp
    · simp [iR, runF, runFZ, startD, gSeq, gIf, gRet, gSet, gPut, gDrop, gNx, gFor, eA, eO, eN, eIf, e1, e2, e3, eTup, eLst, eCall, eM, eSl, oN, aN, aC, tA, tO, tN, tTr, tB1, tTrue, eC, eV, asB, asI, asL, asTT, truD, wipeD, setAllD, m1, mT, lenD, subD, addD_int, leD, ltD_int, gtD, geD, eqD_int, neD_int, gd_lim, rgD, LIM]
      omega
    · intro k hk
      have hk0 := List.mem_range.mp hk
      have f1 : k < P.length := by omega
      have f2 : k + 1 < P.length := by omega
      refine ⟨[.int (k : Nat)], rfl, ?_⟩
      have f3 : ((k : Nat) : Int) + 1 = ((k + 1 : Nat) : Int) := by omega
      have := List.pairwise_iff_getElem.mp hlt k (k + 1) (by simpa using f1) (by simpa using f2) (by omega)
      simp only [List.getElem_map] at this
      simp [runF, runFZ, startD, gSeq, gIf, gRet, gSet, gPut, gDrop, gNx, gFor, eA, eO, eN, eIf, e1, e2, e3, eTup, eLst, eCall, eM, eSl, oN, aN, aC, tA, tO, tN, tTr, tB1, tTrue, eC, eV, asB, asI, asL, asTT, truD, wipeD, setAllD, m1, mT, lenD, subD, addD_int, leD, ltD_int, gtD, geD, eqD_int, neD_int, gd_lim, ixE_n, ixE_0, ixE_s, f1, f2, dP, ltD, intsD_map, this]
  · intro x e
    rw [find_none] at e
    cases e
theorem F27_eq (ok : OkL l) {w : Wt} (hw : OkW l w) : F27 [dL l, dW w] = some (.bool true) := by
  cases w with
  | self => simp [F27, g27, runF, runFZ, startD, gSeq, gIf, gRet, gSet, gPut, gDrop, gNx, gFor, eA, eO, eN, eIf, e1, e2, e3, eTup, eLst, eCall, eM, eSl, oN, aN, aC, tA, tO, tN, tTr, tB1, tTrue, eC, eV, asB, asI, asL, asTT, truD, wipeD, setAllD, m1, mT, lenD, subD, addD_int, leD, ltD_int, gtD, geD, eqD_int, neD_int, gd_lim, F28_eq ok, dW, isi_tup, isi_strs, ixE_0, eq_ss]
  | lst m => simp [F27, g27, runF, runFZ, startD, gSeq, gIf, gRet, gSet, gPut, gDrop, gNx, gFor, eA, eO, eN, eIf, e1, e2, e3, eTup, eLst, eCall, eM, eSl, oN, aN, aC, tA, tO, tN, tTr, tB1, tTrue, eC, eV, asB, asI, asL, asTT, truD, wipeD, setAllD, m1, mT, lenD, subD, addD_int, leD, ltD_int, gtD, geD, eqD_int, neD_int, gd_lim, F28_eq ok, dW, isi_tup, isi_strs, ixE_0, ixE_1, eq_ls, eq_ll, F13_eq hw.1, dL_0, hw.2, eqD_T]
  | cas P => simp [F27, g27, runF, runFZ, startD, gSeq, gIf, gRet, gSet, gPut, gDrop, gNx, gFor, eA, eO, eN, eIf, e1, e2, e3, eTup, eLst, eCall, eM, eSl, oN, aN, aC, tA, tO, tN, tTr, tB1, tTrue, eC, eV, asB, asI, asL, asTT, truD, wipeD, setAllD, m1, mT, lenD, subD, addD_int, leD, ltD_int, gtD, geD, eqD_int, neD_int, gd_lim, F28_eq ok, dW, isi_tup, isi_strs, ixE_0, ixE_1, eq_cs, eq_cl, eq_cc, F26_eq ok hw]
theorem F33_eq (ok : OkL l) {w : Wt} (hw : OkW l w) : F33 [dL l, dW w] = some .none := by simp [F33, g33, runF, runFZ, startD, gSeq, gIf, gRet, gSet, gPut, gDrop, gNx, gFor, eA, eO, eN, eIf, e1, e2, e3, eTup, eLst, eCall, eM, eSl, oN, aN, aC, tA, tO, tN, tTr, tB1, tTrue, eC, eV, asB, asI, asL, asTT, truD, wipeD, setAllD, m1, mT, lenD, subD, addD_int, leD, ltD_int, gtD, geD, eqD_int, neD_int, gd_lim, F17_eq ok, F27_eq ok hw]

/-! ### kinds -/
abbrev Kd := List Int × Int × List Int
def mtch (l : Ls) (c : List Int) : List Int := (rng l.rs.length).filter fun i => Mt l i c
def addK (l : Ls) (K : List Kd) (p : Pr) : List Kd := if (K.any fun k => decide (k.1 = mtch l p.1 ∧ k.2.1 = p.2)) = true then K else K ++ [(mtch l p.1, p.2, p.1)]
def kindsM (l : Ls) (P : List Pr) : List Kd := P.foldl (addK l) []
def dK (k : Kd) : PyData := .tuple [dI k.1, .int k.2.1, dI k.2.2]
def dK' (k : Kd) : PyData := .tuple [.list (dIs k.1), .int k.2.1, dI k.2.2]
def keyK (m : List Int) (a : Int) : PyData := .tuple [dI m, .int a]
def dKE (k : Kd) : PyData × PyData := (keyK k.1 k.2.1, dI k.2.2)
def nk (m : List Int) (a : Int) : NestedKey := .tup [.tup (m.map .num), .num a]
theorem keys_ints : ∀ m : List Int, keyDs (dIs m) = some (m.map .num)
  | [] => by simp [keyDs]
  | i :: m => by simp [keyDs, keyD, keys_ints m]
theorem depths_ints : ∀ m : List Int, NestedKey.depthAll (m.map .num) = 0
  | [] => by simp [NestedKey.depthAll]
  | i :: m => by simp [NestedKey.depthAll, NestedKey.depth, depths_ints m]
theorem nk_of (m : List Int) (a : Int) : keyD (keyK m a) = some (nk m a) := by simp [keyK, keyD, keyDs, keys_ints, nk]
theorem tk_of (m : List Int) (a : Int) : tkD (keyK m a) = some (nk m a) := by
  have := nk_of m a
  simp only [keyK, tkD] at this ⊢
  rw [this]
  simp [nk, NestedKey.depth, NestedKey.depthAll, depths_ints]
theorem nk_inj {m m' : List Int} {a a' : Int} : nk m a = nk m' a' ↔ m = m' ∧ a = a' := by
  simp only [nk, NestedKey.tup.injEq, List.cons.injEq, NestedKey.num.injEq, and_true]
  constructor
  · rintro ⟨h, rfl⟩
    exact ⟨(List.map_inj_right fun x y e => by cases e; rfl).mp h, rfl⟩
  · rintro ⟨rfl, rfl⟩
    exact ⟨rfl, rfl⟩
end
end G8

/-! M6: the kinds of cases, as the program and as the law finds them. -/
namespace G8
open L2 PyProof.Rows PySem.Spec PySem
theorem zLoop_pre {α : Type} {m : PyData → Option (List PyData)} {is : List Nat} {b : ZG} (I : List α → DE → Prop) (enc : α → PyData) : ∀ (xs pre : List α) (Γ : DE), I pre Γ →
    (∀ p x q Γ, pre ++ xs = p ++ x :: q → I p Γ → ∃ es, m (enc x) = some es ∧ ∃ Γ', b (setAllD Γ is es) = some (.nx Γ') ∧ I (p ++ [x]) Γ') → ∃ Γ', zLoop m is b (xs.map enc) Γ = some (.nx Γ') ∧ I (pre ++ xs) Γ'
  | [], pre, Γ, hI, _ => ⟨Γ, rfl, by rw [List.append_nil]; exact hI⟩
  | x :: xs, pre, Γ, hI, h => by
    obtain ⟨es, h1, Γ', h2, h3⟩ := h pre x xs Γ rfl hI
    simp only [List.map_cons, zLoop, h1, Option.bind_some, h2]
    obtain ⟨Γ2, h4, h5⟩ := zLoop_pre I enc xs (pre ++ [x]) Γ' h3 fun p y q Γ e hp => h p y q Γ (by rw [← e, List.append_assoc]; rfl) hp
    exact ⟨Γ2, h4, by rw [List.append_assoc] at h5; exact h5⟩
theorem zseq_pre {α : Type} {m : PyData → Option (List PyData)} {is : List Nat} {it : DE → Option (List PyData × DE)} {b g2 : ZG} {Γ Γ1 : DE} {P : Option ZOut → Prop} (I : List α → DE → Prop) (enc : α → PyData) (xs : List α) (hi : it Γ = some (xs.map enc, Γ1)) (hI : I [] Γ1)
    (h : ∀ p x q Γ, xs = p ++ x :: q → I p Γ → ∃ es, m (enc x) = some es ∧ ∃ Γ', b (setAllD Γ is es) = some (.nx Γ') ∧ I (p ++ [x]) Γ')
    (hl : ∀ Γ', I xs Γ' → P (g2 Γ')) : P (zSeq (zFor it m is b) g2 Γ) := by
  obtain ⟨Γ', h1, h2⟩ := zLoop_pre (b := b) I enc xs [] Γ1 hI h
  simp only [zSeq, zFor, zB, hi, Option.bind_some, h1]
  exact hl Γ' h2
theorem zNew_of {os : List Nat} {i : Nat} {f : DE → Option PyData} {g : ZG} {Γ : DE} {d : PyData} {R : Option ZOut} (hl : i < Γ.length) (hf : f (wipeD Γ os) = some d) (h : g (Γ.set i (some d)) = R) : zNew os i f g Γ = R := by
  simp [zNew, hl, hf, h]
theorem tk_raw (m : List Int) (a : Int) : tkD (.tuple [.tuple (List.map PyData.int m), .int a]) = some (nk m a) := tk_of m a
section
variable {l : Ls}
theorem dict_get (m : List Int) (a : Int) : ∀ K : List Kd, dgetD (K.map dKE) (nk m a) = (K.find? fun k => decide (k.1 = m ∧ k.2.1 = a)).map fun k => dI k.2.2
  | [] => rfl
  | k :: K => by
    have ih := dict_get m a K
    simp only [dgetD, List.map_cons, List.find?_cons] at ih ⊢
    have e : keyD (dKE k).1 = some (nk k.1 k.2.1) := nk_of _ _
    rw [e]
    have e2 : decide (some (nk k.1 k.2.1) = some (nk m a)) = decide (k.1 = m ∧ k.2.1 = a) := by
      congr 1
      rw [Option.some.injEq, nk_inj]
    rw [e2]
    cases q : decide (k.1 = m ∧ k.2.1 = a) with
    | true => rfl
    | false => exact ih
theorem dict_none (m : List Int) (a : Int) (K : List Kd) : (dgetD (K.map dKE) (nk m a)).isNone = !(K.any fun k => decide (k.1 = m ∧ k.2.1 = a)) := by
  rw [dict_get]
  cases e : K.find? fun k => decide (k.1 = m ∧ k.2.1 = a) with
  | none =>
    have := List.find?_eq_none.mp e
    have : (K.any fun k => decide (k.1 = m ∧ k.2.1 = a)) = false := by
      rw [List.any_eq_false]
      exact this
    rw [this]
    rfl
  | some k =>
    have h1 := List.find?_some e
    have h2 := List.mem_of_find?_eq_some e
    have : (K.any fun k => decide (k.1 = m ∧ k.2.1 = a)) = true := List.any_eq_true.mpr ⟨k, h2, h1⟩
    rw [this]
    rfl
theorem addK_len (l : Ls) (K : List Kd) (p : Pr) : (addK l K p).length ≤ K.length + 1 := by
  unfold addK
  split
  · omega
  · simp
theorem fold_len (l : Ls) : ∀ (Q : List Pr) (K : List Kd), (Q.foldl (addK l) K).length ≤ K.length + Q.length
  | [], K => by simp
  | p :: Q, K => by
    have h1 := fold_len l Q (addK l K p)
    have h2 := addK_len l K p
    simp only [List.foldl_cons, List.length_cons]
    omega
theorem kinds_len (l : Ls) (P : List Pr) : (kindsM l P).length ≤ P.length := by have := fold_len l P []; simpa [kindsM] using this
theorem kinds_snoc (l : Ls) (P : List Pr) (p : Pr) : kindsM l (P ++ [p]) = addK l (kindsM l P) p := by simp [kindsM, List.foldl_append]
/-- no two kinds alike -/
def Apart (K : List Kd) : Prop := K.Pairwise fun a b => ¬ (a.1 = b.1 ∧ a.2.1 = b.2.1)
theorem addK_apart {K : List Kd} (h : Apart K) (p : Pr) : Apart (addK l K p) := by
  unfold addK
  split
  · exact h
  · rename_i q
    unfold Apart
    rw [List.pairwise_append]
    refine ⟨h, by simp, fun a ha b hb => ?_⟩
    rw [List.mem_singleton] at hb
    subst hb
    intro z
    exact q (List.any_eq_true.mpr ⟨a, ha, decide_eq_true z⟩)
theorem fold_apart : ∀ (Q : List Pr) (K : List Kd), Apart K → Apart (Q.foldl (addK l) K)
  | [], _, h => h
  | p :: Q, K, h => fold_apart Q _ (addK_apart h p)
theorem kinds_apart (P : List Pr) : Apart (kindsM l P) := fold_apart P [] (by simp [Apart])
theorem apart_find : ∀ {K : List Kd}, Apart K → ∀ {k : Kd}, k ∈ K → K.find? (fun j => decide (j.1 = k.1 ∧ j.2.1 = k.2.1)) = some k
  | [], _, k, h => absurd h (by simp)
  | j :: K, hA, k, h => by
    obtain ⟨h1, h2⟩ := List.pairwise_cons.mp hA
    rw [List.find?_cons]
    by_cases q : j.1 = k.1 ∧ j.2.1 = k.2.1
    · rw [decide_eq_true q]
      rcases List.mem_cons.mp h with e | e
      · rw [e]
      · exact absurd q (h1 k e)
    · rw [decide_eq_false q]
      rcases List.mem_cons.mp h with e | e
      · subst e; exact absurd ⟨rfl, rfl⟩ q
      · exact apart_find h2 e
theorem wants_ok (ok : OkL l) {w : Wt} (hw : OkW l w) : ((wantsM l w).map (·.1)).Sublist (casesM l.ws) ∧ (wantsM l w).length ≤ 12 := by
  have hc := (cases_all _ ok.w).1
  cases w with
  | self =>
    refine ⟨?_, by simp only [wantsM, List.length_map]; omega⟩
    simp only [wantsM, List.map_map, Function.comp_def, List.map_id']
    exact List.Sublist.refl _
  | lst m =>
    refine ⟨?_, by simp only [wantsM, List.length_map]; omega⟩
    simp only [wantsM, List.map_map, Function.comp_def, List.map_id']
    exact List.Sublist.refl _
  | cas P => exact ⟨hw.2.1, hw.1⟩
theorem comp_match (ok : OkL l) {c : List Int} (hc : c.length = l.ws.length) {own : List Nat} {f : DE → Option PyData} {t : DE → Option Bool} {i : Nat} {it : DE → Option (List PyData)} {Γ : DE} (hi : it Γ = some (dIs (rng l.rs.length)))
    (ht : ∀ x ∈ rng l.rs.length, t (setAllD (wipeD Γ own) [i] [.int x]) = some (Mt l x c)) (hf : ∀ x : Int, f (setAllD (wipeD Γ own) [i] [.int x]) = some (.int x)) : eLc own it m1 [i] t f Γ = some (.list (dIs (mtch l c))) := by
  rw [eLc_map (enc := PyData.int) (p := fun x => Mt l x c) (q := PyData.int) (xs := rng l.rs.length) hi fun x hx => ⟨[.int x], rfl, ht x hx, fun _ => hf x⟩]
  rfl
theorem F34_eq (ok : OkL l) {w : Wt} (hw : OkW l w) : F34 [dL l, dW w] = some (.list ((kindsM l (wantsM l w)).map dK)) := by
  obtain ⟨w1, w2⟩ := wants_ok ok hw
  have lm := lim4 ok
  refine runFZ_rt (Γ := []) rfl ?_
  unfold g34
  refine zNew_of (d := .dict []) (by simp [startD]) rfl ?_
  refine zseq_pre (P := fun o => o = some (ZOut.rt (PyData.list (List.map dK (kindsM l (wantsM l w)))) [])) (Γ1 := [some (dL l), some (dW w), some (.dict []), none, none, none, none]) (fun pre Γ => ∃ a b c d, Γ = [some (dL l), some (dW w), some (.dict ((kindsM l pre).map dKE)), a, b, c, d]) dP (wantsM l w) (by simp [zIP, iS, runF, runFZ, startD, gSeq, gIf, gRet, gSet, gPut, gDrop, gNx, gFor, eA, eO, eN, eIf, e1, e2, e3, eTup, eLst, eCall, eM, eSl, oN, aN, aC, tA, tO, tN, tTr, tB1, tTrue, eC, eV, asB, asI, asL, asTT, truD, wipeD, setAllD, m1, mT, lenD, subD, addD_int, leD, ltD_int, gtD, geD, eqD_int, neD_int, gd_lim, F31_eq ok hw]) ⟨none, none, none, none, by simp [startD, kindsM]⟩ ?_ ?_
  · rintro pre p post Γ e ⟨a, b, c, d, rfl⟩
    have hm : p ∈ wantsM l w := by rw [e]; simp
    have hc : p.1.length = l.ws.length := cases_len ok.w (w1.subset (List.mem_map_of_mem hm))
    have hlen : (kindsM l pre).length < 100000 := by
      have h1 := kinds_len l pre
      have h2 : (wantsM l w).length = pre.length + (post.length + 1) := by rw [e]; simp
      omega
    refine ⟨[dI p.1, .int p.2], rfl, ?_⟩
    have hcomp := comp_match (l := l) ok hc (own := [6]) (i := 6) (it := iR (eCall lenD (aC (e2 ixE (eV 0) (eC (.int 1))) (aN)))) (t := tTr (eCall F20 (aC (eV 0) (aC (eV 6) (aC (eV 3) (aN)))))) (f := eV 6)
      (Γ := [some (dL l), some (dW w), none, some (dI p.1), some (.int p.2), c, d]) (by simp [iR, runF, runFZ, startD, gSeq, gIf, gRet, gSet, gPut, gDrop, gNx, gFor, eA, eO, eN, eIf, e1, e2, e3, eTup, eLst, eCall, eM, eSl, oN, aN, aC, tA, tO, tN, tTr, tB1, tTrue, eC, eV, asB, asI, asL, asTT, truD, wipeD, setAllD, m1, mT, lenD, subD, addD_int, leD, ltD_int, gtD, geD, eqD_int, neD_int, gd_lim, dL_1, lm, rgD_eq, LIM]) (fun x hx => by
        obtain ⟨q1, q2⟩ := mem_rng.mp hx
        simp [runF, runFZ, startD, gSeq, gIf, gRet, gSet, gPut, gDrop, gNx, gFor, eA, eO, eN, eIf, e1, e2, e3, eTup, eLst, eCall, eM, eSl, oN, aN, aC, tA, tO, tN, tTr, tB1, tTrue, eC, eV, asB, asI, asL, asTT, truD, wipeD, setAllD, m1, mT, lenD, subD, addD_int, leD, ltD_int, gtD, geD, eqD_int, neD_int, gd_lim, F20_eq ok q1 q2 hc]) (fun x => by simp [runF, runFZ, startD, gSeq, gIf, gRet, gSet, gPut, gDrop, gNx, gFor, eA, eO, eN, eIf, e1, e2, e3, eTup, eLst, eCall, eM, eSl, oN, aN, aC, tA, tO, tN, tTr, tB1, tTrue, eC, eV, asB, asI, asL, asTT, truD, wipeD, setAllD, m1, mT, lenD, subD, addD_int, leD, ltD_int, gtD, geD, eqD_int, neD_int, gd_lim])
    have hdn := dict_none (mtch l p.1) p.2 (kindsM l pre)
    have hfin : ∀ K : List Kd, K = addK l (kindsM l pre) p → kindsM l (pre ++ [p]) = K := fun K h => by rw [kinds_snoc, h]
    by_cases q : ((kindsM l pre).any fun k => decide (k.1 = mtch l p.1 ∧ k.2.1 = p.2)) = true
    · have hsome : (dgetD ((kindsM l pre).map dKE) (nk (mtch l p.1) p.2)).isSome = true := by
        rw [q] at hdn
        cases z : dgetD ((kindsM l pre).map dKE) (nk (mtch l p.1) p.2) with
        | none => rw [z] at hdn; cases hdn
        | some _ => rfl
      refine ⟨[some (dL l), some (dW w), some (.dict ((kindsM l pre).map dKE)), some (dI p.1), some (.int p.2), some (dI (mtch l p.1)), d], ?_, _, _, _, _, by rw [hfin (kindsM l pre) (by unfold addK; rw [if_pos q])]⟩
      have hne : ¬ dgetD ((kindsM l pre).map dKE) (nk (mtch l p.1) p.2) = none := fun z => by rw [z] at hsome; cases hsome
      simp [runF, runFZ, startD, gSeq, gIf, gRet, gSet, gPut, gDrop, gNx, gFor, eA, eO, eN, eIf, e1, e2, e3, eTup, eLst, eCall, eM, eSl, oN, aN, aC, tA, tO, tN, tTr, tB1, tTrue, eC, eV, asB, asI, asL, asTT, truD, wipeD, setAllD, m1, mT, lenD, subD, addD_int, leD, ltD_int, gtD, geD, eqD_int, neD_int, gd_lim, zSeq, zSet, zP, zF, zB, zIf, zTP, zTA, zT2, z2, zDset, zNx, zRel, zL, zRet, zApp, zIP, zTup, zLst, zC, zN, zSetIx, zPut, isLi, scal, hcomp, tupleD, gd, LIM, notInE, tk_raw, hne]
    · have hnone : dgetD ((kindsM l pre).map dKE) (nk (mtch l p.1) p.2) = none := by
        rw [Bool.eq_false_iff.mpr q] at hdn
        exact Option.isNone_iff_eq_none.mp hdn
      refine ⟨[some (dL l), some (dW w), some (.dict ((kindsM l pre ++ [(mtch l p.1, p.2, p.1)]).map dKE)), some (dI p.1), some (.int p.2), some (dI (mtch l p.1)), d], ?_, _, _, _, _, by rw [hfin (kindsM l pre ++ [(mtch l p.1, p.2, p.1)]) (by unfold addK; rw [if_neg q])]⟩
      simp [runF, runFZ, startD, gSeq, gIf, gRet, gSet, gPut, gDrop, gNx, gFor, eA, eO, eN, eIf, e1, e2, e3, eTup, eLst, eCall, eM, eSl, oN, aN, aC, tA, tO, tN, tTr, tB1, tTrue, eC, eV, asB, asI, asL, asTT, truD, wipeD, setAllD, m1, mT, lenD, subD, addD_int, leD, ltD_int, gtD, geD, eqD_int, neD_int, gd_lim, zSeq, zSet, zP, zF, zB, zIf, zTP, zTA, zT2, z2, zDset, zNx, zRel, zL, zRet, zApp, zIP, zTup, zLst, zC, zN, zSetIx, zPut, isLi, scal, hcomp, tupleD, gd, LIM, notInE, tk_raw, hnone, hlen, dKE, keyK]
  · rintro Γ' ⟨a, b, c, d, rfl⟩
    have hA := kinds_apart (l := l) (wantsM l w)
    have : eLc [5, 4] (iK (eV 2)) (mT 2) [5, 4] (tTrue) (eTup (aC (eV 5) (aC (eV 4) (aC (e2 ixE (eV 2) (eTup (aC (eV 5) (aC (eV 4) (aN))))) (aN))))) [some (dL l), some (dW w), some (.dict ((kindsM l (wantsM l w)).map dKE)), a, b, c, d] = some (.list ((kindsM l (wantsM l w)).map dK)) := by
      refine eLc_all (enc := fun k : Kd => keyK k.1 k.2.1) (xs := kindsM l (wantsM l w)) ?_ fun k hk => ?_
      · simp [iK, asK, eV, dKE, Function.comp_def]
      · refine ⟨[dI k.1, .int k.2.1], rfl, ?_⟩
        have := dict_get k.1 k.2.1 (kindsM l (wantsM l w))
        rw [apart_find hA hk] at this
        simp [runF, runFZ, startD, gSeq, gIf, gRet, gSet, gPut, gDrop, gNx, gFor, eA, eO, eN, eIf, e1, e2, e3, eTup, eLst, eCall, eM, eSl, oN, aN, aC, tA, tO, tN, tTr, tB1, tTrue, eC, eV, asB, asI, asL, asTT, truD, wipeD, setAllD, m1, mT, lenD, subD, addD_int, leD, ltD_int, gtD, geD, eqD_int, neD_int, gd_lim, ixE, gd, LIM, tk_raw, this, dK]
    simp [runF, runFZ, startD, gSeq, gIf, gRet, gSet, gPut, gDrop, gNx, gFor, eA, eO, eN, eIf, e1, e2, e3, eTup, eLst, eCall, eM, eSl, oN, aN, aC, tA, tO, tN, tTr, tB1, tTrue, eC, eV, asB, asI, asL, asTT, truD, wipeD, setAllD, m1, mT, lenD, subD, addD_int, leD, ltD_int, gtD, geD, eqD_int, neD_int, gd_lim, zSeq, zSet, zP, zF, zB, zIf, zTP, zTA, zT2, z2, zDset, zNx, zRel, zL, zRet, zApp, zIP, zTup, zLst, zC, zN, zSetIx, zPut, isLi, scal, this]
/-! ### the law's kinds -/
def pairK (m : List Int) (a : Int) : PyData := .tuple [.list (dIs m), .int a]
theorem eqv_pair (m m' : List Int) (a a' : Int) : PyData.eqv (pairK m a) (pairK m' a') = decide (m = m' ∧ a = a') := by
  simp only [pairK, PyData.eqv, PyData.eqvAll, eqv_ints, Bool.and_true, Bool.decide_and]
  rfl
theorem lay_pairs : ∀ K : List (List Int × Int), PyData.canLayAll0 (K.map fun k => pairK k.1 k.2) = true ∧ PyData.depthAll (K.map fun k => pairK k.1 k.2) ≤ 2
  | [] => by simp [PyData.canLayAll0, PyData.depthAll]
  | k :: K => by
    obtain ⟨h1, h2⟩ := lay_pairs K
    simp only [List.map_cons, PyData.canLayAll0, PyData.depthAll, h1, Bool.and_true]
    constructor
    · simp [pairK, PyData.canLay0, PyData.canLayAll0, lay_ints]
    · have : PyData.depth (pairK k.1 k.2) = 2 := by simp [pairK, PyData.depth, PyData.depthAll, depth_ints]
      rw [this]
      omega
theorem shp_pairs (K : List (List Int × Int)) : SeqAt.shaped (.list (K.map fun k => pairK k.1 k.2)) = true := by
  obtain ⟨h1, h2⟩ := lay_pairs K
  unfold SeqAt.shaped
  rw [show PyData.canLay0 (.list (K.map fun k => pairK k.1 k.2)) = true by simp only [PyData.canLay0, h1], show PyData.depth (.list (K.map fun k => pairK k.1 k.2)) = PyData.depthAll (K.map fun k => pairK k.1 k.2) + 1 by simp only [PyData.depth], Bool.true_and]
  exact decide_eq_true (by omega)
theorem shp_pair (m : List Int) (a : Int) : SeqAt.shaped (pairK m a) = true := by simp [SeqAt.shaped, pairK, PyData.canLay0, PyData.canLayAll0, lay_ints, PyData.depth, PyData.depthAll, depth_ints]
theorem mem_pairs (m : List Int) (a : Int) (K : List Kd) : notInE (pairK m a) (.list (K.map fun k => pairK k.1 k.2.1)) = some (.bool (!(K.any fun k => decide (k.1 = m ∧ k.2.1 = a)))) := by
  have e : (K.map fun k => pairK k.1 k.2.1) = (K.map fun k => (k.1, k.2.1)).map fun k => pairK k.1 k.2 := by rw [List.map_map]; rfl
  have sh := shp_pairs (K.map fun k => (k.1, k.2.1))
  rw [← e] at sh
  simp only [notInE, notInD, memD, shp_pair, sh, Bool.and_self, if_true, Option.bind_some, List.any_map, Function.comp_def, eqv_pair]
theorem F66_eq (ok : OkL l) {P : List Pr} (w1 : (P.map (·.1)).Sublist (casesM l.ws)) (w2 : P.length ≤ 12) : F66 [dL l, .list (P.map dP)] = some (.list ((kindsM l P).map dK')) := by
  have lm := lim4 ok
  refine runFZ_rt (Γ := []) rfl ?_
  unfold g66
  refine zNew_of (d := .list []) (by simp [startD]) (by simp [runF, runFZ, startD, gSeq, gIf, gRet, gSet, gPut, gDrop, gNx, gFor, eA, eO, eN, eIf, e1, e2, e3, eTup, eLst, eCall, eM, eSl, oN, aN, aC, tA, tO, tN, tTr, tB1, tTrue, eC, eV, asB, asI, asL, asTT, truD, wipeD, setAllD, m1, mT, lenD, subD, addD_int, leD, ltD_int, gtD, geD, eqD_int, neD_int, gd_lim, gd, LIM]) ?_
  refine zseq_pre (P := fun o => o = some (ZOut.rt (PyData.list ((kindsM l P).map dK')) [])) (Γ1 := [some (dL l), some (.list (P.map dP)), some (.list []), none, none, none, none, none, none, none]) (fun pre Γ => ∃ a b c d e f g, Γ = [some (dL l), some (.list (P.map dP)), some (.list ((kindsM l pre).map dK')), a, b, c, d, e, f, g]) dP P (by simp [zIP, iS, runF, runFZ, startD, gSeq, gIf, gRet, gSet, gPut, gDrop, gNx, gFor, eA, eO, eN, eIf, e1, e2, e3, eTup, eLst, eCall, eM, eSl, oN, aN, aC, tA, tO, tN, tTr, tB1, tTrue, eC, eV, asB, asI, asL, asTT, truD, wipeD, setAllD, m1, mT, lenD, subD, addD_int, leD, ltD_int, gtD, geD, eqD_int, neD_int, gd_lim]) ⟨none, none, none, none, none, none, none, by simp [kindsM]⟩ ?_ ?_
  · rintro pre p post Γ e0 ⟨a, b, c, d, e, f, g, rfl⟩
    have hm : p ∈ P := by rw [e0]; simp
    have hc : p.1.length = l.ws.length := cases_len ok.w (w1.subset (List.mem_map_of_mem hm))
    have hlen : (kindsM l pre).length < 100000 := by
      have h1 := kinds_len l pre
      have h2 : P.length = pre.length + (post.length + 1) := by rw [e0]; simp
      omega
    refine ⟨[dI p.1, .int p.2], rfl, ?_⟩
    have hcomp := comp_match (l := l) ok hc (own := [6]) (i := 6) (it := iR (eCall lenD (aC (e2 ixE (eV 0) (eC (.int 1))) (aN)))) (t := tTr (eCall F61 (aC (eV 0) (aC (eV 6) (aC (eV 3) (aN)))))) (f := eV 6)
      (Γ := [some (dL l), some (.list (P.map dP)), none, some (dI p.1), some (.int p.2), c, d, e, f, g]) (by simp [iR, runF, runFZ, startD, gSeq, gIf, gRet, gSet, gPut, gDrop, gNx, gFor, eA, eO, eN, eIf, e1, e2, e3, eTup, eLst, eCall, eM, eSl, oN, aN, aC, tA, tO, tN, tTr, tB1, tTrue, eC, eV, asB, asI, asL, asTT, truD, wipeD, setAllD, m1, mT, lenD, subD, addD_int, leD, ltD_int, gtD, geD, eqD_int, neD_int, gd_lim, dL_1, lm, rgD_eq, LIM]) (fun x hx => by
        obtain ⟨q1, q2⟩ := mem_rng.mp hx
        simp [runF, runFZ, startD, gSeq, gIf, gRet, gSet, gPut, gDrop, gNx, gFor, eA, eO, eN, eIf, e1, e2, e3, eTup, eLst, eCall, eM, eSl, oN, aN, aC, tA, tO, tN, tTr, tB1, tTrue, eC, eV, asB, asI, asL, asTT, truD, wipeD, setAllD, m1, mT, lenD, subD, addD_int, leD, ltD_int, gtD, geD, eqD_int, neD_int, gd_lim, F61_eq ok q1 q2 hc]) (fun x => by simp [runF, runFZ, startD, gSeq, gIf, gRet, gSet, gPut, gDrop, gNx, gFor, eA, eO, eN, eIf, e1, e2, e3, eTup, eLst, eCall, eM, eSl, oN, aN, aC, tA, tO, tN, tTr, tB1, tTrue, eC, eV, asB, asI, asL, asTT, truD, wipeD, setAllD, m1, mT, lenD, subD, addD_int, leD, ltD_int, gtD, geD, eqD_int, neD_int, gd_lim])
    have hfin : ∀ K : List Kd, K = addK l (kindsM l pre) p → kindsM l (pre ++ [p]) = K := fun K h => by rw [kinds_snoc, h]
    have hlist : eLc [7, 8, 9] (iS (eV 2)) (mT 3) [7, 8, 9] (tTrue) (eTup (aC (eV 7) (aC (eV 8) (aN)))) [some (dL l), some (.list (P.map dP)), some (.list ((kindsM l pre).map dK')), some (dI p.1), some (.int p.2), some (.list (dIs (mtch l p.1))), d, e, f, g] = some (.list ((kindsM l pre).map fun k => pairK k.1 k.2.1)) := by
      refine eLc_all (enc := dK') (xs := kindsM l pre) (by simp [iS, runF, runFZ, startD, gSeq, gIf, gRet, gSet, gPut, gDrop, gNx, gFor, eA, eO, eN, eIf, e1, e2, e3, eTup, eLst, eCall, eM, eSl, oN, aN, aC, tA, tO, tN, tTr, tB1, tTrue, eC, eV, asB, asI, asL, asTT, truD, wipeD, setAllD, m1, mT, lenD, subD, addD_int, leD, ltD_int, gtD, geD, eqD_int, neD_int, gd_lim]) fun k hk => ⟨[.list (dIs k.1), .int k.2.1, dI k.2.2], rfl, ?_⟩
      simp [runF, runFZ, startD, gSeq, gIf, gRet, gSet, gPut, gDrop, gNx, gFor, eA, eO, eN, eIf, e1, e2, e3, eTup, eLst, eCall, eM, eSl, oN, aN, aC, tA, tO, tN, tTr, tB1, tTrue, eC, eV, asB, asI, asL, asTT, truD, wipeD, setAllD, m1, mT, lenD, subD, addD_int, leD, ltD_int, gtD, geD, eqD_int, neD_int, gd_lim, gd, LIM, pairK]
    have hmem := mem_pairs (mtch l p.1) p.2 (kindsM l pre)
    rw [pairK] at hmem
    by_cases q : ((kindsM l pre).any fun k => decide (k.1 = mtch l p.1 ∧ k.2.1 = p.2)) = true
    · rw [q] at hmem
      refine ⟨[some (dL l), some (.list (P.map dP)), some (.list ((kindsM l pre).map dK')), some (dI p.1), some (.int p.2), some (.list (dIs (mtch l p.1))), d, e, f, g], ?_, _, _, _, _, _, _, _, by rw [hfin (kindsM l pre) (by unfold addK; rw [if_pos q])]⟩
      simp [runF, runFZ, startD, gSeq, gIf, gRet, gSet, gPut, gDrop, gNx, gFor, eA, eO, eN, eIf, e1, e2, e3, eTup, eLst, eCall, eM, eSl, oN, aN, aC, tA, tO, tN, tTr, tB1, tTrue, eC, eV, asB, asI, asL, asTT, truD, wipeD, setAllD, m1, mT, lenD, subD, addD_int, leD, ltD_int, gtD, geD, eqD_int, neD_int, gd_lim, zSeq, zSet, zP, zF, zB, zIf, zTP, zTA, zT2, z2, zDset, zNx, zRel, zL, zRet, zApp, zIP, zTup, zLst, zC, zN, zSetIx, zPut, isLi, scal, hcomp, hlist, gd, LIM, hmem]
    · rw [Bool.eq_false_iff.mpr q] at hmem
      refine ⟨[some (dL l), some (.list (P.map dP)), some (.list ((kindsM l pre ++ [(mtch l p.1, p.2, p.1)]).map dK')), some (dI p.1), some (.int p.2), some (.list (dIs (mtch l p.1))), d, e, f, g], ?_, _, _, _, _, _, _, _, by rw [hfin (kindsM l pre ++ [(mtch l p.1, p.2, p.1)]) (by unfold addK; rw [if_neg q])]⟩
      simp [runF, runFZ, startD, gSeq, gIf, gRet, gSet, gPut, gDrop, gNx, gFor, eA, eO, eN, eIf, e1, e2, e3, eTup, eLst, eCall, eM, eSl, oN, aN, aC, tA, tO, tN, tTr, tB1, tTrue, eC, eV, asB, asI, asL, asTT, truD, wipeD, setAllD, m1, mT, lenD, subD, addD_int, leD, ltD_int, gtD, geD, eqD_int, neD_int, gd_lim, zSeq, zSet, zP, zF, zB, zIf, zTP, zTA, zT2, z2, zDset, zNx, zRel, zL, zRet, zApp, zIP, zTup, zLst, zC, zN, zSetIx, zPut, isLi, scal, hcomp, hlist, gd, LIM, hmem, hlen, dK']
  · rintro Γ' ⟨a, b, c, d, e, f, g, rfl⟩
    simp [runF, runFZ, startD, gSeq, gIf, gRet, gSet, gPut, gDrop, gNx, gFor, eA, eO, eN, eIf, e1, e2, e3, eTup, eLst, eCall, eM, eSl, oN, aN, aC, tA, tO, tN, tTr, tB1, tTrue, eC, eV, asB, asI, asL, asTT, truD, wipeD, setAllD, m1, mT, lenD, subD, addD_int, leD, ltD_int, gtD, geD, eqD_int, neD_int, gd_lim, zSeq, zSet, zP, zF, zB, zIf, zTP, zTA, zT2, z2, zDset, zNx, zRel, zL, zRet, zApp, zIP, zTup, zLst, zC, zN, zSetIx, zPut, isLi, scal]
theorem F42_eq (ok : OkL l) {w : Wt} (hw : OkW l w) : F42 [dL l, dW w] = some (.list ((kindsM l (wantsM l w)).map dK)) := by simp [F42, g42, runF, runFZ, startD, gSeq, gIf, gRet, gSet, gPut, gDrop, gNx, gFor, eA, eO, eN, eIf, e1, e2, e3, eTup, eLst, eCall, eM, eSl, oN, aN, aC, tA, tO, tN, tTr, tB1, tTrue, eC, eV, asB, asI, asL, asTT, truD, wipeD, setAllD, m1, mT, lenD, subD, addD_int, leD, ltD_int, gtD, geD, eqD_int, neD_int, gd_lim, F33_eq ok hw, F34_eq ok hw]
end
end G8

/-! M7: rows judged, rules placed. -/
namespace G8
open L2 PyProof.Rows PySem.Spec PySem
def actBy (l : Ls) (row m : List Int) : Int := ((row.find? fun i => decide (i ∈ m)).map (act l)).getD l.df
def wrongM (l : Ls) (K : List Kd) (row : List Int) : Option (List Int) := (K.find? fun k => !decide (actBy l row k.1 = k.2.1)).map fun k => k.2.2
def barP (l : Ls) (P : List Int) (x : Int) (k : Kd) : Bool := decide (x ∈ k.1) && (!decide (k.2.1 = act l x) && !(P.any fun y => decide (y ∈ k.1)))
def barM (l : Ls) (K : List Kd) (P : List Int) (x : Int) : Option (List Int) := (K.find? (barP l P x)).map fun k => k.2.2
def dO : Option (List Int) → PyData
  | none => .none
  | some c => dI c
theorem isD_O (o : Option (List Int)) : isD (dO o) .none = some (.bool o.isNone) := by cases o <;> rfl
theorem isntD_O (o : Option (List Int)) : isntD (dO o) .none = some (.bool (!o.isNone)) := by cases o <;> rfl
theorem inE_T (i : Int) (m : List Int) : inE (.int i) (.tuple (List.map PyData.int m)) = some (.bool (decide (i ∈ m))) := by simp only [inE, inD, memD_T, Option.bind_some]
theorem inE_L (i : Int) (m : List Int) : inE (.int i) (.list (List.map PyData.int m)) = some (.bool (decide (i ∈ m))) := by simp only [inE, inD, memD_L, Option.bind_some]
theorem notInE_T (i : Int) (m : List Int) : notInE (.int i) (.tuple (List.map PyData.int m)) = some (.bool (!decide (i ∈ m))) := by simp only [notInE, notInD, memD_T, Option.bind_some]
theorem notInE_L (i : Int) (m : List Int) : notInE (.int i) (.list (List.map PyData.int m)) = some (.bool (!decide (i ∈ m))) := by simp only [notInE, notInD, memD_L, Option.bind_some]
section
variable {l : Ls}
theorem F35_eq {row m : List Int} (hr : ∀ i ∈ row, i ∈ rng l.rs.length) : F35 [dL l, dI row, dI m] = some (.int (actBy l row m)) := by
  refine runF_rt rfl ?_
  unfold g35
  refine seq_find (fun Γ => ∃ a, Γ = [some (dL l), some (dI row), some (dI m), a]) PyData.int (fun i => decide (i ∈ m)) (fun i => .int (act l i)) row (by simp [iS, runF, runFZ, startD, gSeq, gIf, gRet, gSet, gPut, gDrop, gNx, gFor, eA, eO, eN, eIf, e1, e2, e3, eTup, eLst, eCall, eM, eSl, oN, aN, aC, tA, tO, tN, tTr, tB1, tTrue, eC, eV, asB, asI, asL, asTT, truD, wipeD, setAllD, m1, mT, lenD, subD, addD_int, leD, ltD_int, gtD, geD, eqD_int, neD_int, gd_lim]) ⟨_, rfl⟩ ?_ ?_ ?_
  · rintro Γ x hx ⟨a, rfl⟩
    obtain ⟨q1, q2⟩ := mem_rng.mp (hr x hx)
    refine ⟨[.int x], rfl, fun q => ?_, fun q => ⟨[some (dL l), some (dI row), some (dI m), some (.int x)], ?_, _, rfl⟩⟩
    · simp [runF, runFZ, startD, gSeq, gIf, gRet, gSet, gPut, gDrop, gNx, gFor, eA, eO, eN, eIf, e1, e2, e3, eTup, eLst, eCall, eM, eSl, oN, aN, aC, tA, tO, tN, tTr, tB1, tTrue, eC, eV, asB, asI, asL, asTT, truD, wipeD, setAllD, m1, mT, lenD, subD, addD_int, leD, ltD_int, gtD, geD, eqD_int, neD_int, gd_lim, inE_T, of_decide_eq_true q, dL_1, rule_ix q1 q2, dRule_0]
    · simp [runF, runFZ, startD, gSeq, gIf, gRet, gSet, gPut, gDrop, gNx, gFor, eA, eO, eN, eIf, e1, e2, e3, eTup, eLst, eCall, eM, eSl, oN, aN, aC, tA, tO, tN, tTr, tB1, tTrue, eC, eV, asB, asI, asL, asTT, truD, wipeD, setAllD, m1, mT, lenD, subD, addD_int, leD, ltD_int, gtD, geD, eqD_int, neD_int, gd_lim, inE_T, of_decide_eq_false q]
  · rintro e Γ' ⟨a, rfl⟩
    simp only [ret_of (show e2 ixE (eV 0) (eC (.int 2)) [some (dL l), some (dI row), some (dI m), a] = some (.int l.df) by simp [runF, runFZ, startD, gSeq, gIf, gRet, gSet, gPut, gDrop, gNx, gFor, eA, eO, eN, eIf, e1, e2, e3, eTup, eLst, eCall, eM, eSl, oN, aN, aC, tA, tO, tN, tTr, tB1, tTrue, eC, eV, asB, asI, asL, asTT, truD, wipeD, setAllD, m1, mT, lenD, subD, addD_int, leD, ltD_int, gtD, geD, eqD_int, neD_int, gd_lim, dL_2]), actBy, e]
    rfl
  · intro x e
    simp only [actBy, e]
    rfl
theorem F36_eq {K : List Kd} {row : List Int} (hr : ∀ i ∈ row, i ∈ rng l.rs.length) : F36 [dL l, .list (K.map dK), dI row] = some (dO (wrongM l K row)) := by
  refine runF_rt rfl ?_
  unfold g36
  refine seq_find (fun Γ => ∃ a b c, Γ = [some (dL l), some (.list (K.map dK)), some (dI row), a, b, c]) dK (fun k => !decide (actBy l row k.1 = k.2.1)) (fun k => dI k.2.2) K (by simp [iS, runF, runFZ, startD, gSeq, gIf, gRet, gSet, gPut, gDrop, gNx, gFor, eA, eO, eN, eIf, e1, e2, e3, eTup, eLst, eCall, eM, eSl, oN, aN, aC, tA, tO, tN, tTr, tB1, tTrue, eC, eV, asB, asI, asL, asTT, truD, wipeD, setAllD, m1, mT, lenD, subD, addD_int, leD, ltD_int, gtD, geD, eqD_int, neD_int, gd_lim]) ⟨_, _, _, rfl⟩ ?_ ?_ ?_
  · rintro Γ k hk ⟨a, b, c, rfl⟩
    refine ⟨[dI k.1, .int k.2.1, dI k.2.2], rfl, fun q => ?_, fun q => ⟨[some (dL l), some (.list (K.map dK)), some (dI row), some (dI k.1), some (.int k.2.1), some (dI k.2.2)], ?_, _, _, _, rfl⟩⟩
    · have q' : ¬ actBy l row k.1 = k.2.1 := by simpa using q
      simp [runF, runFZ, startD, gSeq, gIf, gRet, gSet, gPut, gDrop, gNx, gFor, eA, eO, eN, eIf, e1, e2, e3, eTup, eLst, eCall, eM, eSl, oN, aN, aC, tA, tO, tN, tTr, tB1, tTrue, eC, eV, asB, asI, asL, asTT, truD, wipeD, setAllD, m1, mT, lenD, subD, addD_int, leD, ltD_int, gtD, geD, eqD_int, neD_int, gd_lim, F35_eq hr, q']
    · have q' : actBy l row k.1 = k.2.1 := by simpa using q
      simp [runF, runFZ, startD, gSeq, gIf, gRet, gSet, gPut, gDrop, gNx, gFor, eA, eO, eN, eIf, e1, e2, e3, eTup, eLst, eCall, eM, eSl, oN, aN, aC, tA, tO, tN, tTr, tB1, tTrue, eC, eV, asB, asI, asL, asTT, truD, wipeD, setAllD, m1, mT, lenD, subD, addD_int, leD, ltD_int, gtD, geD, eqD_int, neD_int, gd_lim, F35_eq hr, q']
  · rintro e Γ' ⟨a, b, c, rfl⟩
    simp only [wrongM, e]
    rfl
  · intro k e
    simp only [wrongM, e]
    rfl
theorem F67_eq {K : List Kd} {row : List Int} (hr : ∀ i ∈ row, i ∈ rng l.rs.length) : F67 [dL l, .list (K.map dK'), dI row] = some (dO (wrongM l K row)) := by
  refine runF_rt rfl ?_
  unfold g67
  refine seq_find (fun Γ => ∃ a b c d e f, Γ = [some (dL l), some (.list (K.map dK')), some (dI row), a, b, c, d, e, f]) dK' (fun k => !decide (actBy l row k.1 = k.2.1)) (fun k => dI k.2.2) K (by simp [iS, runF, runFZ, startD, gSeq, gIf, gRet, gSet, gPut, gDrop, gNx, gFor, eA, eO, eN, eIf, e1, e2, e3, eTup, eLst, eCall, eM, eSl, oN, aN, aC, tA, tO, tN, tTr, tB1, tTrue, eC, eV, asB, asI, asL, asTT, truD, wipeD, setAllD, m1, mT, lenD, subD, addD_int, leD, ltD_int, gtD, geD, eqD_int, neD_int, gd_lim]) ⟨_, _, _, _, _, _, rfl⟩ ?_ ?_ ?_
  · rintro Γ k hk ⟨a, b, c, d, e, f, rfl⟩
    have hcomp : eLc [8] (iS (eV 2)) m1 [8] (tB1 (e2 inE (eV 8) (eV 3))) (eV 8) [some (dL l), some (.list (K.map dK')), some (dI row), some (.list (dIs k.1)), some (.int k.2.1), some (dI k.2.2), d, e, f] = some (.list (dIs (row.filter fun i => decide (i ∈ k.1)))) := by
      refine eLc_map (enc := PyData.int) (xs := row) (by simp [iS, runF, runFZ, startD, gSeq, gIf, gRet, gSet, gPut, gDrop, gNx, gFor, eA, eO, eN, eIf, e1, e2, e3, eTup, eLst, eCall, eM, eSl, oN, aN, aC, tA, tO, tN, tTr, tB1, tTrue, eC, eV, asB, asI, asL, asTT, truD, wipeD, setAllD, m1, mT, lenD, subD, addD_int, leD, ltD_int, gtD, geD, eqD_int, neD_int, gd_lim]) fun x hx => ⟨[.int x], rfl, ?_, fun _ => ?_⟩
      · simp [runF, runFZ, startD, gSeq, gIf, gRet, gSet, gPut, gDrop, gNx, gFor, eA, eO, eN, eIf, e1, e2, e3, eTup, eLst, eCall, eM, eSl, oN, aN, aC, tA, tO, tN, tTr, tB1, tTrue, eC, eV, asB, asI, asL, asTT, truD, wipeD, setAllD, m1, mT, lenD, subD, addD_int, leD, ltD_int, gtD, geD, eqD_int, neD_int, gd_lim, inE_L]
      · simp [runF, runFZ, startD, gSeq, gIf, gRet, gSet, gPut, gDrop, gNx, gFor, eA, eO, eN, eIf, e1, e2, e3, eTup, eLst, eCall, eM, eSl, oN, aN, aC, tA, tO, tN, tTr, tB1, tTrue, eC, eV, asB, asI, asL, asTT, truD, wipeD, setAllD, m1, mT, lenD, subD, addD_int, leD, ltD_int, gtD, geD, eqD_int, neD_int, gd_lim]
    have hact : ∀ Γ', gSeq (gSet 7 (e2 ixE (eV 0) (eC (.int 2)))) (gSeq (gIf (tTr (eV 6)) (gSet 7 (e2 ixE (e2 ixE (e2 ixE (eV 0) (eC (.int 1))) (e2 ixE (eV 6) (eC (.int 0)))) (eC (.int 0)))) (gNx)) Γ') [some (dL l), some (.list (K.map dK')), some (dI row), some (.list (dIs k.1)), some (.int k.2.1), some (dI k.2.2), some (.list (dIs (row.filter fun i => decide (i ∈ k.1)))), e, f]
        = Γ' [some (dL l), some (.list (K.map dK')), some (dI row), some (.list (dIs k.1)), some (.int k.2.1), some (dI k.2.2), some (.list (dIs (row.filter fun i => decide (i ∈ k.1)))), some (.int (actBy l row k.1)), f] := by
      intro Γ'
      have hh := List.head?_filter (p := fun i => decide (i ∈ k.1)) (l := row)
      cases z : row.filter fun i => decide (i ∈ k.1) with
      | nil =>
        rw [z] at hh
        have : actBy l row k.1 = l.df := by simp only [actBy, ← hh]; rfl
        simp [runF, runFZ, startD, gSeq, gIf, gRet, gSet, gPut, gDrop, gNx, gFor, eA, eO, eN, eIf, e1, e2, e3, eTup, eLst, eCall, eM, eSl, oN, aN, aC, tA, tO, tN, tTr, tB1, tTrue, eC, eV, asB, asI, asL, asTT, truD, wipeD, setAllD, m1, mT, lenD, subD, addD_int, leD, ltD_int, gtD, geD, eqD_int, neD_int, gd_lim, dL_2, this]
      | cons x xs =>
        rw [z] at hh
        have hx : x ∈ row := (List.mem_filter.mp (show x ∈ row.filter (fun i => decide (i ∈ k.1)) by rw [z]; simp)).1
        obtain ⟨q1, q2⟩ := mem_rng.mp (hr x hx)
        have : actBy l row k.1 = act l x := by simp only [actBy, ← hh]; rfl
        simp [runF, runFZ, startD, gSeq, gIf, gRet, gSet, gPut, gDrop, gNx, gFor, eA, eO, eN, eIf, e1, e2, e3, eTup, eLst, eCall, eM, eSl, oN, aN, aC, tA, tO, tN, tTr, tB1, tTrue, eC, eV, asB, asI, asL, asTT, truD, wipeD, setAllD, m1, mT, lenD, subD, addD_int, leD, ltD_int, gtD, geD, eqD_int, neD_int, gd_lim, dL_2, dL_1, ixE_L, rule_ix q1 q2, dRule_0, this]
    refine ⟨[.list (dIs k.1), .int k.2.1, dI k.2.2], rfl, fun q => ?_, fun q => ⟨[some (dL l), some (.list (K.map dK')), some (dI row), some (.list (dIs k.1)), some (.int k.2.1), some (dI k.2.2), some (.list (dIs (row.filter fun i => decide (i ∈ k.1)))), some (.int (actBy l row k.1)), f], ?_, _, _, _, _, _, _, rfl⟩⟩
    · have q' : ¬ actBy l row k.1 = k.2.1 := by simpa using q
      refine seq_set hcomp ?_
      refine (hact _).trans ?_
      simp [runF, runFZ, startD, gSeq, gIf, gRet, gSet, gPut, gDrop, gNx, gFor, eA, eO, eN, eIf, e1, e2, e3, eTup, eLst, eCall, eM, eSl, oN, aN, aC, tA, tO, tN, tTr, tB1, tTrue, eC, eV, asB, asI, asL, asTT, truD, wipeD, setAllD, m1, mT, lenD, subD, addD_int, leD, ltD_int, gtD, geD, eqD_int, neD_int, gd_lim, q']
    · have q' : actBy l row k.1 = k.2.1 := by simpa using q
      refine seq_set hcomp ?_
      refine (hact _).trans ?_
      simp [runF, runFZ, startD, gSeq, gIf, gRet, gSet, gPut, gDrop, gNx, gFor, eA, eO, eN, eIf, e1, e2, e3, eTup, eLst, eCall, eM, eSl, oN, aN, aC, tA, tO, tN, tTr, tB1, tTrue, eC, eV, asB, asI, asL, asTT, truD, wipeD, setAllD, m1, mT, lenD, subD, addD_int, leD, ltD_int, gtD, geD, eqD_int, neD_int, gd_lim, q']
  · rintro e Γ' ⟨a, b, c, _, _, _, rfl⟩
    simp only [wrongM, e]
    rfl
  · intro k e
    simp only [wrongM, e]
    rfl
theorem F37_eq {K : List Kd} {P : List Int} {x : Int} (q1 : 0 ≤ x) (q2 : x < l.rs.length) : F37 [dL l, .list (K.map dK), .list (dIs P), .int x] = some (dO (barM l K P x)) := by
  refine runF_rt rfl ?_
  unfold g37
  refine seq_find (fun Γ => ∃ a b c d, Γ = [some (dL l), some (.list (K.map dK)), some (.list (dIs P)), some (.int x), a, b, c, d]) dK (barP l P x) (fun k => dI k.2.2) K (by simp [iS, runF, runFZ, startD, gSeq, gIf, gRet, gSet, gPut, gDrop, gNx, gFor, eA, eO, eN, eIf, e1, e2, e3, eTup, eLst, eCall, eM, eSl, oN, aN, aC, tA, tO, tN, tTr, tB1, tTrue, eC, eV, asB, asI, asL, asTT, truD, wipeD, setAllD, m1, mT, lenD, subD, addD_int, leD, ltD_int, gtD, geD, eqD_int, neD_int, gd_lim]) ⟨_, _, _, _, rfl⟩ ?_ ?_ ?_
  · rintro Γ k hk ⟨a, b, c, d, rfl⟩
    have hcomp : eLc [7] (iS (eV 2)) m1 [7] (tTrue) (e2 inE (eV 7) (eV 4)) [some (dL l), some (.list (K.map dK)), some (.list (dIs P)), some (.int x), some (dI k.1), some (.int k.2.1), some (dI k.2.2), d] = some (.list (P.map fun y => .bool (decide (y ∈ k.1)))) := by
      refine eLc_all (enc := PyData.int) (xs := P) (by simp [iS, runF, runFZ, startD, gSeq, gIf, gRet, gSet, gPut, gDrop, gNx, gFor, eA, eO, eN, eIf, e1, e2, e3, eTup, eLst, eCall, eM, eSl, oN, aN, aC, tA, tO, tN, tTr, tB1, tTrue, eC, eV, asB, asI, asL, asTT, truD, wipeD, setAllD, m1, mT, lenD, subD, addD_int, leD, ltD_int, gtD, geD, eqD_int, neD_int, gd_lim]) fun y hy => ⟨[.int y], rfl, ?_⟩
      simp [runF, runFZ, startD, gSeq, gIf, gRet, gSet, gPut, gDrop, gNx, gFor, eA, eO, eN, eIf, e1, e2, e3, eTup, eLst, eCall, eM, eSl, oN, aN, aC, tA, tO, tN, tTr, tB1, tTrue, eC, eV, asB, asI, asL, asTT, truD, wipeD, setAllD, m1, mT, lenD, subD, addD_int, leD, ltD_int, gtD, geD, eqD_int, neD_int, gd_lim, inE_T]
    refine ⟨[dI k.1, .int k.2.1, dI k.2.2], rfl, fun q => ?_, fun q => ⟨[some (dL l), some (.list (K.map dK)), some (.list (dIs P)), some (.int x), some (dI k.1), some (.int k.2.1), some (dI k.2.2), d], ?_, _, _, _, _, rfl⟩⟩
    · simp only [barP, Bool.and_eq_true, decide_eq_true_eq, Bool.not_eq_true', decide_eq_false_iff_not] at q
      obtain ⟨p1, p2, p3⟩ := q
      simp [runF, runFZ, startD, gSeq, gIf, gRet, gSet, gPut, gDrop, gNx, gFor, eA, eO, eN, eIf, e1, e2, e3, eTup, eLst, eCall, eM, eSl, oN, aN, aC, tA, tO, tN, tTr, tB1, tTrue, eC, eV, asB, asI, asL, asTT, truD, wipeD, setAllD, m1, mT, lenD, subD, addD_int, leD, ltD_int, gtD, geD, eqD_int, neD_int, gd_lim, inE_T, p1, p2, dL_1, rule_ix q1 q2, dRule_0, hcomp, anyD_of, p3]
    · by_cases p1 : x ∈ k.1
      · by_cases p2 : k.2.1 = act l x
        · simp [runF, runFZ, startD, gSeq, gIf, gRet, gSet, gPut, gDrop, gNx, gFor, eA, eO, eN, eIf, e1, e2, e3, eTup, eLst, eCall, eM, eSl, oN, aN, aC, tA, tO, tN, tTr, tB1, tTrue, eC, eV, asB, asI, asL, asTT, truD, wipeD, setAllD, m1, mT, lenD, subD, addD_int, leD, ltD_int, gtD, geD, eqD_int, neD_int, gd_lim, inE_T, p1, p2, dL_1, rule_ix q1 q2, dRule_0]
        · have p3 : (P.any fun y => decide (y ∈ k.1)) = true := by
            simp only [barP, p1, p2, decide_true, decide_false, Bool.not_false, Bool.true_and, Bool.not_eq_false'] at q
            exact q
          simp [runF, runFZ, startD, gSeq, gIf, gRet, gSet, gPut, gDrop, gNx, gFor, eA, eO, eN, eIf, e1, e2, e3, eTup, eLst, eCall, eM, eSl, oN, aN, aC, tA, tO, tN, tTr, tB1, tTrue, eC, eV, asB, asI, asL, asTT, truD, wipeD, setAllD, m1, mT, lenD, subD, addD_int, leD, ltD_int, gtD, geD, eqD_int, neD_int, gd_lim, inE_T, p1, p2, dL_1, rule_ix q1 q2, dRule_0, hcomp, anyD_of, p3]
      · simp [runF, runFZ, startD, gSeq, gIf, gRet, gSet, gPut, gDrop, gNx, gFor, eA, eO, eN, eIf, e1, e2, e3, eTup, eLst, eCall, eM, eSl, oN, aN, aC, tA, tO, tN, tTr, tB1, tTrue, eC, eV, asB, asI, asL, asTT, truD, wipeD, setAllD, m1, mT, lenD, subD, addD_int, leD, ltD_int, gtD, geD, eqD_int, neD_int, gd_lim, inE_T, p1]
  · rintro e Γ' ⟨a, b, c, d, rfl⟩
    simp only [barM, e]
    rfl
  · intro k e
    simp only [barM, e]
    rfl

/-! ### placing -/
def freshA (l : Ls) (F av : List Int) : List Int := (rng l.rs.length).filter fun x => !decide (x ∈ F) && !decide (x ∈ av)
def freshM (l : Ls) (K : List Kd) (F av : List Int) : List Int := (freshA l F av).filter fun x => (barM l K F x).isNone
structure Plc (l : Ls) (K : List Kd) (av base F : List Int) : Prop where
  pre : ∃ t, F = base ++ t
  nd : F.Nodup
  sub : ∀ x ∈ F, x ∈ rng l.rs.length
  ok : ∀ p x q, F = p ++ x :: q → base.length ≤ p.length → barM l K p x = none ∧ x ∉ av
  done : ∀ x ∈ rng l.rs.length, x ∉ F → x ∉ av → barM l K F x ≠ none
def wBody : DE → Option Out := (gSeq (gSet 6 (eLc [7] (iR (eCall lenD (aC (e2 ixE (eV 0) (eC (.int 1))) (aN)))) m1 [7] (tA (tB1 (e2 notInE (eV 7) (eV 4))) (tB1 (e2 notInE (eV 7) (eV 3)))) (eV 7))) (gSeq (gSet 6 (eLc [7] (iS (eV 6)) m1 [7] (tB1 (e2 isD (eCall F37 (aC (eV 0) (aC (eV 1) (aC (eV 4) (aC (eV 7) (aN)))))) (eC .none))) (eV 7))) (gSeq (gSet 4 (e2 addD (eV 4) (eSl (eV 6) none (some (eC (.int 1)))))) (gSet 5 (e2 neD (eV 6) (eLst (aN)))))))
theorem cut_one (B : List Int) : slD (.list (dIs B)) none (some 1) = some (.list (dIs (B.take 1))) := by
  simp only [slD, cutD, HT.sIx_none]
  have : HT.sIx (dIs B).length (dIs B).length (some 1) = min 1 (dIs B).length := HT.sIx_nat _ _ 1
  rw [this]
  simp
theorem turn_eq (ok : OkL l) {K : List Kd} {F av pl : List Int} {pd : PyData} {b6 b7 more : Option PyData} (hF : F.length ≤ 100) : wBody [some (dL l), some (.list (K.map dK)), some pd, some (dI av), some (.list (dIs F)), more, b6, b7] =
    some (.nx [some (dL l), some (.list (K.map dK)), some pd, some (dI av), some (.list (dIs (F ++ (freshM l K F av).take 1))), some (.bool (!decide (freshM l K F av = []))), some (.list (dIs (freshM l K F av))), b7]) := by
  have lm := lim4 ok
  have h1 : eLc [7] (iR (eCall lenD (aC (e2 ixE (eV 0) (eC (.int 1))) (aN)))) m1 [7] (tA (tB1 (e2 notInE (eV 7) (eV 4))) (tB1 (e2 notInE (eV 7) (eV 3)))) (eV 7) [some (dL l), some (.list (K.map dK)), some pd, some (dI av), some (.list (dIs F)), more, b6, b7] = some (.list (dIs (freshA l F av))) := by
    refine eLc_map (enc := PyData.int) (xs := rng l.rs.length) (by simp [iR, runF, runFZ, startD, gSeq, gIf, gRet, gSet, gPut, gDrop, gNx, gFor, eA, eO, eN, eIf, e1, e2, e3, eTup, eLst, eCall, eM, eSl, oN, aN, aC, tA, tO, tN, tTr, tB1, tTrue, eC, eV, asB, asI, asL, asTT, truD, wipeD, setAllD, m1, mT, lenD, subD, addD_int, leD, ltD_int, gtD, geD, eqD_int, neD_int, gd_lim, dL_1, lm, rgD_eq, LIM]) fun x hx => ⟨[.int x], rfl, ?_, fun _ => by simp [runF, runFZ, startD, gSeq, gIf, gRet, gSet, gPut, gDrop, gNx, gFor, eA, eO, eN, eIf, e1, e2, e3, eTup, eLst, eCall, eM, eSl, oN, aN, aC, tA, tO, tN, tTr, tB1, tTrue, eC, eV, asB, asI, asL, asTT, truD, wipeD, setAllD, m1, mT, lenD, subD, addD_int, leD, ltD_int, gtD, geD, eqD_int, neD_int, gd_lim]⟩
    by_cases q : x ∈ F <;> simp [runF, runFZ, startD, gSeq, gIf, gRet, gSet, gPut, gDrop, gNx, gFor, eA, eO, eN, eIf, e1, e2, e3, eTup, eLst, eCall, eM, eSl, oN, aN, aC, tA, tO, tN, tTr, tB1, tTrue, eC, eV, asB, asI, asL, asTT, truD, wipeD, setAllD, m1, mT, lenD, subD, addD_int, leD, ltD_int, gtD, geD, eqD_int, neD_int, gd_lim, notInE_L, notInE_T, q]
  have h2 : eLc [7] (iS (eV 6)) m1 [7] (tB1 (e2 isD (eCall F37 (aC (eV 0) (aC (eV 1) (aC (eV 4) (aC (eV 7) (aN)))))) (eC .none))) (eV 7) [some (dL l), some (.list (K.map dK)), some pd, some (dI av), some (.list (dIs F)), more, some (.list (dIs (freshA l F av))), b7] = some (.list (dIs (freshM l K F av))) := by
    refine eLc_map (enc := PyData.int) (xs := freshA l F av) (by simp [iS, runF, runFZ, startD, gSeq, gIf, gRet, gSet, gPut, gDrop, gNx, gFor, eA, eO, eN, eIf, e1, e2, e3, eTup, eLst, eCall, eM, eSl, oN, aN, aC, tA, tO, tN, tTr, tB1, tTrue, eC, eV, asB, asI, asL, asTT, truD, wipeD, setAllD, m1, mT, lenD, subD, addD_int, leD, ltD_int, gtD, geD, eqD_int, neD_int, gd_lim]) fun x hx => ⟨[.int x], rfl, ?_, fun _ => by simp [runF, runFZ, startD, gSeq, gIf, gRet, gSet, gPut, gDrop, gNx, gFor, eA, eO, eN, eIf, e1, e2, e3, eTup, eLst, eCall, eM, eSl, oN, aN, aC, tA, tO, tN, tTr, tB1, tTrue, eC, eV, asB, asI, asL, asTT, truD, wipeD, setAllD, m1, mT, lenD, subD, addD_int, leD, ltD_int, gtD, geD, eqD_int, neD_int, gd_lim]⟩
    obtain ⟨q1, q2⟩ := mem_rng.mp (List.mem_filter.mp hx).1
    simp [runF, runFZ, startD, gSeq, gIf, gRet, gSet, gPut, gDrop, gNx, gFor, eA, eO, eN, eIf, e1, e2, e3, eTup, eLst, eCall, eM, eSl, oN, aN, aC, tA, tO, tN, tTr, tB1, tTrue, eC, eV, asB, asI, asL, asTT, truD, wipeD, setAllD, m1, mT, lenD, subD, addD_int, leD, ltD_int, gtD, geD, eqD_int, neD_int, gd_lim, F37_eq q1 q2, isD_O]
  have h4 := neD_L (freshM l K F av) []
  have h5 : F.length + ((freshM l K F av).take 1).length ≤ 100000 := by
    have : ((freshM l K F av).take 1).length ≤ 1 := by rw [List.length_take]; omega
    omega
  refine seq_set h1 ?_
  refine seq_set h2 ?_
  refine seq_set (d := .list (dIs (F ++ (freshM l K F av).take 1))) ?_ ?_
  · have h3 := cut_one (freshM l K F av)
    simp only [runF, runFZ, startD, gSeq, gIf, gRet, gSet, gPut, gDrop, gNx, gFor, eA, eO, eN, eIf, e1, e2, e3, eTup, eLst, eCall, eM, eSl, oN, aN, aC, tA, tO, tN, tTr, tB1, tTrue, eC, eV, asB, asI, asL, asTT, truD, wipeD, setAllD, m1, mT, lenD, subD, addD_int, leD, ltD_int, gtD, geD, eqD_int, neD_int, gd_lim, Option.bind_some, List.set_cons_succ, List.set_cons_zero, h3, addD]
    rw [show decide ((dIs F).length + (dIs ((freshM l K F av).take 1)).length ≤ LIM) = true from decide_eq_true (by simpa [LIM] using h5)]
    simp [gd]
  · simp only [gSet, runF, runFZ, startD, gSeq, gIf, gRet, gSet, gPut, gDrop, gNx, gFor, eA, eO, eN, eIf, e1, e2, e3, eTup, eLst, eCall, eM, eSl, oN, aN, aC, tA, tO, tN, tTr, tB1, tTrue, eC, eV, asB, asI, asL, asTT, truD, wipeD, setAllD, m1, mT, lenD, subD, addD_int, leD, ltD_int, gtD, geD, eqD_int, neD_int, gd_lim, Option.bind_some, List.set_cons_succ, List.set_cons_zero, List.length_nil, Nat.zero_le, decide_true, gd, if_true]
    have h4' : neD (.list (dIs (freshM l K F av))) (.list []) = some (.bool (!decide (freshM l K F av = []))) := h4
    rw [h4']
    rfl
theorem nodup_le : ∀ {A B : List Int}, A.Nodup → (∀ x ∈ A, x ∈ B) → A.length ≤ B.length
  | [], B, _, _ => Nat.zero_le _
  | x :: A, B, hn, hs => by
    obtain ⟨h1, h2⟩ := List.nodup_cons.mp hn
    have hx := hs x List.mem_cons_self
    have := nodup_le (A := A) (B := B.erase x) h2 fun y hy => (List.mem_erase_of_ne fun e => h1 (by rw [← e]; exact hy)).mpr (hs y (List.mem_cons_of_mem _ hy))
    rw [List.length_erase_of_mem hx] at this
    have := List.length_pos_of_mem hx
    simp only [List.length_cons]
    omega
theorem rng_len (n : Nat) : (rng n).length = n := by simp [rng]
theorem while_eq (ok : OkL l) {K : List Kd} {av : List Int} {pd : PyData} {b7 : Option PyData} : ∀ (k fuel : Nat) (F : List Int) (b6 : Option PyData), l.rs.length ≤ F.length + k → F.Nodup → (∀ x ∈ F, x ∈ rng l.rs.length) → k + 2 ≤ fuel →
    ∃ G b6', Plc l K av F G ∧ whileL (tTr (eV 5)) wBody fuel [some (dL l), some (.list (K.map dK)), some pd, some (dI av), some (.list (dIs F)), some (.bool true), b6, b7] =
      some (.nx [some (dL l), some (.list (K.map dK)), some pd, some (dI av), some (.list (dIs G)), some (.bool false), b6', b7]) := by
  intro k
  induction k with
  | zero =>
    intro fuel F b6 hk hn hs hf
    have hF : F.length ≤ 100 := by
      have := nodup_le hn hs
      rw [rng_len] at this
      have := ok.few
      omega
    have hfr : freshM l K F av = [] := by
      cases z : freshM l K F av with
      | nil => rfl
      | cons x xs =>
        have hx : x ∈ freshM l K F av := by rw [z]; simp
        have h1 := (List.mem_filter.mp hx).1
        have h2 := List.mem_filter.mp h1
        have h3 : x ∉ F := by have := h2.2; simp at this; exact this.1
        have := nodup_le (A := x :: F) (List.nodup_cons.mpr ⟨h3, hn⟩) fun y hy => (List.mem_cons.mp hy).elim (fun e => e ▸ h2.1) (hs y)
        rw [rng_len] at this
        simp only [List.length_cons] at this
        omega
    match fuel, hf with
    | fuel + 2, _ =>
      refine ⟨F, some (.list (dIs (freshM l K F av))), ⟨⟨[], by simp⟩, hn, hs, fun p x q e hp => ?_, fun x hx h1 h2 h3 => ?_⟩, ?_⟩
      · exfalso
        have := congrArg List.length e
        simp at this
        omega
      · have : x ∈ freshM l K F av := List.mem_filter.mpr ⟨List.mem_filter.mpr ⟨hx, by simp [h1, h2]⟩, by rw [h3]; rfl⟩
        rw [hfr] at this
        cases this
      · have ht := turn_eq (pd := pd) (b6 := b6) (b7 := b7) (more := some (.bool true)) ok (K := K) (F := F) (av := av) (pl := []) hF
        simp only [whileL, ht, Option.bind_some]
        rw [hfr]
        simp [runF, runFZ, startD, gSeq, gIf, gRet, gSet, gPut, gDrop, gNx, gFor, eA, eO, eN, eIf, e1, e2, e3, eTup, eLst, eCall, eM, eSl, oN, aN, aC, tA, tO, tN, tTr, tB1, tTrue, eC, eV, asB, asI, asL, asTT, truD, wipeD, setAllD, m1, mT, lenD, subD, addD_int, leD, ltD_int, gtD, geD, eqD_int, neD_int, gd_lim]
  | succ k ih =>
    intro fuel F b6 hk hn hs hf
    have hF : F.length ≤ 100 := by
      have := nodup_le hn hs
      rw [rng_len] at this
      have := ok.few
      omega
    have ht := turn_eq (pd := pd) (b6 := b6) (b7 := b7) (more := some (.bool true)) ok (K := K) (F := F) (av := av) (pl := []) hF
    match fuel, hf with
    | fuel + 2, hf =>
      cases z : freshM l K F av with
      | nil =>
        refine ⟨F, some (.list (dIs [])), ⟨⟨[], by simp⟩, hn, hs, fun p x q e hp => ?_, fun x hx h1 h2 h3 => ?_⟩, ?_⟩
        · exfalso
          have := congrArg List.length e
          simp at this
          omega
        · have : x ∈ freshM l K F av := List.mem_filter.mpr ⟨List.mem_filter.mpr ⟨hx, by simp [h1, h2]⟩, by rw [h3]; rfl⟩
          rw [z] at this
          cases this
        · rw [z] at ht
          simp only [whileL, ht, Option.bind_some]
          simp [runF, runFZ, startD, gSeq, gIf, gRet, gSet, gPut, gDrop, gNx, gFor, eA, eO, eN, eIf, e1, e2, e3, eTup, eLst, eCall, eM, eSl, oN, aN, aC, tA, tO, tN, tTr, tB1, tTrue, eC, eV, asB, asI, asL, asTT, truD, wipeD, setAllD, m1, mT, lenD, subD, addD_int, leD, ltD_int, gtD, geD, eqD_int, neD_int, gd_lim]
      | cons x xs =>
        have hx : x ∈ freshM l K F av := by rw [z]; simp
        obtain ⟨h1, h5⟩ := List.mem_filter.mp hx
        have h2 := List.mem_filter.mp h1
        have h34 : x ∉ F ∧ x ∉ av := by have := h2.2; simp at this; exact this
        have hb : barM l K F x = none := Option.isNone_iff_eq_none.mp h5
        have hn' : (F ++ [x]).Nodup := List.nodup_append.mpr ⟨hn, by simp, fun a ha b hb => by rw [List.mem_singleton] at hb; subst hb; exact fun e => h34.1 (e ▸ ha)⟩
        obtain ⟨G, b6', P, hw⟩ := ih (fuel + 1) (F ++ [x]) (some (.list (dIs (x :: xs)))) (by simp only [List.length_append, List.length_singleton]; omega) hn' (fun y hy => (List.mem_append.mp hy).elim (hs y) fun e => by rw [List.mem_singleton] at e; subst e; exact h2.1) (by omega)
        obtain ⟨t, e⟩ := P.pre
        refine ⟨G, b6', ⟨⟨x :: t, by rw [e]; simp⟩, P.nd, P.sub, fun p y q e' hp => ?_, P.done⟩, ?_⟩
        · by_cases hl : (F ++ [x]).length ≤ p.length
          · exact P.ok p y q e' hl
          · have hl' : p.length = F.length := by simp only [List.length_append, List.length_singleton] at hl; omega
            rw [e, List.append_assoc] at e'
            obtain ⟨e1, e2⟩ := List.append_inj e' hl'.symm
            subst e1
            cases e2
            exact ⟨hb, h34.2⟩
        · rw [z] at ht
          rw [whileL]
          simp only [ht, Option.bind_some]
          have : tTr (eV 5) [some (dL l), some (.list (K.map dK)), some pd, some (dI av), some (.list (dIs F)), some (.bool true), b6, b7] = some true := by simp [runF, runFZ, startD, gSeq, gIf, gRet, gSet, gPut, gDrop, gNx, gFor, eA, eO, eN, eIf, e1, e2, e3, eTup, eLst, eCall, eM, eSl, oN, aN, aC, tA, tO, tN, tTr, tB1, tTrue, eC, eV, asB, asI, asL, asTT, truD, wipeD, setAllD, m1, mT, lenD, subD, addD_int, leD, ltD_int, gtD, geD, eqD_int, neD_int, gd_lim]
          rw [this]
          simp only [Option.bind_some, if_true]
          exact hw
theorem F40_eq (ok : OkL l) {K : List Kd} {av F : List Int} (hn : F.Nodup) (hs : ∀ x ∈ F, x ∈ rng l.rs.length) : ∃ G, Plc l K av F G ∧ F40 [dL l, .list (K.map dK), .list (dIs F), dI av] = some (.list (dIs G)) := by
  obtain ⟨G, b6', P, hw⟩ := while_eq (K := K) (av := av) (pd := .list (dIs F)) (b7 := none) ok l.rs.length 20 F none (by omega) hn hs (by have := ok.few; omega)
  refine ⟨G, P, runF_rt rfl ?_⟩
  unfold g40
  refine seq_set (d := .list (dIs F)) (by simp [runF, runFZ, startD, gSeq, gIf, gRet, gSet, gPut, gDrop, gNx, gFor, eA, eO, eN, eIf, e1, e2, e3, eTup, eLst, eCall, eM, eSl, oN, aN, aC, tA, tO, tN, tTr, tB1, tTrue, eC, eV, asB, asI, asL, asTT, truD, wipeD, setAllD, m1, mT, lenD, subD, addD_int, leD, ltD_int, gtD, geD, eqD_int, neD_int, gd_lim, listD]) ?_
  refine seq_set (d := .bool true) (by simp [runF, runFZ, startD, gSeq, gIf, gRet, gSet, gPut, gDrop, gNx, gFor, eA, eO, eN, eIf, e1, e2, e3, eTup, eLst, eCall, eM, eSl, oN, aN, aC, tA, tO, tN, tTr, tB1, tTrue, eC, eV, asB, asI, asL, asTT, truD, wipeD, setAllD, m1, mT, lenD, subD, addD_int, leD, ltD_int, gtD, geD, eqD_int, neD_int, gd_lim]) ?_
  have : (List.set (List.set (startD N40 [dL l, .list (K.map dK), .list (dIs F), dI av]) 4 (some (.list (dIs F)))) 5 (some (.bool true))) = [some (dL l), some (.list (K.map dK)), some (.list (dIs F)), some (dI av), some (.list (dIs F)), some (.bool true), none, none] := by simp [startD]
  rw [this]
  unfold wBody at hw
  simp only [gSeq, hw, Option.bind_some]
  simp [runF, runFZ, startD, gSeq, gIf, gRet, gSet, gPut, gDrop, gNx, gFor, eA, eO, eN, eIf, e1, e2, e3, eTup, eLst, eCall, eM, eSl, oN, aN, aC, tA, tO, tN, tTr, tB1, tTrue, eC, eV, asB, asI, asL, asTT, truD, wipeD, setAllD, m1, mT, lenD, subD, addD_int, leD, ltD_int, gtD, geD, eqD_int, neD_int, gd_lim]
end
end G8

/-! M8: a right row, where there is one; the evidence that is given. -/
namespace G8
open L2 PyProof.Rows PySem.Spec PySem
section
variable {l : Ls}
theorem find_split {p : Int → Bool} : ∀ {r : List Int} {x : Int}, r.find? p = some x → ∃ a b, r = a ++ x :: b ∧ p x = true ∧ ∀ y ∈ a, p y = false
  | [], _, h => by cases h
  | y :: r, x, h => by
    rw [List.find?_cons] at h
    cases e : p y with
    | true =>
      rw [e] at h
      cases h
      exact ⟨[], r, rfl, e, fun y hy => by cases hy⟩
    | false =>
      rw [e] at h
      obtain ⟨a, b, h1, h2, h3⟩ := find_split h
      exact ⟨y :: a, b, by rw [h1]; rfl, h2, fun z hz => (List.mem_cons.mp hz).elim (fun e' => e' ▸ e) (h3 z)⟩
theorem find_at {p : Int → Bool} {a b : List Int} {x : Int} (ha : ∀ y ∈ a, p y = false) (hx : p x = true) : (a ++ x :: b).find? p = some x := by
  rw [List.find?_append, List.find?_eq_none.mpr fun y hy => by rw [ha y hy]; exact Bool.false_ne_true]
  simp [List.find?_cons, hx]
theorem wrong_none {K : List Kd} {r : List Int} : wrongM l K r = none ↔ ∀ k ∈ K, actBy l r k.1 = k.2.1 := by
  simp only [wrongM, Option.map_eq_none_iff, List.find?_eq_none]
  exact ⟨fun h k hk => by simpa using h k hk, fun h k hk => by simpa using h k hk⟩
theorem bar_none {K : List Kd} {P : List Int} {x : Int} : barM l K P x = none ↔ ∀ k ∈ K, barP l P x k = false := by
  simp only [barM, Option.map_eq_none_iff, List.find?_eq_none]
  exact ⟨fun h k hk => by simpa using h k hk, fun h k hk => by simpa using h k hk⟩
/-- a row has all the numbers -/
theorem row_all {n : Nat} {r : List Int} (h : r ∈ rowsM n) : ∀ x ∈ rng n, x ∈ r := fun x hx => by
  obtain ⟨h1, h2, h3⟩ := rowsM_mem.mp h
  by_cases q : x ∈ r
  · exact q
  · have := nodup_le (A := x :: r) (B := rng n) (List.nodup_cons.mpr ⟨q, h2⟩) fun y hy => (List.mem_cons.mp hy).elim (fun e => e ▸ hx) (h3 y)
    rw [rng_len] at this
    simp only [List.length_cons] at this
    omega
theorem row_of {n : Nat} {F : List Int} (hn : F.Nodup) (hs : ∀ x ∈ F, x ∈ rng n) (ha : ∀ x ∈ rng n, x ∈ F) : F ∈ rowsM n := by
  refine rowsM_mem.mpr ⟨?_, hn, hs⟩
  have h1 := nodup_le hn hs
  have hr : (rng n).Nodup := by
    unfold rng
    rw [List.nodup_iff_pairwise_ne, List.pairwise_map]
    refine List.Pairwise.imp ?_ List.nodup_range
    intro a b hab e
    exact hab (by omega)
  have h2 := nodup_le hr ha
  rw [rng_len] at h1 h2
  omega
theorem placed_all {K : List Kd} {base F r : List Int} (hr : r ∈ rowsM l.rs.length) (hw : wrongM l K r = none) (P : Plc l K [] base F) : ∀ x ∈ rng l.rs.length, x ∈ F := fun x hx => by
  by_cases q : x ∈ F
  · exact q
  · exfalso
    have hxr := row_all hr x hx
    cases e : r.find? fun y => decide (y ∉ F) with
    | none =>
      have := List.find?_eq_none.mp e x hxr
      simp [q] at this
    | some y =>
      obtain ⟨a, b, e1, e2, e3⟩ := find_split e
      have hy : y ∉ F := by simpa using e2
      have hyr : y ∈ rng l.rs.length := (rowsM_mem.mp hr).2.2 y (by rw [e1]; simp)
      have := P.done y hyr hy (by simp)
      rw [Ne, bar_none] at this
      simp only [Classical.not_forall] at this
      obtain ⟨k, hk, hb⟩ := this
      simp only [Bool.not_eq_false, barP, Bool.and_eq_true, decide_eq_true_eq, Bool.not_eq_true', decide_eq_false_iff_not, List.any_eq_false] at hb
      obtain ⟨b1, b2, b3⟩ := hb
      have hk' := wrong_none.mp hw k hk
      have hf : r.find? (fun i => decide (i ∈ k.1)) = some y := by
        rw [e1]
        refine find_at (fun z hz => ?_) (by simpa using b1)
        have : z ∈ F := by have := e3 z hz; simpa using this
        have := b3 z this
        simpa using this
      rw [actBy, hf] at hk'
      exact b2 hk'.symm
theorem placed_right {K : List Kd} {F r : List Int} (hr : r ∈ rowsM l.rs.length) (hw : wrongM l K r = none) (ha : ∀ x ∈ rng l.rs.length, x ∈ F) (hs : ∀ x ∈ F, x ∈ rng l.rs.length) (ho : ∀ p x q, F = p ++ x :: q → barM l K p x = none) : wrongM l K F = none := by
  refine wrong_none.mpr fun k hk => ?_
  cases e : F.find? fun i => decide (i ∈ k.1) with
  | some x =>
    obtain ⟨a, b, e1, e2, e3⟩ := find_split e
    have := bar_none.mp (ho a x b e1) k hk
    have ex : decide (x ∈ k.1) = true := e2
    have en : (a.any fun y => decide (y ∈ k.1)) = false := List.any_eq_false.mpr fun y hy => by rw [e3 y hy]; exact Bool.false_ne_true
    simp only [barP, ex, en, Bool.not_false, Bool.and_true, Bool.true_and, Bool.not_eq_false', decide_eq_true_eq] at this
    rw [actBy, e]
    exact this.symm
  | none =>
    have hk' := wrong_none.mp hw k hk
    have hf : r.find? (fun i => decide (i ∈ k.1)) = none := List.find?_eq_none.mpr fun y hy => List.find?_eq_none.mp e y (ha y ((rowsM_mem.mp hr).2.2 y hy))
    rw [actBy, hf] at hk'
    rw [actBy, e]
    exact hk'
theorem F41_eq (ok : OkL l) {K : List Kd} {r av : List Int} (hr : r ∈ rowsM l.rs.length) (hw : wrongM l K r = none) : ∃ F1 F2, F40 [dL l, .list (K.map dK), .list [], dI av] = some (.list (dIs F1)) ∧ Plc l K av [] F1 ∧
    F41 [dL l, .list (K.map dK), dI av] = some (dI F2) ∧ F2 ∈ rowsM l.rs.length ∧ wrongM l K F2 = none ∧ ∃ t, F2 = F1 ++ t := by
  obtain ⟨F1, P1, h1⟩ := F40_eq ok (K := K) (av := av) (F := []) (by simp) (by simp)
  obtain ⟨F2, P2, h2⟩ := F40_eq ok (K := K) (av := []) P1.nd P1.sub
  have ha := placed_all hr hw P2
  obtain ⟨t, ht⟩ := P2.pre
  have ho : ∀ p x q, F2 = p ++ x :: q → barM l K p x = none := fun p x q e => by
    by_cases hl : F1.length ≤ p.length
    · exact (P2.ok p x q e hl).1
    · rw [ht] at e
      have : ∃ q', F1 = p ++ x :: q' := by
        rcases List.append_eq_append_iff.mp e with ⟨c, e1, e2⟩ | ⟨c, e1, e2⟩
        · exact absurd (by rw [e1]; simp) hl
        · cases c with
          | nil => exact absurd (by rw [e1]; simp) hl
          | cons z c =>
            cases e2
            exact ⟨c, e1⟩
      obtain ⟨q', e'⟩ := this
      exact (P1.ok p x q' e' (by simp)).1
  have hF2 : F2 ∈ rowsM l.rs.length := row_of P2.nd P2.sub ha
  have hw2 := placed_right hr hw ha P2.sub ho
  refine ⟨F1, F2, h1, P1, ?_, hF2, hw2, t, ht⟩
  have h1' : F40 [dL l, .list (K.map dK), .list [], .tuple (List.map PyData.int av)] = some (.list (List.map PyData.int F1)) := h1
  have h2' : F40 [dL l, .list (K.map dK), .list (List.map PyData.int F1), .tuple []] = some (.list (List.map PyData.int F2)) := h2
  have h3' : F36 [dL l, .list (K.map dK), .tuple (List.map PyData.int F2)] = some .none := by
    have := F36_eq (K := K) P2.sub
    rw [hw2] at this
    exact this
  have hl : F2.length = l.rs.length := (rowsM_mem.mp hF2).1
  simp [F41, g41, runF, runFZ, startD, gSeq, gIf, gRet, gSet, gPut, gDrop, gNx, gFor, eA, eO, eN, eIf, e1, e2, e3, eTup, eLst, eCall, eM, eSl, oN, aN, aC, tA, tO, tN, tTr, tB1, tTrue, eC, eV, asB, asI, asL, asTT, truD, wipeD, setAllD, m1, mT, lenD, subD, addD_int, leD, ltD_int, gtD, geD, eqD_int, neD_int, gd_lim, gd, LIM, h1', h2', h3', tupleD, dL_1, hl, isntD, isND]
theorem F43_eq (ok : OkL l) {K : List Kd} {r : List Int} (hr : r ∈ rowsM l.rs.length) (hw : wrongM l K r = none) : F43 [dL l, .list (K.map dK)] = some .none := by
  obtain ⟨F1, F2, _, _, h, _⟩ := F41_eq ok (av := []) hr hw
  have h' : F41 [dL l, .list (K.map dK), .tuple []] = some (.tuple (List.map PyData.int F2)) := h
  simp [F43, g43, runF, runFZ, startD, gSeq, gIf, gRet, gSet, gPut, gDrop, gNx, gFor, eA, eO, eN, eIf, e1, e2, e3, eTup, eLst, eCall, eM, eSl, oN, aN, aC, tA, tO, tN, tTr, tB1, tTrue, eC, eV, asB, asI, asL, asTT, truD, wipeD, setAllD, m1, mT, lenD, subD, addD_int, leD, ltD_int, gtD, geD, eqD_int, neD_int, gd_lim, gd, LIM, h', isD, isND]
theorem F44_eq (ok : OkL l) {i : Int} (h : i ∈ rng l.rs.length) (d : PyData) : F44 [dL l, .int i, d] = some .none := by
  obtain ⟨h1, h2⟩ := mem_rng.mp h
  have h3 : i ≤ (l.rs.length : Int) - 1 := by omega
  simp [F44, g44, runF, runFZ, startD, gSeq, gIf, gRet, gSet, gPut, gDrop, gNx, gFor, eA, eO, eN, eIf, e1, e2, e3, eTup, eLst, eCall, eM, eSl, oN, aN, aC, tA, tO, tN, tTr, tB1, tTrue, eC, eV, asB, asI, asL, asTT, truD, wipeD, setAllD, m1, mT, lenD, subD, addD_int, leD, ltD_int, gtD, geD, eqD_int, neD_int, gd_lim, dL_1, F38_int, h1, h3]
theorem F45_eq (ok : OkL l) {i j : Int} (h : i ∈ rng l.rs.length) (h' : j ∈ rng l.rs.length) (ne : i ≠ j) : F45 [dL l, .int i, .int j] = some .none := by
  simp [F45, g45, runF, runFZ, startD, gSeq, gIf, gRet, gSet, gPut, gDrop, gNx, gFor, eA, eO, eN, eIf, e1, e2, e3, eTup, eLst, eCall, eM, eSl, oN, aN, aC, tA, tO, tN, tTr, tB1, tTrue, eC, eV, asB, asI, asL, asTT, truD, wipeD, setAllD, m1, mT, lenD, subD, addD_int, leD, ltD_int, gtD, geD, eqD_int, neD_int, gd_lim, F44_eq ok h, F44_eq ok h', ne]
def dE (p : Int × List Int) : PyData := .tuple [.int p.1, dI p.2]
/-- what the program may give as evidence -/
def Ev (l : Ls) (d : PyData) : Prop := (∃ row ∈ rowsM l.rs.length, d = .tuple [.str "not", dI row]) ∨ ∃ ps : List (Int × List Int), d = .tuple [.str "always", .tuple (ps.map dE)] ∧ ps.length ≤ 4 ∧ ∀ p ∈ ps, p.1 ∈ rng l.rs.length ∧ p.2 ∈ casesM l.ws
theorem addK_mem {K : List Kd} {p : Pr} {k : Kd} (h : k ∈ addK l K p) : k ∈ K ∨ k = (mtch l p.1, p.2, p.1) := by
  unfold addK at h
  split at h
  · exact .inl h
  · rcases List.mem_append.mp h with z | z
    · exact .inl z
    · exact .inr (List.mem_singleton.mp z)
theorem fold_mem : ∀ (P : List Pr) (K : List Kd) (k : Kd), k ∈ P.foldl (addK l) K → k ∈ K ∨ ∃ p ∈ P, k = (mtch l p.1, p.2, p.1)
  | [], K, k, h => .inl h
  | p :: P, K, k, h => by
    rcases fold_mem P (addK l K p) k h with z | ⟨q, hq, e⟩
    · rcases addK_mem z with y | y
      · exact .inl y
      · exact .inr ⟨p, List.mem_cons_self, y⟩
    · exact .inr ⟨q, List.mem_cons_of_mem _ hq, e⟩
theorem kinds_mem {P : List Pr} {k : Kd} (h : k ∈ kindsM l P) : ∃ p ∈ P, k = (mtch l p.1, p.2, p.1) := (fold_mem P [] k h).elim (fun z => by cases z) id
theorem addK_keep {K : List Kd} {p : Pr} {k : Kd} (h : k ∈ K) : k ∈ addK l K p := by
  unfold addK
  split
  · exact h
  · exact List.mem_append_left _ h
theorem fold_keep : ∀ (P : List Pr) (K : List Kd) (k : Kd), k ∈ K → k ∈ P.foldl (addK l) K
  | [], _, _, h => h
  | p :: P, K, k, h => fold_keep P _ k (addK_keep h)
theorem fold_has : ∀ (P : List Pr) (K : List Kd) (p : Pr), p ∈ P → ∃ k ∈ P.foldl (addK l) K, k.1 = mtch l p.1 ∧ k.2.1 = p.2
  | p :: P, K, q, h => by
    rcases List.mem_cons.mp h with e | e
    · subst e
      by_cases z : (K.any fun k => decide (k.1 = mtch l q.1 ∧ k.2.1 = q.2)) = true
      · obtain ⟨k, hk, e⟩ := List.any_eq_true.mp z
        exact ⟨k, fold_keep P _ k (addK_keep hk), of_decide_eq_true e⟩
      · refine ⟨(mtch l q.1, q.2, q.1), fold_keep P _ _ ?_, rfl, rfl⟩
        unfold addK
        rw [if_neg z]
        simp
    · exact fold_has P _ q e
theorem kinds_has {P : List Pr} {p : Pr} (h : p ∈ P) : ∃ k ∈ kindsM l P, k.1 = mtch l p.1 ∧ k.2.1 = p.2 := fold_has P [] p h
theorem neD_ints (i j : Int) : neD (.int i) (.int j) = some (.bool (!decide (i = j))) := neD_int i j
theorem F49_eq (ok : OkL l) {w : Wt} (hw : OkW l w) {a b : Int} (ha : a ∈ rng l.rs.length) (hb : b ∈ rng l.rs.length) (ne : a ≠ b) {r : List Int} (hr : r ∈ rowsM l.rs.length) (hR : wrongM l (kindsM l (wantsM l w)) r = none) :
    ∃ d, F49 [dL l, dW w, .int a, .int b] = some d ∧ Ev l d := by
  have lm := lim4 ok
  obtain ⟨F1, F2, h1, P1, h2, h3, h4, h5⟩ := F41_eq ok (K := kindsM l (wantsM l w)) (av := [a]) hr hR
  have h1' : F40 [dL l, .list ((kindsM l (wantsM l w)).map dK), .list [], .tuple [.int a]] = some (.list (dIs F1)) := h1
  have h2' : F41 [dL l, .list ((kindsM l (wantsM l w)).map dK), .tuple [.int a]] = some (dI F2) := h2
  by_cases q : b ∈ F1
  · refine ⟨.tuple [.str "not", dI F2], runF_rt rfl ?_, .inl ⟨F2, h3, rfl⟩⟩
    simp [g49, runF, runFZ, startD, gSeq, gIf, gRet, gSet, gPut, gDrop, gNx, gFor, eA, eO, eN, eIf, e1, e2, e3, eTup, eLst, eCall, eM, eSl, oN, aN, aC, tA, tO, tN, tTr, tB1, tTrue, eC, eV, asB, asI, asL, asTT, truD, wipeD, setAllD, m1, mT, lenD, subD, addD_int, leD, ltD_int, gtD, geD, eqD_int, neD_int, gd_lim, F42_eq ok hw, F45_eq ok ha hb ne, F43_eq ok hr hR, h1', h2', gd, LIM, inE_L, q]
  · let left := (rng l.rs.length).filter fun x => !decide (x ∈ F1) && !decide (x = a)
    let K := kindsM l (wantsM l w)
    have hleft : ∀ x ∈ left, ∃ c ∈ casesM l.ws, barM l K F1 x = some c := fun x hx => by
      obtain ⟨g1, g2⟩ := List.mem_filter.mp hx
      have g3 : x ∉ F1 ∧ x ≠ a := by simpa using g2
      have := P1.done x g1 g3.1 (by simpa using g3.2)
      cases e : barM l K F1 x with
      | none => exact absurd e this
      | some c =>
        refine ⟨c, ?_, rfl⟩
        simp only [barM, Option.map_eq_some_iff] at e
        obtain ⟨k, hk, rfl⟩ := e
        obtain ⟨p, hp, rfl⟩ := kinds_mem (List.mem_of_find?_eq_some hk)
        exact (wants_ok ok hw).1.subset (List.mem_map_of_mem hp)
    refine ⟨.tuple [.str "always", .tuple ((left.map fun x => (x, (barM l K F1 x).getD [])).map dE)], runF_rt rfl ?_, .inr ⟨_, rfl, ?_, ?_⟩⟩
    · have e1 : eLc [7] (iR (eCall lenD (aC (e2 ixE (eV 0) (eC (.int 1))) (aN)))) m1 [7] (tA (tB1 (e2 notInE (eV 7) (eV 5))) (tB1 (e2 neD (eV 7) (eV 2)))) (eV 7) [some (dL l), some (dW w), some (.int a), some (.int b), some (.list (K.map dK)), some (.list (dIs F1)), none, none] = some (.list (dIs left)) := by
        refine eLc_map (enc := PyData.int) (xs := rng l.rs.length) (by simp [iR, runF, runFZ, startD, gSeq, gIf, gRet, gSet, gPut, gDrop, gNx, gFor, eA, eO, eN, eIf, e1, e2, e3, eTup, eLst, eCall, eM, eSl, oN, aN, aC, tA, tO, tN, tTr, tB1, tTrue, eC, eV, asB, asI, asL, asTT, truD, wipeD, setAllD, m1, mT, lenD, subD, addD_int, leD, ltD_int, gtD, geD, eqD_int, neD_int, gd_lim, dL_1, lm, rgD_eq, LIM]) fun x hx => ⟨[.int x], rfl, ?_, fun _ => by simp [runF, runFZ, startD, gSeq, gIf, gRet, gSet, gPut, gDrop, gNx, gFor, eA, eO, eN, eIf, e1, e2, e3, eTup, eLst, eCall, eM, eSl, oN, aN, aC, tA, tO, tN, tTr, tB1, tTrue, eC, eV, asB, asI, asL, asTT, truD, wipeD, setAllD, m1, mT, lenD, subD, addD_int, leD, ltD_int, gtD, geD, eqD_int, neD_int, gd_lim]⟩
        by_cases q : x ∈ F1 <;> simp [runF, runFZ, startD, gSeq, gIf, gRet, gSet, gPut, gDrop, gNx, gFor, eA, eO, eN, eIf, e1, e2, e3, eTup, eLst, eCall, eM, eSl, oN, aN, aC, tA, tO, tN, tTr, tB1, tTrue, eC, eV, asB, asI, asL, asTT, truD, wipeD, setAllD, m1, mT, lenD, subD, addD_int, leD, ltD_int, gtD, geD, eqD_int, neD_int, gd_lim, notInE_L, q]
      have e2' : eLc [7] (iS (eV 6)) m1 [7] (tTrue) (eTup (aC (eV 7) (aC (eCall F37 (aC (eV 0) (aC (eV 4) (aC (eV 5) (aC (eV 7) (aN)))))) (aN)))) [some (dL l), some (dW w), some (.int a), some (.int b), some (.list (K.map dK)), some (.list (dIs F1)), some (.list (dIs left)), none] = some (.list (left.map fun x => dE (x, (barM l K F1 x).getD []))) := by
        refine eLc_all (enc := PyData.int) (xs := left) (by simp [iS, runF, runFZ, startD, gSeq, gIf, gRet, gSet, gPut, gDrop, gNx, gFor, eA, eO, eN, eIf, e1, e2, e3, eTup, eLst, eCall, eM, eSl, oN, aN, aC, tA, tO, tN, tTr, tB1, tTrue, eC, eV, asB, asI, asL, asTT, truD, wipeD, setAllD, m1, mT, lenD, subD, addD_int, leD, ltD_int, gtD, geD, eqD_int, neD_int, gd_lim]) fun x hx => ⟨[.int x], rfl, ?_⟩
        obtain ⟨q1, q2⟩ := mem_rng.mp (List.mem_filter.mp hx).1
        obtain ⟨c, hc, ec⟩ := hleft x hx
        simp [runF, runFZ, startD, gSeq, gIf, gRet, gSet, gPut, gDrop, gNx, gFor, eA, eO, eN, eIf, e1, e2, e3, eTup, eLst, eCall, eM, eSl, oN, aN, aC, tA, tO, tN, tTr, tB1, tTrue, eC, eV, asB, asI, asL, asTT, truD, wipeD, setAllD, m1, mT, lenD, subD, addD_int, leD, ltD_int, gtD, geD, eqD_int, neD_int, gd_lim, F37_eq q1 q2, ec, dO, gd, LIM, dE]
      unfold g49
      refine seq_set (d := .list (K.map dK)) (by simp [runF, runFZ, startD, gSeq, gIf, gRet, gSet, gPut, gDrop, gNx, gFor, eA, eO, eN, eIf, e1, e2, e3, eTup, eLst, eCall, eM, eSl, oN, aN, aC, tA, tO, tN, tTr, tB1, tTrue, eC, eV, asB, asI, asL, asTT, truD, wipeD, setAllD, m1, mT, lenD, subD, addD_int, leD, ltD_int, gtD, geD, eqD_int, neD_int, gd_lim, F42_eq ok hw]; rfl) ?_
      refine seq_drop (d := .none) (by simp [runF, runFZ, startD, gSeq, gIf, gRet, gSet, gPut, gDrop, gNx, gFor, eA, eO, eN, eIf, e1, e2, e3, eTup, eLst, eCall, eM, eSl, oN, aN, aC, tA, tO, tN, tTr, tB1, tTrue, eC, eV, asB, asI, asL, asTT, truD, wipeD, setAllD, m1, mT, lenD, subD, addD_int, leD, ltD_int, gtD, geD, eqD_int, neD_int, gd_lim, F45_eq ok ha hb ne]) ?_
      refine seq_drop (d := .none) (by simp [runF, runFZ, startD, gSeq, gIf, gRet, gSet, gPut, gDrop, gNx, gFor, eA, eO, eN, eIf, e1, e2, e3, eTup, eLst, eCall, eM, eSl, oN, aN, aC, tA, tO, tN, tTr, tB1, tTrue, eC, eV, asB, asI, asL, asTT, truD, wipeD, setAllD, m1, mT, lenD, subD, addD_int, leD, ltD_int, gtD, geD, eqD_int, neD_int, gd_lim]; exact F43_eq ok hr hR) ?_
      refine seq_set (d := .list (dIs F1)) (by simp [runF, runFZ, startD, gSeq, gIf, gRet, gSet, gPut, gDrop, gNx, gFor, eA, eO, eN, eIf, e1, e2, e3, eTup, eLst, eCall, eM, eSl, oN, aN, aC, tA, tO, tN, tTr, tB1, tTrue, eC, eV, asB, asI, asL, asTT, truD, wipeD, setAllD, m1, mT, lenD, subD, addD_int, leD, ltD_int, gtD, geD, eqD_int, neD_int, gd_lim, gd, LIM]; exact h1') ?_
      refine seq_no (by simp [runF, runFZ, startD, gSeq, gIf, gRet, gSet, gPut, gDrop, gNx, gFor, eA, eO, eN, eIf, e1, e2, e3, eTup, eLst, eCall, eM, eSl, oN, aN, aC, tA, tO, tN, tTr, tB1, tTrue, eC, eV, asB, asI, asL, asTT, truD, wipeD, setAllD, m1, mT, lenD, subD, addD_int, leD, ltD_int, gtD, geD, eqD_int, neD_int, gd_lim, inE_L, q]) ?_
      refine seq_set (d := .list (dIs left)) e1 ?_
      refine ret_of ?_
      have : (List.set (List.set (List.set (startD N49 [dL l, dW w, .int a, .int b]) 4 (some (.list (K.map dK)))) 5 (some (.list (dIs F1)))) 6 (some (.list (dIs left)))) = [some (dL l), some (dW w), some (.int a), some (.int b), some (.list (K.map dK)), some (.list (dIs F1)), some (.list (dIs left)), none] := by simp [startD]
      rw [this]
      simp only [eTup, aC, aN, eCall, eC, e2', Option.bind_some, tupleD]
      simp [gd, LIM]
    · have := List.length_filter_le (fun x => !decide (x ∈ F1) && !decide (x = a)) (rng l.rs.length)
      rw [rng_len] at this
      simp only [List.length_map]
      exact Nat.le_trans this ok.few
    · rintro p hp
      obtain ⟨x, hx, rfl⟩ := List.mem_map.mp hp
      obtain ⟨c, hc, ec⟩ := hleft x hx
      exact ⟨(List.mem_filter.mp hx).1, by simp only [ec]; exact hc⟩
end
end G8

/-! M9: evidence judged: rows. -/
namespace G8
open L2 PyProof.Rows PySem.Spec PySem
def isInt : PyData → Bool
  | .int _ => true
  | _ => false
theorem F56_eq {d : PyData} (h : noDict d = true) : F56 [d] = some (.bool (isInt d)) := by
  cases d with
  | dict _ => cases h
  | _ => simp [F56, g56, runF, runFZ, startD, gSeq, gIf, gRet, gSet, gPut, gDrop, gNx, gFor, eA, eO, eN, eIf, e1, e2, e3, eTup, eLst, eCall, eM, eSl, oN, aN, aC, tA, tO, tN, tTr, tB1, tTrue, eC, eV, asB, asI, asL, asTT, truD, wipeD, setAllD, m1, mT, lenD, subD, addD_int, leD, ltD_int, gtD, geD, eqD_int, neD_int, gd_lim, isi_int h, isi_bool h, isI, isBo, isInt]
theorem ints_of_all : ∀ {ds : List PyData}, ds.all isInt = true → ∃ is, ds = dIs is
  | [], _ => ⟨[], rfl⟩
  | d :: ds, h => by
    simp only [List.all_cons, Bool.and_eq_true] at h
    obtain ⟨is, rfl⟩ := ints_of_all h.2
    cases d with
    | int i => exact ⟨i :: is, rfl⟩
    | _ => simp [isInt] at h
theorem ints_all (is : List Int) : (dIs is).all isInt = true := by simp [isInt]
theorem ints_none {ds : List PyData} (h : ds.all isInt = false) : intsD ds = none := by
  cases e : intsD ds with
  | none => rfl
  | some is =>
    have := intsD_eq e
    subst this
    rw [ints_all] at h
    cases h
def inRow (l : Ls) (ds : List PyData) : Bool := match intsD ds with
  | some is => decide (srtI is = rng l.rs.length)
  | none => false
def rowB (l : Ls) : PyData → Bool
  | .tuple ds => inRow l ds
  | _ => false
/-- a tuple of few parts that can be looked at -/
def Tp (d : PyData) : Prop := noDict d = true ∧ ∀ ds, d = .tuple ds → ds.length ≤ 60 ∧ plainL ds
section
variable {l : Ls}
theorem srt_mem {n : Nat} {is : List Int} (h : srtI is = rng n) : is ∈ rowsM n := by
  have p := srtI_perm is
  rw [h] at p
  have hr : (rng n).Nodup := by
    unfold rng
    rw [List.nodup_iff_pairwise_ne, List.pairwise_map]
    refine List.Pairwise.imp ?_ List.nodup_range
    intro a b hab e
    exact hab (by omega)
  exact rowsM_mem.mpr ⟨by have := p.length_eq; rw [rng_len] at this; exact this.symm, p.nodup_iff.mp hr, fun i hi => p.mem_iff.mpr hi⟩
theorem mem_srt {n : Nat} (hn : n ≤ 4) {is : List Int} (h : is ∈ rowsM n) : srtI is = rng n := by
  have : ∀ n ≤ 4, ∀ is ∈ rowsM n, srtI is = rng n := by decide +kernel
  exact this n hn is h
theorem F16_eq (ok : OkL l) {d : PyData} (h : Tp d) : F16 [dL l, d] = some (.bool (rowB l d)) := by
  have lm := lim4 ok
  cases d with
  | dict _ => cases h.1
  | tuple ds =>
    obtain ⟨h1, h2⟩ := h.2 ds rfl
    have hc : eLc [2] (iS (eV 1)) m1 [2] (tTrue) (eCall F15 (aC (eV 0) (aC (eV 2) (aN)))) [some (dL l), some (.tuple ds), none] = some (.list (ds.map fun x => .bool (btw x 0 ((l.rs.length : Int) - 1)))) := by
      refine eLc_all (enc := fun x => x) (xs := ds) (by simp [iS, runF, runFZ, startD, gSeq, gIf, gRet, gSet, gPut, gDrop, gNx, gFor, eA, eO, eN, eIf, e1, e2, e3, eTup, eLst, eCall, eM, eSl, oN, aN, aC, tA, tO, tN, tTr, tB1, tTrue, eC, eV, asB, asI, asL, asTT, truD, wipeD, setAllD, m1, mT, lenD, subD, addD_int, leD, ltD_int, gtD, geD, eqD_int, neD_int, gd_lim]) fun x hx => ⟨[x], rfl, ?_⟩
      simp [runF, runFZ, startD, gSeq, gIf, gRet, gSet, gPut, gDrop, gNx, gFor, eA, eO, eN, eIf, e1, e2, e3, eTup, eLst, eCall, eM, eSl, oN, aN, aC, tA, tO, tN, tTr, tB1, tTrue, eC, eV, asB, asI, asL, asTT, truD, wipeD, setAllD, m1, mT, lenD, subD, addD_int, leD, ltD_int, gtD, geD, eqD_int, neD_int, gd_lim, F15_eq (h2 x hx)]
    by_cases q : (ds.all fun x => btw x 0 ((l.rs.length : Int) - 1)) = true
    · obtain ⟨is, rfl⟩ := ints_of_all (ds := ds) (List.all_eq_true.mpr fun x hx => by
        have := List.all_eq_true.mp q x hx
        cases x <;> simp [btw, isInt] at this ⊢)
      have e1 : sortedD [.tuple (dIs is)] = some (.list (dIs (srtI is))) := by
        have : is.length < 64 := by simp at h1; omega
        simp only [sortedD, intsD_map, Option.bind_some, gd, decide_eq_true this, if_true]
      have e4 := eqD_L (srtI is) (rng l.rs.length)
      simp only [rowB, inRow, intsD_map]
      refine runF_rt rfl ?_
      unfold g16
      refine seq_no ?_ ?_
      · have : tN (tTr (eCall allD (aC (eLc [2] (iS (eV 1)) m1 [2] (tTrue) (eCall F15 (aC (eV 0) (aC (eV 2) (aN))))) (aN)))) [some (dL l), some (.tuple (dIs is)), none] = some false := by
          simp only [tN, tTr, eCall, aC, aN, hc, Option.bind_some, allD_of, q, truD]
          rfl
        simp only [tO, this]
        simp [runF, runFZ, startD, gSeq, gIf, gRet, gSet, gPut, gDrop, gNx, gFor, eA, eO, eN, eIf, e1, e2, e3, eTup, eLst, eCall, eM, eSl, oN, aN, aC, tA, tO, tN, tTr, tB1, tTrue, eC, eV, asB, asI, asL, asTT, truD, wipeD, setAllD, m1, mT, lenD, subD, addD_int, leD, ltD_int, gtD, geD, eqD_int, neD_int, gd_lim, isi_tup, startD]
        exact this
      · refine ret_of ?_
        simp [runF, runFZ, startD, gSeq, gIf, gRet, gSet, gPut, gDrop, gNx, gFor, eA, eO, eN, eIf, e1, e2, e3, eTup, eLst, eCall, eM, eSl, oN, aN, aC, tA, tO, tN, tTr, tB1, tTrue, eC, eV, asB, asI, asL, asTT, truD, wipeD, setAllD, m1, mT, lenD, subD, addD_int, leD, ltD_int, gtD, geD, eqD_int, neD_int, gd_lim, e1, eRgL, dL_1, upTo_eq, gd, LIM, lm]
        simp [e4]
    · have e : rowB l (.tuple ds) = false := by
        simp only [rowB, inRow]
        cases z : intsD ds with
        | none => rfl
        | some is =>
          have := intsD_eq z
          subst this
          refine decide_eq_false fun hs => q ?_
          refine List.all_eq_true.mpr fun x hx => ?_
          obtain ⟨i, hi, rfl⟩ := List.mem_map.mp hx
          obtain ⟨g1, g2⟩ := mem_rng.mp ((rowsM_mem.mp (srt_mem hs)).2.2 i hi)
          simp only [btw, Bool.and_eq_true, decide_eq_true_eq]
          omega
      rw [e]
      refine runF_rt rfl ?_
      unfold g16
      refine seq_yes (d := .bool false) ?_ (by simp [runF, runFZ, startD, gSeq, gIf, gRet, gSet, gPut, gDrop, gNx, gFor, eA, eO, eN, eIf, e1, e2, e3, eTup, eLst, eCall, eM, eSl, oN, aN, aC, tA, tO, tN, tTr, tB1, tTrue, eC, eV, asB, asI, asL, asTT, truD, wipeD, setAllD, m1, mT, lenD, subD, addD_int, leD, ltD_int, gtD, geD, eqD_int, neD_int, gd_lim]) rfl
      have : tN (tTr (eCall allD (aC (eLc [2] (iS (eV 1)) m1 [2] (tTrue) (eCall F15 (aC (eV 0) (aC (eV 2) (aN))))) (aN)))) [some (dL l), some (.tuple ds), none] = some true := by
        simp only [tN, tTr, eCall, aC, aN, hc, Option.bind_some, allD_of, Bool.eq_false_iff.mpr q, truD]
        rfl
      simp [runF, runFZ, startD, gSeq, gIf, gRet, gSet, gPut, gDrop, gNx, gFor, eA, eO, eN, eIf, e1, e2, e3, eTup, eLst, eCall, eM, eSl, oN, aN, aC, tA, tO, tN, tTr, tB1, tTrue, eC, eV, asB, asI, asL, asTT, truD, wipeD, setAllD, m1, mT, lenD, subD, addD_int, leD, ltD_int, gtD, geD, eqD_int, neD_int, gd_lim, isi_tup]
      exact this
  | _ => simp [F16, g16, runF, runFZ, startD, gSeq, gIf, gRet, gSet, gPut, gDrop, gNx, gFor, eA, eO, eN, eIf, e1, e2, e3, eTup, eLst, eCall, eM, eSl, oN, aN, aC, tA, tO, tN, tTr, tB1, tTrue, eC, eV, asB, asI, asL, asTT, truD, wipeD, setAllD, m1, mT, lenD, subD, addD_int, leD, ltD_int, gtD, geD, eqD_int, neD_int, gd_lim, isi_tuple h.1, isT, rowB]
end
end G8

/-! M10: evidence judged: fences, by the program. -/
namespace G8
open L2 PyProof.Rows PySem.Spec PySem
def lawPair (l : Ls) : PyData → Option (Int × List Int)
  | .tuple [.int i, .tuple cs] => if 0 ≤ i ∧ i < l.rs.length then (intsD cs).map fun c => (i, c) else none
  | _ => none
def pairsOf (l : Ls) : List PyData → Option (List (Int × List Int))
  | [] => some []
  | d :: ds => (lawPair l d).bind fun p => (pairsOf l ds).bind fun ps => some (p :: ps)
def lookP (P : List Pr) (c : List Int) : Option Int := (P.find? fun q => decide (q.1 = c)).map fun q => q.2
def othersM (l : Ls) (a : Int) (nums : List Int) : List Int := (rng l.rs.length).filter fun o => !decide (o = a) && !decide (o ∈ nums)
def okP (l : Ls) (P : List Pr) (a : Int) (nums : List Int) (p : Int × List Int) : Bool := match lookP P p.2 with
  | some x => !decide (x = act l p.1) && (Mt l p.1 p.2 && !((othersM l a nums).any fun o => Mt l o p.2))
  | none => false
def asc (nums : List Int) : Bool := (List.range (nums.length - 1)).all fun k => decide (nums.getD k 0 < nums.getD (k + 1) 0)
def fenceB (l : Ls) (P : List Pr) (a : Int) (ps : List (Int × List Int)) : Bool := !decide (a ∈ ps.map (·.1)) && (asc (ps.map (·.1)) && ps.all (okP l P a (ps.map (·.1))))
def fenceD (l : Ls) (P : List Pr) (a : Int) : PyData → Bool
  | .tuple ds => match pairsOf l ds with
    | some ps => fenceB l P a ps
    | none => false
  | _ => false
def PE' (e : PyData) : Prop := noDict e = true ∧ ∀ es, e = .tuple es → ∀ x ∈ es, noDict x = true ∧ ∀ cs, x = .tuple cs → plainL cs
def PV (v : PyData) : Prop := noDict v = true ∧ ∀ ds, v = .tuple ds → ds.length ≤ 60 ∧ ∀ e ∈ ds, PE' e
theorem PV.tp {v : PyData} (h : PV v) : Tp v := ⟨h.1, fun ds e => ⟨(h.2 ds e).1, fun x hx => ((h.2 ds e).2 x hx).1⟩⟩
def isPair (l : Ls) : PyData → Bool
  | .tuple [x, c] => btw x 0 ((l.rs.length : Int) - 1) && isCase l c
  | _ => false
section
variable {l : Ls}
theorem pairsOf_eq : ∀ {ds : List PyData} {ps : List (Int × List Int)}, pairsOf l ds = some ps → ds = ps.map dE ∧ ∀ p ∈ ps, p.1 ∈ rng l.rs.length
  | [], ps, h => by cases h; exact ⟨rfl, fun p hp => by cases hp⟩
  | d :: ds, ps, h => by
    simp only [pairsOf] at h
    obtain ⟨p, h1, h2⟩ := bind_some h
    obtain ⟨qs, h3, h4⟩ := bind_some h2
    cases h4
    obtain ⟨rfl, h5⟩ := pairsOf_eq h3
    unfold lawPair at h1
    split at h1
    · rename_i i cs
      split at h1
      · rename_i hi
        obtain ⟨c, h6, rfl⟩ := Option.map_eq_some_iff.mp h1
        have := intsD_eq h6
        subst this
        exact ⟨rfl, fun q hq => (List.mem_cons.mp hq).elim (fun e => by rw [e]; exact mem_rng.mpr hi) (h5 q)⟩
      · cases h1
    · cases h1
theorem pairsOf_map : ∀ {ps : List (Int × List Int)}, (∀ p ∈ ps, p.1 ∈ rng l.rs.length) → pairsOf l (ps.map dE) = some ps
  | [], _ => rfl
  | p :: ps, h => by
    have hp := mem_rng.mp (h p List.mem_cons_self)
    simp only [List.map_cons, pairsOf, pairsOf_map fun q hq => h q (List.mem_cons_of_mem _ hq), dE, lawPair, hp, and_self, if_true, intsD_map, Option.map_some, Option.bind_some]
theorem isCase_ints {d : PyData} (h : isCase l d = true) : ∃ c, d = dI c ∧ c.length = l.ws.length := by
  cases d with
  | tuple ds =>
    simp only [isCase, Bool.and_eq_true, decide_eq_true_eq] at h
    obtain ⟨h1, h2⟩ := h
    obtain ⟨is, rfl⟩ := ints_of_all (ds := ds) (List.all_eq_true.mpr fun x hx => by
      obtain ⟨k, hk, e⟩ := List.getElem_of_mem hx
      have := List.all_eq_true.mp h2 (ds[k], l.ws[k]'(by omega)) (List.mem_iff_getElem?.mpr ⟨k, by rw [List.getElem?_zip_eq_some]; exact ⟨List.getElem?_eq_getElem hk, List.getElem?_eq_getElem (by omega)⟩⟩)
      rw [← e]
      cases z : ds[k] with
      | int i => rfl
      | _ => simp only [z, btw] at this; cases this)
    exact ⟨is, rfl, by simpa using h1⟩
  | _ => simp [isCase] at h
theorem isPair_of {d : PyData} (h : isPair l d = true) : ∃ p : Int × List Int, d = dE p ∧ p.1 ∈ rng l.rs.length ∧ p.2.length = l.ws.length := by
  unfold isPair at h
  split at h
  · rename_i x c
    simp only [Bool.and_eq_true] at h
    obtain ⟨cs, rfl, hl⟩ := isCase_ints h.2
    cases x with
    | int i =>
      have := h.1
      simp only [btw, Bool.and_eq_true, decide_eq_true_eq] at this
      exact ⟨(i, cs), rfl, mem_rng.mpr (by omega), hl⟩
    | _ => simp [btw] at h
  · cases h
theorem pairs_of_all : ∀ {ds : List PyData}, (∀ d ∈ ds, isPair l d = true) → ∃ ps : List (Int × List Int), ds = ps.map dE ∧ ∀ p ∈ ps, p.1 ∈ rng l.rs.length ∧ p.2.length = l.ws.length
  | [], _ => ⟨[], rfl, fun p hp => by cases hp⟩
  | d :: ds, h => by
    obtain ⟨p, rfl, h1⟩ := isPair_of (h d List.mem_cons_self)
    obtain ⟨ps, rfl, h2⟩ := pairs_of_all fun e he => h e (List.mem_cons_of_mem _ he)
    exact ⟨p :: ps, rfl, fun q hq => (List.mem_cons.mp hq).elim (fun e => e ▸ h1) (h2 q)⟩
theorem isPair_dE {p : Int × List Int} (h : p.1 ∈ rng l.rs.length) : isPair l (dE p) = isCase l (dI p.2) := by
  obtain ⟨h1, h2⟩ := mem_rng.mp h
  have h3 : p.1 ≤ (l.rs.length : Int) - 1 := by omega
  simp [isPair, dE, btw, h1, h3]
theorem F50_eq {d : PyData} (h : PE' d) : F50 [dL l, d] = some (.bool (isPair l d)) := by
  obtain ⟨h1, h2⟩ := h
  cases d with
  | dict _ => cases h1
  | tuple es =>
    match es, h2 es rfl with
    | [], _ => simp [F50, g50, runF, runFZ, startD, gSeq, gIf, gRet, gSet, gPut, gDrop, gNx, gFor, eA, eO, eN, eIf, e1, e2, e3, eTup, eLst, eCall, eM, eSl, oN, aN, aC, tA, tO, tN, tTr, tB1, tTrue, eC, eV, asB, asI, asL, asTT, truD, wipeD, setAllD, m1, mT, lenD, subD, addD_int, leD, ltD_int, gtD, geD, eqD_int, neD_int, gd_lim, isi_tup, isPair]
    | [_], _ => simp [F50, g50, runF, runFZ, startD, gSeq, gIf, gRet, gSet, gPut, gDrop, gNx, gFor, eA, eO, eN, eIf, e1, e2, e3, eTup, eLst, eCall, eM, eSl, oN, aN, aC, tA, tO, tN, tTr, tB1, tTrue, eC, eV, asB, asI, asL, asTT, truD, wipeD, setAllD, m1, mT, lenD, subD, addD_int, leD, ltD_int, gtD, geD, eqD_int, neD_int, gd_lim, isi_tup, isPair]
    | [x, c], h2 =>
      have hx := h2 x (by simp)
      have hc := h2 c (by simp)
      simp [F50, g50, runF, runFZ, startD, gSeq, gIf, gRet, gSet, gPut, gDrop, gNx, gFor, eA, eO, eN, eIf, e1, e2, e3, eTup, eLst, eCall, eM, eSl, oN, aN, aC, tA, tO, tN, tTr, tB1, tTrue, eC, eV, asB, asI, asL, asTT, truD, wipeD, setAllD, m1, mT, lenD, subD, addD_int, leD, ltD_int, gtD, geD, eqD_int, neD_int, gd_lim, isi_tup, isPair, ixE_0, ixE_1, dL_1, F38_eq hx.1, F14_eq hc.1 hc.2]
      cases btw x 0 ((l.rs.length : Int) - 1) <;> simp
    | x :: y :: z :: es, _ =>
      have : ¬ ((es.length : Int) + 1 + 1 + 1 = 2) := by omega
      simp [F50, g50, runF, runFZ, startD, gSeq, gIf, gRet, gSet, gPut, gDrop, gNx, gFor, eA, eO, eN, eIf, e1, e2, e3, eTup, eLst, eCall, eM, eSl, oN, aN, aC, tA, tO, tN, tTr, tB1, tTrue, eC, eV, asB, asI, asL, asTT, truD, wipeD, setAllD, m1, mT, lenD, subD, addD_int, leD, ltD_int, gtD, geD, eqD_int, neD_int, gd_lim, isi_tup, isPair, this]
  | _ => simp [F50, g50, runF, runFZ, startD, gSeq, gIf, gRet, gSet, gPut, gDrop, gNx, gFor, eA, eO, eN, eIf, e1, e2, e3, eTup, eLst, eCall, eM, eSl, oN, aN, aC, tA, tO, tN, tTr, tB1, tTrue, eC, eV, asB, asI, asL, asTT, truD, wipeD, setAllD, m1, mT, lenD, subD, addD_int, leD, ltD_int, gtD, geD, eqD_int, neD_int, gd_lim, isi_tuple h1, isT, isPair]
/-! ### what each case asks -/
def ck (c : List Int) : NestedKey := .tup (c.map .num)
def dPE (p : Pr) : PyData × PyData := (dI p.1, .int p.2)
theorem ck_of (c : List Int) : keyD (dI c) = some (ck c) := by simp [keyD, keys_ints, ck]
theorem tk_ck (c : List Int) : tkD (.tuple (List.map PyData.int c)) = some (ck c) := by
  have := ck_of c
  simp only [tkD] at this ⊢
  rw [this]
  simp [ck, NestedKey.depth, depths_ints]
theorem ck_inj {a b : List Int} : ck a = ck b ↔ a = b := by
  simp only [ck, NestedKey.tup.injEq]
  exact ⟨fun h => (List.map_inj_right fun x y e => by cases e; rfl).mp h, fun h => by rw [h]⟩
theorem dget_ck (c : List Int) : ∀ P : List Pr, dgetD (P.map dPE) (ck c) = (lookP P c).map PyData.int
  | [] => rfl
  | p :: P => by
    have ih := dget_ck c P
    simp only [dgetD, lookP, List.map_cons, List.find?_cons] at ih ⊢
    have e : keyD (dPE p).1 = some (ck p.1) := ck_of _
    rw [e]
    have e2' : decide (some (ck p.1) = some (ck c)) = decide (p.1 = c) := by
      congr 1
      rw [Option.some.injEq, ck_inj]
    rw [e2']
    cases q : decide (p.1 = c) with
    | true => rfl
    | false => exact ih
theorem compD_eq {Γ : DE} : ∀ (P Q : List Pr), ((Q ++ P).map (·.1)).Nodup → compD (mT 2) [2, 3] (eV 2) (eV 3) [some (dL l), Γ[1]?.join, none, none] (P.map dP) (Q.map dPE) = some ((Q ++ P).map dPE)
  | [], Q, _ => by simp [compD]
  | p :: P, Q, h => by
    have hn : lookP Q p.1 = none := by
      simp only [lookP, Option.map_eq_none_iff, List.find?_eq_none]
      intro q hq e
      have e' : q.1 = p.1 := of_decide_eq_true e
      rw [List.map_append, List.nodup_append] at h
      exact h.2.2 q.1 (List.mem_map_of_mem hq) p.1 (by simp) e'
    have ih := compD_eq (Γ := Γ) P (Q ++ [p]) (by rw [List.append_assoc]; exact h)
    rw [List.append_assoc] at ih
    simp only [List.map_cons, compD]
    rw [show mT 2 (dP p) = some [dI p.1, .int p.2] from rfl]
    simp only [Option.bind_some, setAllD, List.set_cons_succ, List.set_cons_zero, eV, tk_ck, dget_ck, hn, Option.map_none, Option.isNone_none, if_true]
    rw [List.map_append] at ih
    exact ih
theorem F47_eq (ok : OkL l) {w : Wt} (hw : OkW l w) : F47 [dL l, dW w] = some (.dict ((wantsM l w).map dPE)) := by
  have hn : ((wantsM l w).map (·.1)).Nodup := (cases_all _ ok.w).2.2.1.sublist (wants_ok ok hw).1
  have := compD_eq (l := l) (Γ := [none, some (dW w)]) (wantsM l w) [] hn
  refine runF_rt rfl (ret_of ?_)
  simp [eDc, iS, runF, runFZ, startD, gSeq, gIf, gRet, gSet, gPut, gDrop, gNx, gFor, eA, eO, eN, eIf, e1, e2, e3, eTup, eLst, eCall, eM, eSl, oN, aN, aC, tA, tO, tN, tTr, tB1, tTrue, eC, eV, asB, asI, asL, asTT, truD, wipeD, setAllD, m1, mT, lenD, subD, addD_int, leD, ltD_int, gtD, geD, eqD_int, neD_int, gd_lim, F31_eq ok hw]
  simp at this
  rw [this]
  rfl
end
end G8

/-! M11: is_fence of the program. -/
namespace G8
open L2 PyProof.Rows PySem.Spec PySem
section
variable {l : Ls}
theorem look_none {P : List Pr} (ok : OkL l) (hP : (P.map (·.1)).Sublist (casesM l.ws)) {c : List Int} (h : isCase l (dI c) = false) : lookP P c = none := by
  simp only [lookP, Option.map_eq_none_iff, List.find?_eq_none]
  intro q hq e
  have e' : q.1 = c := of_decide_eq_true e
  have := isCase_of ok (hP.subset (List.mem_map_of_mem hq))
  rw [e', h] at this
  cases this
theorem notIn_dem (P : List Pr) (c : List Int) : notInE (.tuple (List.map PyData.int c)) (.dict (P.map dPE)) = some (.bool (lookP P c).isNone) := by
  simp only [notInE, tk_ck, dget_ck, Option.bind_some]
  cases lookP P c <;> rfl
theorem ix_dem (P : List Pr) (c : List Int) : ixE (.dict (P.map dPE)) (.tuple (List.map PyData.int c)) = (lookP P c).map PyData.int := by
  simp only [ixE, tk_ck, dget_ck, Option.bind_some]
theorem F51_eq (ok : OkL l) {P : List Pr} (hP : (P.map (·.1)).Sublist (casesM l.ws)) {a : Int} {d : PyData} (h : PV d) : F51 [dL l, .dict (P.map dPE), .int a, d] = some (.bool (fenceD l P a d)) := by
  have lm := lim4 ok
  obtain ⟨h1, h2⟩ := h
  cases d with
  | dict _ => cases h1
  | tuple ds =>
    obtain ⟨hl, hp⟩ := h2 ds rfl
    have hc : eLc [10] (iS (eV 3)) m1 [10] (tTrue) (eCall F50 (aC (eV 0) (aC (eV 10) (aN)))) [some (dL l), some (.dict (P.map dPE)), some (.int a), some (.tuple ds), none, none, none, none, none, none, none, none] = some (.list (ds.map fun x => .bool (isPair l x))) := by
      refine eLc_all (enc := fun x => x) (xs := ds) (by simp [iS, runF, runFZ, startD, gSeq, gIf, gRet, gSet, gPut, gDrop, gNx, gFor, eA, eO, eN, eIf, e1, e2, e3, eTup, eLst, eCall, eM, eSl, oN, aN, aC, tA, tO, tN, tTr, tB1, tTrue, eC, eV, asB, asI, asL, asTT, truD, wipeD, setAllD, m1, mT, lenD, subD, addD_int, leD, ltD_int, gtD, geD, eqD_int, neD_int, gd_lim]) fun x hx => ⟨[x], rfl, ?_⟩
      simp [runF, runFZ, startD, gSeq, gIf, gRet, gSet, gPut, gDrop, gNx, gFor, eA, eO, eN, eIf, e1, e2, e3, eTup, eLst, eCall, eM, eSl, oN, aN, aC, tA, tO, tN, tTr, tB1, tTrue, eC, eV, asB, asI, asL, asTT, truD, wipeD, setAllD, m1, mT, lenD, subD, addD_int, leD, ltD_int, gtD, geD, eqD_int, neD_int, gd_lim, F50_eq (hp x hx)]
    by_cases q : (ds.all fun x => isPair l x) = true
    · obtain ⟨ps, rfl, hps⟩ := pairs_of_all (List.all_eq_true.mp q)
      have hpo := pairsOf_map (l := l) (ps := ps) fun p hp => (hps p hp).1
      simp only [fenceD, hpo]
      let nums := ps.map (·.1)
      have hnl : (nums.length : Int) ≤ 100001 := by
        have : nums.length = ps.length := by simp [nums]
        simp at hl
        omega
      have e1' : eLc [6, 7] (iS (eV 3)) (mT 2) [6, 7] (tTrue) (eV 6) [some (dL l), some (.dict (P.map dPE)), some (.int a), some (.tuple (ps.map dE)), none, none, none, none, none, none, none, none] = some (.list (dIs nums)) := by
        have := eLc_all (own := [6, 7]) (it := iS (eV 3)) (m := mT 2) (is := [6, 7]) (f := eV 6) (Γ := [some (dL l), some (.dict (P.map dPE)), some (.int a), some (.tuple (ps.map dE)), none, none, none, none, none, none, none, none]) (enc := dE) (q := fun p => .int p.1) (xs := ps) (by simp [iS, runF, runFZ, startD, gSeq, gIf, gRet, gSet, gPut, gDrop, gNx, gFor, eA, eO, eN, eIf, e1, e2, e3, eTup, eLst, eCall, eM, eSl, oN, aN, aC, tA, tO, tN, tTr, tB1, tTrue, eC, eV, asB, asI, asL, asTT, truD, wipeD, setAllD, m1, mT, lenD, subD, addD_int, leD, ltD_int, gtD, geD, eqD_int, neD_int, gd_lim]) fun p hp => ⟨[.int p.1, dI p.2], rfl, by simp [runF, runFZ, startD, gSeq, gIf, gRet, gSet, gPut, gDrop, gNx, gFor, eA, eO, eN, eIf, e1, e2, e3, eTup, eLst, eCall, eM, eSl, oN, aN, aC, tA, tO, tN, tTr, tB1, tTrue, eC, eV, asB, asI, asL, asTT, truD, wipeD, setAllD, m1, mT, lenD, subD, addD_int, leD, ltD_int, gtD, geD, eqD_int, neD_int, gd_lim]⟩
        rw [this]
        simp [nums]
      have e2' : eLc [11] (iR (e2 subD (eCall lenD (aC (eV 4) (aN))) (eC (.int 1)))) m1 [11] (tTrue) (e2 ltD (e2 ixE (eV 4) (eV 11)) (e2 ixE (eV 4) (e2 addD (eV 11) (eC (.int 1))))) [some (dL l), some (.dict (P.map dPE)), some (.int a), some (.tuple (ps.map dE)), some (.list (dIs nums)), none, none, none, none, none, none, none] = some (.list ((List.range (nums.length - 1)).map fun k => .bool (decide (nums.getD k 0 < nums.getD (k + 1) 0)))) := by
        refine eLc_all (enc := fun k : Nat => PyData.int (k : Int)) (xs := List.range (nums.length - 1)) ?_ fun k hk => ⟨[.int (k : Nat)], rfl, ?_⟩
        · simp [iR, runF, runFZ, startD, gSeq, gIf, gRet, gSet, gPut, gDrop, gNx, gFor, eA, eO, eN, eIf, e1, e2, e3, eTup, eLst, eCall, eM, eSl, oN, aN, aC, tA, tO, tN, tTr, tB1, tTrue, eC, eV, asB, asI, asL, asTT, truD, wipeD, setAllD, m1, mT, lenD, subD, addD_int, leD, ltD_int, gtD, geD, eqD_int, neD_int, gd_lim, rgD, LIM]
          omega
        · have hk0 := List.mem_range.mp hk
          have f1 : k < nums.length := by omega
          have f2 : k + 1 < nums.length := by omega
          simp [runF, runFZ, startD, gSeq, gIf, gRet, gSet, gPut, gDrop, gNx, gFor, eA, eO, eN, eIf, e1, e2, e3, eTup, eLst, eCall, eM, eSl, oN, aN, aC, tA, tO, tN, tTr, tB1, tTrue, eC, eV, asB, asI, asL, asTT, truD, wipeD, setAllD, m1, mT, lenD, subD, addD_int, leD, ltD_int, gtD, geD, eqD_int, neD_int, gd_lim, ixE_m, ixE_sm, f1, f2]
      have e3' : eLc [8] (iR (eCall lenD (aC (e2 ixE (eV 0) (eC (.int 1))) (aN)))) m1 [8] (tA (tB1 (e2 neD (eV 8) (eV 2))) (tB1 (e2 notInE (eV 8) (eV 4)))) (eV 8) [some (dL l), some (.dict (P.map dPE)), some (.int a), some (.tuple (ps.map dE)), some (.list (dIs nums)), none, none, none, none, none, none, none] = some (.list (dIs (othersM l a nums))) := by
        refine eLc_map (enc := PyData.int) (xs := rng l.rs.length) (by simp [iR, runF, runFZ, startD, gSeq, gIf, gRet, gSet, gPut, gDrop, gNx, gFor, eA, eO, eN, eIf, e1, e2, e3, eTup, eLst, eCall, eM, eSl, oN, aN, aC, tA, tO, tN, tTr, tB1, tTrue, eC, eV, asB, asI, asL, asTT, truD, wipeD, setAllD, m1, mT, lenD, subD, addD_int, leD, ltD_int, gtD, geD, eqD_int, neD_int, gd_lim, dL_1, lm, rgD_eq, LIM]) fun x hx => ⟨[.int x], rfl, ?_, fun _ => by simp [runF, runFZ, startD, gSeq, gIf, gRet, gSet, gPut, gDrop, gNx, gFor, eA, eO, eN, eIf, e1, e2, e3, eTup, eLst, eCall, eM, eSl, oN, aN, aC, tA, tO, tN, tTr, tB1, tTrue, eC, eV, asB, asI, asL, asTT, truD, wipeD, setAllD, m1, mT, lenD, subD, addD_int, leD, ltD_int, gtD, geD, eqD_int, neD_int, gd_lim]⟩
        by_cases z : x = a <;> simp [runF, runFZ, startD, gSeq, gIf, gRet, gSet, gPut, gDrop, gNx, gFor, eA, eO, eN, eIf, e1, e2, e3, eTup, eLst, eCall, eM, eSl, oN, aN, aC, tA, tO, tN, tTr, tB1, tTrue, eC, eV, asB, asI, asL, asTT, truD, wipeD, setAllD, m1, mT, lenD, subD, addD_int, leD, ltD_int, gtD, geD, eqD_int, neD_int, gd_lim, notInE_L, z]
      refine runF_rt rfl ?_
      unfold g51
      have t1 : tN (tTr (eCall allD (aC (eLc [10] (iS (eV 3)) m1 [10] (tTrue) (eCall F50 (aC (eV 0) (aC (eV 10) (aN))))) (aN)))) [some (dL l), some (.dict (P.map dPE)), some (.int a), some (.tuple (ps.map dE)), none, none, none, none, none, none, none, none] = some false := by
        simp only [tN, tTr, eCall, aC, aN, hc, Option.bind_some, allD_of, q, truD]
        rfl
      refine seq_no (by simp [runF, runFZ, startD, gSeq, gIf, gRet, gSet, gPut, gDrop, gNx, gFor, eA, eO, eN, eIf, e1, e2, e3, eTup, eLst, eCall, eM, eSl, oN, aN, aC, tA, tO, tN, tTr, tB1, tTrue, eC, eV, asB, asI, asL, asTT, truD, wipeD, setAllD, m1, mT, lenD, subD, addD_int, leD, ltD_int, gtD, geD, eqD_int, neD_int, gd_lim, isi_tup]; exact t1) ?_
      refine seq_set (d := .list (dIs nums)) e1' ?_
      have t2 : tN (tTr (eCall allD (aC (eLc [11] (iR (e2 subD (eCall lenD (aC (eV 4) (aN))) (eC (.int 1)))) m1 [11] (tTrue) (e2 ltD (e2 ixE (eV 4) (eV 11)) (e2 ixE (eV 4) (e2 addD (eV 11) (eC (.int 1)))))) (aN)))) [some (dL l), some (.dict (P.map dPE)), some (.int a), some (.tuple (ps.map dE)), some (.list (dIs nums)), none, none, none, none, none, none, none] = some (!(asc nums)) := by
        simp only [tN, tTr, eCall, aC, aN, e2', Option.bind_some, allD_of, truD]
        rfl
      by_cases z1 : a ∈ nums
      · have : fenceB l P a ps = false := by
          have : decide (a ∈ ps.map (·.1)) = true := decide_eq_true z1
          simp [fenceB, this]
        rw [this]
        exact seq_yes (d := .bool false) (by simp [runF, runFZ, startD, gSeq, gIf, gRet, gSet, gPut, gDrop, gNx, gFor, eA, eO, eN, eIf, e1, e2, e3, eTup, eLst, eCall, eM, eSl, oN, aN, aC, tA, tO, tN, tTr, tB1, tTrue, eC, eV, asB, asI, asL, asTT, truD, wipeD, setAllD, m1, mT, lenD, subD, addD_int, leD, ltD_int, gtD, geD, eqD_int, neD_int, gd_lim, inE_L, z1]) (by simp [runF, runFZ, startD, gSeq, gIf, gRet, gSet, gPut, gDrop, gNx, gFor, eA, eO, eN, eIf, e1, e2, e3, eTup, eLst, eCall, eM, eSl, oN, aN, aC, tA, tO, tN, tTr, tB1, tTrue, eC, eV, asB, asI, asL, asTT, truD, wipeD, setAllD, m1, mT, lenD, subD, addD_int, leD, ltD_int, gtD, geD, eqD_int, neD_int, gd_lim]) rfl
      · have d1 : decide (a ∈ ps.map (·.1)) = false := decide_eq_false z1
        cases z2 : asc nums with
        | false =>
          have z2' : asc (ps.map (·.1)) = false := z2
          have : fenceB l P a ps = false := by simp only [fenceB, d1, z2']; rfl
          rw [this]
          rw [z2] at t2
          refine seq_yes (d := .bool false) ?_ (by simp [runF, runFZ, startD, gSeq, gIf, gRet, gSet, gPut, gDrop, gNx, gFor, eA, eO, eN, eIf, e1, e2, e3, eTup, eLst, eCall, eM, eSl, oN, aN, aC, tA, tO, tN, tTr, tB1, tTrue, eC, eV, asB, asI, asL, asTT, truD, wipeD, setAllD, m1, mT, lenD, subD, addD_int, leD, ltD_int, gtD, geD, eqD_int, neD_int, gd_lim]) rfl
          simp [runF, runFZ, startD, gSeq, gIf, gRet, gSet, gPut, gDrop, gNx, gFor, eA, eO, eN, eIf, e1, e2, e3, eTup, eLst, eCall, eM, eSl, oN, aN, aC, tA, tO, tN, tTr, tB1, tTrue, eC, eV, asB, asI, asL, asTT, truD, wipeD, setAllD, m1, mT, lenD, subD, addD_int, leD, ltD_int, gtD, geD, eqD_int, neD_int, gd_lim, inE_L, z1]
          exact t2
        | true =>
          have z2' : asc (ps.map (·.1)) = true := z2
          have hB : fenceB l P a ps = ps.all (okP l P a nums) := by simp only [fenceB, d1, z2']; rfl
          rw [hB]
          rw [z2] at t2
          refine seq_no ?_ ?_
          · simp [runF, runFZ, startD, gSeq, gIf, gRet, gSet, gPut, gDrop, gNx, gFor, eA, eO, eN, eIf, e1, e2, e3, eTup, eLst, eCall, eM, eSl, oN, aN, aC, tA, tO, tN, tTr, tB1, tTrue, eC, eV, asB, asI, asL, asTT, truD, wipeD, setAllD, m1, mT, lenD, subD, addD_int, leD, ltD_int, gtD, geD, eqD_int, neD_int, gd_lim, inE_L, z1]
            exact t2
          · refine seq_set e3' ?_
            refine seq_find (fun Γ => ∃ b c e f g i, Γ = [some (dL l), some (.dict (P.map dPE)), some (.int a), some (.tuple (ps.map dE)), some (.list (dIs nums)), some (.list (dIs (othersM l a nums))), b, c, e, f, g, i]) dE (fun p => !okP l P a nums p) (fun _ => .bool false) ps (by simp [iS, runF, runFZ, startD, gSeq, gIf, gRet, gSet, gPut, gDrop, gNx, gFor, eA, eO, eN, eIf, e1, e2, e3, eTup, eLst, eCall, eM, eSl, oN, aN, aC, tA, tO, tN, tTr, tB1, tTrue, eC, eV, asB, asI, asL, asTT, truD, wipeD, setAllD, m1, mT, lenD, subD, addD_int, leD, ltD_int, gtD, geD, eqD_int, neD_int, gd_lim]) ⟨_, _, _, _, _, _, rfl⟩ ?_ ?_ ?_
            · rintro Γ p hp ⟨b, c, e, f, g, i, rfl⟩
              obtain ⟨hp1, hp2⟩ := hps p hp
              obtain ⟨q1, q2⟩ := mem_rng.mp hp1
              have e4 : eLc [9] (iS (eV 5)) m1 [9] (tTrue) (eCall F20 (aC (eV 0) (aC (eV 9) (aC (eV 7) (aN))))) [some (dL l), some (.dict (P.map dPE)), some (.int a), some (.tuple (ps.map dE)), some (.list (dIs nums)), some (.list (dIs (othersM l a nums))), some (.int p.1), some (dI p.2), e, f, g, i] = some (.list ((othersM l a nums).map fun o => .bool (Mt l o p.2))) := by
                refine eLc_all (enc := PyData.int) (xs := othersM l a nums) (by simp [iS, runF, runFZ, startD, gSeq, gIf, gRet, gSet, gPut, gDrop, gNx, gFor, eA, eO, eN, eIf, e1, e2, e3, eTup, eLst, eCall, eM, eSl, oN, aN, aC, tA, tO, tN, tTr, tB1, tTrue, eC, eV, asB, asI, asL, asTT, truD, wipeD, setAllD, m1, mT, lenD, subD, addD_int, leD, ltD_int, gtD, geD, eqD_int, neD_int, gd_lim]) fun x hx => ⟨[.int x], rfl, ?_⟩
                obtain ⟨r1, r2⟩ := mem_rng.mp (List.mem_filter.mp hx).1
                simp [runF, runFZ, startD, gSeq, gIf, gRet, gSet, gPut, gDrop, gNx, gFor, eA, eO, eN, eIf, e1, e2, e3, eTup, eLst, eCall, eM, eSl, oN, aN, aC, tA, tO, tN, tTr, tB1, tTrue, eC, eV, asB, asI, asL, asTT, truD, wipeD, setAllD, m1, mT, lenD, subD, addD_int, leD, ltD_int, gtD, geD, eqD_int, neD_int, gd_lim, F20_eq ok r1 r2 hp2]
              have t3 : tTr (eCall anyD (aC (eLc [9] (iS (eV 5)) m1 [9] (tTrue) (eCall F20 (aC (eV 0) (aC (eV 9) (aC (eV 7) (aN)))))) (aN))) [some (dL l), some (.dict (P.map dPE)), some (.int a), some (.tuple (ps.map dE)), some (.list (dIs nums)), some (.list (dIs (othersM l a nums))), some (.int p.1), some (dI p.2), e, f, g, i] = some ((othersM l a nums).any fun o => Mt l o p.2) := by
                simp only [tTr, eCall, aC, aN, e4, Option.bind_some, anyD_of, truD]
              refine ⟨[.int p.1, dI p.2], rfl, fun qq => ?_, fun qq => ⟨[some (dL l), some (.dict (P.map dPE)), some (.int a), some (.tuple (ps.map dE)), some (.list (dIs nums)), some (.list (dIs (othersM l a nums))), some (.int p.1), some (dI p.2), e, f, g, i], ?_, _, _, _, _, _, _, rfl⟩⟩
              · simp only [okP] at qq
                cases hk : lookP P p.2 with
                | none => exact seq_yes (d := .bool false) (by simp [runF, runFZ, startD, gSeq, gIf, gRet, gSet, gPut, gDrop, gNx, gFor, eA, eO, eN, eIf, e1, e2, e3, eTup, eLst, eCall, eM, eSl, oN, aN, aC, tA, tO, tN, tTr, tB1, tTrue, eC, eV, asB, asI, asL, asTT, truD, wipeD, setAllD, m1, mT, lenD, subD, addD_int, leD, ltD_int, gtD, geD, eqD_int, neD_int, gd_lim, notIn_dem, hk]) (by simp [runF, runFZ, startD, gSeq, gIf, gRet, gSet, gPut, gDrop, gNx, gFor, eA, eO, eN, eIf, e1, e2, e3, eTup, eLst, eCall, eM, eSl, oN, aN, aC, tA, tO, tN, tTr, tB1, tTrue, eC, eV, asB, asI, asL, asTT, truD, wipeD, setAllD, m1, mT, lenD, subD, addD_int, leD, ltD_int, gtD, geD, eqD_int, neD_int, gd_lim]) rfl
                | some x =>
                  rw [hk] at qq
                  by_cases z3 : x = act l p.1
                  · exact seq_yes (d := .bool false) (by simp [runF, runFZ, startD, gSeq, gIf, gRet, gSet, gPut, gDrop, gNx, gFor, eA, eO, eN, eIf, e1, e2, e3, eTup, eLst, eCall, eM, eSl, oN, aN, aC, tA, tO, tN, tTr, tB1, tTrue, eC, eV, asB, asI, asL, asTT, truD, wipeD, setAllD, m1, mT, lenD, subD, addD_int, leD, ltD_int, gtD, geD, eqD_int, neD_int, gd_lim, notIn_dem, ix_dem, hk, dL_1, rule_ix q1 q2, dRule_0, z3]) (by simp [runF, runFZ, startD, gSeq, gIf, gRet, gSet, gPut, gDrop, gNx, gFor, eA, eO, eN, eIf, e1, e2, e3, eTup, eLst, eCall, eM, eSl, oN, aN, aC, tA, tO, tN, tTr, tB1, tTrue, eC, eV, asB, asI, asL, asTT, truD, wipeD, setAllD, m1, mT, lenD, subD, addD_int, leD, ltD_int, gtD, geD, eqD_int, neD_int, gd_lim]) rfl
                  · cases z4 : Mt l p.1 p.2 with
                    | false => exact seq_yes (d := .bool false) (by simp [runF, runFZ, startD, gSeq, gIf, gRet, gSet, gPut, gDrop, gNx, gFor, eA, eO, eN, eIf, e1, e2, e3, eTup, eLst, eCall, eM, eSl, oN, aN, aC, tA, tO, tN, tTr, tB1, tTrue, eC, eV, asB, asI, asL, asTT, truD, wipeD, setAllD, m1, mT, lenD, subD, addD_int, leD, ltD_int, gtD, geD, eqD_int, neD_int, gd_lim, notIn_dem, ix_dem, hk, dL_1, rule_ix q1 q2, dRule_0, z3, F20_eq ok q1 q2 hp2, z4]) (by simp [runF, runFZ, startD, gSeq, gIf, gRet, gSet, gPut, gDrop, gNx, gFor, eA, eO, eN, eIf, e1, e2, e3, eTup, eLst, eCall, eM, eSl, oN, aN, aC, tA, tO, tN, tTr, tB1, tTrue, eC, eV, asB, asI, asL, asTT, truD, wipeD, setAllD, m1, mT, lenD, subD, addD_int, leD, ltD_int, gtD, geD, eqD_int, neD_int, gd_lim]) rfl
                    | true =>
                      refine seq_no (by simp [runF, runFZ, startD, gSeq, gIf, gRet, gSet, gPut, gDrop, gNx, gFor, eA, eO, eN, eIf, e1, e2, e3, eTup, eLst, eCall, eM, eSl, oN, aN, aC, tA, tO, tN, tTr, tB1, tTrue, eC, eV, asB, asI, asL, asTT, truD, wipeD, setAllD, m1, mT, lenD, subD, addD_int, leD, ltD_int, gtD, geD, eqD_int, neD_int, gd_lim, notIn_dem, ix_dem, hk, dL_1, rule_ix q1 q2, dRule_0, z3, F20_eq ok q1 q2 hp2, z4]) ?_
                      have z5 : ((othersM l a nums).any fun o => Mt l o p.2) = true := by
                        simp only [decide_eq_false z3, z4] at qq
                        simpa using qq
                      rw [z5] at t3
                      simp only [gIf, setAllD, List.set_cons_succ, List.set_cons_zero, t3, Option.bind_some, if_true]
                      simp [runF, runFZ, startD, gSeq, gIf, gRet, gSet, gPut, gDrop, gNx, gFor, eA, eO, eN, eIf, e1, e2, e3, eTup, eLst, eCall, eM, eSl, oN, aN, aC, tA, tO, tN, tTr, tB1, tTrue, eC, eV, asB, asI, asL, asTT, truD, wipeD, setAllD, m1, mT, lenD, subD, addD_int, leD, ltD_int, gtD, geD, eqD_int, neD_int, gd_lim]
              · simp only [okP] at qq
                cases hk : lookP P p.2 with
                | none => rw [hk] at qq; cases qq
                | some x =>
                  rw [hk] at qq
                  simp only [Bool.not_eq_false', Bool.and_eq_true, Bool.not_eq_true', decide_eq_false_iff_not] at qq
                  obtain ⟨z3, z4, z5⟩ := qq
                  refine seq_no (by simp [runF, runFZ, startD, gSeq, gIf, gRet, gSet, gPut, gDrop, gNx, gFor, eA, eO, eN, eIf, e1, e2, e3, eTup, eLst, eCall, eM, eSl, oN, aN, aC, tA, tO, tN, tTr, tB1, tTrue, eC, eV, asB, asI, asL, asTT, truD, wipeD, setAllD, m1, mT, lenD, subD, addD_int, leD, ltD_int, gtD, geD, eqD_int, neD_int, gd_lim, notIn_dem, ix_dem, hk, dL_1, rule_ix q1 q2, dRule_0, z3, F20_eq ok q1 q2 hp2, z4]) ?_
                  rw [z5] at t3
                  simp only [gIf, setAllD, List.set_cons_succ, List.set_cons_zero, t3, Option.bind_some]
                  simp [runF, runFZ, startD, gSeq, gIf, gRet, gSet, gPut, gDrop, gNx, gFor, eA, eO, eN, eIf, e1, e2, e3, eTup, eLst, eCall, eM, eSl, oN, aN, aC, tA, tO, tN, tTr, tB1, tTrue, eC, eV, asB, asI, asL, asTT, truD, wipeD, setAllD, m1, mT, lenD, subD, addD_int, leD, ltD_int, gtD, geD, eqD_int, neD_int, gd_lim]
            · rintro e Γ' ⟨b, c, e', f, g, i, rfl⟩
              have : ps.all (okP l P a nums) = true := List.all_eq_true.mpr fun p hp => by
                have := List.find?_eq_none.mp e p hp
                simpa using this
              rw [this]
              simp [runF, runFZ, startD, gSeq, gIf, gRet, gSet, gPut, gDrop, gNx, gFor, eA, eO, eN, eIf, e1, e2, e3, eTup, eLst, eCall, eM, eSl, oN, aN, aC, tA, tO, tN, tTr, tB1, tTrue, eC, eV, asB, asI, asL, asTT, truD, wipeD, setAllD, m1, mT, lenD, subD, addD_int, leD, ltD_int, gtD, geD, eqD_int, neD_int, gd_lim]
            · intro p e
              have e1 := List.find?_some e
              have : ps.all (okP l P a nums) = false := by
                refine Bool.eq_false_iff.mpr fun hh => ?_
                have := List.all_eq_true.mp hh p (List.mem_of_find?_eq_some e)
                rw [this] at e1
                cases e1
              rw [this]
    · have hf : fenceD l P a (.tuple ds) = false := by
        simp only [fenceD]
        cases z : pairsOf l ds with
        | none => rfl
        | some ps =>
          obtain ⟨rfl, g⟩ := pairsOf_eq z
          have : ∃ p ∈ ps, isCase l (dI p.2) = false := by
            refine Classical.byContradiction fun hh => q (List.all_eq_true.mpr fun x hx => ?_)
            obtain ⟨p, hp, rfl⟩ := List.mem_map.mp hx
            rw [isPair_dE (g p hp)]
            cases y : isCase l (dI p.2) with
            | true => rfl
            | false => exact absurd ⟨p, hp, y⟩ hh
          obtain ⟨p, hp, y⟩ := this
          have : ps.all (okP l P a (ps.map (·.1))) = false := by
            refine Bool.eq_false_iff.mpr fun hh => ?_
            have := List.all_eq_true.mp hh p hp
            simp only [okP, look_none ok hP y] at this
            cases this
          simp only [fenceB, this, Bool.and_false]
      rw [hf]
      refine runF_rt rfl ?_
      unfold g51
      have t1 : tN (tTr (eCall allD (aC (eLc [10] (iS (eV 3)) m1 [10] (tTrue) (eCall F50 (aC (eV 0) (aC (eV 10) (aN))))) (aN)))) [some (dL l), some (.dict (P.map dPE)), some (.int a), some (.tuple ds), none, none, none, none, none, none, none, none] = some true := by
        simp only [tN, tTr, eCall, aC, aN, hc, Option.bind_some, allD_of, Bool.eq_false_iff.mpr q, truD]
        rfl
      refine seq_yes (d := .bool false) ?_ (by simp [runF, runFZ, startD, gSeq, gIf, gRet, gSet, gPut, gDrop, gNx, gFor, eA, eO, eN, eIf, e1, e2, e3, eTup, eLst, eCall, eM, eSl, oN, aN, aC, tA, tO, tN, tTr, tB1, tTrue, eC, eV, asB, asI, asL, asTT, truD, wipeD, setAllD, m1, mT, lenD, subD, addD_int, leD, ltD_int, gtD, geD, eqD_int, neD_int, gd_lim]) rfl
      simp [runF, runFZ, startD, gSeq, gIf, gRet, gSet, gPut, gDrop, gNx, gFor, eA, eO, eN, eIf, e1, e2, e3, eTup, eLst, eCall, eM, eSl, oN, aN, aC, tA, tO, tN, tTr, tB1, tTrue, eC, eV, asB, asI, asL, asTT, truD, wipeD, setAllD, m1, mT, lenD, subD, addD_int, leD, ltD_int, gtD, geD, eqD_int, neD_int, gd_lim, isi_tup]
      exact t1
  | _ => simp [F51, g51, runF, runFZ, startD, gSeq, gIf, gRet, gSet, gPut, gDrop, gNx, gFor, eA, eO, eN, eIf, e1, e2, e3, eTup, eLst, eCall, eM, eSl, oN, aN, aC, tA, tO, tN, tTr, tB1, tTrue, eC, eV, asB, asI, asL, asTT, truD, wipeD, setAllD, m1, mT, lenD, subD, addD_int, leD, ltD_int, gtD, geD, eqD_int, neD_int, gd_lim, isi_tuple h1, isT, fenceD]
end
end G8

/-! M12: the law's own look at a fence. -/
namespace G8
open L2 PyProof.Rows PySem.Spec PySem
theorem zLoop_flp {α S : Type} {m : PyData → Option (List PyData)} {is : List Nat} {b : ZG} (I : List α → S → DE → Prop) (enc : α → PyData) (step : S → α → S ⊕ PyData) : ∀ (xs pre : List α) (s : S) (Γ : DE), I pre s Γ →
    (∀ p x q s Γ, pre ++ xs = p ++ x :: q → I p s Γ → ∃ es, m (enc x) = some es ∧ (∀ s', step s x = .inl s' → ∃ Γ', b (setAllD Γ is es) = some (.nx Γ') ∧ I (p ++ [x]) s' Γ') ∧ ∀ r, step s x = .inr r → ∃ Γ', b (setAllD Γ is es) = some (.rt r Γ')) →
    (∀ s', fl step s xs = .inl s' → ∃ Γ', zLoop m is b (xs.map enc) Γ = some (.nx Γ') ∧ I (pre ++ xs) s' Γ') ∧ ∀ r, fl step s xs = .inr r → ∃ Γ', zLoop m is b (xs.map enc) Γ = some (.rt r Γ')
  | [], pre, s, Γ, hI, _ => ⟨fun s' e => by cases e; exact ⟨Γ, rfl, by rw [List.append_nil]; exact hI⟩, fun r e => by cases e⟩
  | x :: xs, pre, s, Γ, hI, h => by
    obtain ⟨es, h1, h2, h3⟩ := h pre x xs s Γ rfl hI
    simp only [List.map_cons, zLoop, h1, Option.bind_some, fl]
    cases e : step s x with
    | inl s' =>
      obtain ⟨Γ', h4, h5⟩ := h2 s' e
      simp only [h4, Option.bind_some]
      have := zLoop_flp I enc step xs (pre ++ [x]) s' Γ' h5 fun p y q s Γ e hp => h p y q s Γ (by rw [← e, List.append_assoc]; rfl) hp
      rw [List.append_assoc] at this
      exact this
    | inr r =>
      obtain ⟨Γ', h4⟩ := h3 r e
      simp only [h4, Option.bind_some]
      exact ⟨fun s' z => (by cases z), fun r' z => (by cases z; exact ⟨Γ', rfl⟩)⟩
theorem zseq_flp {α S : Type} {m : PyData → Option (List PyData)} {is : List Nat} {it : DE → Option (List PyData × DE)} {b g2 : ZG} {Γ Γ1 : DE} {P : Option ZOut → Prop} (I : List α → S → DE → Prop) (enc : α → PyData) (step : S → α → S ⊕ PyData) (xs : List α) (s : S) (hi : it Γ = some (xs.map enc, Γ1)) (hI : I [] s Γ1)
    (h : ∀ p x q s Γ, xs = p ++ x :: q → I p s Γ → ∃ es, m (enc x) = some es ∧ (∀ s', step s x = .inl s' → ∃ Γ', b (setAllD Γ is es) = some (.nx Γ') ∧ I (p ++ [x]) s' Γ') ∧ ∀ r, step s x = .inr r → ∃ Γ', b (setAllD Γ is es) = some (.rt r Γ'))
    (hl : ∀ s', fl step s xs = .inl s' → ∀ Γ', I xs s' Γ' → P (g2 Γ')) (hr : ∀ r, fl step s xs = .inr r → ∀ Γ', P (some (.rt r Γ'))) : P (zSeq (zFor it m is b) g2 Γ) := by
  obtain ⟨h1, h2⟩ := zLoop_flp (b := b) I enc step xs [] s Γ1 hI h
  simp only [zSeq, zFor, zB, hi, Option.bind_some]
  cases e : fl step s xs with
  | inl s' =>
    obtain ⟨Γ', h3, h4⟩ := h1 s' e
    rw [h3]
    exact hl s' e Γ' h4
  | inr r =>
    obtain ⟨Γ', h3⟩ := h2 r e
    rw [h3]
    exact hr r e Γ'
section
variable {t : DE → Option (Bool × DE)} {g h : ZG} {f : ZE} {Γ Γ1 : DE} {R : Option ZOut} {d : PyData}
theorem zseq_no (ht : t Γ = some (false, Γ1)) (hh : h Γ1 = R) : zSeq (zIf t g zNx) h Γ = R := by simp [zSeq, zIf, zB, ht, zNx, hh]
theorem zseq_yes {Γ2 : DE} (ht : t Γ = some (true, Γ1)) (hh : g Γ1 = some (.rt d Γ2)) (e : some (.rt d Γ2) = R) : zSeq (zIf t g zNx) h Γ = R := by subst e; simp [zSeq, zIf, zB, ht, hh]
theorem zseq_set {i : Nat} (hf : f Γ = some (d, Γ1)) (hh : h (Γ1.set i (some d)) = R) : zSeq (zSet i f) h Γ = R := by simp [zSeq, zSet, zB, hf, hh]
end
theorem tO_no {a b : DE → Option Bool} {Γ : DE} {r : Option Bool} (ha : a Γ = some false) (hb : b Γ = r) : tO a b Γ = r := by simp [tO, ha, hb]
theorem zTP_of {t : DE → Option Bool} {Γ : DE} {b : Bool} (h : t Γ = some b) : zTP t Γ = some (b, Γ) := by simp [zTP, h]
def lawStep (l : Ls) (s : List (Int × List Int)) (d : PyData) : List (Int × List Int) ⊕ PyData := match lawPair l d with
  | some p => .inl (s ++ [p])
  | none => .inr (.bool false)
theorem law_fl (l : Ls) : ∀ (ds : List PyData) (s : List (Int × List Int)), fl (lawStep l) s ds = match pairsOf l ds with
    | some ps => .inl (s ++ ps)
    | none => .inr (.bool false) := by
  intro ds
  induction ds with
  | nil => intro s; simp [fl, pairsOf]
  | cons d ds ih =>
    intro s
    simp only [fl, pairsOf, lawStep]
    cases e : lawPair l d with
    | none => simp
    | some p =>
      simp only [Option.bind_some]
      rw [ih]
      cases pairsOf l ds with
      | none => simp
      | some ps => simp
section
variable {l : Ls}
def bodyA : ZG := (zSeq (zIf (zTP (tO (tN (tTr (e1 (isiD "tuple") (eV 5)))) (tO (tB1 (e2 neD (eCall lenD (aC (eV 5) (aN))) (eC (.int 2)))) (tO (tN (tTr (eCall F56 (aC (e2 ixE (eV 5) (eC (.int 0))) (aN))))) (tN (tTr (e1 (isiD "tuple") (e2 ixE (eV 5) (eC (.int 1)))))))))) (zRet (zP [4] (eC (.bool false)))) (zNx)) (zSeq (zIf (zTP (tO (tN (tB1 (e3 leD ltD (eC (.int 0)) (e2 ixE (eV 5) (eC (.int 0))) (eCall lenD (aC (e2 ixE (eV 0) (eC (.int 1))) (aN)))))) (tN (tTr (eCall allD (aC (eLc [12] (iS (e2 ixE (eV 5) (eC (.int 1)))) m1 [12] (tTrue) (eCall F56 (aC (eV 12) (aN)))) (aN))))))) (zRet (zP [4] (eC (.bool false)))) (zNx)) (zApp 4 (zP [4] (e2 ixE (eV 5) (eC (.int 0)))))))
theorem bodyA_eq {d : PyData} (hd : PE' d) {s : List (Int × List Int)} (hs : s.length < 100000) {p a v b6 b7 b8 b9 b10 b11 b12 b13 b14 : Option PyData} :
    (∀ q, lawPair l d = some q → ∃ b12', bodyA [some (dL l), p, a, v, some (.list (dIs (s.map (·.1)))), some d, b6, b7, b8, b9, b10, b11, b12, b13, b14] = some (.nx [some (dL l), p, a, v, some (.list (dIs ((s ++ [q]).map (·.1)))), some d, b6, b7, b8, b9, b10, b11, b12', b13, b14])) ∧
    (lawPair l d = none → ∃ Γ', bodyA [some (dL l), p, a, v, some (.list (dIs (s.map (·.1)))), some d, b6, b7, b8, b9, b10, b11, b12, b13, b14] = some (.rt (.bool false) Γ')) := by
  obtain ⟨h1, h2⟩ := hd
  have no1 : ∀ {t : DE → Option Bool} {Γ : DE} {g h : ZG}, t Γ = some true → ∃ Γ', zSeq (zIf (zTP t) (zRet (zP [4] (eC (.bool false)))) zNx) h Γ = some (.rt (.bool false) Γ') := fun {t Γ g h} ht => ⟨_, zseq_yes (Γ1 := Γ) (by simp [zTP, ht]) (by simp [zRet, zB, zP, eC]; rfl) rfl⟩
  cases d with
  | dict _ => cases h1
  | tuple es =>
    match es, h2 es rfl with
    | [], _ => exact ⟨fun q e => by simp [lawPair] at e, fun _ => no1 (g := zNx) (by simp [runF, runFZ, startD, gSeq, gIf, gRet, gSet, gPut, gDrop, gNx, gFor, eA, eO, eN, eIf, e1, e2, e3, eTup, eLst, eCall, eM, eSl, oN, aN, aC, tA, tO, tN, tTr, tB1, tTrue, eC, eV, asB, asI, asL, asTT, truD, wipeD, setAllD, m1, mT, lenD, subD, addD_int, leD, ltD_int, gtD, geD, eqD_int, neD_int, gd_lim, isi_tup])⟩
    | [_], _ => exact ⟨fun q e => by simp [lawPair] at e, fun _ => no1 (g := zNx) (by simp [runF, runFZ, startD, gSeq, gIf, gRet, gSet, gPut, gDrop, gNx, gFor, eA, eO, eN, eIf, e1, e2, e3, eTup, eLst, eCall, eM, eSl, oN, aN, aC, tA, tO, tN, tTr, tB1, tTrue, eC, eV, asB, asI, asL, asTT, truD, wipeD, setAllD, m1, mT, lenD, subD, addD_int, leD, ltD_int, gtD, geD, eqD_int, neD_int, gd_lim, isi_tup])⟩
    | x :: y :: z :: es, _ =>
      have : ¬ ((es.length : Int) + 1 + 1 + 1 = 2) := by omega
      exact ⟨fun q e => by simp [lawPair] at e, fun _ => no1 (g := zNx) (by simp [runF, runFZ, startD, gSeq, gIf, gRet, gSet, gPut, gDrop, gNx, gFor, eA, eO, eN, eIf, e1, e2, e3, eTup, eLst, eCall, eM, eSl, oN, aN, aC, tA, tO, tN, tTr, tB1, tTrue, eC, eV, asB, asI, asL, asTT, truD, wipeD, setAllD, m1, mT, lenD, subD, addD_int, leD, ltD_int, gtD, geD, eqD_int, neD_int, gd_lim, isi_tup, this])⟩
    | [x, c], h2 =>
      have hx := h2 x (by simp)
      have hc := h2 c (by simp)
      cases x with
      | int i =>
        cases c with
        | dict _ => cases hc.1
        | tuple cs =>
          have hpl := hc.2 cs rfl
          have ha : eLc [12] (iS (e2 ixE (eV 5) (eC (.int 1)))) m1 [12] (tTrue) (eCall F56 (aC (eV 12) (aN))) [some (dL l), p, a, v, some (.list (dIs (s.map (·.1)))), some (.tuple [.int i, .tuple cs]), b6, b7, b8, b9, b10, b11, b12, b13, b14] = some (.list (cs.map fun x => .bool (isInt x))) := by
            refine eLc_all (enc := fun x => x) (xs := cs) (by simp [iS, runF, runFZ, startD, gSeq, gIf, gRet, gSet, gPut, gDrop, gNx, gFor, eA, eO, eN, eIf, e1, e2, e3, eTup, eLst, eCall, eM, eSl, oN, aN, aC, tA, tO, tN, tTr, tB1, tTrue, eC, eV, asB, asI, asL, asTT, truD, wipeD, setAllD, m1, mT, lenD, subD, addD_int, leD, ltD_int, gtD, geD, eqD_int, neD_int, gd_lim, ixE_1]) fun x hx => ⟨[x], rfl, ?_⟩
            simp [runF, runFZ, startD, gSeq, gIf, gRet, gSet, gPut, gDrop, gNx, gFor, eA, eO, eN, eIf, e1, e2, e3, eTup, eLst, eCall, eM, eSl, oN, aN, aC, tA, tO, tN, tTr, tB1, tTrue, eC, eV, asB, asI, asL, asTT, truD, wipeD, setAllD, m1, mT, lenD, subD, addD_int, leD, ltD_int, gtD, geD, eqD_int, neD_int, gd_lim, F56_eq (hpl x hx)]
          have ta : tN (tTr (eCall allD (aC (eLc [12] (iS (e2 ixE (eV 5) (eC (.int 1)))) m1 [12] (tTrue) (eCall F56 (aC (eV 12) (aN)))) (aN)))) [some (dL l), p, a, v, some (.list (dIs (s.map (·.1)))), some (.tuple [.int i, .tuple cs]), b6, b7, b8, b9, b10, b11, b12, b13, b14] = some (!(cs.all isInt)) := by
            simp only [tN, tTr, eCall, aC, aN, ha, Option.bind_some, allD_of, truD]
          have t1 : zTP (tO (tN (tTr (e1 (isiD "tuple") (eV 5)))) (tO (tB1 (e2 neD (eCall lenD (aC (eV 5) (aN))) (eC (.int 2)))) (tO (tN (tTr (eCall F56 (aC (e2 ixE (eV 5) (eC (.int 0))) (aN))))) (tN (tTr (e1 (isiD "tuple") (e2 ixE (eV 5) (eC (.int 1))))))))) [some (dL l), p, a, v, some (.list (dIs (s.map (·.1)))), some (.tuple [.int i, .tuple cs]), b6, b7, b8, b9, b10, b11, b12, b13, b14] = some (false, [some (dL l), p, a, v, some (.list (dIs (s.map (·.1)))), some (.tuple [.int i, .tuple cs]), b6, b7, b8, b9, b10, b11, b12, b13, b14]) := by
            have := F56_eq (d := .int i) rfl
            simp [zTP, runF, runFZ, startD, gSeq, gIf, gRet, gSet, gPut, gDrop, gNx, gFor, eA, eO, eN, eIf, e1, e2, e3, eTup, eLst, eCall, eM, eSl, oN, aN, aC, tA, tO, tN, tTr, tB1, tTrue, eC, eV, asB, asI, asL, asTT, truD, wipeD, setAllD, m1, mT, lenD, subD, addD_int, leD, ltD_int, gtD, geD, eqD_int, neD_int, gd_lim, isi_tup, ixE_0, ixE_1, this, isInt]
          by_cases q1 : 0 ≤ i ∧ i < l.rs.length
          · cases q2 : cs.all isInt with
            | true =>
              obtain ⟨is, rfl⟩ := ints_of_all q2
              refine ⟨fun q e => ⟨b12, ?_⟩, fun e => ?_⟩
              · simp only [lawPair, q1, and_self, if_true, intsD_map, Option.map_some, Option.some.injEq] at e
                subst e
                unfold bodyA
                refine zseq_no t1 ?_
                rw [q2] at ta
                refine zseq_no (Γ1 := [some (dL l), p, a, v, some (.list (dIs (s.map (·.1)))), some (.tuple [.int i, .tuple (dIs is)]), b6, b7, b8, b9, b10, b11, b12, b13, b14]) ?_ ?_
                · exact zTP_of (tO_no (by simp [runF, runFZ, startD, gSeq, gIf, gRet, gSet, gPut, gDrop, gNx, gFor, eA, eO, eN, eIf, e1, e2, e3, eTup, eLst, eCall, eM, eSl, oN, aN, aC, tA, tO, tN, tTr, tB1, tTrue, eC, eV, asB, asI, asL, asTT, truD, wipeD, setAllD, m1, mT, lenD, subD, addD_int, leD, ltD_int, gtD, geD, eqD_int, neD_int, gd_lim, isi_tup, ixE_0, ixE_1, q1.1, q1.2, dL_1]) ta)
                · simp [runF, runFZ, startD, gSeq, gIf, gRet, gSet, gPut, gDrop, gNx, gFor, eA, eO, eN, eIf, e1, e2, e3, eTup, eLst, eCall, eM, eSl, oN, aN, aC, tA, tO, tN, tTr, tB1, tTrue, eC, eV, asB, asI, asL, asTT, truD, wipeD, setAllD, m1, mT, lenD, subD, addD_int, leD, ltD_int, gtD, geD, eqD_int, neD_int, gd_lim, zSeq, zSet, zP, zF, zB, zIf, zTP, zTA, zT2, z2, zDset, zNx, zRel, zL, zRet, zApp, zIP, zTup, zLst, zC, zN, zSetIx, zPut, isLi, scal, ixE_0, hs, LIM]
              · simp [lawPair, q1, intsD_map] at e
            | false =>
              refine ⟨fun q e => ?_, fun _ => ?_⟩
              · simp [lawPair, q1, ints_none q2] at e
              · unfold bodyA
                rw [q2] at ta
                refine ⟨_, zseq_no t1 (zseq_yes (Γ1 := [some (dL l), p, a, v, some (.list (dIs (s.map (·.1)))), some (.tuple [.int i, .tuple cs]), b6, b7, b8, b9, b10, b11, b12, b13, b14]) ?_ (by simp [zRet, zB, zP, eC]; rfl) rfl)⟩
                exact zTP_of (tO_no (by simp [runF, runFZ, startD, gSeq, gIf, gRet, gSet, gPut, gDrop, gNx, gFor, eA, eO, eN, eIf, e1, e2, e3, eTup, eLst, eCall, eM, eSl, oN, aN, aC, tA, tO, tN, tTr, tB1, tTrue, eC, eV, asB, asI, asL, asTT, truD, wipeD, setAllD, m1, mT, lenD, subD, addD_int, leD, ltD_int, gtD, geD, eqD_int, neD_int, gd_lim, isi_tup, ixE_0, ixE_1, q1.1, q1.2, dL_1]) ta)
          · refine ⟨fun q e => ?_, fun _ => ?_⟩
            · simp only [lawPair, q1, if_false] at e
              cases e
            · unfold bodyA
              refine ⟨_, zseq_no t1 (zseq_yes (Γ1 := [some (dL l), p, a, v, some (.list (dIs (s.map (·.1)))), some (.tuple [.int i, .tuple cs]), b6, b7, b8, b9, b10, b11, b12, b13, b14]) ?_ (by simp [zRet, zB, zP, eC]; rfl) rfl)⟩
              by_cases q3 : 0 ≤ i
              · have q4 : ¬ i < l.rs.length := fun z => q1 ⟨q3, z⟩
                simp [zTP, runF, runFZ, startD, gSeq, gIf, gRet, gSet, gPut, gDrop, gNx, gFor, eA, eO, eN, eIf, e1, e2, e3, eTup, eLst, eCall, eM, eSl, oN, aN, aC, tA, tO, tN, tTr, tB1, tTrue, eC, eV, asB, asI, asL, asTT, truD, wipeD, setAllD, m1, mT, lenD, subD, addD_int, leD, ltD_int, gtD, geD, eqD_int, neD_int, gd_lim, isi_tup, ixE_0, ixE_1, q3, q4, dL_1]
              · simp [zTP, runF, runFZ, startD, gSeq, gIf, gRet, gSet, gPut, gDrop, gNx, gFor, eA, eO, eN, eIf, e1, e2, e3, eTup, eLst, eCall, eM, eSl, oN, aN, aC, tA, tO, tN, tTr, tB1, tTrue, eC, eV, asB, asI, asL, asTT, truD, wipeD, setAllD, m1, mT, lenD, subD, addD_int, leD, ltD_int, gtD, geD, eqD_int, neD_int, gd_lim, isi_tup, ixE_0, ixE_1, q3, dL_1]
        | _ =>
          refine ⟨fun q e => by simp [lawPair] at e, fun _ => no1 (g := zNx) ?_⟩
          have := F56_eq (d := .int i) rfl
          simp [runF, runFZ, startD, gSeq, gIf, gRet, gSet, gPut, gDrop, gNx, gFor, eA, eO, eN, eIf, e1, e2, e3, eTup, eLst, eCall, eM, eSl, oN, aN, aC, tA, tO, tN, tTr, tB1, tTrue, eC, eV, asB, asI, asL, asTT, truD, wipeD, setAllD, m1, mT, lenD, subD, addD_int, leD, ltD_int, gtD, geD, eqD_int, neD_int, gd_lim, isi_tup, ixE_0, ixE_1, this, isInt, isi_tuple hc.1, isT]
      | _ =>
        refine ⟨fun q e => by simp [lawPair] at e, fun _ => no1 (g := zNx) ?_⟩
        simp [runF, runFZ, startD, gSeq, gIf, gRet, gSet, gPut, gDrop, gNx, gFor, eA, eO, eN, eIf, e1, e2, e3, eTup, eLst, eCall, eM, eSl, oN, aN, aC, tA, tO, tN, tTr, tB1, tTrue, eC, eV, asB, asI, asL, asTT, truD, wipeD, setAllD, m1, mT, lenD, subD, addD_int, leD, ltD_int, gtD, geD, eqD_int, neD_int, gd_lim, isi_tup, ixE_0, ixE_1, F56_eq hx.1, isInt]
  | _ => exact ⟨fun q e => by simp [lawPair] at e, fun _ => no1 (g := zNx) (by simp [runF, runFZ, startD, gSeq, gIf, gRet, gSet, gPut, gDrop, gNx, gFor, eA, eO, eN, eIf, e1, e2, e3, eTup, eLst, eCall, eM, eSl, oN, aN, aC, tA, tO, tN, tTr, tB1, tTrue, eC, eV, asB, asI, asL, asTT, truD, wipeD, setAllD, m1, mT, lenD, subD, addD_int, leD, ltD_int, gtD, geD, eqD_int, neD_int, gd_lim, isi_tuple h1, isT])⟩
end
end G8

/-! M13: the law's own look at a fence, whole. -/
namespace G8
open L2 PyProof.Rows PySem.Spec PySem
section
variable {l : Ls}
def restB : DE → Option Out := (gSeq (gIf (tO (tB1 (e2 inE (eV 2) (eV 4))) (tTr (eCall anyD (aC (eLc [13] (iR (e2 subD (eCall lenD (aC (eV 4) (aN))) (eC (.int 1)))) m1 [13] (tTrue) (e2 geD (e2 ixE (eV 4) (eV 13)) (e2 ixE (eV 4) (e2 addD (eV 13) (eC (.int 1)))))) (aN))))) (gRet (eC (.bool false))) (gNx)) (gSeq (gFor (iS (eV 3)) (mT 2) [6, 7] (gSeq (gSet 8 (eLc [10, 11] (iS (eV 1)) (mT 2) [10, 11] (tB1 (e2 eqD (eV 10) (eV 7))) (eV 11))) (gSeq (gIf (tO (tN (tTr (eV 8))) (tO (tB1 (e2 eqD (e2 ixE (eV 8) (eC (.int 0))) (e2 ixE (e2 ixE (e2 ixE (eV 0) (eC (.int 1))) (eV 6)) (eC (.int 0))))) (tN (tTr (eCall F61 (aC (eV 0) (aC (eV 6) (aC (eV 7) (aN))))))))) (gRet (eC (.bool false))) (gNx)) (gSeq (gSet 9 (eLc [12] (iR (eCall lenD (aC (e2 ixE (eV 0) (eC (.int 1))) (aN)))) m1 [12] (tA (tB1 (e2 neD (eV 12) (eV 2))) (tB1 (e2 notInE (eV 12) (eV 4)))) (eV 12))) (gIf (tTr (eCall anyD (aC (eLc [14] (iS (eV 9)) m1 [14] (tTrue) (eCall F61 (aC (eV 0) (aC (eV 14) (aC (eV 7) (aN)))))) (aN)))) (gRet (eC (.bool false))) (gNx)))))) (gRet (eC (.bool true)))))
theorem acts_look (P : List Pr) (c : List Int) : ((P.filter fun q => decide (q.1 = c)).map fun q => q.2).head? = lookP P c := by
  simp [lookP, List.head?_map, List.head?_filter]
theorem restB_eq (ok : OkL l) {P : List Pr} (hP : (P.map (·.1)).Sublist (casesM l.ws)) {a : Int} {ps : List (Int × List Int)} (hps : ∀ p ∈ ps, p.1 ∈ rng l.rs.length) (hl : ps.length ≤ 60) {b5 b6 b7 b8 b9 b10 b11 b12 b13 b14 : Option PyData} :
    restB [some (dL l), some (.list (P.map dP)), some (.int a), some (.tuple (ps.map dE)), some (.list (dIs (ps.map (·.1)))), b5, b6, b7, b8, b9, b10, b11, b12, b13, b14] = some (.rt (.bool (fenceB l P a ps))) := by
  have lm := lim4 ok
  let nums := ps.map (·.1)
  have hnl : (nums.length : Int) ≤ 100001 := by
    have : nums.length = ps.length := by simp [nums]
    omega
  show restB [some (dL l), some (.list (P.map dP)), some (.int a), some (.tuple (ps.map dE)), some (.list (dIs nums)), b5, b6, b7, b8, b9, b10, b11, b12, b13, b14] = _
  have e2' : eLc [13] (iR (e2 subD (eCall lenD (aC (eV 4) (aN))) (eC (.int 1)))) m1 [13] (tTrue) (e2 geD (e2 ixE (eV 4) (eV 13)) (e2 ixE (eV 4) (e2 addD (eV 13) (eC (.int 1))))) [some (dL l), some (.list (P.map dP)), some (.int a), some (.tuple (ps.map dE)), some (.list (dIs nums)), b5, b6, b7, b8, b9, b10, b11, b12, b13, b14] = some (.list ((List.range (nums.length - 1)).map fun k => .bool (!decide (nums.getD k 0 < nums.getD (k + 1) 0)))) := by
    refine eLc_all (enc := fun k : Nat => PyData.int (k : Int)) (xs := List.range (nums.length - 1)) ?_ fun k hk => ⟨[.int (k : Nat)], rfl, ?_⟩
    · simp [iR, runF, runFZ, startD, gSeq, gIf, gRet, gSet, gPut, gDrop, gNx, gFor, eA, eO, eN, eIf, e1, e2, e3, eTup, eLst, eCall, eM, eSl, oN, aN, aC, tA, tO, tN, tTr, tB1, tTrue, eC, eV, asB, asI, asL, asTT, truD, wipeD, setAllD, m1, mT, lenD, subD, addD_int, leD, ltD_int, gtD, geD, eqD_int, neD_int, gd_lim, rgD, LIM]
      omega
    · have hk0 := List.mem_range.mp hk
      have f1 : k < nums.length := by omega
      have f2 : k + 1 < nums.length := by omega
      simp [runF, runFZ, startD, gSeq, gIf, gRet, gSet, gPut, gDrop, gNx, gFor, eA, eO, eN, eIf, e1, e2, e3, eTup, eLst, eCall, eM, eSl, oN, aN, aC, tA, tO, tN, tTr, tB1, tTrue, eC, eV, asB, asI, asL, asTT, truD, wipeD, setAllD, m1, mT, lenD, subD, addD_int, leD, ltD_int, gtD, geD, eqD_int, neD_int, gd_lim, ixE_m, ixE_sm, f1, f2]
      by_cases z : nums[k + 1] ≤ nums[k]
      · have : ¬ nums[k] < nums[k + 1] := by omega
        simp [z, this]
      · have : nums[k] < nums[k + 1] := by omega
        simp [z, this]
  have t2 : tTr (eCall anyD (aC (eLc [13] (iR (e2 subD (eCall lenD (aC (eV 4) (aN))) (eC (.int 1)))) m1 [13] (tTrue) (e2 geD (e2 ixE (eV 4) (eV 13)) (e2 ixE (eV 4) (e2 addD (eV 13) (eC (.int 1)))))) (aN))) [some (dL l), some (.list (P.map dP)), some (.int a), some (.tuple (ps.map dE)), some (.list (dIs nums)), b5, b6, b7, b8, b9, b10, b11, b12, b13, b14] = some (!(asc nums)) := by
    simp only [tTr, eCall, aC, aN, e2', Option.bind_some, anyD_of, truD]
    simp only [asc, List.not_all_eq_any_not]
  unfold restB
  by_cases z1 : a ∈ nums
  · have : fenceB l P a ps = false := by
      have : decide (a ∈ ps.map (·.1)) = true := decide_eq_true z1
      simp [fenceB, this]
    rw [this]
    exact seq_yes (d := .bool false) (by simp [runF, runFZ, startD, gSeq, gIf, gRet, gSet, gPut, gDrop, gNx, gFor, eA, eO, eN, eIf, e1, e2, e3, eTup, eLst, eCall, eM, eSl, oN, aN, aC, tA, tO, tN, tTr, tB1, tTrue, eC, eV, asB, asI, asL, asTT, truD, wipeD, setAllD, m1, mT, lenD, subD, addD_int, leD, ltD_int, gtD, geD, eqD_int, neD_int, gd_lim, inE_L, z1]) (by simp [runF, runFZ, startD, gSeq, gIf, gRet, gSet, gPut, gDrop, gNx, gFor, eA, eO, eN, eIf, e1, e2, e3, eTup, eLst, eCall, eM, eSl, oN, aN, aC, tA, tO, tN, tTr, tB1, tTrue, eC, eV, asB, asI, asL, asTT, truD, wipeD, setAllD, m1, mT, lenD, subD, addD_int, leD, ltD_int, gtD, geD, eqD_int, neD_int, gd_lim]) rfl
  · have d1 : decide (a ∈ ps.map (·.1)) = false := decide_eq_false z1
    cases z2 : asc nums with
    | false =>
      have z2' : asc (ps.map (·.1)) = false := z2
      have : fenceB l P a ps = false := by simp only [fenceB, d1, z2']; rfl
      rw [this]
      rw [z2] at t2
      exact seq_yes (d := .bool false) (tO_no (by simp [runF, runFZ, startD, gSeq, gIf, gRet, gSet, gPut, gDrop, gNx, gFor, eA, eO, eN, eIf, e1, e2, e3, eTup, eLst, eCall, eM, eSl, oN, aN, aC, tA, tO, tN, tTr, tB1, tTrue, eC, eV, asB, asI, asL, asTT, truD, wipeD, setAllD, m1, mT, lenD, subD, addD_int, leD, ltD_int, gtD, geD, eqD_int, neD_int, gd_lim, inE_L, z1]) t2) (by simp [runF, runFZ, startD, gSeq, gIf, gRet, gSet, gPut, gDrop, gNx, gFor, eA, eO, eN, eIf, e1, e2, e3, eTup, eLst, eCall, eM, eSl, oN, aN, aC, tA, tO, tN, tTr, tB1, tTrue, eC, eV, asB, asI, asL, asTT, truD, wipeD, setAllD, m1, mT, lenD, subD, addD_int, leD, ltD_int, gtD, geD, eqD_int, neD_int, gd_lim]) rfl
    | true =>
      have z2' : asc (ps.map (·.1)) = true := z2
      have hB : fenceB l P a ps = ps.all (okP l P a nums) := by simp only [fenceB, d1, z2']; rfl
      rw [hB]
      rw [z2] at t2
      refine seq_no (tO_no (by simp [runF, runFZ, startD, gSeq, gIf, gRet, gSet, gPut, gDrop, gNx, gFor, eA, eO, eN, eIf, e1, e2, e3, eTup, eLst, eCall, eM, eSl, oN, aN, aC, tA, tO, tN, tTr, tB1, tTrue, eC, eV, asB, asI, asL, asTT, truD, wipeD, setAllD, m1, mT, lenD, subD, addD_int, leD, ltD_int, gtD, geD, eqD_int, neD_int, gd_lim, inE_L, z1]) t2) ?_
      refine seq_find (fun Γ => ∃ b5 b6 b7 b8 b9 b10 b11 b12 b13 b14, Γ = [some (dL l), some (.list (P.map dP)), some (.int a), some (.tuple (ps.map dE)), some (.list (dIs nums)), b5, b6, b7, b8, b9, b10, b11, b12, b13, b14]) dE (fun p => !okP l P a nums p) (fun _ => .bool false) ps (by simp [iS, runF, runFZ, startD, gSeq, gIf, gRet, gSet, gPut, gDrop, gNx, gFor, eA, eO, eN, eIf, e1, e2, e3, eTup, eLst, eCall, eM, eSl, oN, aN, aC, tA, tO, tN, tTr, tB1, tTrue, eC, eV, asB, asI, asL, asTT, truD, wipeD, setAllD, m1, mT, lenD, subD, addD_int, leD, ltD_int, gtD, geD, eqD_int, neD_int, gd_lim]) ⟨_, _, _, _, _, _, _, _, _, _, rfl⟩ ?_ ?_ ?_
      · rintro Γ p hp ⟨b5, b6, b7, b8, b9, b10, b11, b12, b13, b14, rfl⟩
        obtain ⟨q1, q2⟩ := mem_rng.mp (hps p hp)
        have ea : eLc [10, 11] (iS (eV 1)) (mT 2) [10, 11] (tB1 (e2 eqD (eV 10) (eV 7))) (eV 11) [some (dL l), some (.list (P.map dP)), some (.int a), some (.tuple (ps.map dE)), some (.list (dIs nums)), b5, some (.int p.1), some (dI p.2), b8, b9, b10, b11, b12, b13, b14] = some (.list (dIs ((P.filter fun q => decide (q.1 = p.2)).map fun q => q.2))) := by
          have := eLc_map (own := [10, 11]) (it := iS (eV 1)) (m := mT 2) (is := [10, 11]) (t := tB1 (e2 eqD (eV 10) (eV 7))) (f := eV 11) (Γ := [some (dL l), some (.list (P.map dP)), some (.int a), some (.tuple (ps.map dE)), some (.list (dIs nums)), b5, some (.int p.1), some (dI p.2), b8, b9, b10, b11, b12, b13, b14]) (enc := dP) (p := fun q => decide (q.1 = p.2)) (q := fun q => .int q.2) (xs := P) (by simp [iS, runF, runFZ, startD, gSeq, gIf, gRet, gSet, gPut, gDrop, gNx, gFor, eA, eO, eN, eIf, e1, e2, e3, eTup, eLst, eCall, eM, eSl, oN, aN, aC, tA, tO, tN, tTr, tB1, tTrue, eC, eV, asB, asI, asL, asTT, truD, wipeD, setAllD, m1, mT, lenD, subD, addD_int, leD, ltD_int, gtD, geD, eqD_int, neD_int, gd_lim]) fun q hq => ⟨[dI q.1, .int q.2], rfl, by simp only [tB1, e2, eV, setAllD, wipeD, List.set_cons_succ, List.set_cons_zero, Option.bind_some, eqD_T, asB], fun _ => by simp [runF, runFZ, startD, gSeq, gIf, gRet, gSet, gPut, gDrop, gNx, gFor, eA, eO, eN, eIf, e1, e2, e3, eTup, eLst, eCall, eM, eSl, oN, aN, aC, tA, tO, tN, tTr, tB1, tTrue, eC, eV, asB, asI, asL, asTT, truD, wipeD, setAllD, m1, mT, lenD, subD, addD_int, leD, ltD_int, gtD, geD, eqD_int, neD_int, gd_lim]⟩
          rw [this]
          simp
        have hhead := acts_look P p.2
        have eo : ∀ acts : PyData, eLc [12] (iR (eCall lenD (aC (e2 ixE (eV 0) (eC (.int 1))) (aN)))) m1 [12] (tA (tB1 (e2 neD (eV 12) (eV 2))) (tB1 (e2 notInE (eV 12) (eV 4)))) (eV 12) [some (dL l), some (.list (P.map dP)), some (.int a), some (.tuple (ps.map dE)), some (.list (dIs nums)), b5, some (.int p.1), some (dI p.2), some acts, b9, b10, b11, b12, b13, b14] = some (.list (dIs (othersM l a nums))) := fun acts => by
          refine eLc_map (enc := PyData.int) (xs := rng l.rs.length) (by simp [iR, runF, runFZ, startD, gSeq, gIf, gRet, gSet, gPut, gDrop, gNx, gFor, eA, eO, eN, eIf, e1, e2, e3, eTup, eLst, eCall, eM, eSl, oN, aN, aC, tA, tO, tN, tTr, tB1, tTrue, eC, eV, asB, asI, asL, asTT, truD, wipeD, setAllD, m1, mT, lenD, subD, addD_int, leD, ltD_int, gtD, geD, eqD_int, neD_int, gd_lim, dL_1, lm, rgD_eq, LIM]) fun x hx => ⟨[.int x], rfl, ?_, fun _ => by simp [runF, runFZ, startD, gSeq, gIf, gRet, gSet, gPut, gDrop, gNx, gFor, eA, eO, eN, eIf, e1, e2, e3, eTup, eLst, eCall, eM, eSl, oN, aN, aC, tA, tO, tN, tTr, tB1, tTrue, eC, eV, asB, asI, asL, asTT, truD, wipeD, setAllD, m1, mT, lenD, subD, addD_int, leD, ltD_int, gtD, geD, eqD_int, neD_int, gd_lim]⟩
          by_cases z : x = a <;> simp [runF, runFZ, startD, gSeq, gIf, gRet, gSet, gPut, gDrop, gNx, gFor, eA, eO, eN, eIf, e1, e2, e3, eTup, eLst, eCall, eM, eSl, oN, aN, aC, tA, tO, tN, tTr, tB1, tTrue, eC, eV, asB, asI, asL, asTT, truD, wipeD, setAllD, m1, mT, lenD, subD, addD_int, leD, ltD_int, gtD, geD, eqD_int, neD_int, gd_lim, notInE_L, z]
        cases hk : lookP P p.2 with
        | none =>
          rw [hk] at hhead
          have hnil := List.head?_eq_none_iff.mp hhead
          rw [hnil] at ea
          refine ⟨[.int p.1, dI p.2], rfl, fun qq => ?_, fun qq => ?_⟩
          · refine seq_set ea ?_
            exact seq_yes (d := .bool false) (by simp [runF, runFZ, startD, gSeq, gIf, gRet, gSet, gPut, gDrop, gNx, gFor, eA, eO, eN, eIf, e1, e2, e3, eTup, eLst, eCall, eM, eSl, oN, aN, aC, tA, tO, tN, tTr, tB1, tTrue, eC, eV, asB, asI, asL, asTT, truD, wipeD, setAllD, m1, mT, lenD, subD, addD_int, leD, ltD_int, gtD, geD, eqD_int, neD_int, gd_lim]) (by simp [runF, runFZ, startD, gSeq, gIf, gRet, gSet, gPut, gDrop, gNx, gFor, eA, eO, eN, eIf, e1, e2, e3, eTup, eLst, eCall, eM, eSl, oN, aN, aC, tA, tO, tN, tTr, tB1, tTrue, eC, eV, asB, asI, asL, asTT, truD, wipeD, setAllD, m1, mT, lenD, subD, addD_int, leD, ltD_int, gtD, geD, eqD_int, neD_int, gd_lim]) rfl
          · simp only [okP, hk] at qq
            cases qq
        | some x =>
          rw [hk] at hhead
          obtain ⟨tl, hcons⟩ := List.head?_eq_some_iff.mp hhead
          rw [hcons] at ea
          have hp2 : p.2.length = l.ws.length := by
            simp only [lookP, Option.map_eq_some_iff] at hk
            obtain ⟨q, hq, _⟩ := hk
            have e0 := List.find?_some hq
            have e : q.1 = p.2 := by simpa using e0
            have := hP.subset (List.mem_map_of_mem (f := fun q : Pr => q.1) (List.mem_of_find?_eq_some hq))
            rw [e] at this
            exact cases_len ok.w this
          have e4 : eLc [14] (iS (eV 9)) m1 [14] (tTrue) (eCall F61 (aC (eV 0) (aC (eV 14) (aC (eV 7) (aN))))) [some (dL l), some (.list (P.map dP)), some (.int a), some (.tuple (ps.map dE)), some (.list (dIs nums)), b5, some (.int p.1), some (dI p.2), some (.list (dIs (x :: tl))), some (.list (dIs (othersM l a nums))), b10, b11, b12, b13, b14] = some (.list ((othersM l a nums).map fun o => .bool (Mt l o p.2))) := by
            refine eLc_all (enc := PyData.int) (xs := othersM l a nums) (by simp [iS, runF, runFZ, startD, gSeq, gIf, gRet, gSet, gPut, gDrop, gNx, gFor, eA, eO, eN, eIf, e1, e2, e3, eTup, eLst, eCall, eM, eSl, oN, aN, aC, tA, tO, tN, tTr, tB1, tTrue, eC, eV, asB, asI, asL, asTT, truD, wipeD, setAllD, m1, mT, lenD, subD, addD_int, leD, ltD_int, gtD, geD, eqD_int, neD_int, gd_lim]) fun y hy => ⟨[.int y], rfl, ?_⟩
            obtain ⟨r1, r2⟩ := mem_rng.mp (List.mem_filter.mp hy).1
            simp [runF, runFZ, startD, gSeq, gIf, gRet, gSet, gPut, gDrop, gNx, gFor, eA, eO, eN, eIf, e1, e2, e3, eTup, eLst, eCall, eM, eSl, oN, aN, aC, tA, tO, tN, tTr, tB1, tTrue, eC, eV, asB, asI, asL, asTT, truD, wipeD, setAllD, m1, mT, lenD, subD, addD_int, leD, ltD_int, gtD, geD, eqD_int, neD_int, gd_lim, F61_eq ok r1 r2 hp2]
          have t3 : tTr (eCall anyD (aC (eLc [14] (iS (eV 9)) m1 [14] (tTrue) (eCall F61 (aC (eV 0) (aC (eV 14) (aC (eV 7) (aN)))))) (aN))) [some (dL l), some (.list (P.map dP)), some (.int a), some (.tuple (ps.map dE)), some (.list (dIs nums)), b5, some (.int p.1), some (dI p.2), some (.list (dIs (x :: tl))), some (.list (dIs (othersM l a nums))), b10, b11, b12, b13, b14] = some ((othersM l a nums).any fun o => Mt l o p.2) := by
            simp only [tTr, eCall, aC, aN, e4, Option.bind_some, anyD_of, truD]
          refine ⟨[.int p.1, dI p.2], rfl, fun qq => ?_, fun qq => ⟨[some (dL l), some (.list (P.map dP)), some (.int a), some (.tuple (ps.map dE)), some (.list (dIs nums)), b5, some (.int p.1), some (dI p.2), some (.list (dIs (x :: tl))), some (.list (dIs (othersM l a nums))), b10, b11, b12, b13, b14], ?_, _, _, _, _, _, _, _, _, _, _, rfl⟩⟩
          · simp only [okP, hk] at qq
            refine seq_set ea ?_
            by_cases z3 : x = act l p.1
            · exact seq_yes (d := .bool false) (by simp [runF, runFZ, startD, gSeq, gIf, gRet, gSet, gPut, gDrop, gNx, gFor, eA, eO, eN, eIf, e1, e2, e3, eTup, eLst, eCall, eM, eSl, oN, aN, aC, tA, tO, tN, tTr, tB1, tTrue, eC, eV, asB, asI, asL, asTT, truD, wipeD, setAllD, m1, mT, lenD, subD, addD_int, leD, ltD_int, gtD, geD, eqD_int, neD_int, gd_lim, ixE_L, dL_1, rule_ix q1 q2, dRule_0, z3]) (by simp [runF, runFZ, startD, gSeq, gIf, gRet, gSet, gPut, gDrop, gNx, gFor, eA, eO, eN, eIf, e1, e2, e3, eTup, eLst, eCall, eM, eSl, oN, aN, aC, tA, tO, tN, tTr, tB1, tTrue, eC, eV, asB, asI, asL, asTT, truD, wipeD, setAllD, m1, mT, lenD, subD, addD_int, leD, ltD_int, gtD, geD, eqD_int, neD_int, gd_lim]) rfl
            · cases z4 : Mt l p.1 p.2 with
              | false => exact seq_yes (d := .bool false) (by simp [runF, runFZ, startD, gSeq, gIf, gRet, gSet, gPut, gDrop, gNx, gFor, eA, eO, eN, eIf, e1, e2, e3, eTup, eLst, eCall, eM, eSl, oN, aN, aC, tA, tO, tN, tTr, tB1, tTrue, eC, eV, asB, asI, asL, asTT, truD, wipeD, setAllD, m1, mT, lenD, subD, addD_int, leD, ltD_int, gtD, geD, eqD_int, neD_int, gd_lim, ixE_L, dL_1, rule_ix q1 q2, dRule_0, z3, F61_eq ok q1 q2 hp2, z4]) (by simp [runF, runFZ, startD, gSeq, gIf, gRet, gSet, gPut, gDrop, gNx, gFor, eA, eO, eN, eIf, e1, e2, e3, eTup, eLst, eCall, eM, eSl, oN, aN, aC, tA, tO, tN, tTr, tB1, tTrue, eC, eV, asB, asI, asL, asTT, truD, wipeD, setAllD, m1, mT, lenD, subD, addD_int, leD, ltD_int, gtD, geD, eqD_int, neD_int, gd_lim]) rfl
              | true =>
                refine seq_no (by simp [runF, runFZ, startD, gSeq, gIf, gRet, gSet, gPut, gDrop, gNx, gFor, eA, eO, eN, eIf, e1, e2, e3, eTup, eLst, eCall, eM, eSl, oN, aN, aC, tA, tO, tN, tTr, tB1, tTrue, eC, eV, asB, asI, asL, asTT, truD, wipeD, setAllD, m1, mT, lenD, subD, addD_int, leD, ltD_int, gtD, geD, eqD_int, neD_int, gd_lim, ixE_L, dL_1, rule_ix q1 q2, dRule_0, z3, F61_eq ok q1 q2 hp2, z4]) ?_
                have z5 : ((othersM l a nums).any fun o => Mt l o p.2) = true := by
                  simp only [decide_eq_false z3, z4] at qq
                  simpa using qq
                refine seq_set (eo _) ?_
                rw [z5] at t3
                simp only [gIf, setAllD, List.set_cons_succ, List.set_cons_zero, t3, Option.bind_some, if_true]
                simp [runF, runFZ, startD, gSeq, gIf, gRet, gSet, gPut, gDrop, gNx, gFor, eA, eO, eN, eIf, e1, e2, e3, eTup, eLst, eCall, eM, eSl, oN, aN, aC, tA, tO, tN, tTr, tB1, tTrue, eC, eV, asB, asI, asL, asTT, truD, wipeD, setAllD, m1, mT, lenD, subD, addD_int, leD, ltD_int, gtD, geD, eqD_int, neD_int, gd_lim]
          · simp only [okP, hk] at qq
            simp only [Bool.not_eq_false', Bool.and_eq_true, Bool.not_eq_true', decide_eq_false_iff_not] at qq
            obtain ⟨z3, z4, z5⟩ := qq
            refine seq_set ea ?_
            refine seq_no (by simp [runF, runFZ, startD, gSeq, gIf, gRet, gSet, gPut, gDrop, gNx, gFor, eA, eO, eN, eIf, e1, e2, e3, eTup, eLst, eCall, eM, eSl, oN, aN, aC, tA, tO, tN, tTr, tB1, tTrue, eC, eV, asB, asI, asL, asTT, truD, wipeD, setAllD, m1, mT, lenD, subD, addD_int, leD, ltD_int, gtD, geD, eqD_int, neD_int, gd_lim, ixE_L, dL_1, rule_ix q1 q2, dRule_0, z3, F61_eq ok q1 q2 hp2, z4]) ?_
            refine seq_set (eo _) ?_
            rw [z5] at t3
            simp only [gIf, setAllD, List.set_cons_succ, List.set_cons_zero, t3, Option.bind_some]
            simp [runF, runFZ, startD, gSeq, gIf, gRet, gSet, gPut, gDrop, gNx, gFor, eA, eO, eN, eIf, e1, e2, e3, eTup, eLst, eCall, eM, eSl, oN, aN, aC, tA, tO, tN, tTr, tB1, tTrue, eC, eV, asB, asI, asL, asTT, truD, wipeD, setAllD, m1, mT, lenD, subD, addD_int, leD, ltD_int, gtD, geD, eqD_int, neD_int, gd_lim]
      · rintro e Γ' ⟨_, _, _, _, _, _, _, _, _, _, rfl⟩
        have : ps.all (okP l P a nums) = true := List.all_eq_true.mpr fun p hp => by
          have := List.find?_eq_none.mp e p hp
          simpa using this
        rw [this]
        simp [runF, runFZ, startD, gSeq, gIf, gRet, gSet, gPut, gDrop, gNx, gFor, eA, eO, eN, eIf, e1, e2, e3, eTup, eLst, eCall, eM, eSl, oN, aN, aC, tA, tO, tN, tTr, tB1, tTrue, eC, eV, asB, asI, asL, asTT, truD, wipeD, setAllD, m1, mT, lenD, subD, addD_int, leD, ltD_int, gtD, geD, eqD_int, neD_int, gd_lim]
      · intro p e
        have e1 := List.find?_some e
        have : ps.all (okP l P a nums) = false := by
          refine Bool.eq_false_iff.mpr fun hh => ?_
          have := List.all_eq_true.mp hh p (List.mem_of_find?_eq_some e)
          rw [this] at e1
          cases e1
        rw [this]
theorem F70_eq (ok : OkL l) {P : List Pr} (hP : (P.map (·.1)).Sublist (casesM l.ws)) {a : Int} {d : PyData} (h : PV d) : F70 [dL l, .list (P.map dP), .int a, d] = some (.bool (fenceD l P a d)) := by
  obtain ⟨h1, h2⟩ := h
  have fin : ∀ {g : ZG} {r : PyData}, (∃ Γ, g (startD N70 [dL l, .list (P.map dP), .int a, d]) = some (.rt r Γ)) → runFZ 4 N70 g [dL l, .list (P.map dP), .int a, d] = some r := fun {g r} ⟨Γ, e⟩ => runFZ_rt rfl e
  refine fin ?_
  cases d with
  | dict _ => cases h1
  | tuple ds =>
    obtain ⟨hl, hp⟩ := h2 ds rfl
    unfold g70
    have : ∃ Γ, (zNew [] 4 (eLst (aN)) (zSeq (zFor (zIP [4] (iS (eV 3))) m1 [5] bodyA) (zRel (zL restB)))) (startD N70 [dL l, .list (P.map dP), .int a, .tuple ds]) = some (.rt (.bool (fenceD l P a (.tuple ds))) Γ) := by
      refine Exists.imp (fun Γ hΓ => zNew_of (d := .list []) (by simp [startD]) (by simp [runF, runFZ, startD, gSeq, gIf, gRet, gSet, gPut, gDrop, gNx, gFor, eA, eO, eN, eIf, e1, e2, e3, eTup, eLst, eCall, eM, eSl, oN, aN, aC, tA, tO, tN, tTr, tB1, tTrue, eC, eV, asB, asI, asL, asTT, truD, wipeD, setAllD, m1, mT, lenD, subD, addD_int, leD, ltD_int, gtD, geD, eqD_int, neD_int, gd_lim, gd, LIM]) hΓ) ?_
      refine zseq_flp (P := fun o => ∃ Γ, o = some (.rt (.bool (fenceD l P a (.tuple ds))) Γ)) (Γ1 := [some (dL l), some (.list (P.map dP)), some (.int a), some (.tuple ds), some (.list []), none, none, none, none, none, none, none, none, none, none]) (fun (pre : List PyData) (s : List (Int × List Int)) Γ => s.length ≤ pre.length ∧ ∃ b5 b6 b7 b8 b9 b10 b11 b12 b13 b14, Γ = [some (dL l), some (.list (P.map dP)), some (.int a), some (.tuple ds), some (.list (dIs (s.map (·.1)))), b5, b6, b7, b8, b9, b10, b11, b12, b13, b14]) (fun x => x) (lawStep l) ds [] (by simp [zIP, iS, runF, runFZ, startD, gSeq, gIf, gRet, gSet, gPut, gDrop, gNx, gFor, eA, eO, eN, eIf, e1, e2, e3, eTup, eLst, eCall, eM, eSl, oN, aN, aC, tA, tO, tN, tTr, tB1, tTrue, eC, eV, asB, asI, asL, asTT, truD, wipeD, setAllD, m1, mT, lenD, subD, addD_int, leD, ltD_int, gtD, geD, eqD_int, neD_int, gd_lim]) ⟨Nat.le_refl _, none, none, none, none, none, none, none, none, none, none, rfl⟩ ?_ ?_ ?_
      · rintro p x q s Γ e ⟨hs, b5, b6, b7, b8, b9, b10, b11, b12, b13, b14, rfl⟩
        have hlen : s.length < 100000 := by
          have : ds.length = p.length + (q.length + 1) := by rw [e]; simp
          omega
        obtain ⟨g1, g2⟩ := bodyA_eq (l := l) (hp x (by rw [e]; simp)) hlen (p := some (.list (P.map dP))) (a := some (.int a)) (v := some (.tuple ds)) (b6 := b6) (b7 := b7) (b8 := b8) (b9 := b9) (b10 := b10) (b11 := b11) (b12 := b12) (b13 := b13) (b14 := b14)
        refine ⟨[x], rfl, fun s' es => ?_, fun r er => ?_⟩
        · unfold lawStep at es
          cases z : lawPair l x with
          | none => rw [z] at es; cases es
          | some y =>
            rw [z] at es
            cases es
            obtain ⟨b12', hb⟩ := g1 y z
            exact ⟨_, hb, by simp only [List.length_append, List.length_singleton]; omega, _, _, _, _, _, _, _, _, _, _, rfl⟩
        · unfold lawStep at er
          cases z : lawPair l x with
          | some y => rw [z] at er; cases er
          | none =>
            rw [z] at er
            cases er
            exact g2 z
      · rintro s' es Γ' ⟨hs, b5, b6, b7, b8, b9, b10, b11, b12, b13, b14, rfl⟩
        rw [law_fl] at es
        cases z : pairsOf l ds with
        | none => rw [z] at es; cases es
        | some ps =>
          rw [z] at es
          cases es
          obtain ⟨e, g⟩ := pairsOf_eq z
          have hlp : ps.length ≤ 60 := by rw [e] at hl; simpa using hl
          have := restB_eq ok hP (a := a) g hlp (b5 := b5) (b6 := b6) (b7 := b7) (b8 := b8) (b9 := b9) (b10 := b10) (b11 := b11) (b12 := b12) (b13 := b13) (b14 := b14)
          rw [← e] at this
          simp only [List.nil_append, zRel, zL, this, Option.bind_some, fenceD, z]
          exact ⟨_, rfl⟩
      · intro r er Γ'
        rw [law_fl] at er
        cases z : pairsOf l ds with
        | some ps => rw [z] at er; cases er
        | none =>
          rw [z] at er
          cases er
          simp only [fenceD, z]
          exact ⟨_, rfl⟩
    obtain ⟨Γ, hΓ⟩ := this
    exact ⟨Γ, zseq_no (zTP_of (by simp [runF, runFZ, startD, gSeq, gIf, gRet, gSet, gPut, gDrop, gNx, gFor, eA, eO, eN, eIf, e1, e2, e3, eTup, eLst, eCall, eM, eSl, oN, aN, aC, tA, tO, tN, tTr, tB1, tTrue, eC, eV, asB, asI, asL, asTT, truD, wipeD, setAllD, m1, mT, lenD, subD, addD_int, leD, ltD_int, gtD, geD, eqD_int, neD_int, gd_lim, isi_tup])) hΓ⟩
  | _ => exact ⟨_, zseq_yes (zTP_of (by simp [runF, runFZ, startD, gSeq, gIf, gRet, gSet, gPut, gDrop, gNx, gFor, eA, eO, eN, eIf, e1, e2, e3, eTup, eLst, eCall, eM, eSl, oN, aN, aC, tA, tO, tN, tTr, tB1, tTrue, eC, eV, asB, asI, asL, asTT, truD, wipeD, setAllD, m1, mT, lenD, subD, addD_int, leD, ltD_int, gtD, geD, eqD_int, neD_int, gd_lim, isi_tuple h1, isT])) (by simp only [zRet, zB, zP, eC, fenceD, Option.bind_some]; rfl) rfl⟩
end
end G8

/-! M14: both judges give one answer. -/
namespace G8
open L2 PyProof.Rows PySem.Spec PySem
def posn (is : List Int) (x : Int) : Nat := (findI x is).getD 0
def notB (l : Ls) (K : List Kd) (a b : Int) : PyData → Bool
  | .tuple ds => match intsD ds with
    | some is => decide (srtI is = rng l.rs.length) && ((wrongM l K is).isNone && decide ((posn is b : Int) < posn is a))
    | none => false
  | _ => false
def alwB (l : Ls) (P : List Pr) (a b : Int) : PyData → Bool
  | .tuple ds => match pairsOf l ds with
    | some ps => fenceB l P a ps && decide (b ∈ ps.map (·.1))
    | none => false
  | _ => false
def evB (l : Ls) (K : List Kd) (P : List Pr) (a b : Int) : PyData → Bool
  | .tuple [.str s, v] => if s = "not" then notB l K a b v else if s = "always" then alwB l P a b v else false
  | _ => false
def Hd (w : PyData) : Prop := w = .none ∨ w = .str "not" ∨ w = .str "always" ∨ w = .str "both"
def VOk (d : PyData) : Prop := noDict d = true ∧ ∀ w v, d = .tuple [w, v] → Hd w ∧ PV v
theorem eq_nn : eqD (.str "not") (.str "not") = some (.bool true) := by kernel_rfl
theorem eq_an : eqD (.str "always") (.str "not") = some (.bool false) := by kernel_rfl
theorem eq_bn : eqD (.str "both") (.str "not") = some (.bool false) := by kernel_rfl
theorem eq_0n : eqD .none (.str "not") = some (.bool false) := by kernel_rfl
theorem ne_aa : neD (.str "always") (.str "always") = some (.bool false) := by kernel_rfl
theorem ne_ba : neD (.str "both") (.str "always") = some (.bool true) := by kernel_rfl
theorem ne_na : neD (.str "not") (.str "always") = some (.bool true) := by kernel_rfl
theorem ne_0a : neD .none (.str "always") = some (.bool true) := by kernel_rfl
theorem st_nn : (("not" : Str) = "not") = True := eq_true rfl
theorem st_an : (("always" : Str) = "not") = False := eq_false (by decide +kernel)
theorem st_bn : (("both" : Str) = "not") = False := eq_false (by decide +kernel)
theorem st_ba : (("both" : Str) = "always") = False := eq_false (by decide +kernel)
theorem tB_of {o : PyData → PyData → Option PyData} {f g : DE → Option PyData} {Γ : DE} {x y : PyData} {b : Bool} (hf : f Γ = some x) (hg : g Γ = some y) (ho : o x y = some (.bool b)) : tB1 (e2 o f g) Γ = some b := by simp [tB1, e2, hf, hg, ho, asB]
section
variable {l : Ls}
theorem find_has : ∀ {is : List Int} {x : Int}, x ∈ is → ∃ n, findI x is = some n
  | j :: is, x, h => by
    unfold findI
    by_cases e : j = x
    · exact ⟨0, by rw [if_pos e]⟩
    · rw [if_neg e]
      obtain ⟨n, hn⟩ := find_has ((List.mem_cons.mp h).resolve_left fun z => e z.symm)
      exact ⟨n + 1, by rw [hn]; rfl⟩
theorem index_of {is : List Int} {x : Int} (h : x ∈ is) : indexD (.tuple (List.map PyData.int is)) [.int x] = some (.int (posn is x)) := by
  obtain ⟨n, hn⟩ := find_has h
  simp only [indexD, intsD_map, Option.bind_some, hn, posn, Option.getD_some]
theorem F52_eq (ok : OkL l) {w : Wt} (hw : OkW l w) {a b : Int} (ha : a ∈ rng l.rs.length) (hb : b ∈ rng l.rs.length) (ne : a ≠ b) {r : List Int} (hr : r ∈ rowsM l.rs.length) (hR : wrongM l (kindsM l (wantsM l w)) r = none) {d : PyData} (h : VOk d) :
    F52 [dL l, dW w, .int a, .int b, d] = some (.bool (evB l (kindsM l (wantsM l w)) (wantsM l w) a b d)) := by
  have s1 : ∀ {g : DE → Option Out} {R : Option Out} , g [some (dL l), some (dW w), some (.int a), some (.int b), some d, some (.list ((kindsM l (wantsM l w)).map dK)), none, none, none] = R →
      gSeq (gSet 5 (eCall F42 (aC (eV 0) (aC (eV 1) (aN))))) (gSeq (gDrop (eCall F45 (aC (eV 0) (aC (eV 2) (aC (eV 3) (aN)))))) (gSeq (gDrop (eCall F43 (aC (eV 0) (aC (eV 5) (aN))))) g)) (startD N52 [dL l, dW w, .int a, .int b, d]) = R := fun {g R} hg => by
    refine seq_set (d := .list ((kindsM l (wantsM l w)).map dK)) (by simp [runF, runFZ, startD, gSeq, gIf, gRet, gSet, gPut, gDrop, gNx, gFor, eA, eO, eN, eIf, e1, e2, e3, eTup, eLst, eCall, eM, eSl, oN, aN, aC, tA, tO, tN, tTr, tB1, tTrue, eC, eV, asB, asI, asL, asTT, truD, wipeD, setAllD, m1, mT, lenD, subD, addD_int, leD, ltD_int, gtD, geD, eqD_int, neD_int, gd_lim, F42_eq ok hw]) ?_
    refine seq_drop (d := .none) (by simp [runF, runFZ, startD, gSeq, gIf, gRet, gSet, gPut, gDrop, gNx, gFor, eA, eO, eN, eIf, e1, e2, e3, eTup, eLst, eCall, eM, eSl, oN, aN, aC, tA, tO, tN, tTr, tB1, tTrue, eC, eV, asB, asI, asL, asTT, truD, wipeD, setAllD, m1, mT, lenD, subD, addD_int, leD, ltD_int, gtD, geD, eqD_int, neD_int, gd_lim, F45_eq ok ha hb ne]) ?_
    refine seq_drop (d := .none) (by simp [runF, runFZ, startD, gSeq, gIf, gRet, gSet, gPut, gDrop, gNx, gFor, eA, eO, eN, eIf, e1, e2, e3, eTup, eLst, eCall, eM, eSl, oN, aN, aC, tA, tO, tN, tTr, tB1, tTrue, eC, eV, asB, asI, asL, asTT, truD, wipeD, setAllD, m1, mT, lenD, subD, addD_int, leD, ltD_int, gtD, geD, eqD_int, neD_int, gd_lim, F43_eq ok hr hR]) ?_
    exact hg
  refine runF_rt rfl ?_
  unfold g52
  refine s1 ?_
  obtain ⟨h1, h2⟩ := h
  have no : ∀ {t : DE → Option Bool} {g : DE → Option Out} {Γ : DE}, t Γ = some true → gSeq (gIf t (gRet (eC (.bool false))) gNx) g Γ = some (.rt (.bool false)) := fun {t g Γ} ht => seq_yes (d := .bool false) ht (by simp [gRet, eC]) rfl
  cases d with
  | dict _ => cases h1
  | tuple ds =>
    match ds, h2 with
    | [], _ => exact no (by simp [runF, runFZ, startD, gSeq, gIf, gRet, gSet, gPut, gDrop, gNx, gFor, eA, eO, eN, eIf, e1, e2, e3, eTup, eLst, eCall, eM, eSl, oN, aN, aC, tA, tO, tN, tTr, tB1, tTrue, eC, eV, asB, asI, asL, asTT, truD, wipeD, setAllD, m1, mT, lenD, subD, addD_int, leD, ltD_int, gtD, geD, eqD_int, neD_int, gd_lim, isi_tup])
    | [x], _ => cases x <;> exact no (by simp [runF, runFZ, startD, gSeq, gIf, gRet, gSet, gPut, gDrop, gNx, gFor, eA, eO, eN, eIf, e1, e2, e3, eTup, eLst, eCall, eM, eSl, oN, aN, aC, tA, tO, tN, tTr, tB1, tTrue, eC, eV, asB, asI, asL, asTT, truD, wipeD, setAllD, m1, mT, lenD, subD, addD_int, leD, ltD_int, gtD, geD, eqD_int, neD_int, gd_lim, isi_tup])
    | x :: y :: z :: ds, _ =>
      have : ¬ ((ds.length : Int) + 1 + 1 + 1 = 2) := by omega
      cases x <;> exact no (by simp [runF, runFZ, startD, gSeq, gIf, gRet, gSet, gPut, gDrop, gNx, gFor, eA, eO, eN, eIf, e1, e2, e3, eTup, eLst, eCall, eM, eSl, oN, aN, aC, tA, tO, tN, tTr, tB1, tTrue, eC, eV, asB, asI, asL, asTT, truD, wipeD, setAllD, m1, mT, lenD, subD, addD_int, leD, ltD_int, gtD, geD, eqD_int, neD_int, gd_lim, isi_tup, this])
    | [x, v], h2 =>
      obtain ⟨hx, hv⟩ := h2 x v rfl
      rcases hx with rfl | rfl | rfl | rfl
      · exact no (by simp [runF, runFZ, startD, gSeq, gIf, gRet, gSet, gPut, gDrop, gNx, gFor, eA, eO, eN, eIf, e1, e2, e3, eTup, eLst, eCall, eM, eSl, oN, aN, aC, tA, tO, tN, tTr, tB1, tTrue, eC, eV, asB, asI, asL, asTT, truD, wipeD, setAllD, m1, mT, lenD, subD, addD_int, leD, ltD_int, gtD, geD, eqD_int, neD_int, gd_lim, isi_tup, ixE_0, isi_str (d := .none) rfl, isSt])
      · -- not
        refine seq_no (by simp [runF, runFZ, startD, gSeq, gIf, gRet, gSet, gPut, gDrop, gNx, gFor, eA, eO, eN, eIf, e1, e2, e3, eTup, eLst, eCall, eM, eSl, oN, aN, aC, tA, tO, tN, tTr, tB1, tTrue, eC, eV, asB, asI, asL, asTT, truD, wipeD, setAllD, m1, mT, lenD, subD, addD_int, leD, ltD_int, gtD, geD, eqD_int, neD_int, gd_lim, isi_tup, ixE_0, isi_strs]) ?_
        simp only [evB, if_true]
        have hF := F16_eq ok hv.tp
        cases hb' : rowB l v with
        | false =>
          rw [hb'] at hF
          have : notB l (kindsM l (wantsM l w)) a b v = false := by
            unfold rowB at hb'
            unfold notB
            split
            · simp only [inRow] at hb'
              split
              · rename_i z
                rw [z] at hb'
                simp only at hb'
                simp only [hb', Bool.false_and]
              · rfl
            · rfl
          rw [this]
          exact seq_yes (d := .bool false) (by simp [runF, runFZ, startD, gSeq, gIf, gRet, gSet, gPut, gDrop, gNx, gFor, eA, eO, eN, eIf, e1, e2, e3, eTup, eLst, eCall, eM, eSl, oN, aN, aC, tA, tO, tN, tTr, tB1, tTrue, eC, eV, asB, asI, asL, asTT, truD, wipeD, setAllD, m1, mT, lenD, subD, addD_int, leD, ltD_int, gtD, geD, eqD_int, neD_int, gd_lim, ixE_0, eq_nn]) (seq_set (d := v) (by simp [runF, runFZ, startD, gSeq, gIf, gRet, gSet, gPut, gDrop, gNx, gFor, eA, eO, eN, eIf, e1, e2, e3, eTup, eLst, eCall, eM, eSl, oN, aN, aC, tA, tO, tN, tTr, tB1, tTrue, eC, eV, asB, asI, asL, asTT, truD, wipeD, setAllD, m1, mT, lenD, subD, addD_int, leD, ltD_int, gtD, geD, eqD_int, neD_int, gd_lim, ixE_1]) (ret_of (by simp [runF, runFZ, startD, gSeq, gIf, gRet, gSet, gPut, gDrop, gNx, gFor, eA, eO, eN, eIf, e1, e2, e3, eTup, eLst, eCall, eM, eSl, oN, aN, aC, tA, tO, tN, tTr, tB1, tTrue, eC, eV, asB, asI, asL, asTT, truD, wipeD, setAllD, m1, mT, lenD, subD, addD_int, leD, ltD_int, gtD, geD, eqD_int, neD_int, gd_lim, hF]))) rfl
        | true =>
          rw [hb'] at hF
          unfold rowB at hb'
          split at hb'
          · rename_i ds
            simp only [inRow] at hb'
            split at hb'
            · rename_i is z
              have e := intsD_eq z
              subst e
              have hs := of_decide_eq_true hb'
              have hm := srt_mem hs
              have hsub := (rowsM_mem.mp hm).2.2
              have ia := index_of (row_all hm a ha)
              have ib := index_of (row_all hm b hb)
              have hw36 := F36_eq (l := l) (K := kindsM l (wantsM l w)) hsub
              simp only [notB, z, hb', Bool.true_and]
              refine seq_yes (by simp [runF, runFZ, startD, gSeq, gIf, gRet, gSet, gPut, gDrop, gNx, gFor, eA, eO, eN, eIf, e1, e2, e3, eTup, eLst, eCall, eM, eSl, oN, aN, aC, tA, tO, tN, tTr, tB1, tTrue, eC, eV, asB, asI, asL, asTT, truD, wipeD, setAllD, m1, mT, lenD, subD, addD_int, leD, ltD_int, gtD, geD, eqD_int, neD_int, gd_lim, ixE_0, eq_nn]) (seq_set (d := .tuple (dIs is)) (by simp [runF, runFZ, startD, gSeq, gIf, gRet, gSet, gPut, gDrop, gNx, gFor, eA, eO, eN, eIf, e1, e2, e3, eTup, eLst, eCall, eM, eSl, oN, aN, aC, tA, tO, tN, tTr, tB1, tTrue, eC, eV, asB, asI, asL, asTT, truD, wipeD, setAllD, m1, mT, lenD, subD, addD_int, leD, ltD_int, gtD, geD, eqD_int, neD_int, gd_lim, ixE_1]) (ret_of (d := .bool ((wrongM l (kindsM l (wantsM l w)) is).isNone && decide ((posn is b : Int) < posn is a))) ?_)) rfl
              cases q : (wrongM l (kindsM l (wantsM l w)) is).isNone with
              | true => simp [runF, runFZ, startD, gSeq, gIf, gRet, gSet, gPut, gDrop, gNx, gFor, eA, eO, eN, eIf, e1, e2, e3, eTup, eLst, eCall, eM, eSl, oN, aN, aC, tA, tO, tN, tTr, tB1, tTrue, eC, eV, asB, asI, asL, asTT, truD, wipeD, setAllD, m1, mT, lenD, subD, addD_int, leD, ltD_int, gtD, geD, eqD_int, neD_int, gd_lim, hF, hw36, isD_O, q, ia, ib]
              | false => simp [runF, runFZ, startD, gSeq, gIf, gRet, gSet, gPut, gDrop, gNx, gFor, eA, eO, eN, eIf, e1, e2, e3, eTup, eLst, eCall, eM, eSl, oN, aN, aC, tA, tO, tN, tTr, tB1, tTrue, eC, eV, asB, asI, asL, asTT, truD, wipeD, setAllD, m1, mT, lenD, subD, addD_int, leD, ltD_int, gtD, geD, eqD_int, neD_int, gd_lim, hF, hw36, isD_O, q]
            · cases hb'
          · cases hb'
      · -- always
        refine seq_no (by simp [runF, runFZ, startD, gSeq, gIf, gRet, gSet, gPut, gDrop, gNx, gFor, eA, eO, eN, eIf, e1, e2, e3, eTup, eLst, eCall, eM, eSl, oN, aN, aC, tA, tO, tN, tTr, tB1, tTrue, eC, eV, asB, asI, asL, asTT, truD, wipeD, setAllD, m1, mT, lenD, subD, addD_int, leD, ltD_int, gtD, geD, eqD_int, neD_int, gd_lim, isi_tup, ixE_0, isi_strs]) ?_
        refine seq_no (by simp [runF, runFZ, startD, gSeq, gIf, gRet, gSet, gPut, gDrop, gNx, gFor, eA, eO, eN, eIf, e1, e2, e3, eTup, eLst, eCall, eM, eSl, oN, aN, aC, tA, tO, tN, tTr, tB1, tTrue, eC, eV, asB, asI, asL, asTT, truD, wipeD, setAllD, m1, mT, lenD, subD, addD_int, leD, ltD_int, gtD, geD, eqD_int, neD_int, gd_lim, ixE_0, eq_an]) ?_
        simp only [evB, st_an, if_false, if_true]
        have hF := F51_eq ok (wants_ok ok hw).1 (a := a) hv
        have h47 := F47_eq ok hw
        cases q : fenceD l (wantsM l w) a v with
        | false =>
          rw [q] at hF
          have : alwB l (wantsM l w) a b v = false := by
            unfold fenceD at q
            unfold alwB
            split
            · simp only at q
              split
              · rename_i z
                rw [z] at q
                simp only at q
                simp only [q, Bool.false_and]
              · rfl
            · rfl
          rw [this]
          exact no (by simp [runF, runFZ, startD, gSeq, gIf, gRet, gSet, gPut, gDrop, gNx, gFor, eA, eO, eN, eIf, e1, e2, e3, eTup, eLst, eCall, eM, eSl, oN, aN, aC, tA, tO, tN, tTr, tB1, tTrue, eC, eV, asB, asI, asL, asTT, truD, wipeD, setAllD, m1, mT, lenD, subD, addD_int, leD, ltD_int, gtD, geD, eqD_int, neD_int, gd_lim, ixE_0, ixE_1, ne_aa, h47, hF])
        | true =>
          rw [q] at hF
          refine seq_no (by simp [runF, runFZ, startD, gSeq, gIf, gRet, gSet, gPut, gDrop, gNx, gFor, eA, eO, eN, eIf, e1, e2, e3, eTup, eLst, eCall, eM, eSl, oN, aN, aC, tA, tO, tN, tTr, tB1, tTrue, eC, eV, asB, asI, asL, asTT, truD, wipeD, setAllD, m1, mT, lenD, subD, addD_int, leD, ltD_int, gtD, geD, eqD_int, neD_int, gd_lim, ixE_0, ixE_1, ne_aa, h47, hF]) ?_
          unfold fenceD at q
          split at q
          · rename_i ds
            split at q
            · rename_i ps z
              obtain ⟨e, hps⟩ := pairsOf_eq z
              subst e
              simp only [alwB, z, q, Bool.true_and]
              refine ret_of ?_
              have e1' : ∀ Γ : DE, Γ.length = 9 → eV 4 Γ = some (.tuple [.str "always", .tuple (ps.map dE)]) → eLc [7, 8] (iS (e2 ixE (eV 4) (eC (.int 1)))) (mT 2) [7, 8] (tTrue) (eV 7) Γ = some (.list (dIs (ps.map (·.1)))) := fun Γ hl h4 => by
                match Γ, hl, h4 with
                | [_, _, _, _, _, _, _, _, _], _, h4 =>
                  simp only [eV] at h4
                  subst h4
                  rw [eLc_all (enc := dE) (q := fun p => .int p.1) (xs := ps) (by simp [iS, runF, runFZ, startD, gSeq, gIf, gRet, gSet, gPut, gDrop, gNx, gFor, eA, eO, eN, eIf, e1, e2, e3, eTup, eLst, eCall, eM, eSl, oN, aN, aC, tA, tO, tN, tTr, tB1, tTrue, eC, eV, asB, asI, asL, asTT, truD, wipeD, setAllD, m1, mT, lenD, subD, addD_int, leD, ltD_int, gtD, geD, eqD_int, neD_int, gd_lim, ixE_1]) fun p hp => ⟨[.int p.1, dI p.2], rfl, by simp [runF, runFZ, startD, gSeq, gIf, gRet, gSet, gPut, gDrop, gNx, gFor, eA, eO, eN, eIf, e1, e2, e3, eTup, eLst, eCall, eM, eSl, oN, aN, aC, tA, tO, tN, tTr, tB1, tTrue, eC, eV, asB, asI, asL, asTT, truD, wipeD, setAllD, m1, mT, lenD, subD, addD_int, leD, ltD_int, gtD, geD, eqD_int, neD_int, gd_lim]⟩]
                  simp
              simp only [e2, eV, Option.bind_some]
              rw [e1' _ rfl rfl, Option.bind_some, inE_L]
            · cases q
          · cases q
      · -- both
        refine seq_no (by simp [runF, runFZ, startD, gSeq, gIf, gRet, gSet, gPut, gDrop, gNx, gFor, eA, eO, eN, eIf, e1, e2, e3, eTup, eLst, eCall, eM, eSl, oN, aN, aC, tA, tO, tN, tTr, tB1, tTrue, eC, eV, asB, asI, asL, asTT, truD, wipeD, setAllD, m1, mT, lenD, subD, addD_int, leD, ltD_int, gtD, geD, eqD_int, neD_int, gd_lim, isi_tup, ixE_0, isi_strs]) ?_
        refine seq_no (by simp [runF, runFZ, startD, gSeq, gIf, gRet, gSet, gPut, gDrop, gNx, gFor, eA, eO, eN, eIf, e1, e2, e3, eTup, eLst, eCall, eM, eSl, oN, aN, aC, tA, tO, tN, tTr, tB1, tTrue, eC, eV, asB, asI, asL, asTT, truD, wipeD, setAllD, m1, mT, lenD, subD, addD_int, leD, ltD_int, gtD, geD, eqD_int, neD_int, gd_lim, ixE_0, eq_bn]) ?_
        simp only [evB, st_bn, st_ba, if_false]
        exact no (by simp [runF, runFZ, startD, gSeq, gIf, gRet, gSet, gPut, gDrop, gNx, gFor, eA, eO, eN, eIf, e1, e2, e3, eTup, eLst, eCall, eM, eSl, oN, aN, aC, tA, tO, tN, tTr, tB1, tTrue, eC, eV, asB, asI, asL, asTT, truD, wipeD, setAllD, m1, mT, lenD, subD, addD_int, leD, ltD_int, gtD, geD, eqD_int, neD_int, gd_lim, ixE_0, ne_ba])
  | _ => exact no (by simp [runF, runFZ, startD, gSeq, gIf, gRet, gSet, gPut, gDrop, gNx, gFor, eA, eO, eN, eIf, e1, e2, e3, eTup, eLst, eCall, eM, eSl, oN, aN, aC, tA, tO, tN, tTr, tB1, tTrue, eC, eV, asB, asI, asL, asTT, truD, wipeD, setAllD, m1, mT, lenD, subD, addD_int, leD, ltD_int, gtD, geD, eqD_int, neD_int, gd_lim, isi_tuple h1, isT])
theorem F71_eq (ok : OkL l) {P : List Pr} (hP : (P.map (·.1)).Sublist (casesM l.ws)) {K : List Kd} {a b : Int} (ha : a ∈ rng l.rs.length) (hb : b ∈ rng l.rs.length) {d : PyData} (h : VOk d) :
    F71 [dL l, .list (P.map dP), .list (K.map dK'), .int a, .int b, d] = some (.bool (evB l K P a b d)) := by
  have lm := lim4 ok
  refine runF_rt rfl ?_
  unfold g71
  obtain ⟨h1, h2⟩ := h
  have no : ∀ {t : DE → Option Bool} {g : DE → Option Out} {Γ : DE}, t Γ = some true → gSeq (gIf t (gRet (eC (.bool false))) gNx) g Γ = some (.rt (.bool false)) := fun {t g Γ} ht => seq_yes (d := .bool false) ht (by simp [gRet, eC]) rfl
  cases d with
  | dict _ => cases h1
  | tuple ds =>
    match ds, h2 with
    | [], _ => exact no (by simp [runF, runFZ, startD, gSeq, gIf, gRet, gSet, gPut, gDrop, gNx, gFor, eA, eO, eN, eIf, e1, e2, e3, eTup, eLst, eCall, eM, eSl, oN, aN, aC, tA, tO, tN, tTr, tB1, tTrue, eC, eV, asB, asI, asL, asTT, truD, wipeD, setAllD, m1, mT, lenD, subD, addD_int, leD, ltD_int, gtD, geD, eqD_int, neD_int, gd_lim, isi_tup])
    | [x], _ => cases x <;> exact no (by simp [runF, runFZ, startD, gSeq, gIf, gRet, gSet, gPut, gDrop, gNx, gFor, eA, eO, eN, eIf, e1, e2, e3, eTup, eLst, eCall, eM, eSl, oN, aN, aC, tA, tO, tN, tTr, tB1, tTrue, eC, eV, asB, asI, asL, asTT, truD, wipeD, setAllD, m1, mT, lenD, subD, addD_int, leD, ltD_int, gtD, geD, eqD_int, neD_int, gd_lim, isi_tup])
    | x :: y :: z :: ds, _ =>
      have : ¬ ((ds.length : Int) + 1 + 1 + 1 = 2) := by omega
      cases x <;> exact no (by simp [runF, runFZ, startD, gSeq, gIf, gRet, gSet, gPut, gDrop, gNx, gFor, eA, eO, eN, eIf, e1, e2, e3, eTup, eLst, eCall, eM, eSl, oN, aN, aC, tA, tO, tN, tTr, tB1, tTrue, eC, eV, asB, asI, asL, asTT, truD, wipeD, setAllD, m1, mT, lenD, subD, addD_int, leD, ltD_int, gtD, geD, eqD_int, neD_int, gd_lim, isi_tup, this])
    | [x, v], h2 =>
      obtain ⟨hx, hv⟩ := h2 x v rfl
      refine seq_no (by simp [runF, runFZ, startD, gSeq, gIf, gRet, gSet, gPut, gDrop, gNx, gFor, eA, eO, eN, eIf, e1, e2, e3, eTup, eLst, eCall, eM, eSl, oN, aN, aC, tA, tO, tN, tTr, tB1, tTrue, eC, eV, asB, asI, asL, asTT, truD, wipeD, setAllD, m1, mT, lenD, subD, addD_int, leD, ltD_int, gtD, geD, eqD_int, neD_int, gd_lim, isi_tup]) ?_
      rcases hx with rfl | rfl | rfl | rfl
      · refine seq_no (by simp [runF, runFZ, startD, gSeq, gIf, gRet, gSet, gPut, gDrop, gNx, gFor, eA, eO, eN, eIf, e1, e2, e3, eTup, eLst, eCall, eM, eSl, oN, aN, aC, tA, tO, tN, tTr, tB1, tTrue, eC, eV, asB, asI, asL, asTT, truD, wipeD, setAllD, m1, mT, lenD, subD, addD_int, leD, ltD_int, gtD, geD, eqD_int, neD_int, gd_lim, ixE_0, eq_0n]) ?_
        exact no (by simp [runF, runFZ, startD, gSeq, gIf, gRet, gSet, gPut, gDrop, gNx, gFor, eA, eO, eN, eIf, e1, e2, e3, eTup, eLst, eCall, eM, eSl, oN, aN, aC, tA, tO, tN, tTr, tB1, tTrue, eC, eV, asB, asI, asL, asTT, truD, wipeD, setAllD, m1, mT, lenD, subD, addD_int, leD, ltD_int, gtD, geD, eqD_int, neD_int, gd_lim, ixE_0, ne_0a])
      · -- not
        simp only [evB, if_true]
        have key : gSeq (gIf (tO (tN (tTr (e1 (isiD "tuple") (eV 6)))) (tO (tN (tTr (eCall allD (aC (eLc [9] (iS (eV 6)) m1 [9] (tTrue) (eCall F56 (aC (eV 9) (aN)))) (aN))))) (tB1 (e2 neD (eCall sortedD (aC (eV 6) (aN))) (eRgL (eCall lenD (aC (e2 ixE (eV 0) (eC (.int 1))) (aN)))))))) (gRet (eC (.bool false))) (gNx)) (gRet (eA (e2 isD (eCall F67 (aC (eV 0) (aC (eV 2) (aC (eV 6) (aN))))) (eC .none)) (e2 ltD (eM indexD (eV 6) (aC (eV 4) aN)) (eM indexD (eV 6) (aC (eV 3) aN)))))
            [some (dL l), some (.list (P.map dP)), some (.list (K.map dK')), some (.int a), some (.int b), some (.tuple [.str "not", v]), some v, none, none, none] = some (.rt (.bool (notB l K a b v))) := by
          obtain ⟨hv1, hv2⟩ := hv.tp
          cases v with
          | dict _ => cases hv1
          | tuple es =>
            obtain ⟨hl, hpl⟩ := hv2 es rfl
            have hc : eLc [9] (iS (eV 6)) m1 [9] (tTrue) (eCall F56 (aC (eV 9) (aN))) [some (dL l), some (.list (P.map dP)), some (.list (K.map dK')), some (.int a), some (.int b), some (.tuple [.str "not", .tuple es]), some (.tuple es), none, none, none] = some (.list (es.map fun x => .bool (isInt x))) := by
              refine eLc_all (enc := fun x => x) (xs := es) (by simp [iS, runF, runFZ, startD, gSeq, gIf, gRet, gSet, gPut, gDrop, gNx, gFor, eA, eO, eN, eIf, e1, e2, e3, eTup, eLst, eCall, eM, eSl, oN, aN, aC, tA, tO, tN, tTr, tB1, tTrue, eC, eV, asB, asI, asL, asTT, truD, wipeD, setAllD, m1, mT, lenD, subD, addD_int, leD, ltD_int, gtD, geD, eqD_int, neD_int, gd_lim]) fun x hx => ⟨[x], rfl, ?_⟩
              simp [runF, runFZ, startD, gSeq, gIf, gRet, gSet, gPut, gDrop, gNx, gFor, eA, eO, eN, eIf, e1, e2, e3, eTup, eLst, eCall, eM, eSl, oN, aN, aC, tA, tO, tN, tTr, tB1, tTrue, eC, eV, asB, asI, asL, asTT, truD, wipeD, setAllD, m1, mT, lenD, subD, addD_int, leD, ltD_int, gtD, geD, eqD_int, neD_int, gd_lim, F56_eq (hpl x hx)]
            have ta : tN (tTr (eCall allD (aC (eLc [9] (iS (eV 6)) m1 [9] (tTrue) (eCall F56 (aC (eV 9) (aN)))) (aN)))) [some (dL l), some (.list (P.map dP)), some (.list (K.map dK')), some (.int a), some (.int b), some (.tuple [.str "not", .tuple es]), some (.tuple es), none, none, none] = some (!(es.all isInt)) := by
              simp only [tN, tTr, eCall, aC, aN, hc, Option.bind_some, allD_of, truD]
            cases q : es.all isInt with
            | false =>
              rw [q] at ta
              have : notB l K a b (.tuple es) = false := by simp only [notB, ints_none q]
              rw [this]
              refine no (tO_no (by simp [runF, runFZ, startD, gSeq, gIf, gRet, gSet, gPut, gDrop, gNx, gFor, eA, eO, eN, eIf, e1, e2, e3, eTup, eLst, eCall, eM, eSl, oN, aN, aC, tA, tO, tN, tTr, tB1, tTrue, eC, eV, asB, asI, asL, asTT, truD, wipeD, setAllD, m1, mT, lenD, subD, addD_int, leD, ltD_int, gtD, geD, eqD_int, neD_int, gd_lim, isi_tup]) ?_)
              simp only [tO, ta, Option.bind_some]
              rfl
            | true =>
              rw [q] at ta
              obtain ⟨is, rfl⟩ := ints_of_all q
              have e1' : sortedD [.tuple (dIs is)] = some (.list (dIs (srtI is))) := by
                have : is.length < 64 := by simp at hl; omega
                simp only [sortedD, intsD_map, Option.bind_some, gd, decide_eq_true this, if_true]
              have e4 := neD_L (srtI is) (rng l.rs.length)
              have tb : tB1 (e2 neD (eCall sortedD (aC (eV 6) (aN))) (eRgL (eCall lenD (aC (e2 ixE (eV 0) (eC (.int 1))) (aN))))) [some (dL l), some (.list (P.map dP)), some (.list (K.map dK')), some (.int a), some (.int b), some (.tuple [.str "not", .tuple (dIs is)]), some (.tuple (dIs is)), none, none, none] = some (!decide (srtI is = rng l.rs.length)) := by
                have e5 : eRgL (eCall lenD (aC (e2 ixE (eV 0) (eC (.int 1))) (aN))) [some (dL l), some (.list (P.map dP)), some (.list (K.map dK')), some (.int a), some (.int b), some (.tuple [.str "not", .tuple (dIs is)]), some (.tuple (dIs is)), none, none, none] = some (.list (dIs (rng l.rs.length))) := by simp [eRgL, runF, runFZ, startD, gSeq, gIf, gRet, gSet, gPut, gDrop, gNx, gFor, eA, eO, eN, eIf, e1, e2, e3, eTup, eLst, eCall, eM, eSl, oN, aN, aC, tA, tO, tN, tTr, tB1, tTrue, eC, eV, asB, asI, asL, asTT, truD, wipeD, setAllD, m1, mT, lenD, subD, addD_int, leD, ltD_int, gtD, geD, eqD_int, neD_int, gd_lim, dL_1, upTo_eq, gd, LIM, lm]
                exact tB_of (by simp [runF, runFZ, startD, gSeq, gIf, gRet, gSet, gPut, gDrop, gNx, gFor, eA, eO, eN, eIf, e1, e2, e3, eTup, eLst, eCall, eM, eSl, oN, aN, aC, tA, tO, tN, tTr, tB1, tTrue, eC, eV, asB, asI, asL, asTT, truD, wipeD, setAllD, m1, mT, lenD, subD, addD_int, leD, ltD_int, gtD, geD, eqD_int, neD_int, gd_lim, e1']) e5 e4
              cases q2 : decide (srtI is = rng l.rs.length) with
              | false =>
                rw [q2] at tb
                have : notB l K a b (.tuple (dIs is)) = false := by simp only [notB, intsD_map, q2, Bool.false_and]
                rw [this]
                exact no (tO_no (by simp [runF, runFZ, startD, gSeq, gIf, gRet, gSet, gPut, gDrop, gNx, gFor, eA, eO, eN, eIf, e1, e2, e3, eTup, eLst, eCall, eM, eSl, oN, aN, aC, tA, tO, tN, tTr, tB1, tTrue, eC, eV, asB, asI, asL, asTT, truD, wipeD, setAllD, m1, mT, lenD, subD, addD_int, leD, ltD_int, gtD, geD, eqD_int, neD_int, gd_lim, isi_tup]) (tO_no ta tb))
              | true =>
                rw [q2] at tb
                refine seq_no (tO_no (by simp [runF, runFZ, startD, gSeq, gIf, gRet, gSet, gPut, gDrop, gNx, gFor, eA, eO, eN, eIf, e1, e2, e3, eTup, eLst, eCall, eM, eSl, oN, aN, aC, tA, tO, tN, tTr, tB1, tTrue, eC, eV, asB, asI, asL, asTT, truD, wipeD, setAllD, m1, mT, lenD, subD, addD_int, leD, ltD_int, gtD, geD, eqD_int, neD_int, gd_lim, isi_tup]) (tO_no ta tb)) ?_
                have hs := of_decide_eq_true q2
                have hm := srt_mem hs
                have ia := index_of (row_all hm a ha)
                have ib := index_of (row_all hm b hb)
                have h67 := F67_eq (l := l) (K := K) (rowsM_mem.mp hm).2.2
                simp only [notB, intsD_map, q2, Bool.true_and]
                refine ret_of ?_
                cases q3 : (wrongM l K is).isNone with
                | true => simp [runF, runFZ, startD, gSeq, gIf, gRet, gSet, gPut, gDrop, gNx, gFor, eA, eO, eN, eIf, e1, e2, e3, eTup, eLst, eCall, eM, eSl, oN, aN, aC, tA, tO, tN, tTr, tB1, tTrue, eC, eV, asB, asI, asL, asTT, truD, wipeD, setAllD, m1, mT, lenD, subD, addD_int, leD, ltD_int, gtD, geD, eqD_int, neD_int, gd_lim, h67, isD_O, q3, ia, ib]
                | false => simp [runF, runFZ, startD, gSeq, gIf, gRet, gSet, gPut, gDrop, gNx, gFor, eA, eO, eN, eIf, e1, e2, e3, eTup, eLst, eCall, eM, eSl, oN, aN, aC, tA, tO, tN, tTr, tB1, tTrue, eC, eV, asB, asI, asL, asTT, truD, wipeD, setAllD, m1, mT, lenD, subD, addD_int, leD, ltD_int, gtD, geD, eqD_int, neD_int, gd_lim, h67, isD_O, q3]
          | _ => exact no (by simp [runF, runFZ, startD, gSeq, gIf, gRet, gSet, gPut, gDrop, gNx, gFor, eA, eO, eN, eIf, e1, e2, e3, eTup, eLst, eCall, eM, eSl, oN, aN, aC, tA, tO, tN, tTr, tB1, tTrue, eC, eV, asB, asI, asL, asTT, truD, wipeD, setAllD, m1, mT, lenD, subD, addD_int, leD, ltD_int, gtD, geD, eqD_int, neD_int, gd_lim, isi_tuple hv1, isT])
        exact seq_yes (d := .bool (notB l K a b v)) (by simp [runF, runFZ, startD, gSeq, gIf, gRet, gSet, gPut, gDrop, gNx, gFor, eA, eO, eN, eIf, e1, e2, e3, eTup, eLst, eCall, eM, eSl, oN, aN, aC, tA, tO, tN, tTr, tB1, tTrue, eC, eV, asB, asI, asL, asTT, truD, wipeD, setAllD, m1, mT, lenD, subD, addD_int, leD, ltD_int, gtD, geD, eqD_int, neD_int, gd_lim, ixE_0, eq_nn]) (seq_set (d := v) (by simp [runF, runFZ, startD, gSeq, gIf, gRet, gSet, gPut, gDrop, gNx, gFor, eA, eO, eN, eIf, e1, e2, e3, eTup, eLst, eCall, eM, eSl, oN, aN, aC, tA, tO, tN, tTr, tB1, tTrue, eC, eV, asB, asI, asL, asTT, truD, wipeD, setAllD, m1, mT, lenD, subD, addD_int, leD, ltD_int, gtD, geD, eqD_int, neD_int, gd_lim, ixE_1]) key) rfl
      · -- always
        refine seq_no (by simp [runF, runFZ, startD, gSeq, gIf, gRet, gSet, gPut, gDrop, gNx, gFor, eA, eO, eN, eIf, e1, e2, e3, eTup, eLst, eCall, eM, eSl, oN, aN, aC, tA, tO, tN, tTr, tB1, tTrue, eC, eV, asB, asI, asL, asTT, truD, wipeD, setAllD, m1, mT, lenD, subD, addD_int, leD, ltD_int, gtD, geD, eqD_int, neD_int, gd_lim, ixE_0, eq_an]) ?_
        simp only [evB, st_an, if_false, if_true]
        have hF := F70_eq ok hP (a := a) hv
        cases q : fenceD l P a v with
        | false =>
          rw [q] at hF
          have : alwB l P a b v = false := by
            unfold fenceD at q
            unfold alwB
            split
            · simp only at q
              split
              · rename_i z
                rw [z] at q
                simp only at q
                simp only [q, Bool.false_and]
              · rfl
            · rfl
          rw [this]
          exact no (by simp [runF, runFZ, startD, gSeq, gIf, gRet, gSet, gPut, gDrop, gNx, gFor, eA, eO, eN, eIf, e1, e2, e3, eTup, eLst, eCall, eM, eSl, oN, aN, aC, tA, tO, tN, tTr, tB1, tTrue, eC, eV, asB, asI, asL, asTT, truD, wipeD, setAllD, m1, mT, lenD, subD, addD_int, leD, ltD_int, gtD, geD, eqD_int, neD_int, gd_lim, ixE_0, ixE_1, ne_aa, hF])
        | true =>
          rw [q] at hF
          refine seq_no (by simp [runF, runFZ, startD, gSeq, gIf, gRet, gSet, gPut, gDrop, gNx, gFor, eA, eO, eN, eIf, e1, e2, e3, eTup, eLst, eCall, eM, eSl, oN, aN, aC, tA, tO, tN, tTr, tB1, tTrue, eC, eV, asB, asI, asL, asTT, truD, wipeD, setAllD, m1, mT, lenD, subD, addD_int, leD, ltD_int, gtD, geD, eqD_int, neD_int, gd_lim, ixE_0, ixE_1, ne_aa, hF]) ?_
          unfold fenceD at q
          split at q
          · rename_i ds
            split at q
            · rename_i ps z
              obtain ⟨e, hps⟩ := pairsOf_eq z
              subst e
              simp only [alwB, z, q, Bool.true_and]
              refine ret_of ?_
              have e1' : ∀ Γ : DE, Γ.length = 10 → eV 5 Γ = some (.tuple [.str "always", .tuple (ps.map dE)]) → eLc [7, 8] (iS (e2 ixE (eV 5) (eC (.int 1)))) (mT 2) [7, 8] (tTrue) (eV 7) Γ = some (.list (dIs (ps.map (·.1)))) := fun Γ hl h4 => by
                match Γ, hl, h4 with
                | [_, _, _, _, _, _, _, _, _, _], _, h4 =>
                  simp only [eV] at h4
                  subst h4
                  rw [eLc_all (enc := dE) (q := fun p => .int p.1) (xs := ps) (by simp [iS, runF, runFZ, startD, gSeq, gIf, gRet, gSet, gPut, gDrop, gNx, gFor, eA, eO, eN, eIf, e1, e2, e3, eTup, eLst, eCall, eM, eSl, oN, aN, aC, tA, tO, tN, tTr, tB1, tTrue, eC, eV, asB, asI, asL, asTT, truD, wipeD, setAllD, m1, mT, lenD, subD, addD_int, leD, ltD_int, gtD, geD, eqD_int, neD_int, gd_lim, ixE_1]) fun p hp => ⟨[.int p.1, dI p.2], rfl, by simp [runF, runFZ, startD, gSeq, gIf, gRet, gSet, gPut, gDrop, gNx, gFor, eA, eO, eN, eIf, e1, e2, e3, eTup, eLst, eCall, eM, eSl, oN, aN, aC, tA, tO, tN, tTr, tB1, tTrue, eC, eV, asB, asI, asL, asTT, truD, wipeD, setAllD, m1, mT, lenD, subD, addD_int, leD, ltD_int, gtD, geD, eqD_int, neD_int, gd_lim]⟩]
                  simp
              have e0 : (startD N71 [dL l, .list (P.map dP), .list (K.map dK'), .int a, .int b, .tuple [.str "always", .tuple (ps.map dE)]]) = [some (dL l), some (.list (P.map dP)), some (.list (K.map dK')), some (.int a), some (.int b), some (.tuple [.str "always", .tuple (ps.map dE)]), none, none, none, none] := by simp [startD]
              rw [e0]
              simp only [e2, eV, Option.bind_some]
              rw [e1' _ rfl rfl, Option.bind_some, inE_L]
            · cases q
          · cases q
      · -- both
        refine seq_no (by simp [runF, runFZ, startD, gSeq, gIf, gRet, gSet, gPut, gDrop, gNx, gFor, eA, eO, eN, eIf, e1, e2, e3, eTup, eLst, eCall, eM, eSl, oN, aN, aC, tA, tO, tN, tTr, tB1, tTrue, eC, eV, asB, asI, asL, asTT, truD, wipeD, setAllD, m1, mT, lenD, subD, addD_int, leD, ltD_int, gtD, geD, eqD_int, neD_int, gd_lim, ixE_0, eq_bn]) ?_
        simp only [evB, st_bn, st_ba, if_false]
        exact no (by simp [runF, runFZ, startD, gSeq, gIf, gRet, gSet, gPut, gDrop, gNx, gFor, eA, eO, eN, eIf, e1, e2, e3, eTup, eLst, eCall, eM, eSl, oN, aN, aC, tA, tO, tN, tTr, tB1, tTrue, eC, eV, asB, asI, asL, asTT, truD, wipeD, setAllD, m1, mT, lenD, subD, addD_int, leD, ltD_int, gtD, geD, eqD_int, neD_int, gd_lim, ixE_0, ne_ba])
  | _ => exact no (by simp [runF, runFZ, startD, gSeq, gIf, gRet, gSet, gPut, gDrop, gNx, gFor, eA, eO, eN, eIf, e1, e2, e3, eTup, eLst, eCall, eM, eSl, oN, aN, aC, tA, tO, tN, tTr, tB1, tTrue, eC, eV, asB, asI, asL, asTT, truD, wipeD, setAllD, m1, mT, lenD, subD, addD_int, leD, ltD_int, gtD, geD, eqD_int, neD_int, gd_lim, isi_tuple h1, isT])
end
end G8

/-! M15: evidence that is taken is sound. -/
namespace G8
open L2 PyProof.Rows PySem.Spec PySem
section
variable {l : Ls}
theorem pos_in : ∀ {p : List Int} {q : List Int} {x : Int}, x ∈ p → posn (p ++ q) x < p.length
  | y :: p, q, x, h => by
    unfold posn
    rw [List.cons_append, findI]
    by_cases e : y = x
    · rw [if_pos e]; simp
    · rw [if_neg e]
      have hx : x ∈ p := (List.mem_cons.mp h).resolve_left fun z => e z.symm
      have ih := pos_in (q := q) hx
      obtain ⟨n, hn⟩ := find_has (List.mem_append_left q hx)
      unfold posn at ih
      rw [hn] at ih ⊢
      simp only [Option.bind_some, Option.getD_some, List.length_cons] at ih ⊢
      omega
theorem pos_out : ∀ {p : List Int} {q : List Int} {x : Int}, x ∉ p → x ∈ q → p.length ≤ posn (p ++ q) x
  | [], q, x, _, _ => Nat.zero_le _
  | y :: p, q, x, h, hq => by
    unfold posn
    rw [List.cons_append, findI]
    have e : ¬ y = x := fun z => h (by rw [z]; exact List.mem_cons_self)
    have hp : x ∉ p := fun z => h (List.mem_cons_of_mem _ z)
    rw [if_neg e]
    have ih := pos_out hp hq
    obtain ⟨n, hn⟩ := find_has (List.mem_append_right p hq)
    unfold posn at ih
    rw [hn] at ih ⊢
    simp only [Option.bind_some, Option.getD_some, List.length_cons] at ih ⊢
    omega
theorem pos_ne {r : List Int} {a b : Int} (ha : a ∈ r) (hb : b ∈ r) (ne : a ≠ b) : posn r a ≠ posn r b := by
  obtain ⟨n, hn⟩ := find_has ha
  obtain ⟨m, hm⟩ := find_has hb
  have h1 := (findI_spec hn).1
  have h2 := (findI_spec hm).1
  simp only [posn, hn, hm, Option.getD_some]
  intro e
  rw [e, h2] at h1
  exact ne (Option.some.inj h1).symm
/-- a fence keeps b behind a in every right row -/
theorem fence_sound {P : List Pr} {a b : Int} {ps : List (Int × List Int)} (ha : a ∈ rng l.rs.length) (ne : a ≠ b) (hps : ∀ p ∈ ps, p.1 ∈ rng l.rs.length) (hf : fenceB l P a ps = true) (hb : b ∈ ps.map (·.1)) {r : List Int} (hr : r ∈ rowsM l.rs.length)
    (hw : wrongM l (kindsM l P) r = none) : posn r a < posn r b := by
  simp only [fenceB, Bool.and_eq_true, Bool.not_eq_true', decide_eq_false_iff_not] at hf
  obtain ⟨f1, _, f3⟩ := hf
  have hbr : b ∈ rng l.rs.length := by
    obtain ⟨p, hp, rfl⟩ := List.mem_map.mp hb
    exact hps p hp
  have har := row_all hr a ha
  have hbr' := row_all hr b hbr
  refine Classical.byContradiction fun hn => ?_
  have hlt : posn r b < posn r a := by
    have := pos_ne har hbr' ne
    omega
  cases e : r.find? fun x => decide (x ∈ ps.map (·.1)) with
  | none =>
    have := List.find?_eq_none.mp e b hbr'
    exact this (decide_eq_true hb)
  | some x =>
    obtain ⟨p, q, e1, e2, e3⟩ := find_split e
    have hx : x ∈ ps.map (·.1) := of_decide_eq_true e2
    obtain ⟨y, hy, rfl⟩ := List.mem_map.mp hx
    have hbp : b ∉ p := fun z => by
      have := e3 b z
      exact absurd hb (of_decide_eq_false this)
    have hbq : b ∈ y.1 :: q := (List.mem_append.mp (by rw [← e1]; exact hbr')).resolve_left hbp
    have hpb : p.length ≤ posn r b := by rw [e1]; exact pos_out hbp hbq
    have hap : a ∉ p := fun z => by
      have : posn r a < p.length := by rw [e1]; exact pos_in z
      omega
    have hok := List.all_eq_true.mp f3 y hy
    unfold okP at hok
    cases hk : lookP P y.2 with
    | none => rw [hk] at hok; cases hok
    | some act' =>
      rw [hk] at hok
      simp only [Bool.and_eq_true, Bool.not_eq_true', decide_eq_false_iff_not, List.any_eq_false] at hok
      obtain ⟨o1, o2, o3⟩ := hok
      simp only [lookP, Option.map_eq_some_iff] at hk
      obtain ⟨pr, hpr, rfl⟩ := hk
      have ec : pr.1 = y.2 := by have := List.find?_some hpr; simpa using this
      obtain ⟨k, hk, k1, k2⟩ := kinds_has (l := l) (List.mem_of_find?_eq_some hpr)
      have hk' := wrong_none.mp hw k hk
      rw [k1, k2] at hk'
      have hfnd : r.find? (fun i => decide (i ∈ mtch l pr.1)) = some y.1 := by
        rw [e1]
        refine find_at (fun z hz => ?_) ?_
        · refine decide_eq_false fun hm => ?_
          have hzr : z ∈ rng l.rs.length := (rowsM_mem.mp hr).2.2 z (by rw [e1]; exact List.mem_append_left _ hz)
          have hz1 : z ∉ ps.map (·.1) := of_decide_eq_false (e3 z hz)
          have hz2 : z ≠ a := fun w => hap (w ▸ hz)
          have ho : z ∈ othersM l a (ps.map (·.1)) := List.mem_filter.mpr ⟨hzr, by
            have d1 : decide (z = a) = false := decide_eq_false hz2
            have d2 : decide (z ∈ ps.map (·.1)) = false := decide_eq_false hz1
            rw [d1, d2]
            rfl⟩
          have := o3 z ho
          rw [← ec] at this
          exact this (List.mem_filter.mp hm).2
        · refine decide_eq_true (List.mem_filter.mpr ⟨hps y hy, ?_⟩)
          rw [ec]
          exact o2
      rw [actBy, hfnd] at hk'
      exact o1 hk'.symm
def rightsM (l : Ls) (K : List Kd) : List (List Int) := (rowsM l.rs.length).filter fun r => (wrongM l K r).isNone
def alwaysM (l : Ls) (K : List Kd) (a b : Int) : Bool := (rightsM l K).all fun r => decide ((posn r a : Int) < posn r b)
/-- what is taken says the truth -/
theorem ev_sound {P : List Pr} {a b : Int} (hn : l.rs.length ≤ 4) (ha : a ∈ rng l.rs.length) (hb : b ∈ rng l.rs.length) (ne : a ≠ b) {d : PyData} (h : evB l (kindsM l P) P a b d = true) :
    (∃ v, d = .tuple [.str "not", v] ∧ alwaysM l (kindsM l P) a b = false) ∨ ∃ v, d = .tuple [.str "always", v] ∧ alwaysM l (kindsM l P) a b = true := by
  unfold evB at h
  split at h
  · rename_i s v
    split at h
    · rename_i es
      subst es
      refine .inl ⟨v, rfl, ?_⟩
      unfold notB at h
      split at h
      · split at h
        · rename_i is z
          simp only [Bool.and_eq_true, decide_eq_true_eq] at h
          obtain ⟨h1, h2, h3⟩ := h
          refine Bool.eq_false_iff.mpr fun hh => ?_
          have := List.all_eq_true.mp hh is (List.mem_filter.mpr ⟨srt_mem h1, h2⟩)
          have := of_decide_eq_true this
          omega
        · cases h
      · cases h
    · split at h
      · rename_i es
        subst es
        refine .inr ⟨v, rfl, ?_⟩
        unfold alwB at h
        split at h
        · split at h
          · rename_i ps z
            simp only [Bool.and_eq_true, decide_eq_true_eq] at h
            obtain ⟨_, hps⟩ := pairsOf_eq z
            refine List.all_eq_true.mpr fun r hr => ?_
            obtain ⟨r1, r2⟩ := List.mem_filter.mp hr
            have := fence_sound ha ne hps h.1 h.2 r1 (Option.isNone_iff_eq_none.mp r2)
            exact decide_eq_true (by omega)
          · cases h
        · cases h
      · cases h
  · cases h
end
end G8

/-! M16: the stream. -/
namespace G8
open L2 PyProof.Rows PySem.Spec PySem
def StOk (o : PyData) : Prop := ∃ (sc : List Int) (c k : Int), o = .list [.list (dIs sc), .int c, .int k] ∧ 0 ≤ k
theorem F54_eq (sc : List Int) : ∃ o, F54 [.list (dIs sc)] = some o ∧ StOk o := by
  refine ⟨.list [.list (dIs sc), .int 0, .int 0], ?_, sc, 0, 0, rfl, by omega⟩
  simp [F54, runN, g54, runF, runFZ, startD, gSeq, gIf, gRet, gSet, gPut, gDrop, gNx, gFor, eA, eO, eN, eIf, e1, e2, e3, eTup, eLst, eCall, eM, eSl, oN, aN, aC, tA, tO, tN, tTr, tB1, tTrue, eC, eV, asB, asI, asL, asTT, truD, wipeD, setAllD, m1, mT, lenD, subD, addD_int, leD, ltD_int, gtD, geD, eqD_int, neD_int, gd_lim, listD, gd, LIM]
theorem mul_a (i : Int) : mulD (.int i) (.int 48271) = some (.int (i * 48271)) := by simp [mulD, gd]
theorem mul_b (i : Int) : mulD (.int i) (.int 69621) = some (.int (i * 69621)) := by simp [mulD, gd]
theorem mul_c (i : Int) : mulD (.int i) (.int 16807) = some (.int (i * 16807)) := by simp [mulD, gd]
theorem mul_d (i : Int) : mulD (.int i) (.int 65537) = some (.int (i * 65537)) := by simp [mulD, gd]
theorem mod_p (i : Int) : modD (.int i) (.int 2147483647) = some (.int (i % 2147483647)) := by simp [modD, gd]
theorem pow_p : powD (.int 10) (.int 18) = some (.int 1000000000000000000) := by kernel_rfl
theorem ixL_1 (xs : List PyData) : ixE (.list xs) (.int 1) = xs[1]? := ixE_L (by decide)
theorem ixL_0 (xs : List PyData) : ixE (.list xs) (.int 0) = xs[0]? := ixE_L (by decide)
theorem ixL_2 (xs : List PyData) : ixE (.list xs) (.int 2) = xs[2]? := ixE_L (by decide)
theorem runZ_rt {n : Nat} {N : List Str} {g : ZG} {o : PyData} {ds : List PyData} {d o' : PyData} {Γ : DE} (hl : ds.length = n) (h : g (startD N (o :: ds)) = some (.rt d Γ)) (h0 : eV 0 Γ = some o') : runZ n N g o ds = some (d, o') := by
  simp [runZ, hl, h, h0]
theorem zseq_nx {g h : ZG} {Γ Γ1 : DE} {R : Option ZOut} (hg : g Γ = some (.nx Γ1)) (hh : h Γ1 = R) : zSeq g h Γ = R := by simp [zSeq, hg, hh]
theorem next_head (sc : List Int) (c k : Int) (hk : 0 ≤ k) (n b2 b3 b4 : Option PyData) : ∃ c' k' b3' b4', 0 ≤ k' ∧
    (zIf (zTP (tB1 (e2 eqD (e2 ixE (eV 0) (eC (.int 1))) (eC (.int 0))))) (zSeq (zSet 3 (zF (e2 ixE (eV 0) (eC (.int 2))))) (zSeq (zSet 4 (zP [0] (e2 addD (eC (.int 7)) (eV 3)))) (zSeq (zIf (zTP (tB1 (e2 ltD (eV 3) (eCall lenD (aC (e2 ixE (eV 0) (eC (.int 0))) (aN)))))) (zSet 4 (zF (eCall absD (aC (e2 ixE (e2 ixE (eV 0) (eC (.int 0))) (eV 3)) (aN))))) (zNx)) (zSeq (zIf (zTP (tB1 (e2 ltD (eV 4) (e2 powD (eC (.int 10)) (eC (.int 18)))))) (zSeq (zSet 4 (zP [0] (e2 modD (eCall intD (aC (e2 addD (e2 addD (e2 mulD (eV 4) (eC (.int 48271))) (e2 mulD (eV 3) (eC (.int 69621)))) (eC (.int 11))) (aN))) (eC (.int 2147483647))))) (zSet 4 (zP [0] (e2 addD (e2 mulD (e2 modD (eCall intD (aC (e2 addD (e2 mulD (eV 4) (eC (.int 16807))) (eC (.int 13))) (aN))) (eC (.int 2147483647))) (eC (.int 65537))) (eV 4))))) (zNx)) (zSeq (zSetIx 0 1 (zP [0] (eV 4))) (zSetIx 0 2 (zP [0] (e2 addD (eV 3) (eC (.int 1)))))))))) (zNx))
      [some (.list [.list (dIs sc), .int c, .int k]), n, b2, b3, b4] = some (.nx [some (.list [.list (dIs sc), .int c', .int k']), n, b2, b3', b4']) := by
  by_cases hc : c = 0
  · have go : ∀ cell : Int, ∃ c' b4', (zSeq (zIf (zTP (tB1 (e2 ltD (eV 4) (e2 powD (eC (.int 10)) (eC (.int 18)))))) (zSeq (zSet 4 (zP [0] (e2 modD (eCall intD (aC (e2 addD (e2 addD (e2 mulD (eV 4) (eC (.int 48271))) (e2 mulD (eV 3) (eC (.int 69621)))) (eC (.int 11))) (aN))) (eC (.int 2147483647))))) (zSet 4 (zP [0] (e2 addD (e2 mulD (e2 modD (eCall intD (aC (e2 addD (e2 mulD (eV 4) (eC (.int 16807))) (eC (.int 13))) (aN))) (eC (.int 2147483647))) (eC (.int 65537))) (eV 4))))) (zNx)) (zSeq (zSetIx 0 1 (zP [0] (eV 4))) (zSetIx 0 2 (zP [0] (e2 addD (eV 3) (eC (.int 1)))))))
        [some (.list [.list (dIs sc), .int c, .int k]), n, b2, some (.int k), some (.int cell)] = some (.nx [some (.list [.list (dIs sc), .int c', .int (k + 1)]), n, b2, some (.int k), b4']) := fun cell => by
      by_cases q : cell < 1000000000000000000
      · exact ⟨_, _, by simp [runF, runFZ, startD, gSeq, gIf, gRet, gSet, gPut, gDrop, gNx, gFor, eA, eO, eN, eIf, e1, e2, e3, eTup, eLst, eCall, eM, eSl, oN, aN, aC, tA, tO, tN, tTr, tB1, tTrue, eC, eV, asB, asI, asL, asTT, truD, wipeD, setAllD, m1, mT, lenD, subD, addD_int, leD, ltD_int, gtD, geD, eqD_int, neD_int, gd_lim, zSeq, zSet, zP, zF, zB, zIf, zTP, zTA, zT2, z2, zDset, zNx, zRel, zL, zRet, zApp, zIP, zTup, zLst, zC, zN, zSetIx, zPut, isLi, scal, pow_p, q, mul_a, mul_b, mul_c, mul_d, mod_p, intD]; exact ⟨rfl, rfl⟩⟩
      · exact ⟨_, _, by simp [runF, runFZ, startD, gSeq, gIf, gRet, gSet, gPut, gDrop, gNx, gFor, eA, eO, eN, eIf, e1, e2, e3, eTup, eLst, eCall, eM, eSl, oN, aN, aC, tA, tO, tN, tTr, tB1, tTrue, eC, eV, asB, asI, asL, asTT, truD, wipeD, setAllD, m1, mT, lenD, subD, addD_int, leD, ltD_int, gtD, geD, eqD_int, neD_int, gd_lim, zSeq, zSet, zP, zF, zB, zIf, zTP, zTA, zT2, z2, zDset, zNx, zRel, zL, zRet, zApp, zIP, zTup, zLst, zC, zN, zSetIx, zPut, isLi, scal, pow_p, q]; exact ⟨rfl, rfl⟩⟩
    by_cases hl : k < sc.length
    · have hk' : k.toNat < sc.length := by omega
      obtain ⟨c', b4', h⟩ := go (if sc[k.toNat] < 0 then -sc[k.toNat] else sc[k.toNat])
      refine ⟨c', k + 1, some (.int k), b4', by omega, ?_⟩
      rw [← h]
      simp only [zIf, zB, zTP, zSeq, zSet, zF, zP, runF, runFZ, startD, gSeq, gIf, gRet, gSet, gPut, gDrop, gNx, gFor, eA, eO, eN, eIf, e1, e2, e3, eTup, eLst, eCall, eM, eSl, oN, aN, aC, tA, tO, tN, tTr, tB1, tTrue, eC, eV, asB, asI, asL, asTT, truD, wipeD, setAllD, m1, mT, lenD, subD, addD_int, leD, ltD_int, gtD, geD, eqD_int, neD_int, gd_lim, ixL_1, ixL_0, ixL_2, List.getElem?_cons_succ, List.getElem?_cons_zero, Option.bind_some, hc, decide_true, if_true, scal, List.set_cons_succ, List.set_cons_zero, List.length_map, hl, ixE_L hk, List.getElem?_map, List.getElem?_eq_getElem hk', Option.map_some, absD]
    · obtain ⟨c', b4', h⟩ := go (7 + k)
      refine ⟨c', k + 1, some (.int k), b4', by omega, ?_⟩
      rw [← h]
      simp only [zIf, zB, zTP, zSeq, zSet, zF, zP, zNx, runF, runFZ, startD, gSeq, gIf, gRet, gSet, gPut, gDrop, gNx, gFor, eA, eO, eN, eIf, e1, e2, e3, eTup, eLst, eCall, eM, eSl, oN, aN, aC, tA, tO, tN, tTr, tB1, tTrue, eC, eV, asB, asI, asL, asTT, truD, wipeD, setAllD, m1, mT, lenD, subD, addD_int, leD, ltD_int, gtD, geD, eqD_int, neD_int, gd_lim, ixL_1, ixL_0, ixL_2, List.getElem?_cons_succ, List.getElem?_cons_zero, Option.bind_some, hc, decide_true, if_true, scal, List.set_cons_succ, List.set_cons_zero, List.length_map, decide_eq_false hl, Bool.false_eq_true, if_false]
  · exact ⟨c, k, b3, b4, hk, by simp [runF, runFZ, startD, gSeq, gIf, gRet, gSet, gPut, gDrop, gNx, gFor, eA, eO, eN, eIf, e1, e2, e3, eTup, eLst, eCall, eM, eSl, oN, aN, aC, tA, tO, tN, tTr, tB1, tTrue, eC, eV, asB, asI, asL, asTT, truD, wipeD, setAllD, m1, mT, lenD, subD, addD_int, leD, ltD_int, gtD, geD, eqD_int, neD_int, gd_lim, zSeq, zSet, zP, zF, zB, zIf, zTP, zTA, zT2, z2, zDset, zNx, zRel, zL, zRet, zApp, zIP, zTup, zLst, zC, zN, zSetIx, zPut, isLi, scal, ixL_1, hc]⟩
theorem F55_eq {o : PyData} (h : StOk o) {n : Int} (h1 : 1 ≤ n) (h2 : n < 1000000) : ∃ v o', F55 o [.int n] = some (.int v, o') ∧ 0 ≤ v ∧ v < n ∧ StOk o' := by
  obtain ⟨sc, c, k, rfl, hk⟩ := h
  obtain ⟨c', k', b3, b4, hk', e⟩ := next_head sc c k hk (some (.int n)) none none none
  refine ⟨c' % n, .list [.list (dIs sc), .int (c' / n), .int k'], ?_, Int.emod_nonneg _ (by omega), Int.emod_lt_of_pos _ (by omega), sc, c' / n, k', rfl, hk'⟩
  have n1 : 0 < n := by omega
  have n2 : n < 1073741824 := by omega
  refine runZ_rt (Γ := [some (.list [.list (dIs sc), .int (c' / n), .int k']), some (.int n), some (.int (c' % n)), b3, b4]) rfl ?_ rfl
  unfold g55
  refine zseq_nx e ?_
  simp [runF, runFZ, startD, gSeq, gIf, gRet, gSet, gPut, gDrop, gNx, gFor, eA, eO, eN, eIf, e1, e2, e3, eTup, eLst, eCall, eM, eSl, oN, aN, aC, tA, tO, tN, tTr, tB1, tTrue, eC, eV, asB, asI, asL, asTT, truD, wipeD, setAllD, m1, mT, lenD, subD, addD_int, leD, ltD_int, gtD, geD, eqD_int, neD_int, gd_lim, zSeq, zSet, zP, zF, zB, zIf, zTP, zTA, zT2, z2, zDset, zNx, zRel, zL, zRet, zApp, zIP, zTup, zLst, zC, zN, zSetIx, zPut, isLi, scal, ixL_1, intD, modD, fdivD, gd, n1, n2]
end G8

/-! M17: what is drawn: widths, rows, lists of rules. -/
namespace G8
open L2 PyProof.Rows PySem.Spec PySem
theorem draw {i : Nat} {f : ZE} {Γ : DE} {n : Int} {o : PyData} (hf : f Γ = some (.int n, Γ)) (h0 : eV i Γ = some o) (ho : StOk o) (h1 : 1 ≤ n) (h2 : n < 1000000) : ∃ v o', zCall i F55 (zC f zN) Γ = some (.int v, Γ.set i (some o')) ∧ 0 ≤ v ∧ v < n ∧ StOk o' := by
  obtain ⟨v, o', e, h3, h4, h5⟩ := F55_eq ho h1 h2
  exact ⟨v, o', by simp [zCall, zC, zN, zB, hf, h0, e], h3, h4, h5⟩
theorem zP_c (os : List Nat) (d : PyData) (Γ : DE) : zP os (eC d) Γ = some (d, Γ) := rfl
theorem zNew_eq {os : List Nat} {i : Nat} {f : DE → Option PyData} {g : ZG} {Γ : DE} {d : PyData} (hl : i < Γ.length) (hf : f (wipeD Γ os) = some d) : zNew os i f g Γ = g (Γ.set i (some d)) := zNew_of hl hf rfl
theorem F59_eq {o : PyData} (ho : StOk o) : ∃ ws o', F59 o [] = some (dI ws, o') ∧ ws ∈ opts ∧ StOk o' := by
  obtain ⟨v, o', e, h1, h2, h3⟩ := draw (i := 0) (Γ := [some o]) (zP_c [0] (.int 6) _) rfl ho (by decide) (by decide)
  have hv : v = 0 ∨ v = 1 ∨ v = 2 ∨ v = 3 ∨ v = 4 ∨ v = 5 := by omega
  have go : ∀ ws : List Int, [dI [4], dI [6], dI [3, 3], dI [8], dI [2, 4], dI [2, 2, 2]][v.toNat]? = some (dI ws) → F59 o [] = some (dI ws, o') := fun ws hw => by
    refine runZ_rt (Γ := [some o']) rfl ?_ rfl
    unfold g59
    rw [show startD N59 [o] = [some o] from rfl]
    simp only [zRet, z2, zB, zP, runF, runFZ, startD, gSeq, gIf, gRet, gSet, gPut, gDrop, gNx, gFor, eA, eO, eN, eIf, e1, e2, e3, eTup, eLst, eCall, eM, eSl, oN, aN, aC, tA, tO, tN, tTr, tB1, tTrue, eC, eV, asB, asI, asL, asTT, truD, wipeD, setAllD, m1, mT, lenD, subD, addD_int, leD, ltD_int, gtD, geD, eqD_int, neD_int, gd_lim, gd, LIM, List.length_cons, List.length_nil, Nat.zero_le, decide_true, if_true, Option.bind_some, Nat.reduceAdd, Nat.reduceLeDiff]
    rw [show zCall 0 F55 (zC (zP [0] (eC (.int 6))) zN) [some o] = some (PyData.int v, [some o']) from e]
    simp only [Option.bind_some, ixE_L h1]
    have hw' : [PyData.tuple [PyData.int 4], PyData.tuple [PyData.int 6], PyData.tuple [PyData.int 3, PyData.int 3], PyData.tuple [PyData.int 8], PyData.tuple [PyData.int 2, PyData.int 4], PyData.tuple [PyData.int 2, PyData.int 2, PyData.int 2]][v.toNat]? = some (dI ws) := hw
    rw [hw']
    rfl
  rcases hv with rfl | rfl | rfl | rfl | rfl | rfl
  · exact ⟨_, o', go [4] rfl, by decide, h3⟩
  · exact ⟨_, o', go [6] rfl, by decide, h3⟩
  · exact ⟨_, o', go [3, 3] rfl, by decide, h3⟩
  · exact ⟨_, o', go [8] rfl, by decide, h3⟩
  · exact ⟨_, o', go [2, 4] rfl, by decide, h3⟩
  · exact ⟨_, o', go [2, 2, 2] rfl, by decide, h3⟩
theorem map_eraseIdx {α β : Type} (f : α → β) : ∀ (l : List α) (k : Nat), (l.map f).eraseIdx k = (l.eraseIdx k).map f
  | [], _ => rfl
  | _ :: _, 0 => rfl
  | x :: l, k + 1 => by
    have := map_eraseIdx f l k
    simp only [List.map_cons, List.eraseIdx_cons_succ, this]
theorem cons_eraseIdx {α : Type} : ∀ {l : List α} {k : Nat} (h : k < l.length), (l[k] :: l.eraseIdx k).Perm l
  | x :: l, 0, _ => .refl _
  | x :: l, k + 1, h => by
    have ih := cons_eraseIdx (l := l) (k := k) (by simpa using h)
    rw [List.eraseIdx_cons_succ, List.getElem_cons_succ]
    exact (List.Perm.swap _ _ _).trans (List.Perm.cons x ih)
theorem F63_eq {o : PyData} (ho : StOk o) {n : Nat} (hn : n ≤ 4) : ∃ is o', F63 o [.int (n : Int)] = some (dI is, o') ∧ is ∈ rowsM n ∧ StOk o' := by
  have lm : (n : Int) ≤ 100000 := by omega
  have fin : ∀ {g : ZG}, (∃ is o' Γ, g (startD N63 [o, .int (n : Int)]) = some (.rt (dI is) Γ) ∧ eV 0 Γ = some o' ∧ is ∈ rowsM n ∧ StOk o') → ∃ is o', runZ 1 N63 g o [.int (n : Int)] = some (dI is, o') ∧ is ∈ rowsM n ∧ StOk o' := fun {g} ⟨is, o', Γ, h1, h2, h3, h4⟩ => ⟨is, o', runZ_rt rfl h1 h2, h3, h4⟩
  refine fin ?_
  unfold g63
  rw [zNew_eq (d := .list (dIs (rng n))) (by simp [startD]) (by simp [eRgL, runF, runFZ, startD, gSeq, gIf, gRet, gSet, gPut, gDrop, gNx, gFor, eA, eO, eN, eIf, e1, e2, e3, eTup, eLst, eCall, eM, eSl, oN, aN, aC, tA, tO, tN, tTr, tB1, tTrue, eC, eV, asB, asI, asL, asTT, truD, wipeD, setAllD, m1, mT, lenD, subD, addD_int, leD, ltD_int, gtD, geD, eqD_int, neD_int, gd_lim, upTo_eq, gd, LIM, lm])]
  rw [zNew_eq (d := .list []) (by simp [startD]) (by simp [runF, runFZ, startD, gSeq, gIf, gRet, gSet, gPut, gDrop, gNx, gFor, eA, eO, eN, eIf, e1, e2, e3, eTup, eLst, eCall, eM, eSl, oN, aN, aC, tA, tO, tN, tTr, tB1, tTrue, eC, eV, asB, asI, asL, asTT, truD, wipeD, setAllD, m1, mT, lenD, subD, addD_int, leD, ltD_int, gtD, geD, eqD_int, neD_int, gd_lim, gd, LIM])]
  refine zseq_pre (P := fun z => ∃ is o' Γ, z = some (.rt (dI is) Γ) ∧ eV 0 Γ = some o' ∧ is ∈ rowsM n ∧ StOk o') (Γ1 := [some o, some (.int (n : Int)), some (.list (dIs (rng n))), some (.list []), none])
    (fun pre Γ => ∃ o L F b, StOk o ∧ F.length = pre.length ∧ F.length + L.length = n ∧ (F ++ L).Perm (rng n) ∧ Γ = [some o, some (.int (n : Int)), some (.list (dIs L)), some (.list (dIs F)), b]) PyData.int (rng n) ?_ ⟨o, rng n, [], none, ho, rfl, by rw [rng_len]; simp, by simp, rfl⟩ ?_ ?_
  · simp [zIP, iR, runF, runFZ, startD, gSeq, gIf, gRet, gSet, gPut, gDrop, gNx, gFor, eA, eO, eN, eIf, e1, e2, e3, eTup, eLst, eCall, eM, eSl, oN, aN, aC, tA, tO, tN, tTr, tB1, tTrue, eC, eV, asB, asI, asL, asTT, truD, wipeD, setAllD, m1, mT, lenD, subD, addD_int, leD, ltD_int, gtD, geD, eqD_int, neD_int, gd_lim, startD, rgD_eq, LIM, lm]
  · rintro pre x q Γ e0 ⟨o, L, F, b, ho, hk, hl, hp, rfl⟩
    have hpre : n = pre.length + (q.length + 1) := by
      have := congrArg List.length e0
      rw [rng_len] at this
      simpa using this
    obtain ⟨v, o', e, h1, h2, h3⟩ := draw (i := 0) (f := zF (eCall lenD (aC (eV 2) (aN)))) (Γ := [some o, some (.int (n : Int)), some (.list (dIs L)), some (.list (dIs F)), some (.int x)]) (n := (L.length : Int)) (by simp [runF, runFZ, startD, gSeq, gIf, gRet, gSet, gPut, gDrop, gNx, gFor, eA, eO, eN, eIf, e1, e2, e3, eTup, eLst, eCall, eM, eSl, oN, aN, aC, tA, tO, tN, tTr, tB1, tTrue, eC, eV, asB, asI, asL, asTT, truD, wipeD, setAllD, m1, mT, lenD, subD, addD_int, leD, ltD_int, gtD, geD, eqD_int, neD_int, gd_lim, zSeq, zSet, zP, zF, zB, zIf, zTP, zTA, zT2, z2, zDset, zNx, zRel, zL, zRet, zApp, zIP, zTup, zLst, zC, zN, zSetIx, zPut, isLi, scal]) rfl ho (by omega) (by omega)
    have hv : v.toNat < L.length := by omega
    have hF : F.length < 100000 := by omega
    refine ⟨[.int x], rfl, [some o', some (.int (n : Int)), some (.list (dIs (L.eraseIdx v.toNat))), some (.list (dIs (F ++ [L[v.toNat]]))), some (.int x)], ?_, o', L.eraseIdx v.toNat, F ++ [L[v.toNat]], _, h3, by simp [hk], by rw [List.length_append, List.length_singleton, List.length_eraseIdx_of_lt hv]; omega, ?_, rfl⟩
    · have e' := e
      simp only [List.set_cons_zero] at e'
      simp only [zApp, zPop, zB, eV, setAllD, List.set_cons_succ, List.set_cons_zero, Option.bind_some, isLi, if_true, e', asI, h1, List.getElem?_map, List.getElem?_eq_getElem hv, Option.map_some, List.length_map, LIM, hF]
      rw [map_eraseIdx]
      simp
    · have := cons_eraseIdx hv
      refine List.Perm.trans ?_ hp
      rw [List.append_assoc]
      exact List.Perm.append_left F this
  · rintro Γ' ⟨o', L, F, b, ho', hk, hl, hp, rfl⟩
    rw [rng_len] at hk
    have hL : L = [] := List.length_eq_zero_iff.mp (by omega)
    subst hL
    rw [List.append_nil] at hp
    refine ⟨F, o', [some o', some (.int (n : Int)), some (.list (dIs [])), some (.list (dIs F)), b], by simp [runF, runFZ, startD, gSeq, gIf, gRet, gSet, gPut, gDrop, gNx, gFor, eA, eO, eN, eIf, e1, e2, e3, eTup, eLst, eCall, eM, eSl, oN, aN, aC, tA, tO, tN, tTr, tB1, tTrue, eC, eV, asB, asI, asL, asTT, truD, wipeD, setAllD, m1, mT, lenD, subD, addD_int, leD, ltD_int, gtD, geD, eqD_int, neD_int, gd_lim, zSeq, zSet, zP, zF, zB, zIf, zTP, zTA, zT2, z2, zDset, zNx, zRel, zL, zRet, zApp, zIP, zTup, zLst, zC, zN, zSetIx, zPut, isLi, scal, zTupOwn], rfl, ?_, ho'⟩
    have hr : (rng n).Nodup := by
      unfold rng
      rw [List.nodup_iff_pairwise_ne, List.pairwise_map]
      refine List.Pairwise.imp ?_ List.nodup_range
      intro a b hab e
      exact hab (by omega)
    exact rowsM_mem.mpr ⟨hk, hp.nodup_iff.mpr hr, fun i hi => hp.mem_iff.mp hi⟩
end G8

/-! M18: what is drawn: a list of rules; pairs. -/
namespace G8
open L2 PyProof.Rows PySem.Spec PySem
theorem zC_of {f : ZE} {g : DE → Option (List PyData × DE)} {Γ Γ1 Γ2 : DE} {d : PyData} {ds : List PyData} (h1 : f Γ = some (d, Γ1)) (h2 : g Γ1 = some (ds, Γ2)) : zC f g Γ = some (d :: ds, Γ2) := by simp [zC, zB, h1, h2]
theorem zN_of {Γ : DE} : zN Γ = some ([], Γ) := rfl
theorem zTup_of {g : DE → Option (List PyData × DE)} {Γ Γ1 : DE} {ds : List PyData} (h : g Γ = some (ds, Γ1)) (hl : ds.length ≤ LIM) : zTup g Γ = some (.tuple ds, Γ1) := by simp only [zTup, zB, h, Option.bind_some, if_pos hl]
theorem zLst_of {g : DE → Option (List PyData × DE)} {Γ Γ1 : DE} {ds : List PyData} (h : g Γ = some (ds, Γ1)) (hl : ds.length ≤ LIM) : zLst g Γ = some (.list ds, Γ1) := by simp only [zLst, zB, h, Option.bind_some, if_pos hl]
theorem zApp_of {i : Nat} {f : ZE} {Γ Γ1 : DE} {xs0 xs : List PyData} {d : PyData} (h0 : eV i Γ = some (.list xs0)) (h1 : f Γ = some (d, Γ1)) (h2 : eV i Γ1 = some (.list xs)) (hl : xs.length < LIM) : zApp i f Γ = some (.nx (Γ1.set i (some (.list (xs ++ [d]))))) := by
  simp only [zApp, h0, Option.bind_some, isLi, if_true, zB, h1, h2, if_pos hl]
theorem zRet_of {f : ZE} {Γ Γ1 : DE} {d : PyData} (h : f Γ = some (d, Γ1)) : zRet f Γ = some (.rt d Γ1) := by simp [zRet, zB, h]
theorem z2_of {o : PyData → PyData → Option PyData} {f g : ZE} {Γ Γ1 Γ2 : DE} {a b r : PyData} (h1 : f Γ = some (a, Γ1)) (h2 : g Γ1 = some (b, Γ2)) (h3 : o a b = some r) : z2 o f g Γ = some (r, Γ2) := by simp [z2, zB, h1, h2, h3]
theorem zTupOwn_of {i : Nat} {Γ : DE} {xs : List PyData} (h : eV i Γ = some (.list xs)) : zTupOwn i Γ = some (.tuple xs, Γ) := by simp [zTupOwn, h]
theorem zP_of {os : List Nat} {f : DE → Option PyData} {Γ : DE} {d : PyData} (h : f (wipeD Γ os) = some d) : zP os f Γ = some (d, Γ) := by simp [zP, h]
def RuOk (ws : List Int) (r : Int × Rg) : Prop := 0 ≤ r.1 ∧ r.1 ≤ 5 ∧ r.2.length = ws.length ∧ ∀ (k : Nat) (p : Int × Int) (w : Int), r.2[k]? = some p → ws[k]? = some w → 0 ≤ p.1 ∧ p.1 ≤ p.2 ∧ p.2 ≤ w - 1
def dPt (p : Int × Int) : PyData := .tuple [.int p.1, .int p.2]
theorem minD_int (i j : Int) : minD [.int i, .int j] = some (.int (if j < i then j else i)) := rfl
theorem maxD_int (i j : Int) : maxD [.int i, .int j] = some (.int (if j > i then j else i)) := rfl
theorem opts_len {ws : List Int} (h : ws ∈ opts) : ws.length ≤ 3 ∧ ∀ w ∈ ws, 1 ≤ w ∧ w ≤ 8 := by
  have : ∀ ws ∈ opts, ws.length ≤ 3 ∧ ∀ w ∈ ws, (1 : Int) ≤ w ∧ w ≤ 8 := by decide
  exact this _ h
def rangesZ : ZG := (zFor (zIP [0, 4, 6] (iS (eV 1))) m1 [7] (zSeq (zSet 8 (zCall 0 F55 (zC (zP [0, 4, 6] (eV 7)) (zN)))) (zSeq (zSet 9 (zCall 0 F55 (zC (zP [0, 4, 6] (eV 7)) (zN)))) (zApp 6 (zP [0, 4, 6] (eTup (aC (eCall minD (aC (eV 8) (aC (eV 9) (aN)))) (aC (eCall maxD (aC (eV 8) (aC (eV 9) (aN)))) (aN)))))))))
theorem ranges_ok {ws : List Int} (hw : ws ∈ opts) {o : PyData} (ho : StOk o) {R : PyData} {b5 b7 b8 b9 : Option PyData} {P : Option ZOut → Prop} {g2 : ZG}
    (h : ∀ (o' : PyData) (rg : Rg) (b7 b8 b9 : Option PyData), StOk o' → rg.length = ws.length → (∀ (k : Nat) (p : Int × Int) (w : Int), rg[k]? = some p → ws[k]? = some w → 0 ≤ p.1 ∧ p.1 ≤ p.2 ∧ p.2 ≤ w - 1) →
      P (g2 [some o', some (dI ws), some (.int 2), some (.int 4), some R, b5, some (.list (rg.map dPt)), b7, b8, b9])) :
    P (zSeq rangesZ g2 [some o, some (dI ws), some (.int 2), some (.int 4), some R, b5, some (.list []), b7, b8, b9]) := by
  obtain ⟨w1, w2⟩ := opts_len hw
  unfold rangesZ
  refine zseq_pre (P := P) (Γ1 := [some o, some (dI ws), some (.int 2), some (.int 4), some R, b5, some (.list []), b7, b8, b9]) (fun pre Γ => ∃ (o' : PyData) (rg : Rg) (b7 b8 b9 : Option PyData), StOk o' ∧ rg.length = pre.length ∧ (∀ (k : Nat) (p : Int × Int) (w : Int), rg[k]? = some p → pre[k]? = some w → 0 ≤ p.1 ∧ p.1 ≤ p.2 ∧ p.2 ≤ w - 1) ∧
    Γ = [some o', some (dI ws), some (.int 2), some (.int 4), some R, b5, some (.list (rg.map dPt)), b7, b8, b9]) PyData.int ws (by simp [zIP, iS, runF, runFZ, startD, gSeq, gIf, gRet, gSet, gPut, gDrop, gNx, gFor, eA, eO, eN, eIf, e1, e2, e3, eTup, eLst, eCall, eM, eSl, oN, aN, aC, tA, tO, tN, tTr, tB1, tTrue, eC, eV, asB, asI, asL, asTT, truD, wipeD, setAllD, m1, mT, lenD, subD, addD_int, leD, ltD_int, gtD, geD, eqD_int, neD_int, gd_lim]) ⟨o, [], b7, b8, b9, ho, rfl, fun k p w e => by simp at e, rfl⟩ ?_ ?_
  · rintro pre w q Γ e0 ⟨o1, rg, b7, b8, b9, h1, h2, h3, rfl⟩
    obtain ⟨q1, q2⟩ := w2 w (by rw [e0]; simp)
    have hlen : rg.length < 100000 := by
      have := congrArg List.length e0
      simp at this
      omega
    obtain ⟨lo, o2, e1', a1, a2, a3⟩ := draw (i := 0) (f := zP [0, 4, 6] (eV 7)) (Γ := [some o1, some (dI ws), some (.int 2), some (.int 4), some R, b5, some (.list (rg.map dPt)), some (.int w), b8, b9]) (n := w) (by simp [runF, runFZ, startD, gSeq, gIf, gRet, gSet, gPut, gDrop, gNx, gFor, eA, eO, eN, eIf, e1, e2, e3, eTup, eLst, eCall, eM, eSl, oN, aN, aC, tA, tO, tN, tTr, tB1, tTrue, eC, eV, asB, asI, asL, asTT, truD, wipeD, setAllD, m1, mT, lenD, subD, addD_int, leD, ltD_int, gtD, geD, eqD_int, neD_int, gd_lim, zSeq, zSet, zP, zF, zB, zIf, zTP, zTA, zT2, z2, zDset, zNx, zRel, zL, zRet, zApp, zIP, zTup, zLst, zC, zN, zSetIx, zPut, isLi, scal]) rfl h1 q1 (by omega)
    obtain ⟨hi, o3, e2', c1, c2, c3⟩ := draw (i := 0) (f := zP [0, 4, 6] (eV 7)) (Γ := [some o2, some (dI ws), some (.int 2), some (.int 4), some R, b5, some (.list (rg.map dPt)), some (.int w), some (.int lo), b9]) (n := w) (by simp [runF, runFZ, startD, gSeq, gIf, gRet, gSet, gPut, gDrop, gNx, gFor, eA, eO, eN, eIf, e1, e2, e3, eTup, eLst, eCall, eM, eSl, oN, aN, aC, tA, tO, tN, tTr, tB1, tTrue, eC, eV, asB, asI, asL, asTT, truD, wipeD, setAllD, m1, mT, lenD, subD, addD_int, leD, ltD_int, gtD, geD, eqD_int, neD_int, gd_lim, zSeq, zSet, zP, zF, zB, zIf, zTP, zTA, zT2, z2, zDset, zNx, zRel, zL, zRet, zApp, zIP, zTup, zLst, zC, zN, zSetIx, zPut, isLi, scal]) rfl a3 q1 (by omega)
    refine ⟨[.int w], rfl, [some o3, some (dI ws), some (.int 2), some (.int 4), some R, b5, some (.list ((rg ++ [(if hi < lo then hi else lo, if hi > lo then hi else lo)]).map dPt)), some (.int w), some (.int lo), some (.int hi)], ?_, o3, rg ++ [(if hi < lo then hi else lo, if hi > lo then hi else lo)], _, _, _, c3, by simp [h2], ?_, rfl⟩
    · refine zseq_set e1' (zseq_set e2' ?_)
      simp [runF, runFZ, startD, gSeq, gIf, gRet, gSet, gPut, gDrop, gNx, gFor, eA, eO, eN, eIf, e1, e2, e3, eTup, eLst, eCall, eM, eSl, oN, aN, aC, tA, tO, tN, tTr, tB1, tTrue, eC, eV, asB, asI, asL, asTT, truD, wipeD, setAllD, m1, mT, lenD, subD, addD_int, leD, ltD_int, gtD, geD, eqD_int, neD_int, gd_lim, zSeq, zSet, zP, zF, zB, zIf, zTP, zTA, zT2, z2, zDset, zNx, zRel, zL, zRet, zApp, zIP, zTup, zLst, zC, zN, zSetIx, zPut, isLi, scal, minD_int, maxD_int, gd, LIM, hlen, dPt]
    · intro k p w' g1 g2
      by_cases hk : k < rg.length
      · rw [List.getElem?_append_left hk] at g1
        rw [List.getElem?_append_left (by omega)] at g2
        exact h3 k p w' g1 g2
      · have hk2 : k = rg.length := by
          have := (List.getElem?_eq_some_iff.mp g1).1
          simp at this
          omega
        subst hk2
        rw [List.getElem?_append_right (Nat.le_refl _), Nat.sub_self] at g1
        rw [List.getElem?_append_right (by omega), h2, Nat.sub_self] at g2
        cases g1
        cases g2
        simp only
        split <;> split <;> omega
  · rintro Γ' ⟨o1, rg, b7, b8, b9, h1, h2, h3, rfl⟩
    exact h o1 rg b7 b8 b9 h1 h2 h3
theorem F58_eq {ws : List Int} (hw : ws ∈ opts) {o : PyData} (ho : StOk o) : ∃ l o', F58 o [dI ws, .int 2, .int 4] = some (dL l, o') ∧ OkL l ∧ 2 ≤ l.rs.length ∧ StOk o' := by
  have fin : ∀ {g : ZG}, (∃ l o' Γ, g (startD N58 [o, dI ws, .int 2, .int 4]) = some (.rt (dL l) Γ) ∧ eV 0 Γ = some o' ∧ OkL l ∧ 2 ≤ l.rs.length ∧ StOk o') → ∃ l o', runZ 3 N58 g o [dI ws, .int 2, .int 4] = some (dL l, o') ∧ OkL l ∧ 2 ≤ l.rs.length ∧ StOk o' := fun {g} ⟨l, o', Γ, h1, h2, h3, h4, h5⟩ => ⟨l, o', runZ_rt rfl h1 h2, h3, h4, h5⟩
  refine fin ?_
  unfold g58
  rw [zNew_eq (d := .list []) (by simp [startD]) (by simp [runF, runFZ, startD, gSeq, gIf, gRet, gSet, gPut, gDrop, gNx, gFor, eA, eO, eN, eIf, e1, e2, e3, eTup, eLst, eCall, eM, eSl, oN, aN, aC, tA, tO, tN, tTr, tB1, tTrue, eC, eV, asB, asI, asL, asTT, truD, wipeD, setAllD, m1, mT, lenD, subD, addD_int, leD, ltD_int, gtD, geD, eqD_int, neD_int, gd_lim, gd, LIM])]
  obtain ⟨v, o1, e1', a1, a2, a3⟩ := draw (i := 0) (f := zP [0, 4] (e2 addD (e2 subD (eV 3) (eV 2)) (eC (.int 1)))) (Γ := [some o, some (dI ws), some (.int 2), some (.int 4), some (.list []), none, none, none, none, none]) (n := 3) (by simp [runF, runFZ, startD, gSeq, gIf, gRet, gSet, gPut, gDrop, gNx, gFor, eA, eO, eN, eIf, e1, e2, e3, eTup, eLst, eCall, eM, eSl, oN, aN, aC, tA, tO, tN, tTr, tB1, tTrue, eC, eV, asB, asI, asL, asTT, truD, wipeD, setAllD, m1, mT, lenD, subD, addD_int, leD, ltD_int, gtD, geD, eqD_int, neD_int, gd_lim, zSeq, zSet, zP, zF, zB, zIf, zTP, zTA, zT2, z2, zDset, zNx, zRel, zL, zRet, zApp, zIP, zTup, zLst, zC, zN, zSetIx, zPut, isLi, scal]) rfl ho (by decide) (by decide)
  have hn1 : (2 + v).toNat ≤ 4 ∧ 2 ≤ (2 + v).toNat := by omega
  refine zseq_pre (P := fun z => ∃ l o' Γ, z = some (.rt (dL l) Γ) ∧ eV 0 Γ = some o' ∧ OkL l ∧ 2 ≤ l.rs.length ∧ StOk o') (Γ1 := [some o1, some (dI ws), some (.int 2), some (.int 4), some (.list []), none, none, none, none, none])
    (fun pre Γ => ∃ (o : PyData) (rs : List (Int × Rg)) (b5 b6 b7 b8 b9 : Option PyData), StOk o ∧ rs.length = pre.length ∧ (∀ r ∈ rs, RuOk ws r) ∧ Γ = [some o, some (dI ws), some (.int 2), some (.int 4), some (.list (rs.map dRule)), b5, b6, b7, b8, b9]) PyData.int (rng (2 + v).toNat) ?_ ⟨o1, [], none, none, none, none, none, a3, rfl, by simp, rfl⟩ ?_ ?_
  · rw [show (List.set (startD N58 [o, dI ws, PyData.int 2, PyData.int 4]) 4 (some (PyData.list []))) = [some o, some (dI ws), some (.int 2), some (.int 4), some (.list []), none, none, none, none, none] from rfl]
    have h1 : (2 + v) ≤ 100000 := by omega
    have h2 : -100000 ≤ 2 + v := by omega
    simp only [zIR, z2, zB, e1', zP, eV, wipeD, List.set_cons_succ, List.set_cons_zero, Option.bind_some, addD_int, asI, LIM]
    rw [if_pos (by simpa using ⟨h1, h2⟩), rgD_eq]
  · rintro pre x q Γ e0 ⟨o2, rs, b5, b6, b7, b8, b9, h1, h2, h3, rfl⟩
    have hlen : rs.length < 100000 := by
      have := congrArg List.length e0
      rw [rng_len] at this
      simp at this
      omega
    refine ⟨[.int x], rfl, ?_⟩
    rw [zNew_eq (d := .list []) (by simp [setAllD]) (by simp [runF, runFZ, startD, gSeq, gIf, gRet, gSet, gPut, gDrop, gNx, gFor, eA, eO, eN, eIf, e1, e2, e3, eTup, eLst, eCall, eM, eSl, oN, aN, aC, tA, tO, tN, tTr, tB1, tTrue, eC, eV, asB, asI, asL, asTT, truD, wipeD, setAllD, m1, mT, lenD, subD, addD_int, leD, ltD_int, gtD, geD, eqD_int, neD_int, gd_lim, gd, LIM])]
    refine ranges_ok (P := fun z => ∃ Γ', z = some (.nx Γ') ∧ ∃ (o : PyData) (rs : List (Int × Rg)) (b5 b6 b7 b8 b9 : Option PyData), StOk o ∧ rs.length = (pre ++ [x]).length ∧ (∀ r ∈ rs, RuOk ws r) ∧ Γ' = [some o, some (dI ws), some (.int 2), some (.int 4), some (.list (rs.map dRule)), b5, b6, b7, b8, b9]) hw h1 (R := .list (rs.map dRule)) (b5 := some (.int x)) (b7 := b7) (b8 := b8) (b9 := b9) fun o3 rg b7 b8 b9 g1 g2 g3 => ?_
    obtain ⟨a, o4, e4', c1, c2, c3⟩ := draw (i := 0) (Γ := [some o3, some (dI ws), some (.int 2), some (.int 4), some (.list (rs.map dRule)), some (.int x), some (.list (rg.map dPt)), b7, b8, b9]) (zP_c [0, 4, 6] (.int 3) _) rfl g1 (by decide) (by decide)
    refine ⟨[some o4, some (dI ws), some (.int 2), some (.int 4), some (.list ((rs ++ [(a, rg)]).map dRule)), some (.int x), some (.list (rg.map dPt)), b7, b8, b9], ?_, o4, rs ++ [(a, rg)], _, _, _, _, _, c3, by simp [h2], ?_, rfl⟩
    · refine (zApp_of (i := 4) rfl (zTup_of (zC_of e4' (zC_of (zTupOwn_of rfl) zN_of)) (by simp [LIM])) rfl (by simpa [LIM] using hlen)).trans ?_
      simp [dRule, dR, dPt]
    · intro r hr
      rcases List.mem_append.mp hr with z | z
      · exact h3 r z
      · rw [List.mem_singleton] at z
        subst z
        exact ⟨c1, by show a ≤ 5; omega, g2, g3⟩
  · rintro Γ' ⟨o2, rs, b5, b6, b7, b8, b9, h1, h2, h3, rfl⟩
    rw [rng_len] at h2
    obtain ⟨a, o4, e4', c1, c2, c3⟩ := draw (i := 0) (Γ := [some o2, some (dI ws), some (.int 2), some (.int 4), some (.list (rs.map dRule)), b5, b6, b7, b8, b9]) (zP_c [0, 4] (.int 3) _) rfl h1 (by decide) (by decide)
    refine ⟨⟨ws, rs, a⟩, o4, [some o4, some (dI ws), some (.int 2), some (.int 4), some (.list (rs.map dRule)), b5, b6, b7, b8, b9], ?_, rfl, ⟨hw, by show rs.length ≤ 4; omega, by show 1 ≤ rs.length; omega, h3, c1, by show a ≤ 5; omega⟩, by show 2 ≤ rs.length; omega, c3⟩
    exact zRet_of (zTup_of (zC_of (zP_of rfl) (zC_of (zTupOwn_of rfl) (zC_of e4' zN_of))) (by simp [LIM]))
end G8

/-! M19: what is drawn: pairs; what is wanted. -/
namespace G8
open L2 PyProof.Rows PySem.Spec PySem
section
variable {l : Ls}
theorem zT2_of {o : PyData → PyData → Option PyData} {f g : ZE} {Γ Γ1 Γ2 : DE} {a b : PyData} {r : Bool} (h1 : f Γ = some (a, Γ1)) (h2 : g Γ1 = some (b, Γ2)) (h3 : o a b = some (.bool r)) : zT2 o f g Γ = some (r, Γ2) := by simp [zT2, zB, z2_of h1 h2 h3, asB]
theorem zIf_yes {t : DE → Option (Bool × DE)} {g h : ZG} {Γ Γ1 : DE} {R : Option ZOut} (ht : t Γ = some (true, Γ1)) (hg : g Γ1 = R) : zIf t g h Γ = R := by simp [zIf, zB, ht, hg]
theorem zIf_no {t : DE → Option (Bool × DE)} {g h : ZG} {Γ Γ1 : DE} {R : Option ZOut} (ht : t Γ = some (false, Γ1)) (hg : h Γ1 = R) : zIf t g h Γ = R := by simp [zIf, zB, ht, hg]
theorem F72_eq (ok : OkL l) {o : PyData} (ho : StOk o) : ∃ (ps : List (Int × List Int)) (o' : PyData), F72 o [dL l] = some (.tuple (ps.map dE), o') ∧ ps.length ≤ 4 ∧ (∀ p ∈ ps, p.1 ∈ rng l.rs.length ∧ p.2 ∈ casesM l.ws) ∧ StOk o' := by
  have lm := lim4 ok
  obtain ⟨k1, k2, _⟩ := cases_all _ ok.w
  have fin : ∀ {g : ZG}, (∃ (ps : List (Int × List Int)) (o' : PyData) (Γ : DE), g (startD N72 [o, dL l]) = some (.rt (.tuple (ps.map dE)) Γ) ∧ eV 0 Γ = some o' ∧ ps.length ≤ 4 ∧ (∀ p ∈ ps, p.1 ∈ rng l.rs.length ∧ p.2 ∈ casesM l.ws) ∧ StOk o') → ∃ (ps : List (Int × List Int)) (o' : PyData), runZ 1 N72 g o [dL l] = some (.tuple (ps.map dE), o') ∧ ps.length ≤ 4 ∧ (∀ p ∈ ps, p.1 ∈ rng l.rs.length ∧ p.2 ∈ casesM l.ws) ∧ StOk o' := fun {g} ⟨ps, o', Γ, h1, h2, h3⟩ => ⟨ps, o', runZ_rt rfl h1 h2, h3⟩
  refine fin ?_
  unfold g72
  have e0 : zSet 2 (zP [0] (eCall F60 (aC (e2 ixE (eV 1) (eC (.int 0))) (aN)))) (startD N72 [o, dL l]) = some (.nx [some o, some (dL l), some (.list ((casesM l.ws).map dI)), none, none]) := by simp [runF, runFZ, startD, gSeq, gIf, gRet, gSet, gPut, gDrop, gNx, gFor, eA, eO, eN, eIf, e1, e2, e3, eTup, eLst, eCall, eM, eSl, oN, aN, aC, tA, tO, tN, tTr, tB1, tTrue, eC, eV, asB, asI, asL, asTT, truD, wipeD, setAllD, m1, mT, lenD, subD, addD_int, leD, ltD_int, gtD, geD, eqD_int, neD_int, gd_lim, zSeq, zSet, zP, zF, zB, zIf, zTP, zTA, zT2, z2, zDset, zNx, zRel, zL, zRet, zApp, zIP, zTup, zLst, zC, zN, zSetIx, zPut, isLi, scal, dL_0, F60_eq _ ok.w]
  have sq : ∀ {g : ZG} {R : Option ZOut → Prop}, R (g [some o, some (dL l), some (.list ((casesM l.ws).map dI)), none, none]) → R (zSeq (zSet 2 (zP [0] (eCall F60 (aC (e2 ixE (eV 1) (eC (.int 0))) (aN))))) g (startD N72 [o, dL l])) := fun {g R} h => by rw [zseq_nx e0 rfl]; exact h
  refine sq (R := fun z => ∃ (ps : List (Int × List Int)) (o' : PyData) (Γ : DE), z = some (.rt (.tuple (ps.map dE)) Γ) ∧ eV 0 Γ = some o' ∧ ps.length ≤ 4 ∧ (∀ p ∈ ps, p.1 ∈ rng l.rs.length ∧ p.2 ∈ casesM l.ws) ∧ StOk o') ?_
  rw [zNew_eq (d := .list []) (by simp) (by simp [runF, runFZ, startD, gSeq, gIf, gRet, gSet, gPut, gDrop, gNx, gFor, eA, eO, eN, eIf, e1, e2, e3, eTup, eLst, eCall, eM, eSl, oN, aN, aC, tA, tO, tN, tTr, tB1, tTrue, eC, eV, asB, asI, asL, asTT, truD, wipeD, setAllD, m1, mT, lenD, subD, addD_int, leD, ltD_int, gtD, geD, eqD_int, neD_int, gd_lim, gd, LIM])]
  refine zseq_pre (P := fun z => ∃ (ps : List (Int × List Int)) (o' : PyData) (Γ : DE), z = some (.rt (.tuple (ps.map dE)) Γ) ∧ eV 0 Γ = some o' ∧ ps.length ≤ 4 ∧ (∀ p ∈ ps, p.1 ∈ rng l.rs.length ∧ p.2 ∈ casesM l.ws) ∧ StOk o') (Γ1 := [some o, some (dL l), some (.list ((casesM l.ws).map dI)), some (.list []), none])
    (fun pre Γ => ∃ (o : PyData) (ps : List (Int × List Int)) (b : Option PyData), StOk o ∧ ps.length ≤ pre.length ∧ (∀ p ∈ ps, p.1 ∈ rng l.rs.length ∧ p.2 ∈ casesM l.ws) ∧ Γ = [some o, some (dL l), some (.list ((casesM l.ws).map dI)), some (.list (ps.map dE)), b]) PyData.int (rng l.rs.length) (by simp [zIP, iR, runF, runFZ, startD, gSeq, gIf, gRet, gSet, gPut, gDrop, gNx, gFor, eA, eO, eN, eIf, e1, e2, e3, eTup, eLst, eCall, eM, eSl, oN, aN, aC, tA, tO, tN, tTr, tB1, tTrue, eC, eV, asB, asI, asL, asTT, truD, wipeD, setAllD, m1, mT, lenD, subD, addD_int, leD, ltD_int, gtD, geD, eqD_int, neD_int, gd_lim, dL_1, lm, rgD_eq, LIM]) ⟨o, [], none, ho, Nat.le_refl _, by simp, rfl⟩ ?_ ?_
  · rintro pre x q Γ e0 ⟨o1, ps, b, h1, h2, h3, rfl⟩
    have hx : x ∈ rng l.rs.length := by rw [e0]; simp
    have hlen : pre.length + (q.length + 1) = l.rs.length := by
      have := congrArg List.length e0
      rw [rng_len] at this
      simpa using this.symm
    have hfew := ok.few
    obtain ⟨v, o2, e1', a1, a2, a3⟩ := draw (i := 0) (Γ := [some o1, some (dL l), some (.list ((casesM l.ws).map dI)), some (.list (ps.map dE)), some (.int x)]) (zP_c [0, 3] (.int 2) _) rfl h1 (by decide) (by decide)
    refine ⟨[.int x], rfl, ?_⟩
    by_cases hv : v = 0
    · obtain ⟨u, o3, e2', c1, c2, c3⟩ := draw (i := 0) (f := zP [0, 3] (eCall lenD (aC (eV 2) (aN)))) (Γ := [some o2, some (dL l), some (.list ((casesM l.ws).map dI)), some (.list (ps.map dE)), some (.int x)]) (n := ((casesM l.ws).length : Int)) (by simp [runF, runFZ, startD, gSeq, gIf, gRet, gSet, gPut, gDrop, gNx, gFor, eA, eO, eN, eIf, e1, e2, e3, eTup, eLst, eCall, eM, eSl, oN, aN, aC, tA, tO, tN, tTr, tB1, tTrue, eC, eV, asB, asI, asL, asTT, truD, wipeD, setAllD, m1, mT, lenD, subD, addD_int, leD, ltD_int, gtD, geD, eqD_int, neD_int, gd_lim, zSeq, zSet, zP, zF, zB, zIf, zTP, zTA, zT2, z2, zDset, zNx, zRel, zL, zRet, zApp, zIP, zTup, zLst, zC, zN, zSetIx, zPut, isLi, scal]) rfl a3 (by omega) (by omega)
      have hu : u.toNat < (casesM l.ws).length := by omega
      refine ⟨[some o3, some (dL l), some (.list ((casesM l.ws).map dI)), some (.list ((ps ++ [(x, (casesM l.ws)[u.toNat])]).map dE)), some (.int x)], ?_, o3, ps ++ [(x, (casesM l.ws)[u.toNat])], _, c3, by simp; omega, fun p hp => ?_, rfl⟩
      · refine zIf_yes (zT2_of e1' (zP_c _ _ _) (by rw [eqD_int, decide_eq_true hv])) ?_
        refine (zApp_of (i := 3) rfl (zTup_of (zC_of (zP_of (d := .int x) (by simp [eV, wipeD])) (zC_of (z2_of (zP_of (d := .list ((casesM l.ws).map dI)) (by simp [eV, wipeD])) e2' (r := dI (casesM l.ws)[u.toNat]) (by rw [ixE_L c1, List.getElem?_map, List.getElem?_eq_getElem hu]; rfl)) zN_of)) (by simp [LIM])) rfl (by simp [LIM]; omega)).trans ?_
        simp [dE]
      · rcases List.mem_append.mp hp with z | z
        · exact h3 p z
        · rw [List.mem_singleton] at z
          subst z
          exact ⟨hx, List.getElem_mem hu⟩
    · refine ⟨[some o2, some (dL l), some (.list ((casesM l.ws).map dI)), some (.list (ps.map dE)), some (.int x)], ?_, o2, ps, _, a3, by simp; omega, h3, rfl⟩
      exact zIf_no (zT2_of e1' (zP_c _ _ _) (by rw [eqD_int, decide_eq_false hv])) rfl
  · rintro Γ' ⟨o1, ps, b, h1, h2, h3, rfl⟩
    rw [rng_len] at h2
    exact ⟨ps, o1, _, zRet_of (zTupOwn_of rfl), rfl, Nat.le_trans h2 ok.few, h3, h1⟩
theorem dec_rng (ok : OkL l) {row c : List Int} (hr : ∀ i ∈ row, i ∈ rng l.rs.length) : 0 ≤ dec l row c ∧ dec l row c ≤ 5 := by
  unfold dec
  cases e : row.find? fun i => Mt l i c with
  | none => exact ok.d
  | some i =>
    obtain ⟨q1, q2⟩ := mem_rng.mp (hr i (List.mem_of_find?_eq_some e))
    have := ok.r _ (rule_mem q1 q2)
    exact ⟨this.1, this.2.1⟩
end
end G8

/-! M20: what is wanted, drawn. -/
namespace G8
open L2 PyProof.Rows PySem.Spec PySem
def QR (R : PyData → DE → Prop) (z : Option ZOut) : Prop := ∃ d Γ, z = some (.rt d Γ) ∧ R d Γ
section
variable {R : PyData → DE → Prop} {t : DE → Option (Bool × DE)} {g h : ZG} {f : ZE} {Γ Γ1 : DE} {d : PyData}
theorem Q_set {i : Nat} (hf : f Γ = some (d, Γ1)) (hh : QR R (h (Γ1.set i (some d)))) : QR R (zSeq (zSet i f) h Γ) := by rw [zseq_set hf rfl]; exact hh
theorem Q_no (ht : t Γ = some (false, Γ1)) (hh : QR R (h Γ1)) : QR R (zSeq (zIf t g zNx) h Γ) := by rw [zseq_no ht rfl]; exact hh
theorem Q_yes (ht : t Γ = some (true, Γ1)) (hh : QR R (g Γ1)) : QR R (zSeq (zIf t g zNx) h Γ) := by
  obtain ⟨d, Γ2, e, r⟩ := hh
  exact ⟨d, Γ2, zseq_yes ht e rfl, r⟩
theorem zSet_of {i : Nat} (hf : f Γ = some (d, Γ1)) : zSet i f Γ = some (.nx (Γ1.set i (some d))) := by simp [zSet, zB, hf]
theorem Q_ret (hf : f Γ = some (d, Γ1)) (r : R d Γ1) : QR R (zRet f Γ) := ⟨d, Γ1, zRet_of hf, r⟩
theorem runZ_Q {n : Nat} {N : List Str} {g : ZG} {o : PyData} {ds : List PyData} {S : PyData → PyData → Prop} (hl : ds.length = n) (h : QR (fun d Γ => ∃ o', eV 0 Γ = some o' ∧ S d o') (g (startD N (o :: ds)))) : ∃ d o', runZ n N g o ds = some (d, o') ∧ S d o' := by
  obtain ⟨d, Γ, e, o', h0, hs⟩ := h
  exact ⟨d, o', runZ_rt hl e h0, hs⟩
end
section
variable {l : Ls}
theorem cut_rules (rs : List PyData) : addD (.list (cutD rs none (some 1))) (.list (cutD rs (some 2) none)) = gd (decide ((cutD rs none (some 1)).length + (cutD rs (some 2) none).length ≤ LIM)) (.list (cutD rs none (some 1) ++ cutD rs (some 2) none)) := rfl
theorem cutD_1 (rs : List PyData) : cutD rs none (some 1) = rs.take 1 := by
  simp only [cutD, HT.sIx_none]
  have : HT.sIx rs.length rs.length (some 1) = min 1 rs.length := HT.sIx_nat _ _ 1
  rw [this]
  cases rs <;> simp
theorem cutD_2 (rs : List PyData) : cutD rs (some 2) none = rs.drop 2 := by
  simp only [cutD, HT.sIx_none]
  have : HT.sIx rs.length 0 (some 2) = min 2 rs.length := HT.sIx_nat _ _ 2
  rw [this, List.take_of_length_le (by simp)]
  by_cases h : 2 ≤ rs.length
  · rw [Nat.min_eq_left h]
  · rw [Nat.min_eq_right (by omega), List.drop_length, List.drop_of_length_le (by omega)]
theorem F64_eq (ok : OkL l) (h2 : 2 ≤ l.rs.length) {o : PyData} (ho : StOk o) : ∃ d o', F64 o [dL l] = some (d, o') ∧ ∃ w, d = dW w ∧ OkW l w ∧ StOk o' := by
  have lm := lim4 ok
  have few := ok.few
  refine runZ_Q rfl ?_
  unfold g64
  obtain ⟨pk, o1, e1', a1, a2, a3⟩ := draw (i := 0) (Γ := startD N64 [o, dL l]) (zP_c [0] (.int 4) _) rfl ho (by decide) (by decide)
  refine Q_set e1' ?_
  refine Q_set (Γ1 := [some o1, some (dL l), some (.int pk), none, none, none, none, none, none, none, none, none, none]) (d := .int l.rs.length) (by simp [zP, runF, runFZ, startD, gSeq, gIf, gRet, gSet, gPut, gDrop, gNx, gFor, eA, eO, eN, eIf, e1, e2, e3, eTup, eLst, eCall, eM, eSl, oN, aN, aC, tA, tO, tN, tTr, tB1, tTrue, eC, eV, asB, asI, asL, asTT, truD, wipeD, setAllD, m1, mT, lenD, subD, addD_int, leD, ltD_int, gtD, geD, eqD_int, neD_int, gd_lim, dL_1]) ?_
  simp only [List.set_cons_succ, List.set_cons_zero]
  by_cases p0 : pk = 0
  · exact Q_yes (zTP_of (by simp [runF, runFZ, startD, gSeq, gIf, gRet, gSet, gPut, gDrop, gNx, gFor, eA, eO, eN, eIf, e1, e2, e3, eTup, eLst, eCall, eM, eSl, oN, aN, aC, tA, tO, tN, tTr, tB1, tTrue, eC, eV, asB, asI, asL, asTT, truD, wipeD, setAllD, m1, mT, lenD, subD, addD_int, leD, ltD_int, gtD, geD, eqD_int, neD_int, gd_lim, p0])) (Q_ret (zP_of (d := .tuple [.str "self"]) (by simp [runF, runFZ, startD, gSeq, gIf, gRet, gSet, gPut, gDrop, gNx, gFor, eA, eO, eN, eIf, e1, e2, e3, eTup, eLst, eCall, eM, eSl, oN, aN, aC, tA, tO, tN, tTr, tB1, tTrue, eC, eV, asB, asI, asL, asTT, truD, wipeD, setAllD, m1, mT, lenD, subD, addD_int, leD, ltD_int, gtD, geD, eqD_int, neD_int, gd_lim, gd, LIM])) ⟨o1, rfl, .self, rfl, trivial, a3⟩)
  refine Q_no (zTP_of (by simp [runF, runFZ, startD, gSeq, gIf, gRet, gSet, gPut, gDrop, gNx, gFor, eA, eO, eN, eIf, e1, e2, e3, eTup, eLst, eCall, eM, eSl, oN, aN, aC, tA, tO, tN, tTr, tB1, tTrue, eC, eV, asB, asI, asL, asTT, truD, wipeD, setAllD, m1, mT, lenD, subD, addD_int, leD, ltD_int, gtD, geD, eqD_int, neD_int, gd_lim, p0])) ?_
  by_cases p1 : pk = 1
  · refine Q_yes (zTP_of (by simp [runF, runFZ, startD, gSeq, gIf, gRet, gSet, gPut, gDrop, gNx, gFor, eA, eO, eN, eIf, e1, e2, e3, eTup, eLst, eCall, eM, eSl, oN, aN, aC, tA, tO, tN, tTr, tB1, tTrue, eC, eV, asB, asI, asL, asTT, truD, wipeD, setAllD, m1, mT, lenD, subD, addD_int, leD, ltD_int, gtD, geD, eqD_int, neD_int, gd_lim, p1])) ?_
    obtain ⟨is, o2, e2', r1, r2⟩ := F63_eq a3 few
    have hin : ∀ i ∈ is, 0 ≤ i ∧ i < l.rs.length := fun i hi => mem_rng.mp ((rowsM_mem.mp r1).2.2 i hi)
    refine Q_set (d := dI is) (Γ1 := [some o2, some (dL l), some (.int pk), some (.int l.rs.length), none, none, none, none, none, none, none, none, none]) (by simp [zCall, runF, runFZ, startD, gSeq, gIf, gRet, gSet, gPut, gDrop, gNx, gFor, eA, eO, eN, eIf, e1, e2, e3, eTup, eLst, eCall, eM, eSl, oN, aN, aC, tA, tO, tN, tTr, tB1, tTrue, eC, eV, asB, asI, asL, asTT, truD, wipeD, setAllD, m1, mT, lenD, subD, addD_int, leD, ltD_int, gtD, geD, eqD_int, neD_int, gd_lim, zSeq, zSet, zP, zF, zB, zIf, zTP, zTA, zT2, z2, zDset, zNx, zRel, zL, zRet, zApp, zIP, zTup, zLst, zC, zN, zSetIx, zPut, isLi, scal, e2']) ?_
    let rules := is.map fun i => (act l i, rgs l i)
    have hrl : rules.length = l.rs.length := by simp [rules, (rowsM_mem.mp r1).1]
    have hrm : ∀ r ∈ rules, r ∈ l.rs := fun r hr => by
      obtain ⟨i, hi, rfl⟩ := List.mem_map.mp hr
      exact rule_mem (hin i hi).1 (hin i hi).2
    have ec : eLc [12] (iS (eV 8)) m1 [12] (tTrue) (e2 ixE (e2 ixE (eV 1) (eC (.int 1))) (eV 12)) [none, some (dL l), some (.int pk), some (.int l.rs.length), none, none, none, none, some (dI is), none, none, none, none] = some (.list (rules.map dRule)) := by
      rw [eLc_all (enc := PyData.int) (q := fun i => dRule (act l i, rgs l i)) (xs := is) (by simp [iS, runF, runFZ, startD, gSeq, gIf, gRet, gSet, gPut, gDrop, gNx, gFor, eA, eO, eN, eIf, e1, e2, e3, eTup, eLst, eCall, eM, eSl, oN, aN, aC, tA, tO, tN, tTr, tB1, tTrue, eC, eV, asB, asI, asL, asTT, truD, wipeD, setAllD, m1, mT, lenD, subD, addD_int, leD, ltD_int, gtD, geD, eqD_int, neD_int, gd_lim]) fun i hi => ⟨[.int i], rfl, by simp [runF, runFZ, startD, gSeq, gIf, gRet, gSet, gPut, gDrop, gNx, gFor, eA, eO, eN, eIf, e1, e2, e3, eTup, eLst, eCall, eM, eSl, oN, aN, aC, tA, tO, tN, tTr, tB1, tTrue, eC, eV, asB, asI, asL, asTT, truD, wipeD, setAllD, m1, mT, lenD, subD, addD_int, leD, ltD_int, gtD, geD, eqD_int, neD_int, gd_lim, dL_1, rule_ix (hin i hi).1 (hin i hi).2]⟩]
      simp [rules]
    refine Q_set (zP_of (d := .list (rules.map dRule)) ec) ?_
    simp only [List.set_cons_succ, List.set_cons_zero]
    obtain ⟨t, o3, e3', c1, c2, c3⟩ := draw (i := 0) (Γ := [some o2, some (dL l), some (.int pk), some (.int l.rs.length), none, none, none, none, some (dI is), some (.list (rules.map dRule)), none, none, none]) (zP_c [0] (.int 2) _) rfl r2 (by decide) (by decide)
    refine zseq_pre (P := QR _) (Γ1 := [some o3, some (dL l), some (.int pk), some (.int l.rs.length), none, none, none, none, some (dI is), some (.list (rules.map dRule)), none, none, none])
      (fun pre Γ => ∃ (rs : List (Int × Rg)) (b10 b11 b12 : Option PyData), (rs.length + pre.length = rules.length ∨ rs = rules) ∧ (∀ r ∈ rs, r ∈ l.rs) ∧ (pre = [] → rs = rules) ∧ rs.length ≤ 4 ∧ rules.length ≤ rs.length + pre.length ∧ Γ = [some o3, some (dL l), some (.int pk), some (.int l.rs.length), none, none, none, none, some (dI is), some (.list (rs.map dRule)), b10, b11, b12]) PyData.int (rng t.toNat) ?_ ⟨rules, none, none, none, .inr rfl, hrm, fun _ => rfl, by omega, by simp, rfl⟩ ?_ ?_
    · have h1 : t ≤ 100000 := by omega
      have h2 : -100000 ≤ t := by omega
      simp only [zIR, zB, e3', Option.bind_some, asI, LIM]
      rw [if_pos ⟨h1, h2⟩, rgD_eq]
      rfl
    · rintro pre x q Γ e0 ⟨rs, b10, b11, b12, g1, g2, g3, g4, g5, rfl⟩
      have hpl : pre.length = 0 := by
        have := congrArg List.length e0
        rw [rng_len] at this
        simp at this
        omega
      have hpre := List.length_eq_zero_iff.mp hpl
      have hrs := g3 hpre
      subst hrs
      refine ⟨[.int x], rfl, [some o3, some (dL l), some (.int pk), some (.int l.rs.length), none, none, none, none, some (dI is), some (.list ((rules.take 1 ++ rules.drop 2).map dRule)), some (.int x), b11, b12], ?_, rules.take 1 ++ rules.drop 2, _, _, _, .inl ?_, ?_, ?_, ?_, ?_, rfl⟩
      · have : addD (.list ((rules.map dRule).take 1)) (.list ((rules.map dRule).drop 2)) = some (.list ((rules.take 1 ++ rules.drop 2).map dRule)) := by
          simp only [addD]
          rw [decide_eq_true (by simp [LIM]; omega)]
          simp [gd, List.map_take, List.map_drop]
        simp [runF, runFZ, startD, gSeq, gIf, gRet, gSet, gPut, gDrop, gNx, gFor, eA, eO, eN, eIf, e1, e2, e3, eTup, eLst, eCall, eM, eSl, oN, aN, aC, tA, tO, tN, tTr, tB1, tTrue, eC, eV, asB, asI, asL, asTT, truD, wipeD, setAllD, m1, mT, lenD, subD, addD_int, leD, ltD_int, gtD, geD, eqD_int, neD_int, gd_lim, zSeq, zSet, zP, zF, zB, zIf, zTP, zTA, zT2, z2, zDset, zNx, zRel, zL, zRet, zApp, zIP, zTup, zLst, zC, zN, zSetIx, zPut, isLi, scal, slD, cutD_1, cutD_2, this]
      · simp
        omega
      · intro r hr
        rcases List.mem_append.mp hr with z | z
        · exact hrm r (List.mem_of_mem_take z)
        · exact hrm r (List.mem_of_mem_drop z)
      · intro z; simp at z
      · simp
        omega
      · simp
        omega
    · rintro Γ' ⟨rs, b10, b11, b12, g1, g2, g3, g4, g5, rfl⟩
      have hone : 1 ≤ rs.length := by
        rw [rng_len] at g5
        omega
      refine Q_ret (zP_of (d := dW (.lst ⟨l.ws, rs, l.df⟩)) (by simp [runF, runFZ, startD, gSeq, gIf, gRet, gSet, gPut, gDrop, gNx, gFor, eA, eO, eN, eIf, e1, e2, e3, eTup, eLst, eCall, eM, eSl, oN, aN, aC, tA, tO, tN, tTr, tB1, tTrue, eC, eV, asB, asI, asL, asTT, truD, wipeD, setAllD, m1, mT, lenD, subD, addD_int, leD, ltD_int, gtD, geD, eqD_int, neD_int, gd_lim, dL_0, dL_2, tupleD, gd, LIM, dW, dL, ixE_0, ixE_2])) ⟨o3, rfl, .lst ⟨l.ws, rs, l.df⟩, rfl, ⟨⟨ok.w, g4, hone, fun r hr => ok.r r (g2 r hr), ok.d⟩, rfl⟩, c3⟩
  refine Q_no (zTP_of (by simp [runF, runFZ, startD, gSeq, gIf, gRet, gSet, gPut, gDrop, gNx, gFor, eA, eO, eN, eIf, e1, e2, e3, eTup, eLst, eCall, eM, eSl, oN, aN, aC, tA, tO, tN, tTr, tB1, tTrue, eC, eV, asB, asI, asL, asTT, truD, wipeD, setAllD, m1, mT, lenD, subD, addD_int, leD, ltD_int, gtD, geD, eqD_int, neD_int, gd_lim, p1])) ?_
  obtain ⟨row, o2, e2', r1, r2⟩ := F63_eq a3 few
  obtain ⟨oth, o3, e3', r3, r4⟩ := F63_eq r2 few
  have hrow := (rowsM_mem.mp r1).2.2
  have hoth := (rowsM_mem.mp r3).2.2
  refine Q_set (d := dI row) (Γ1 := [some o2, some (dL l), some (.int pk), some (.int l.rs.length), none, none, none, none, none, none, none, none, none]) (by simp [zCall, runF, runFZ, startD, gSeq, gIf, gRet, gSet, gPut, gDrop, gNx, gFor, eA, eO, eN, eIf, e1, e2, e3, eTup, eLst, eCall, eM, eSl, oN, aN, aC, tA, tO, tN, tTr, tB1, tTrue, eC, eV, asB, asI, asL, asTT, truD, wipeD, setAllD, m1, mT, lenD, subD, addD_int, leD, ltD_int, gtD, geD, eqD_int, neD_int, gd_lim, zSeq, zSet, zP, zF, zB, zIf, zTP, zTA, zT2, z2, zDset, zNx, zRel, zL, zRet, zApp, zIP, zTup, zLst, zC, zN, zSetIx, zPut, isLi, scal, e2']) ?_
  refine Q_set (d := dI oth) (Γ1 := [some o3, some (dL l), some (.int pk), some (.int l.rs.length), some (dI row), none, none, none, none, none, none, none, none]) (by simp [zCall, runF, runFZ, startD, gSeq, gIf, gRet, gSet, gPut, gDrop, gNx, gFor, eA, eO, eN, eIf, e1, e2, e3, eTup, eLst, eCall, eM, eSl, oN, aN, aC, tA, tO, tN, tTr, tB1, tTrue, eC, eV, asB, asI, asL, asTT, truD, wipeD, setAllD, m1, mT, lenD, subD, addD_int, leD, ltD_int, gtD, geD, eqD_int, neD_int, gd_lim, zSeq, zSet, zP, zF, zB, zIf, zTP, zTA, zT2, z2, zDset, zNx, zRel, zL, zRet, zApp, zIP, zTup, zLst, zC, zN, zSetIx, zPut, isLi, scal, e3']) ?_
  simp only [List.set_cons_succ, List.set_cons_zero]
  rw [zNew_eq (d := .list []) (by simp) (by simp [runF, runFZ, startD, gSeq, gIf, gRet, gSet, gPut, gDrop, gNx, gFor, eA, eO, eN, eIf, e1, e2, e3, eTup, eLst, eCall, eM, eSl, oN, aN, aC, tA, tO, tN, tTr, tB1, tTrue, eC, eV, asB, asI, asL, asTT, truD, wipeD, setAllD, m1, mT, lenD, subD, addD_int, leD, ltD_int, gtD, geD, eqD_int, neD_int, gd_lim, gd, LIM])]
  simp only [List.set_cons_succ, List.set_cons_zero]
  refine zseq_pre (P := QR _) (Γ1 := [some o3, some (dL l), some (.int pk), some (.int l.rs.length), some (dI row), some (dI oth), some (.list []), none, none, none, none, none, none])
    (fun pre Γ => ∃ (o : PyData) (ps : List Pr) (b7 b11 : Option PyData), StOk o ∧ (ps.map (·.1)).Sublist pre ∧ ps.length ≤ 12 ∧ (∀ p ∈ ps, 0 ≤ p.2 ∧ p.2 ≤ 5) ∧ Γ = [some o, some (dL l), some (.int pk), some (.int l.rs.length), some (dI row), some (dI oth), some (.list (ps.map dP)), b7, none, none, none, b11, none]) dI (casesM l.ws) (by simp [zIP, iS, runF, runFZ, startD, gSeq, gIf, gRet, gSet, gPut, gDrop, gNx, gFor, eA, eO, eN, eIf, e1, e2, e3, eTup, eLst, eCall, eM, eSl, oN, aN, aC, tA, tO, tN, tTr, tB1, tTrue, eC, eV, asB, asI, asL, asTT, truD, wipeD, setAllD, m1, mT, lenD, subD, addD_int, leD, ltD_int, gtD, geD, eqD_int, neD_int, gd_lim, dL_0, F60_eq _ ok.w]) ⟨o3, [], none, none, r4, by simp, by simp, by simp, rfl⟩ ?_ ?_
  · rintro pre c q Γ e0 ⟨o4, ps, b7, b11, g1, g2, g3, g4, rfl⟩
    have hc : c.length = l.ws.length := cases_len ok.w (by rw [e0]; simp)
    have hd1 := F62_eq ok (rd := dI row) rfl hrow hc
    have hd2 := F62_eq ok (rd := dI oth) rfl hoth hc
    have b1 := dec_rng ok (c := c) hrow
    have b2 := dec_rng ok (c := c) hoth
    refine ⟨[dI c], rfl, ?_⟩
    by_cases h12 : ps.length < 12
    · obtain ⟨v, o5, e5, v1, v2, v3⟩ := draw (i := 0) (Γ := [some o4, some (dL l), some (.int pk), some (.int l.rs.length), some (dI row), some (dI oth), some (.list (ps.map dP)), some (dI c), none, none, none, b11, none]) (zP_c [0, 6] (.int 2) _) rfl g1 (by decide) (by decide)
      have ht : zTP (tB1 (e2 ltD (eCall lenD (aC (eV 6) (aN))) (eC (.int 12)))) [some o4, some (dL l), some (.int pk), some (.int l.rs.length), some (dI row), some (dI oth), some (.list (ps.map dP)), some (dI c), none, none, none, b11, none] = some (true, [some o4, some (dL l), some (.int pk), some (.int l.rs.length), some (dI row), some (dI oth), some (.list (ps.map dP)), some (dI c), none, none, none, b11, none]) := zTP_of (by simp [runF, runFZ, startD, gSeq, gIf, gRet, gSet, gPut, gDrop, gNx, gFor, eA, eO, eN, eIf, e1, e2, e3, eTup, eLst, eCall, eM, eSl, oN, aN, aC, tA, tO, tN, tTr, tB1, tTrue, eC, eV, asB, asI, asL, asTT, truD, wipeD, setAllD, m1, mT, lenD, subD, addD_int, leD, ltD_int, gtD, geD, eqD_int, neD_int, gd_lim]; omega)
      by_cases hv : v = 0
      · obtain ⟨u, o6, e6, u1, u2, u3⟩ := draw (i := 0) (Γ := [some o5, some (dL l), some (.int pk), some (.int l.rs.length), some (dI row), some (dI oth), some (.list (ps.map dP)), some (dI c), none, none, none, some (.int (dec l row c)), none]) (zP_c [0, 6] (.int 6) _) rfl v3 (by decide) (by decide)
        have app : ∀ (o7 : PyData) (x : Int), StOk o7 → 0 ≤ x → x ≤ 5 → ∃ Γ', zApp 6 (zP [0, 6] (eTup (aC (eV 7) (aC (eV 11) (aN))))) [some o7, some (dL l), some (.int pk), some (.int l.rs.length), some (dI row), some (dI oth), some (.list (ps.map dP)), some (dI c), none, none, none, some (.int x), none] = some (.nx Γ') ∧
            ∃ (o : PyData) (ps : List Pr) (b7 b11 : Option PyData), StOk o ∧ (ps.map (·.1)).Sublist (pre ++ [c]) ∧ ps.length ≤ 12 ∧ (∀ p ∈ ps, 0 ≤ p.2 ∧ p.2 ≤ 5) ∧ Γ' = [some o, some (dL l), some (.int pk), some (.int l.rs.length), some (dI row), some (dI oth), some (.list (ps.map dP)), b7, none, none, none, b11, none] := fun o7 x k1 k2 k3 => by
          refine ⟨[some o7, some (dL l), some (.int pk), some (.int l.rs.length), some (dI row), some (dI oth), some (.list ((ps ++ [(c, x)]).map dP)), some (dI c), none, none, none, some (.int x), none], ?_, o7, ps ++ [(c, x)], _, _, k1, ?_, by simp; omega, ?_, rfl⟩
          · refine (zApp_of (i := 6) rfl (zP_of (d := .tuple [dI c, .int x]) (by simp [runF, runFZ, startD, gSeq, gIf, gRet, gSet, gPut, gDrop, gNx, gFor, eA, eO, eN, eIf, e1, e2, e3, eTup, eLst, eCall, eM, eSl, oN, aN, aC, tA, tO, tN, tTr, tB1, tTrue, eC, eV, asB, asI, asL, asTT, truD, wipeD, setAllD, m1, mT, lenD, subD, addD_int, leD, ltD_int, gtD, geD, eqD_int, neD_int, gd_lim, gd, LIM])) rfl (by simp [LIM]; omega)).trans ?_
            simp [dP]
          · rw [List.map_append]
            exact List.Sublist.append g2 (by simp)
          · intro p hp
            rcases List.mem_append.mp hp with z | z
            · exact g4 p z
            · rw [List.mem_singleton] at z
              subst z
              exact ⟨k2, k3⟩
        have st : ∀ {z : Option ZOut} {Γ0 : DE} {gA gB : ZG} {X : DE → Prop}, z = (zSeq gA gB) Γ0 → True := fun _ => trivial
        have t0 : zTA (zTP (tB1 (e2 ltD (eCall lenD (aC (eV 6) (aN))) (eC (.int 12))))) (zT2 eqD (zCall 0 F55 (zC (zP [0, 6] (eC (.int 2))) (zN))) (zP [0, 6] (eC (.int 0)))) [some o4, some (dL l), some (.int pk), some (.int l.rs.length), some (dI row), some (dI oth), some (.list (ps.map dP)), some (dI c), none, none, none, b11, none] = some (true, [some o5, some (dL l), some (.int pk), some (.int l.rs.length), some (dI row), some (dI oth), some (.list (ps.map dP)), some (dI c), none, none, none, b11, none]) := by
          simp only [zTA, zB, ht, Option.bind_some, if_true]
          exact zT2_of e5 (zP_c _ _ _) (by rw [eqD_int, decide_eq_true hv])
        have s0 : zP [0, 6] (eCall F62 (aC (eV 1) (aC (eV 4) (aC (eV 7) (aN))))) [some o5, some (dL l), some (.int pk), some (.int l.rs.length), some (dI row), some (dI oth), some (.list (ps.map dP)), some (dI c), none, none, none, b11, none] = some (.int (dec l row c), [some o5, some (dL l), some (.int pk), some (.int l.rs.length), some (dI row), some (dI oth), some (.list (ps.map dP)), some (dI c), none, none, none, b11, none]) := zP_of (by simp [runF, runFZ, startD, gSeq, gIf, gRet, gSet, gPut, gDrop, gNx, gFor, eA, eO, eN, eIf, e1, e2, e3, eTup, eLst, eCall, eM, eSl, oN, aN, aC, tA, tO, tN, tTr, tB1, tTrue, eC, eV, asB, asI, asL, asTT, truD, wipeD, setAllD, m1, mT, lenD, subD, addD_int, leD, ltD_int, gtD, geD, eqD_int, neD_int, gd_lim, hd1])
        by_cases hu : u = 0
        · obtain ⟨y, o7, e7, y1, y2, y3⟩ := draw (i := 0) (Γ := [some o6, some (dL l), some (.int pk), some (.int l.rs.length), some (dI row), some (dI oth), some (.list (ps.map dP)), some (dI c), none, none, none, some (.int (dec l row c)), none]) (zP_c [0, 6] (.int 3) _) rfl u3 (by decide) (by decide)
          let x := if pk = 3 then y else dec l oth c
          have hx : 0 ≤ x ∧ x ≤ 5 := by
            simp only [x]
            split <;> omega
          obtain ⟨Γ', ha, hI⟩ := app o7 x y3 hx.1 hx.2
          refine ⟨Γ', ?_, hI⟩
          refine zIf_yes t0 (zseq_set s0 (zseq_nx (Γ1 := [some o7, some (dL l), some (.int pk), some (.int l.rs.length), some (dI row), some (dI oth), some (.list (ps.map dP)), some (dI c), none, none, none, some (.int x), none]) (zIf_yes (zT2_of e6 (zP_c _ _ _) (by rw [eqD_int, decide_eq_true hu])) ?_) ha))
          have : z2 ixE (zLst (zC (zP [0, 6] (eCall F62 (aC (eV 1) (aC (eV 5) (aC (eV 7) (aN)))))) (zC (zCall 0 F55 (zC (zP [0, 6] (eC (.int 3))) (zN))) (zN)))) (zP [0, 6] (eCall intD (aC (e2 eqD (eV 2) (eC (.int 3))) (aN)))) [some o6, some (dL l), some (.int pk), some (.int l.rs.length), some (dI row), some (dI oth), some (.list (ps.map dP)), some (dI c), none, none, none, some (.int (dec l row c)), none] = some (.int x, [some o7, some (dL l), some (.int pk), some (.int l.rs.length), some (dI row), some (dI oth), some (.list (ps.map dP)), some (dI c), none, none, none, some (.int (dec l row c)), none]) := by
            refine z2_of (zLst_of (zC_of (zP_of (d := .int (dec l oth c)) (by simp [runF, runFZ, startD, gSeq, gIf, gRet, gSet, gPut, gDrop, gNx, gFor, eA, eO, eN, eIf, e1, e2, e3, eTup, eLst, eCall, eM, eSl, oN, aN, aC, tA, tO, tN, tTr, tB1, tTrue, eC, eV, asB, asI, asL, asTT, truD, wipeD, setAllD, m1, mT, lenD, subD, addD_int, leD, ltD_int, gtD, geD, eqD_int, neD_int, gd_lim, hd2])) (zC_of e7 zN_of)) (by simp [LIM])) (zP_of (d := .int (if pk = 3 then 1 else 0)) ?_) ?_
            · simp only [runF, runFZ, startD, gSeq, gIf, gRet, gSet, gPut, gDrop, gNx, gFor, eA, eO, eN, eIf, e1, e2, e3, eTup, eLst, eCall, eM, eSl, oN, aN, aC, tA, tO, tN, tTr, tB1, tTrue, eC, eV, asB, asI, asL, asTT, truD, wipeD, setAllD, m1, mT, lenD, subD, addD_int, leD, ltD_int, gtD, geD, eqD_int, neD_int, gd_lim, Option.bind_some, intD, List.set_cons_zero, List.set_cons_succ]
              by_cases z : pk = 3 <;> simp [z]
            · simp only [x]
              by_cases z : pk = 3
              · rw [if_pos z, if_pos z, ixE_L (by decide)]; rfl
              · rw [if_neg z, if_neg z, ixE_L (by decide)]; rfl
          exact zSet_of (i := 11) this
        · obtain ⟨Γ', ha, hI⟩ := app o6 (dec l row c) u3 b1.1 b1.2
          refine ⟨Γ', ?_, hI⟩
          exact zIf_yes t0 (zseq_set s0 (zseq_nx (Γ1 := [some o6, some (dL l), some (.int pk), some (.int l.rs.length), some (dI row), some (dI oth), some (.list (ps.map dP)), some (dI c), none, none, none, some (.int (dec l row c)), none]) (zIf_no (zT2_of e6 (zP_c _ _ _) (by rw [eqD_int, decide_eq_false hu])) rfl) ha))
      · refine ⟨[some o5, some (dL l), some (.int pk), some (.int l.rs.length), some (dI row), some (dI oth), some (.list (ps.map dP)), some (dI c), none, none, none, b11, none], ?_, o5, ps, _, _, v3, g2.trans (List.sublist_append_left _ _), g3, g4, rfl⟩
        refine zIf_no ?_ rfl
        simp only [zTA, zB, setAllD, List.set_cons_succ, List.set_cons_zero, ht, Option.bind_some, if_true]
        exact zT2_of e5 (zP_c _ _ _) (by rw [eqD_int, decide_eq_false hv])
    · refine ⟨[some o4, some (dL l), some (.int pk), some (.int l.rs.length), some (dI row), some (dI oth), some (.list (ps.map dP)), some (dI c), none, none, none, b11, none], ?_, o4, ps, _, _, g1, g2.trans (List.sublist_append_left _ _), g3, g4, rfl⟩
      refine zIf_no (Γ1 := [some o4, some (dL l), some (.int pk), some (.int l.rs.length), some (dI row), some (dI oth), some (.list (ps.map dP)), some (dI c), none, none, none, b11, none]) ?_ rfl
      have : ¬ (ps.length : Int) < 12 := by omega
      simp [zTA, zTP, zB, runF, runFZ, startD, gSeq, gIf, gRet, gSet, gPut, gDrop, gNx, gFor, eA, eO, eN, eIf, e1, e2, e3, eTup, eLst, eCall, eM, eSl, oN, aN, aC, tA, tO, tN, tTr, tB1, tTrue, eC, eV, asB, asI, asL, asTT, truD, wipeD, setAllD, m1, mT, lenD, subD, addD_int, leD, ltD_int, gtD, geD, eqD_int, neD_int, gd_lim, this]
  · rintro Γ' ⟨o4, ps, b7, b11, g1, g2, g3, g4, rfl⟩
    exact Q_ret (zTup_of (zC_of (zP_c _ _ _) (zC_of (zTupOwn_of rfl) zN_of)) (by simp [LIM])) ⟨o4, rfl, .cas ps, rfl, ⟨g3, g2, g4⟩, g1⟩
end
end G8

/-! M21: evidence turned. -/
namespace G8
open L2 PyProof.Rows PySem.Spec PySem
theorem PE_int (i : Int) : PE' (.int i) := ⟨rfl, fun es e => by cases e⟩
theorem PE_bool (b : Bool) : PE' (.bool b) := ⟨rfl, fun es e => by cases e⟩
theorem PE_list (x : List PyData) : PE' (.list x) := ⟨rfl, fun es e => by cases e⟩
theorem PE_tup {es : List PyData} (h : ∀ x ∈ es, noDict x = true ∧ ∀ cs, x = .tuple cs → plainL cs) : PE' (.tuple es) := ⟨rfl, fun es' e => by cases e; exact h⟩
theorem PE_pair {a c : PyData} (ha : a = .bool true ∨ ∃ i, a = .int i) (hc : c = .none ∨ (∃ x, c = .list x) ∨ ∃ cs, c = .tuple cs ∧ plainL cs) : PE' (.tuple [a, c]) := PE_tup fun x hx => by
  simp only [List.mem_cons, List.not_mem_nil, or_false] at hx
  rcases hx with rfl | rfl
  · rcases ha with rfl | ⟨i, rfl⟩
    · exact ⟨rfl, fun cs e => by cases e⟩
    · exact ⟨rfl, fun cs e => by cases e⟩
  · rcases hc with rfl | ⟨y, rfl⟩ | ⟨cs, rfl, h⟩
    · exact ⟨rfl, fun cs e => by cases e⟩
    · exact ⟨rfl, fun cs e => by cases e⟩
    · exact ⟨rfl, fun cs' e => by cases e; exact h⟩
theorem PV_tup {ds : List PyData} (hl : ds.length ≤ 60) (h : ∀ e ∈ ds, PE' e) : PV (.tuple ds) := ⟨rfl, fun ds' e => by cases e; exact ⟨hl, h⟩⟩
theorem PV_non : PV .none := ⟨rfl, fun ds' e => by cases e⟩
theorem PV_list (x : List PyData) : PV (.list x) := ⟨rfl, fun ds' e => by cases e⟩
theorem VOk_two {w v : PyData} (hw : Hd w) (hv : PV v) : VOk (.tuple [w, v]) := ⟨rfl, fun w' v' e => by cases e; exact ⟨hw, hv⟩⟩
theorem VOk_other {d : PyData} (h : noDict d = true) (h2 : ∀ w v, d ≠ .tuple [w, v]) : VOk d := ⟨h, fun w v e => absurd e (h2 w v)⟩
theorem cutD_mem {ds : List PyData} {a b : Option Int} {x : PyData} (h : x ∈ cutD ds a b) : x ∈ ds := List.mem_of_mem_drop (List.mem_of_mem_take h)
theorem cutD_len (ds : List PyData) (a b : Option Int) : (cutD ds a b).length ≤ ds.length := by
  simp only [cutD, List.length_take, List.length_drop]
  omega
theorem cutD_le1 (ds : List PyData) (a : Option Int) : (cutD ds none (some 1)).length ≤ 1 := by
  rw [cutD_1, List.length_take]
  omega
theorem plain_of_ints (c : List Int) : plainL (dIs c) := plain_ints c
theorem PE_dE (p : Int × List Int) : PE' (dE p) := PE_pair (.inr ⟨p.1, rfl⟩) (.inr (.inr ⟨_, rfl, plain_ints p.2⟩))
theorem sw_n : swapD (.str "not") = some (.str "always") := by kernel_rfl
theorem sw_a : swapD (.str "always") = some (.str "not") := by kernel_rfl
/-- one of a list that is at hand -/
theorem pick_one {os : List Nat} {f : DE → Option PyData} {Γ Γ1 : DE} {g : ZE} {D : List PyData} {v : Int} (hf : f (wipeD Γ os) = some (.list D)) (hg : g Γ = some (.int v, Γ1)) (h1 : 0 ≤ v) (h2 : v < D.length) : ∃ d ∈ D, z2 ixE (zP os f) g Γ = some (d, Γ1) := by
  have hv : v.toNat < D.length := by omega
  refine ⟨D[v.toNat], List.getElem_mem hv, z2_of (zP_of hf) hg ?_⟩
  rw [ixE_L h1, List.getElem?_eq_getElem hv]
section
variable {l : Ls}
/-- the parts of evidence as it is given -/
theorem ev_parts (ok : OkL l) {d : PyData} (h : Ev l d) : ∃ s ds, d = .tuple [.str s, .tuple ds] ∧ ds.length ≤ 4 ∧ (∀ e ∈ ds, PE' e) ∧ ((s = "not") ∨ (s = "always" ∧ ∃ ps : List (Int × List Int), ds = ps.map dE)) := by
  rcases h with ⟨row, h1, rfl⟩ | ⟨ps, rfl, h1, h2⟩
  · exact ⟨_, _, rfl, by rw [List.length_map, (rowsM_mem.mp h1).1]; exact ok.few, fun e he => by obtain ⟨i, _, rfl⟩ := List.mem_map.mp he; exact PE_int i, .inl rfl⟩
  · exact ⟨_, _, rfl, by rw [List.length_map]; exact h1, fun e he => by obtain ⟨p, _, rfl⟩ := List.mem_map.mp he; exact PE_dE p, .inr ⟨rfl, ps, rfl⟩⟩
theorem F73_eq (ok : OkL l) (h2 : 2 ≤ l.rs.length) {ev : PyData} (hev : Ev l ev) {o : PyData} (ho : StOk o) : ∃ d o', F73 o [dL l, ev] = some (d, o') ∧ VOk d ∧ StOk o' := by
  have lm := lim4 ok
  have few := ok.few
  obtain ⟨k1, k2, _, _, k5⟩ := cases_all _ ok.w
  obtain ⟨s, ds, rfl, hl, hE, hs⟩ := ev_parts ok hev
  have hHd : Hd (.str s) := by
    rcases hs with rfl | ⟨rfl, _⟩
    · exact .inr (.inl rfl)
    · exact .inr (.inr (.inl rfl))
  have hV : PV (.tuple ds) := PV_tup (by omega) hE
  refine runZ_Q (S := fun d o' => VOk d ∧ StOk o') rfl ?_
  unfold g73
  obtain ⟨pk, o1, e1', a1, a2, a3⟩ := draw (i := 0) (Γ := startD N73 [o, dL l, .tuple [.str s, .tuple ds]]) (zP_c [0] (.int 8) _) rfl ho (by decide) (by decide)
  refine Q_set e1' ?_
  refine Q_set (Γ1 := [some o1, some (dL l), some (.tuple [.str s, .tuple ds]), some (.int pk), none, none, none, none, none, none, none, none]) (d := .int l.rs.length) (by simp [zP, runF, runFZ, startD, gSeq, gIf, gRet, gSet, gPut, gDrop, gNx, gFor, eA, eO, eN, eIf, e1, e2, e3, eTup, eLst, eCall, eM, eSl, oN, aN, aC, tA, tO, tN, tTr, tB1, tTrue, eC, eV, asB, asI, asL, asTT, truD, wipeD, setAllD, m1, mT, lenD, subD, addD_int, leD, ltD_int, gtD, geD, eqD_int, neD_int, gd_lim, dL_1]) ?_
  refine Q_set (Γ1 := [some o1, some (dL l), some (.tuple [.str s, .tuple ds]), some (.int pk), some (.int l.rs.length), none, none, none, none, none, none, none]) (d := .list ((casesM l.ws).map dI)) (by simp [zP, runF, runFZ, startD, gSeq, gIf, gRet, gSet, gPut, gDrop, gNx, gFor, eA, eO, eN, eIf, e1, e2, e3, eTup, eLst, eCall, eM, eSl, oN, aN, aC, tA, tO, tN, tTr, tB1, tTrue, eC, eV, asB, asI, asL, asTT, truD, wipeD, setAllD, m1, mT, lenD, subD, addD_int, leD, ltD_int, gtD, geD, eqD_int, neD_int, gd_lim, dL_0, F60_eq _ ok.w]) ?_
  simp only [List.set_cons_succ, List.set_cons_zero]
  obtain ⟨ci, o2, e2', c1, c2, c3⟩ := draw (i := 0) (f := zP [0] (eCall lenD (aC (eV 5) (aN)))) (Γ := [some o1, some (dL l), some (.tuple [.str s, .tuple ds]), some (.int pk), some (.int l.rs.length), some (.list ((casesM l.ws).map dI)), none, none, none, none, none, none]) (n := ((casesM l.ws).length : Int)) (by simp [zP, runF, runFZ, startD, gSeq, gIf, gRet, gSet, gPut, gDrop, gNx, gFor, eA, eO, eN, eIf, e1, e2, e3, eTup, eLst, eCall, eM, eSl, oN, aN, aC, tA, tO, tN, tTr, tB1, tTrue, eC, eV, asB, asI, asL, asTT, truD, wipeD, setAllD, m1, mT, lenD, subD, addD_int, leD, ltD_int, gtD, geD, eqD_int, neD_int, gd_lim]) rfl a3 (by omega) (by omega)
  obtain ⟨cd, hcd, e3'⟩ := pick_one (os := [0]) (f := eV 5) (D := (casesM l.ws).map dI) (by simp [eV, wipeD]) e2' c1 (by simpa using c2)
  obtain ⟨c, hc, rfl⟩ := List.mem_map.mp hcd
  have hcl : 1 ≤ c.length ∧ c.length ≤ 3 := by
    have := cases_len ok.w hc
    have := ok.wl
    omega
  refine Q_set e3' ?_
  simp only [List.set_cons_succ, List.set_cons_zero]
  by_cases p0 : pk = 0
  · refine Q_yes (zTP_of (by simp [runF, runFZ, startD, gSeq, gIf, gRet, gSet, gPut, gDrop, gNx, gFor, eA, eO, eN, eIf, e1, e2, e3, eTup, eLst, eCall, eM, eSl, oN, aN, aC, tA, tO, tN, tTr, tB1, tTrue, eC, eV, asB, asI, asL, asTT, truD, wipeD, setAllD, m1, mT, lenD, subD, addD_int, leD, ltD_int, gtD, geD, eqD_int, neD_int, gd_lim, p0])) ?_
    obtain ⟨v, o3, e4, v1, v2, v3⟩ := draw (i := 0) (Γ := [some o2, some (dL l), some (.tuple [.str s, .tuple ds]), some (.int pk), some (.int l.rs.length), some (.list ((casesM l.ws).map dI)), some (dI c), none, none, none, none, none]) (zP_c [0] (.int 8) _) rfl c3 (by decide) (by decide)
    obtain ⟨d, hd, e5⟩ := pick_one (os := [0]) (f := eLst (aC (eC .none) (aC (eCall listD (aC (eV 2) (aN))) (aC (eSl (eV 2) none (some (eC (.int 1)))) (aC (e2 addD (eV 2) (eTup (aC (eC (.int 0)) (aN)))) (aC (eTup (aC (eC .none) (aC (e2 ixE (eV 2) (eC (.int 1))) (aN)))) (aC (eTup (aC (e2 ixE (eV 2) (eC (.int 0))) (aC (eC .none) (aN)))) (aC (eTup (aC (e2 ixE (eV 2) (eC (.int 0))) (aC (eCall listD (aC (e2 ixE (eV 2) (eC (.int 1))) (aN))) (aN)))) (aC (eTup (aC (eC (.str "both")) (aC (e2 ixE (eV 2) (eC (.int 1))) (aN)))) (aN))))))))))
      (D := [.none, .list [.str s, .tuple ds], .tuple (cutD [.str s, .tuple ds] none (some 1)), .tuple [.str s, .tuple ds, .int 0], .tuple [.none, .tuple ds], .tuple [.str s, .none], .tuple [.str s, .list ds], .tuple [.str "both", .tuple ds]]) (by simp [runF, runFZ, startD, gSeq, gIf, gRet, gSet, gPut, gDrop, gNx, gFor, eA, eO, eN, eIf, e1, e2, e3, eTup, eLst, eCall, eM, eSl, oN, aN, aC, tA, tO, tN, tTr, tB1, tTrue, eC, eV, asB, asI, asL, asTT, truD, wipeD, setAllD, m1, mT, lenD, subD, addD_int, leD, ltD_int, gtD, geD, eqD_int, neD_int, gd_lim, listD, slD, addD, gd, LIM, ixE_0, ixE_1]) e4 v1 (by simpa using v2)
    refine Q_ret e5 ⟨o3, rfl, ?_, v3⟩
    simp only [List.mem_cons, List.not_mem_nil, or_false] at hd
    rcases hd with rfl | rfl | rfl | rfl | rfl | rfl | rfl | rfl
    · exact VOk_other rfl fun w v e => by cases e
    · exact VOk_other rfl fun w v e => by cases e
    · refine VOk_other rfl fun w v e => ?_
      have := cutD_le1 [.str s, .tuple ds] none
      injection e with e'
      rw [e'] at this
      simp at this
    · exact VOk_other rfl fun w v e => by cases e
    · exact VOk_two (.inl rfl) hV
    · exact VOk_two hHd PV_non
    · exact VOk_two hHd (PV_list ds)
    · exact VOk_two (.inr (.inr (.inr rfl))) hV
  refine Q_no (zTP_of (by simp [runF, runFZ, startD, gSeq, gIf, gRet, gSet, gPut, gDrop, gNx, gFor, eA, eO, eN, eIf, e1, e2, e3, eTup, eLst, eCall, eM, eSl, oN, aN, aC, tA, tO, tN, tTr, tB1, tTrue, eC, eV, asB, asI, asL, asTT, truD, wipeD, setAllD, m1, mT, lenD, subD, addD_int, leD, ltD_int, gtD, geD, eqD_int, neD_int, gd_lim, p0])) ?_
  by_cases p1 : pk = 1
  · refine Q_yes (zTP_of (by simp [runF, runFZ, startD, gSeq, gIf, gRet, gSet, gPut, gDrop, gNx, gFor, eA, eO, eN, eIf, e1, e2, e3, eTup, eLst, eCall, eM, eSl, oN, aN, aC, tA, tO, tN, tTr, tB1, tTrue, eC, eV, asB, asI, asL, asTT, truD, wipeD, setAllD, m1, mT, lenD, subD, addD_int, leD, ltD_int, gtD, geD, eqD_int, neD_int, gd_lim, p1])) ?_
    obtain ⟨is, o3, e4, r1, r2⟩ := F63_eq c3 few
    refine Q_ret (Γ1 := [some o3, some (dL l), some (.tuple [.str s, .tuple ds]), some (.int pk), some (.int l.rs.length), some (.list ((casesM l.ws).map dI)), some (dI c), none, none, none, none, none]) (zTup_of (zC_of (zP_c _ _ _) (zC_of (d := dI is) (by simp [zCall, zC, zN, zB, zP, runF, runFZ, startD, gSeq, gIf, gRet, gSet, gPut, gDrop, gNx, gFor, eA, eO, eN, eIf, e1, e2, e3, eTup, eLst, eCall, eM, eSl, oN, aN, aC, tA, tO, tN, tTr, tB1, tTrue, eC, eV, asB, asI, asL, asTT, truD, wipeD, setAllD, m1, mT, lenD, subD, addD_int, leD, ltD_int, gtD, geD, eqD_int, neD_int, gd_lim, e4]) zN_of)) (by simp [LIM])) ⟨o3, rfl, VOk_two (.inr (.inl rfl)) (PV_tup (by rw [List.length_map, (rowsM_mem.mp r1).1]; omega) fun e he => by obtain ⟨i, _, rfl⟩ := List.mem_map.mp he; exact PE_int i), r2⟩
  refine Q_no (zTP_of (by simp [runF, runFZ, startD, gSeq, gIf, gRet, gSet, gPut, gDrop, gNx, gFor, eA, eO, eN, eIf, e1, e2, e3, eTup, eLst, eCall, eM, eSl, oN, aN, aC, tA, tO, tN, tTr, tB1, tTrue, eC, eV, asB, asI, asL, asTT, truD, wipeD, setAllD, m1, mT, lenD, subD, addD_int, leD, ltD_int, gtD, geD, eqD_int, neD_int, gd_lim, p1])) ?_
  by_cases p2 : pk = 2
  · refine Q_yes (zTP_of (by simp [runF, runFZ, startD, gSeq, gIf, gRet, gSet, gPut, gDrop, gNx, gFor, eA, eO, eN, eIf, e1, e2, e3, eTup, eLst, eCall, eM, eSl, oN, aN, aC, tA, tO, tN, tTr, tB1, tTrue, eC, eV, asB, asI, asL, asTT, truD, wipeD, setAllD, m1, mT, lenD, subD, addD_int, leD, ltD_int, gtD, geD, eqD_int, neD_int, gd_lim, p2])) ?_
    obtain ⟨ps, o3, e4, r1, r2, r3⟩ := F72_eq ok c3
    refine Q_ret (Γ1 := [some o3, some (dL l), some (.tuple [.str s, .tuple ds]), some (.int pk), some (.int l.rs.length), some (.list ((casesM l.ws).map dI)), some (dI c), none, none, none, none, none]) (zTup_of (zC_of (zP_c _ _ _) (zC_of (d := .tuple (ps.map dE)) (by simp [zCall, zC, zN, zB, zP, runF, runFZ, startD, gSeq, gIf, gRet, gSet, gPut, gDrop, gNx, gFor, eA, eO, eN, eIf, e1, e2, e3, eTup, eLst, eCall, eM, eSl, oN, aN, aC, tA, tO, tN, tTr, tB1, tTrue, eC, eV, asB, asI, asL, asTT, truD, wipeD, setAllD, m1, mT, lenD, subD, addD_int, leD, ltD_int, gtD, geD, eqD_int, neD_int, gd_lim, e4]) zN_of)) (by simp [LIM])) ⟨o3, rfl, VOk_two (.inr (.inr (.inl rfl))) (PV_tup (by rw [List.length_map]; omega) fun e he => by obtain ⟨p, _, rfl⟩ := List.mem_map.mp he; exact PE_dE p), r3⟩
  refine Q_no (zTP_of (by simp [runF, runFZ, startD, gSeq, gIf, gRet, gSet, gPut, gDrop, gNx, gFor, eA, eO, eN, eIf, e1, e2, e3, eTup, eLst, eCall, eM, eSl, oN, aN, aC, tA, tO, tN, tTr, tB1, tTrue, eC, eV, asB, asI, asL, asTT, truD, wipeD, setAllD, m1, mT, lenD, subD, addD_int, leD, ltD_int, gtD, geD, eqD_int, neD_int, gd_lim, p2])) ?_
  by_cases p3 : pk = 3
  · refine Q_yes (zTP_of (by simp [runF, runFZ, startD, gSeq, gIf, gRet, gSet, gPut, gDrop, gNx, gFor, eA, eO, eN, eIf, e1, e2, e3, eTup, eLst, eCall, eM, eSl, oN, aN, aC, tA, tO, tN, tTr, tB1, tTrue, eC, eV, asB, asI, asL, asTT, truD, wipeD, setAllD, m1, mT, lenD, subD, addD_int, leD, ltD_int, gtD, geD, eqD_int, neD_int, gd_lim, p3])) ?_
    rcases hs with rfl | ⟨rfl, _⟩
    · exact Q_ret (zP_of (d := .tuple [.str "always", .tuple ds]) (by simp [runF, runFZ, startD, gSeq, gIf, gRet, gSet, gPut, gDrop, gNx, gFor, eA, eO, eN, eIf, e1, e2, e3, eTup, eLst, eCall, eM, eSl, oN, aN, aC, tA, tO, tN, tTr, tB1, tTrue, eC, eV, asB, asI, asL, asTT, truD, wipeD, setAllD, m1, mT, lenD, subD, addD_int, leD, ltD_int, gtD, geD, eqD_int, neD_int, gd_lim, ixE_0, ixE_1, sw_n, gd, LIM])) ⟨o2, rfl, VOk_two (.inr (.inr (.inl rfl))) hV, c3⟩
    · exact Q_ret (zP_of (d := .tuple [.str "not", .tuple ds]) (by simp [runF, runFZ, startD, gSeq, gIf, gRet, gSet, gPut, gDrop, gNx, gFor, eA, eO, eN, eIf, e1, e2, e3, eTup, eLst, eCall, eM, eSl, oN, aN, aC, tA, tO, tN, tTr, tB1, tTrue, eC, eV, asB, asI, asL, asTT, truD, wipeD, setAllD, m1, mT, lenD, subD, addD_int, leD, ltD_int, gtD, geD, eqD_int, neD_int, gd_lim, ixE_0, ixE_1, sw_a, gd, LIM])) ⟨o2, rfl, VOk_two (.inr (.inl rfl)) hV, c3⟩
  refine Q_no (zTP_of (by simp [runF, runFZ, startD, gSeq, gIf, gRet, gSet, gPut, gDrop, gNx, gFor, eA, eO, eN, eIf, e1, e2, e3, eTup, eLst, eCall, eM, eSl, oN, aN, aC, tA, tO, tN, tTr, tB1, tTrue, eC, eV, asB, asI, asL, asTT, truD, wipeD, setAllD, m1, mT, lenD, subD, addD_int, leD, ltD_int, gtD, geD, eqD_int, neD_int, gd_lim, p3])) ?_
  have rowcase : QR (fun d Γ => ∃ o', eV 0 Γ = some o' ∧ VOk d ∧ StOk o') ((zSeq (zSet 11 (zP [0] (e2 ixE (eV 2) (eC (.int 1))))) (zRet (zTup (zC (zP [0] (e2 ixE (eV 2) (eC (.int 0)))) (zC (z2 ixE (zP [0] (eLst (aC (eSl (eV 11) (some (eC (.int 1))) none) (aC (e1 revD (eV 11)) (aC (e2 addD (eV 11) (eSl (eV 11) none (some (eC (.int 1))))) (aC (e2 addD (eTup (aC (eC (.bool true)) (aN))) (eSl (eV 11) (some (eC (.int 1))) none)) (aC (e2 addD (eTup (aC (e1 negD (eC (.int 1))) (aN))) (eSl (eV 11) (some (eC (.int 1))) none)) (aC (e2 addD (eSl (eV 11) none (some (e1 negD (eC (.int 1))))) (eTup (aC (eV 4) (aN)))) (aN))))))))) (zCall 0 F55 (zC (zP [0] (eC (.int 6))) (zN)))) (zN))))))
      [some o2, some (dL l), some (.tuple [.str s, .tuple ds]), some (.int pk), some (.int l.rs.length), some (.list ((casesM l.ws).map dI)), some (dI c), none, none, none, none, none]) := by
    refine Q_set (zP_of (d := .tuple ds) (by simp [runF, runFZ, startD, gSeq, gIf, gRet, gSet, gPut, gDrop, gNx, gFor, eA, eO, eN, eIf, e1, e2, e3, eTup, eLst, eCall, eM, eSl, oN, aN, aC, tA, tO, tN, tTr, tB1, tTrue, eC, eV, asB, asI, asL, asTT, truD, wipeD, setAllD, m1, mT, lenD, subD, addD_int, leD, ltD_int, gtD, geD, eqD_int, neD_int, gd_lim, ixE_1])) ?_
    simp only [List.set_cons_succ, List.set_cons_zero]
    obtain ⟨v, o3, e4, v1, v2, v3⟩ := draw (i := 0) (Γ := [some o2, some (dL l), some (.tuple [.str s, .tuple ds]), some (.int pk), some (.int l.rs.length), some (.list ((casesM l.ws).map dI)), some (dI c), none, none, none, none, some (.tuple ds)]) (zP_c [0] (.int 6) _) rfl c3 (by decide) (by decide)
    have q1 := cutD_len ds (some 1) none
    have q2 := cutD_len ds none (some 1)
    have q3 := cutD_len ds none (some (-1))
    obtain ⟨d, hd, e5⟩ := pick_one (os := [0]) (f := (eLst (aC (eSl (eV 11) (some (eC (.int 1))) none) (aC (e1 revD (eV 11)) (aC (e2 addD (eV 11) (eSl (eV 11) none (some (eC (.int 1))))) (aC (e2 addD (eTup (aC (eC (.bool true)) (aN))) (eSl (eV 11) (some (eC (.int 1))) none)) (aC (e2 addD (eTup (aC (e1 negD (eC (.int 1))) (aN))) (eSl (eV 11) (some (eC (.int 1))) none)) (aC (e2 addD (eSl (eV 11) none (some (e1 negD (eC (.int 1))))) (eTup (aC (eV 4) (aN)))) (aN)))))))))
      (D := [.tuple (cutD ds (some 1) none), .tuple ds.reverse, .tuple (ds ++ cutD ds none (some 1)), .tuple ([.bool true] ++ cutD ds (some 1) none), .tuple ([.int (-1)] ++ cutD ds (some 1) none), .tuple (cutD ds none (some (-1)) ++ [.int l.rs.length])]) (by
        have d1 : decide (ds.length + (cutD ds none (some 1)).length ≤ 100000) = true := decide_eq_true (by omega)
        have d2 : decide (1 + (cutD ds (some 1) none).length ≤ 100000) = true := decide_eq_true (by omega)
        have d3 : decide ((cutD ds none (some (-1))).length + 1 ≤ 100000) = true := decide_eq_true (by omega)
        have d4 : decide ((cutD ds none (some (-1))).length ≤ 99999) = true := decide_eq_true (by omega)
        simp only [runF, runFZ, startD, gSeq, gIf, gRet, gSet, gPut, gDrop, gNx, gFor, eA, eO, eN, eIf, e1, e2, e3, eTup, eLst, eCall, eM, eSl, oN, aN, aC, tA, tO, tN, tTr, tB1, tTrue, eC, eV, asB, asI, asL, asTT, truD, wipeD, setAllD, m1, mT, lenD, subD, addD_int, leD, ltD_int, gtD, geD, eqD_int, neD_int, gd_lim, slD, addD, revD, negD, gd, LIM, Option.bind_some, List.set_cons_succ, List.set_cons_zero, List.length_cons, List.length_nil, Nat.zero_add, d1, d2, d3, d4, if_true, Nat.reduceAdd, Nat.reduceLeDiff, decide_true]) e4 v1 (by simpa using v2)
    refine Q_ret (zTup_of (zC_of (zP_of (d := .str s) (by simp [runF, runFZ, startD, gSeq, gIf, gRet, gSet, gPut, gDrop, gNx, gFor, eA, eO, eN, eIf, e1, e2, e3, eTup, eLst, eCall, eM, eSl, oN, aN, aC, tA, tO, tN, tTr, tB1, tTrue, eC, eV, asB, asI, asL, asTT, truD, wipeD, setAllD, m1, mT, lenD, subD, addD_int, leD, ltD_int, gtD, geD, eqD_int, neD_int, gd_lim, ixE_0])) (zC_of e5 zN_of)) (by simp [LIM])) ⟨o3, rfl, VOk_two hHd ?_, v3⟩
    simp only [List.mem_cons, List.not_mem_nil, or_false] at hd
    rcases hd with rfl | rfl | rfl | rfl | rfl | rfl
    · exact PV_tup (by omega) fun e he => hE e (cutD_mem he)
    · exact PV_tup (by rw [List.length_reverse]; omega) fun e he => hE e (List.mem_reverse.mp he)
    · exact PV_tup (by rw [List.length_append]; omega) fun e he => (List.mem_append.mp he).elim (hE e) fun z => hE e (cutD_mem z)
    · exact PV_tup (by rw [List.length_append, List.length_singleton]; omega) fun e he => (List.mem_append.mp he).elim (fun z => by rw [List.mem_singleton] at z; subst z; exact PE_bool true) fun z => hE e (cutD_mem z)
    · exact PV_tup (by rw [List.length_append, List.length_singleton]; omega) fun e he => (List.mem_append.mp he).elim (fun z => by rw [List.mem_singleton] at z; subst z; exact PE_int _) fun z => hE e (cutD_mem z)
    · exact PV_tup (by rw [List.length_append, List.length_singleton]; omega) fun e he => (List.mem_append.mp he).elim (fun z => hE e (cutD_mem z)) fun z => by rw [List.mem_singleton] at z; subst z; exact PE_int _
  rcases hs with rfl | ⟨rfl, ps, rfl⟩
  · exact Q_yes (zTP_of (by simp [runF, runFZ, startD, gSeq, gIf, gRet, gSet, gPut, gDrop, gNx, gFor, eA, eO, eN, eIf, e1, e2, e3, eTup, eLst, eCall, eM, eSl, oN, aN, aC, tA, tO, tN, tTr, tB1, tTrue, eC, eV, asB, asI, asL, asTT, truD, wipeD, setAllD, m1, mT, lenD, subD, addD_int, leD, ltD_int, gtD, geD, eqD_int, neD_int, gd_lim, ixE_0, eq_nn])) rowcase
  · cases ps with
    | nil => exact Q_yes (zTP_of (by simp [runF, runFZ, startD, gSeq, gIf, gRet, gSet, gPut, gDrop, gNx, gFor, eA, eO, eN, eIf, e1, e2, e3, eTup, eLst, eCall, eM, eSl, oN, aN, aC, tA, tO, tN, tTr, tB1, tTrue, eC, eV, asB, asI, asL, asTT, truD, wipeD, setAllD, m1, mT, lenD, subD, addD_int, leD, ltD_int, gtD, geD, eqD_int, neD_int, gd_lim, ixE_0, ixE_1, eq_an])) rowcase
    | cons p0' pt =>
      refine Q_no (zTP_of (by simp [runF, runFZ, startD, gSeq, gIf, gRet, gSet, gPut, gDrop, gNx, gFor, eA, eO, eN, eIf, e1, e2, e3, eTup, eLst, eCall, eM, eSl, oN, aN, aC, tA, tO, tN, tTr, tB1, tTrue, eC, eV, asB, asI, asL, asTT, truD, wipeD, setAllD, m1, mT, lenD, subD, addD_int, leD, ltD_int, gtD, geD, eqD_int, neD_int, gd_lim, ixE_0, ixE_1, eq_an])) ?_
      let PS := p0' :: pt
      have hPS : 1 ≤ PS.length ∧ PS.length ≤ 4 := ⟨by simp [PS], by simpa [PS] using hl⟩
      have hE' : ∀ e ∈ PS.map dE, PE' e := hE
      show QR _ (zSeq _ _ [some o2, some (dL l), some (.tuple [.str "always", .tuple (PS.map dE)]), some (.int pk), some (.int l.rs.length), some (.list ((casesM l.ws).map dI)), some (dI c), none, none, none, none, none])
      refine Q_set (zP_of (d := .tuple (PS.map dE)) (by simp [runF, runFZ, startD, gSeq, gIf, gRet, gSet, gPut, gDrop, gNx, gFor, eA, eO, eN, eIf, e1, e2, e3, eTup, eLst, eCall, eM, eSl, oN, aN, aC, tA, tO, tN, tTr, tB1, tTrue, eC, eV, asB, asI, asL, asTT, truD, wipeD, setAllD, m1, mT, lenD, subD, addD_int, leD, ltD_int, gtD, geD, eqD_int, neD_int, gd_lim, ixE_1])) ?_
      simp only [List.set_cons_succ, List.set_cons_zero]
      obtain ⟨at', o3, e4, v1, v2, v3⟩ := draw (i := 0) (f := zP [0] (eCall lenD (aC (eV 7) (aN)))) (Γ := [some o2, some (dL l), some (.tuple [.str "always", .tuple (PS.map dE)]), some (.int pk), some (.int l.rs.length), some (.list ((casesM l.ws).map dI)), some (dI c), some (.tuple (PS.map dE)), none, none, none, none]) (n := (PS.length : Int)) (by simp [zP, runF, runFZ, startD, gSeq, gIf, gRet, gSet, gPut, gDrop, gNx, gFor, eA, eO, eN, eIf, e1, e2, e3, eTup, eLst, eCall, eM, eSl, oN, aN, aC, tA, tO, tN, tTr, tB1, tTrue, eC, eV, asB, asI, asL, asTT, truD, wipeD, setAllD, m1, mT, lenD, subD, addD_int, leD, ltD_int, gtD, geD, eqD_int, neD_int, gd_lim]) rfl c3 (by omega) (by omega)
      have hat : at'.toNat < PS.length := by omega
      refine Q_set e4 ?_
      simp only [List.set_cons_succ, List.set_cons_zero]
      refine Q_set (zP_of (d := .int PS[at'.toNat].1) (by simp [runF, runFZ, startD, gSeq, gIf, gRet, gSet, gPut, gDrop, gNx, gFor, eA, eO, eN, eIf, e1, e2, e3, eTup, eLst, eCall, eM, eSl, oN, aN, aC, tA, tO, tN, tTr, tB1, tTrue, eC, eV, asB, asI, asL, asTT, truD, wipeD, setAllD, m1, mT, lenD, subD, addD_int, leD, ltD_int, gtD, geD, eqD_int, neD_int, gd_lim, ixE_T v1, ixE_0, List.getElem?_eq_getElem hat, dE])) ?_
      simp only [List.set_cons_succ, List.set_cons_zero]
      generalize hnb : PS[at'.toNat].1 = nb
      obtain ⟨dr, o4, e5, u1, u2, u3⟩ := draw (i := 0) (f := zP [0] (eV 4)) (Γ := [some o3, some (dL l), some (.tuple [.str "always", .tuple (PS.map dE)]), some (.int pk), some (.int l.rs.length), some (.list ((casesM l.ws).map dI)), some (dI c), some (.tuple (PS.map dE)), some (.int at'), some (.int nb), none, none]) (n := (l.rs.length : Int)) (by simp [zP, runF, runFZ, startD, gSeq, gIf, gRet, gSet, gPut, gDrop, gNx, gFor, eA, eO, eN, eIf, e1, e2, e3, eTup, eLst, eCall, eM, eSl, oN, aN, aC, tA, tO, tN, tTr, tB1, tTrue, eC, eV, asB, asI, asL, asTT, truD, wipeD, setAllD, m1, mT, lenD, subD, addD_int, leD, ltD_int, gtD, geD, eqD_int, neD_int, gd_lim]) rfl v3 (by omega) (by omega)
      refine Q_set (d := .list [.tuple [.int nb, dI c], .tuple [.int dr, dI PS[at'.toNat].2], .tuple [.bool true, dI c], .tuple [.int l.rs.length, dI c], .tuple [.int (-1), dI c], .tuple [.int nb], .list [.int nb, dI c], .tuple [.int nb, .none]])
        (Γ1 := [some o4, some (dL l), some (.tuple [.str "always", .tuple (PS.map dE)]), some (.int pk), some (.int l.rs.length), some (.list ((casesM l.ws).map dI)), some (dI c), some (.tuple (PS.map dE)), some (.int at'), some (.int nb), none, none])
        (zLst_of (zC_of (zP_of (by simp [runF, runFZ, startD, gSeq, gIf, gRet, gSet, gPut, gDrop, gNx, gFor, eA, eO, eN, eIf, e1, e2, e3, eTup, eLst, eCall, eM, eSl, oN, aN, aC, tA, tO, tN, tTr, tB1, tTrue, eC, eV, asB, asI, asL, asTT, truD, wipeD, setAllD, m1, mT, lenD, subD, addD_int, leD, ltD_int, gtD, geD, eqD_int, neD_int, gd_lim, gd, LIM])) (zC_of (zTup_of (zC_of e5 (zC_of (zP_of (d := dI PS[at'.toNat].2) (by simp [runF, runFZ, startD, gSeq, gIf, gRet, gSet, gPut, gDrop, gNx, gFor, eA, eO, eN, eIf, e1, e2, e3, eTup, eLst, eCall, eM, eSl, oN, aN, aC, tA, tO, tN, tTr, tB1, tTrue, eC, eV, asB, asI, asL, asTT, truD, wipeD, setAllD, m1, mT, lenD, subD, addD_int, leD, ltD_int, gtD, geD, eqD_int, neD_int, gd_lim, ixE_T v1, ixE_1, List.getElem?_eq_getElem hat, dE])) zN_of)) (by simp [LIM])) (zC_of (zP_of (by simp [runF, runFZ, startD, gSeq, gIf, gRet, gSet, gPut, gDrop, gNx, gFor, eA, eO, eN, eIf, e1, e2, e3, eTup, eLst, eCall, eM, eSl, oN, aN, aC, tA, tO, tN, tTr, tB1, tTrue, eC, eV, asB, asI, asL, asTT, truD, wipeD, setAllD, m1, mT, lenD, subD, addD_int, leD, ltD_int, gtD, geD, eqD_int, neD_int, gd_lim, gd, LIM])) (zC_of (zP_of (by simp [runF, runFZ, startD, gSeq, gIf, gRet, gSet, gPut, gDrop, gNx, gFor, eA, eO, eN, eIf, e1, e2, e3, eTup, eLst, eCall, eM, eSl, oN, aN, aC, tA, tO, tN, tTr, tB1, tTrue, eC, eV, asB, asI, asL, asTT, truD, wipeD, setAllD, m1, mT, lenD, subD, addD_int, leD, ltD_int, gtD, geD, eqD_int, neD_int, gd_lim, gd, LIM])) (zC_of (zP_of (by simp [runF, runFZ, startD, gSeq, gIf, gRet, gSet, gPut, gDrop, gNx, gFor, eA, eO, eN, eIf, e1, e2, e3, eTup, eLst, eCall, eM, eSl, oN, aN, aC, tA, tO, tN, tTr, tB1, tTrue, eC, eV, asB, asI, asL, asTT, truD, wipeD, setAllD, m1, mT, lenD, subD, addD_int, leD, ltD_int, gtD, geD, eqD_int, neD_int, gd_lim, gd, LIM, negD])) (zC_of (zP_of (by simp [runF, runFZ, startD, gSeq, gIf, gRet, gSet, gPut, gDrop, gNx, gFor, eA, eO, eN, eIf, e1, e2, e3, eTup, eLst, eCall, eM, eSl, oN, aN, aC, tA, tO, tN, tTr, tB1, tTrue, eC, eV, asB, asI, asL, asTT, truD, wipeD, setAllD, m1, mT, lenD, subD, addD_int, leD, ltD_int, gtD, geD, eqD_int, neD_int, gd_lim, gd, LIM])) (zC_of (zP_of (by simp [runF, runFZ, startD, gSeq, gIf, gRet, gSet, gPut, gDrop, gNx, gFor, eA, eO, eN, eIf, e1, e2, e3, eTup, eLst, eCall, eM, eSl, oN, aN, aC, tA, tO, tN, tTr, tB1, tTrue, eC, eV, asB, asI, asL, asTT, truD, wipeD, setAllD, m1, mT, lenD, subD, addD_int, leD, ltD_int, gtD, geD, eqD_int, neD_int, gd_lim, gd, LIM])) (zC_of (zP_of (by simp [runF, runFZ, startD, gSeq, gIf, gRet, gSet, gPut, gDrop, gNx, gFor, eA, eO, eN, eIf, e1, e2, e3, eTup, eLst, eCall, eM, eSl, oN, aN, aC, tA, tO, tN, tTr, tB1, tTrue, eC, eV, asB, asI, asL, asTT, truD, wipeD, setAllD, m1, mT, lenD, subD, addD_int, leD, ltD_int, gtD, geD, eqD_int, neD_int, gd_lim, gd, LIM])) zN_of)))))))) (by simp [LIM])) ?_
      simp only [List.set_cons_succ, List.set_cons_zero]
      let D : List PyData := [.tuple [.int nb, dI c], .tuple [.int dr, dI PS[at'.toNat].2], .tuple [.bool true, dI c], .tuple [.int l.rs.length, dI c], .tuple [.int (-1), dI c], .tuple [.int nb], .list [.int nb, dI c], .tuple [.int nb, .none],
        .tuple [.int nb, .list (dIs c)], .tuple [.int nb, .tuple (dIs c ++ [.int 0])], .tuple [.int nb, .tuple (List.replicate c.length [PyData.int 8]).flatten], .tuple [.int nb, .tuple ([.bool true] ++ cutD (dIs c) (some 1) none)]]
      have hD : ∀ e ∈ D, PE' e := by
        intro e he
        simp only [D, List.mem_cons, List.not_mem_nil, or_false] at he
        have hcp : ∃ cs, dI c = .tuple cs ∧ plainL cs := ⟨_, rfl, plain_ints c⟩
        rcases he with rfl | rfl | rfl | rfl | rfl | rfl | rfl | rfl | rfl | rfl | rfl | rfl
        · exact PE_pair (.inr ⟨_, rfl⟩) (.inr (.inr hcp))
        · exact PE_pair (.inr ⟨_, rfl⟩) (.inr (.inr ⟨_, rfl, plain_ints _⟩))
        · exact PE_pair (.inl rfl) (.inr (.inr hcp))
        · exact PE_pair (.inr ⟨_, rfl⟩) (.inr (.inr hcp))
        · exact PE_pair (.inr ⟨_, rfl⟩) (.inr (.inr hcp))
        · exact PE_tup fun x hx => by rw [List.mem_singleton] at hx; subst hx; exact ⟨rfl, fun cs e => by cases e⟩
        · exact PE_list _
        · exact PE_pair (.inr ⟨_, rfl⟩) (.inl rfl)
        · exact PE_pair (.inr ⟨_, rfl⟩) (.inr (.inl ⟨_, rfl⟩))
        · refine PE_pair (.inr ⟨_, rfl⟩) (.inr (.inr ⟨_, rfl, fun x hx => ?_⟩))
          rcases List.mem_append.mp hx with z | z
          · exact plain_ints c x z
          · rw [List.mem_singleton] at z; subst z; rfl
        · refine PE_pair (.inr ⟨_, rfl⟩) (.inr (.inr ⟨_, rfl, fun x hx => ?_⟩))
          obtain ⟨y, hy, hxy⟩ := List.mem_flatten.mp hx
          rw [List.eq_of_mem_replicate hy, List.mem_singleton] at hxy
          subst hxy
          rfl
        · refine PE_pair (.inr ⟨_, rfl⟩) (.inr (.inr ⟨_, rfl, fun x hx => ?_⟩))
          rcases List.mem_append.mp hx with z | z
          · rw [List.mem_singleton] at z; subst z; rfl
          · exact plain_ints c x (cutD_mem z)
      have hc1 := cutD_len (dIs c) (some 1) none
      have hc2 : (dIs c).length = c.length := by simp
      refine Q_set (zP_of (d := .list D) ?_) ?_
      · have d1 : decide (c.length + 1 ≤ 100000) = true := decide_eq_true (by omega)
        have d2 : decide (1 + (cutD (dIs c) (some 1) none).length ≤ 100000) = true := decide_eq_true (by omega)
        have d3 : decide ((1 : Int) ≤ c.length ∧ (c.length : Int) ≤ 100 ∧ 1 ≤ 100 ∧ 0 < 1) = true := decide_eq_true (by omega)
        have e1 : eLst (aC (eTup (aC (eV 9) (aC (eCall listD (aC (eV 6) (aN))) (aN)))) (aC (eTup (aC (eV 9) (aC (e2 addD (eV 6) (eTup (aC (eC (.int 0)) (aN)))) (aN)))) (aC (eTup (aC (eV 9) (aC (e2 repD (eTup (aC (eC (.int 8)) (aN))) (eCall lenD (aC (eV 6) (aN)))) (aN)))) (aC (eTup (aC (eV 9) (aC (e2 addD (eTup (aC (eC (.bool true)) (aN))) (eSl (eV 6) (some (eC (.int 1))) none)) (aN)))) (aN)))))
            [none, some (dL l), some (.tuple [.str "always", .tuple (PS.map dE)]), some (.int pk), some (.int l.rs.length), some (.list ((casesM l.ws).map dI)), some (dI c), some (.tuple (PS.map dE)), some (.int at'), some (.int nb), some (.list [.tuple [.int nb, dI c], .tuple [.int dr, dI PS[at'.toNat].2], .tuple [.bool true, dI c], .tuple [.int l.rs.length, dI c], .tuple [.int (-1), dI c], .tuple [.int nb], .list [.int nb, dI c], .tuple [.int nb, .none]]), none] =
            some (.list [.tuple [.int nb, .list (dIs c)], .tuple [.int nb, .tuple (dIs c ++ [.int 0])], .tuple [.int nb, .tuple (List.replicate c.length [PyData.int 8]).flatten], .tuple [.int nb, .tuple ([.bool true] ++ cutD (dIs c) (some 1) none)]]) := by
          have g1 : c.length ≤ 99999 := by omega
          have g0 : (cutD (List.map PyData.int c) (some 1) none).length ≤ c.length := by rw [← hc2]; exact hc1
          have g2 : (cutD (List.map PyData.int c) (some 1) none).length ≤ 99999 := by omega
          have g3 : (1 : Int) ≤ c.length := by omega
          have g4 : (c.length : Int) ≤ 100 := by omega
          have g5 : 1 + (cutD (List.map PyData.int c) (some 1) none).length ≤ 100000 := by omega
          have g6 : c.length ≤ 100 := by omega
          have g7 : 0 < c.length := by omega
          have g8 : 1 ≤ c.length := by omega
          simp [runF, runFZ, startD, gSeq, gIf, gRet, gSet, gPut, gDrop, gNx, gFor, eA, eO, eN, eIf, e1, e2, e3, eTup, eLst, eCall, eM, eSl, oN, aN, aC, tA, tO, tN, tTr, tB1, tTrue, eC, eV, asB, asI, asL, asTT, truD, wipeD, setAllD, m1, mT, lenD, subD, addD_int, leD, ltD_int, gtD, geD, eqD_int, neD_int, gd_lim, listD, addD, repD, slD, gd, LIM, g1, g2, g3, g4, g5, g6, g7, g8]
        simp only [e2, eV, wipeD, List.set_cons_zero, List.set_cons_succ, Option.bind_some]
        rw [e1]
        simp [addD, gd, LIM, D]
      simp only [List.set_cons_succ, List.set_cons_zero]
      have m1' := cutD_len (PS.map dE) none (some at')
      have m2' := cutD_len (PS.map dE) (some (at' + 1)) none
      have m3' := cutD_len (PS.map dE) (some at') none
      have m4' := cutD_len (PS.map dE) (some (-1)) none
      have mPS : (PS.map dE).length = PS.length := by simp
      by_cases p6 : pk < 6
      · refine Q_yes (zTP_of (by simp [runF, runFZ, startD, gSeq, gIf, gRet, gSet, gPut, gDrop, gNx, gFor, eA, eO, eN, eIf, e1, e2, e3, eTup, eLst, eCall, eM, eSl, oN, aN, aC, tA, tO, tN, tTr, tB1, tTrue, eC, eV, asB, asI, asL, asTT, truD, wipeD, setAllD, m1, mT, lenD, subD, addD_int, leD, ltD_int, gtD, geD, eqD_int, neD_int, gd_lim, p6])) ?_
        obtain ⟨ov, o5, e6, w1, w2, w3⟩ := draw (i := 0) (Γ := [some o4, some (dL l), some (.tuple [.str "always", .tuple (PS.map dE)]), some (.int pk), some (.int l.rs.length), some (.list ((casesM l.ws).map dI)), some (dI c), some (.tuple (PS.map dE)), some (.int at'), some (.int nb), some (.list D), none]) (zP_c [0] (.int 12) _) rfl u3 (by decide) (by decide)
        obtain ⟨od, hod, e7⟩ := pick_one (os := [0]) (f := eV 10) (D := D) (by simp [eV, wipeD]) e6 w1 (by simpa [D] using w2)
        have d1 : decide ((cutD (PS.map dE) none (some at')).length + 1 ≤ LIM) = true := decide_eq_true (by simp only [LIM]; omega)
        have d2 : decide ((cutD (PS.map dE) none (some at') ++ [od]).length + (cutD (PS.map dE) (some (at' + 1)) none).length ≤ LIM) = true := decide_eq_true (by simp only [LIM, List.length_append, List.length_singleton]; omega)
        refine Q_ret (d := .tuple [.str "always", .tuple ((cutD (PS.map dE) none (some at') ++ [od]) ++ cutD (PS.map dE) (some (at' + 1)) none)]) (zTup_of (zC_of (zP_of (d := .str "always") (by simp [runF, runFZ, startD, gSeq, gIf, gRet, gSet, gPut, gDrop, gNx, gFor, eA, eO, eN, eIf, e1, e2, e3, eTup, eLst, eCall, eM, eSl, oN, aN, aC, tA, tO, tN, tTr, tB1, tTrue, eC, eV, asB, asI, asL, asTT, truD, wipeD, setAllD, m1, mT, lenD, subD, addD_int, leD, ltD_int, gtD, geD, eqD_int, neD_int, gd_lim, ixE_0])) (zC_of (z2_of (z2_of (zP_of (d := .tuple (cutD (PS.map dE) none (some at'))) (by simp [runF, runFZ, startD, gSeq, gIf, gRet, gSet, gPut, gDrop, gNx, gFor, eA, eO, eN, eIf, e1, e2, e3, eTup, eLst, eCall, eM, eSl, oN, aN, aC, tA, tO, tN, tTr, tB1, tTrue, eC, eV, asB, asI, asL, asTT, truD, wipeD, setAllD, m1, mT, lenD, subD, addD_int, leD, ltD_int, gtD, geD, eqD_int, neD_int, gd_lim, slD])) (zTup_of (zC_of e7 zN_of) (by simp [LIM])) (r := .tuple (cutD (PS.map dE) none (some at') ++ [od])) ?_) (zP_of (d := .tuple (cutD (PS.map dE) (some (at' + 1)) none)) (by simp [runF, runFZ, startD, gSeq, gIf, gRet, gSet, gPut, gDrop, gNx, gFor, eA, eO, eN, eIf, e1, e2, e3, eTup, eLst, eCall, eM, eSl, oN, aN, aC, tA, tO, tN, tTr, tB1, tTrue, eC, eV, asB, asI, asL, asTT, truD, wipeD, setAllD, m1, mT, lenD, subD, addD_int, leD, ltD_int, gtD, geD, eqD_int, neD_int, gd_lim, slD])) ?_) zN_of)) (by simp [LIM])) ⟨o5, rfl, VOk_two hHd (PV_tup ?_ ?_), w3⟩
        · simp only [addD, List.length_singleton, d1, gd, if_true]
        · simp only [addD, d2, gd, if_true]
        · simp only [List.length_append, List.length_singleton]
          omega
        · intro e he
          rcases List.mem_append.mp he with z | z
          · rcases List.mem_append.mp z with y | y
            · exact hE' e (cutD_mem y)
            · rw [List.mem_singleton] at y
              subst y
              exact hD _ hod
          · exact hE' e (cutD_mem z)
      refine Q_no (zTP_of (by simp [runF, runFZ, startD, gSeq, gIf, gRet, gSet, gPut, gDrop, gNx, gFor, eA, eO, eN, eIf, e1, e2, e3, eTup, eLst, eCall, eM, eSl, oN, aN, aC, tA, tO, tN, tTr, tB1, tTrue, eC, eV, asB, asI, asL, asTT, truD, wipeD, setAllD, m1, mT, lenD, subD, addD_int, leD, ltD_int, gtD, geD, eqD_int, neD_int, gd_lim, p6])) ?_
      by_cases p7 : pk = 6
      · refine Q_yes (zTP_of (by simp [runF, runFZ, startD, gSeq, gIf, gRet, gSet, gPut, gDrop, gNx, gFor, eA, eO, eN, eIf, e1, e2, e3, eTup, eLst, eCall, eM, eSl, oN, aN, aC, tA, tO, tN, tTr, tB1, tTrue, eC, eV, asB, asI, asL, asTT, truD, wipeD, setAllD, m1, mT, lenD, subD, addD_int, leD, ltD_int, gtD, geD, eqD_int, neD_int, gd_lim, p7])) ?_
        obtain ⟨ov, o5, e6, w1, w2, w3⟩ := draw (i := 0) (Γ := [some o4, some (dL l), some (.tuple [.str "always", .tuple (PS.map dE)]), some (.int pk), some (.int l.rs.length), some (.list ((casesM l.ws).map dI)), some (dI c), some (.tuple (PS.map dE)), some (.int at'), some (.int nb), some (.list D), none]) (zP_c [0] (.int 4) _) rfl u3 (by decide) (by decide)
        have d1 : decide ((cutD (PS.map dE) none (some at')).length + (cutD (PS.map dE) (some (at' + 1)) none).length ≤ LIM) = true := decide_eq_true (by simp only [LIM]; omega)
        have d2 : decide ((PS.map dE).length + (cutD (PS.map dE) (some (-1)) none).length ≤ LIM) = true := decide_eq_true (by simp only [LIM]; omega)
        have d3 : decide ((cutD (PS.map dE) none (some at')).length + 1 ≤ LIM) = true := decide_eq_true (by simp only [LIM]; omega)
        have d4 : decide ((cutD (PS.map dE) none (some at') ++ [PyData.tuple [.int nb, dI c]]).length + (cutD (PS.map dE) (some at') none).length ≤ LIM) = true := decide_eq_true (by simp only [LIM, List.length_append, List.length_singleton]; omega)
        have t4 : ∀ n : Nat, n ≤ 4 → decide (n ≤ LIM) = true := fun n h => decide_eq_true (by simp only [LIM]; omega)
        obtain ⟨od, hod, e7⟩ := pick_one (os := [0]) (f := (eLst (aC (e2 addD (eSl (eV 7) none (some (eV 8))) (eSl (eV 7) (some (e2 addD (eV 8) (eC (.int 1)))) none)) (aC (e1 revD (eV 7)) (aC (e2 addD (eV 7) (eSl (eV 7) (some (e1 negD (eC (.int 1)))) none)) (aC (e2 addD (e2 addD (eSl (eV 7) none (some (eV 8))) (eTup (aC (eTup (aC (eV 9) (aC (eV 6) (aN)))) (aN)))) (eSl (eV 7) (some (eV 8)) none)) (aN)))))))
          (D := [.tuple (cutD (PS.map dE) none (some at') ++ cutD (PS.map dE) (some (at' + 1)) none), .tuple (PS.map dE).reverse, .tuple (PS.map dE ++ cutD (PS.map dE) (some (-1)) none), .tuple ((cutD (PS.map dE) none (some at') ++ [PyData.tuple [.int nb, dI c]]) ++ cutD (PS.map dE) (some at') none)]) (by
            simp only [runF, runFZ, startD, gSeq, gIf, gRet, gSet, gPut, gDrop, gNx, gFor, eA, eO, eN, eIf, e1, e2, e3, eTup, eLst, eCall, eM, eSl, oN, aN, aC, tA, tO, tN, tTr, tB1, tTrue, eC, eV, asB, asI, asL, asTT, truD, wipeD, setAllD, m1, mT, lenD, subD, addD_int, leD, ltD_int, gtD, geD, eqD_int, neD_int, gd_lim, slD, addD, revD, negD, gd, Option.bind_some, List.set_cons_succ, List.set_cons_zero, List.length_cons, List.length_nil, Nat.zero_add, d1, d2, d3, d4, if_true, t4 _ (show 1 ≤ 4 by decide), t4 _ (show 1 + 1 ≤ 4 by decide), t4 _ (show 1 + 1 + 1 + 1 ≤ 4 by decide)]) e6 w1 (by simpa using w2)
        refine Q_ret (d := .tuple [.str "always", od]) (zTup_of (zC_of (zP_of (d := .str "always") (by simp [runF, runFZ, startD, gSeq, gIf, gRet, gSet, gPut, gDrop, gNx, gFor, eA, eO, eN, eIf, e1, e2, e3, eTup, eLst, eCall, eM, eSl, oN, aN, aC, tA, tO, tN, tTr, tB1, tTrue, eC, eV, asB, asI, asL, asTT, truD, wipeD, setAllD, m1, mT, lenD, subD, addD_int, leD, ltD_int, gtD, geD, eqD_int, neD_int, gd_lim, ixE_0])) (zC_of e7 zN_of)) (by simp [LIM])) ⟨o5, rfl, VOk_two hHd ?_, w3⟩
        simp only [List.mem_cons, List.not_mem_nil, or_false] at hod
        rcases hod with rfl | rfl | rfl | rfl
        · exact PV_tup (by rw [List.length_append]; omega) fun e he => (List.mem_append.mp he).elim (fun z => hE' e (cutD_mem z)) fun z => hE' e (cutD_mem z)
        · exact PV_tup (by rw [List.length_reverse]; omega) fun e he => hE' e (List.mem_reverse.mp he)
        · exact PV_tup (by rw [List.length_append]; omega) fun e he => (List.mem_append.mp he).elim (hE' e) fun z => hE' e (cutD_mem z)
        · refine PV_tup (by simp only [List.length_append, List.length_singleton]; omega) fun e he => ?_
          rcases List.mem_append.mp he with z | z
          · rcases List.mem_append.mp z with y | y
            · exact hE' e (cutD_mem y)
            · rw [List.mem_singleton] at y
              subst y
              exact hD _ (by simp [D])
          · exact hE' e (cutD_mem z)
      refine Q_no (zTP_of (by simp [runF, runFZ, startD, gSeq, gIf, gRet, gSet, gPut, gDrop, gNx, gFor, eA, eO, eN, eIf, e1, e2, e3, eTup, eLst, eCall, eM, eSl, oN, aN, aC, tA, tO, tN, tTr, tB1, tTrue, eC, eV, asB, asI, asL, asTT, truD, wipeD, setAllD, m1, mT, lenD, subD, addD_int, leD, ltD_int, gtD, geD, eqD_int, neD_int, gd_lim, p7])) ?_
      exact Q_ret (zP_of (d := .tuple [.str "always", .tuple (PS.map dE)]) (by simp [runF, runFZ, startD, gSeq, gIf, gRet, gSet, gPut, gDrop, gNx, gFor, eA, eO, eN, eIf, e1, e2, e3, eTup, eLst, eCall, eM, eSl, oN, aN, aC, tA, tO, tN, tTr, tB1, tTrue, eC, eV, asB, asI, asL, asTT, truD, wipeD, setAllD, m1, mT, lenD, subD, addD_int, leD, ltD_int, gtD, geD, eqD_int, neD_int, gd_lim])) ⟨o4, rfl, VOk_two hHd hV, u3⟩
end
end G8

/-! M22: the law answers True. -/
namespace G8
open L2 PyProof.Rows PySem.Spec PySem
theorem F57_eq (x y : Bool) : F57 [.bool x, .bool y] = some (.bool (x == y)) := by cases x <;> cases y <;> kernel_rfl
theorem runFZ_Q {n : Nat} {N : List Str} {g : ZG} {ds : List PyData} {r : PyData} (hl : ds.length = n) (h : QR (fun d _ => d = r) (g (startD N ds))) : runFZ n N g ds = some r := by
  obtain ⟨d, Γ, e, rfl⟩ := h
  exact runFZ_rt hl e
theorem zCall_of {i : Nat} {F : PyData → List PyData → Option (PyData × PyData)} {gs : DE → Option (List PyData × DE)} {Γ Γ1 : DE} {ds : List PyData} {o d o' : PyData} (h1 : gs Γ = some (ds, Γ1)) (h2 : eV i Γ1 = some o) (h3 : F o ds = some (d, o')) : zCall i F gs Γ = some (d, Γ1.set i (some o')) := by simp [zCall, zB, h1, h2, h3]
theorem cutD_take (ds : List PyData) (k : Nat) : cutD ds none (some (k : Int)) = ds.take k := by
  simp only [cutD, HT.sIx_none]
  have : HT.sIx ds.length ds.length (some (k : Int)) = min k ds.length := HT.sIx_nat _ _ k
  rw [this, List.drop_zero, Nat.sub_zero]
  by_cases h : k ≤ ds.length
  · rw [Nat.min_eq_left h]
  · rw [Nat.min_eq_right (by omega), List.take_length, List.take_of_length_le (by omega)]
section
variable {l : Ls}
theorem F69_eq (ok : OkL l) (K : List Kd) : F69 [dL l, .list (K.map dK')] = some (.list ((rightsM l K).map dI)) := by
  refine runF_rt rfl (ret_of ?_)
  have few := ok.few
  have h68 := F68_eq few
  refine eLc_map (enc := dI) (p := fun r => (wrongM l K r).isNone) (q := dI) (xs := rowsM l.rs.length) (by simp [iS, runF, runFZ, startD, gSeq, gIf, gRet, gSet, gPut, gDrop, gNx, gFor, eA, eO, eN, eIf, e1, e2, e3, eTup, eLst, eCall, eM, eSl, oN, aN, aC, tA, tO, tN, tTr, tB1, tTrue, eC, eV, asB, asI, asL, asTT, truD, wipeD, setAllD, m1, mT, lenD, subD, addD_int, leD, ltD_int, gtD, geD, eqD_int, neD_int, gd_lim, dL_1, h68]) fun r hr => ⟨[dI r], rfl, ?_, fun _ => by simp [runF, runFZ, startD, gSeq, gIf, gRet, gSet, gPut, gDrop, gNx, gFor, eA, eO, eN, eIf, e1, e2, e3, eTup, eLst, eCall, eM, eSl, oN, aN, aC, tA, tO, tN, tTr, tB1, tTrue, eC, eV, asB, asI, asL, asTT, truD, wipeD, setAllD, m1, mT, lenD, subD, addD_int, leD, ltD_int, gtD, geD, eqD_int, neD_int, gd_lim]⟩
  simp [runF, runFZ, startD, gSeq, gIf, gRet, gSet, gPut, gDrop, gNx, gFor, eA, eO, eN, eIf, e1, e2, e3, eTup, eLst, eCall, eM, eSl, oN, aN, aC, tA, tO, tN, tTr, tB1, tTrue, eC, eV, asB, asI, asL, asTT, truD, wipeD, setAllD, m1, mT, lenD, subD, addD_int, leD, ltD_int, gtD, geD, eqD_int, neD_int, gd_lim, F67_eq (rowsM_mem.mp hr).2.2, isD_O]
theorem Ev.vok (ok : OkL l) {d : PyData} (h : Ev l d) : VOk d := by
  obtain ⟨s, ds, rfl, h1, h2, h3⟩ := ev_parts ok h
  refine VOk_two ?_ (PV_tup (by omega) h2)
  rcases h3 with rfl | ⟨rfl, _⟩
  · exact .inr (.inl rfl)
  · exact .inr (.inr (.inl rfl))
theorem eq_na2 : eqD (.str "not") (.str "always") = some (.bool false) := by kernel_rfl
theorem eq_aa2 : eqD (.str "always") (.str "always") = some (.bool true) := by kernel_rfl
theorem ne_bb (x y : Bool) : neD (.bool x) (.bool y) = some (.bool (x != y)) := by cases x <;> cases y <;> kernel_rfl
theorem second_ok {n : Nat} (h1 : 2 ≤ n) (h2 : n ≤ 4) {a v : Int} (a1 : 0 ≤ a) (a2 : a < n) (v1 : 0 ≤ v) (v2 : v < (n : Int) - 1) : (a + 1 + v) % (n : Int) ∈ rng n ∧ a ≠ (a + 1 + v) % (n : Int) := by
  have hn : n = 2 ∨ n = 3 ∨ n = 4 := by omega
  rcases hn with rfl | rfl | rfl
  · refine ⟨mem_rng.mpr ⟨by omega, by omega⟩, by omega⟩
  · refine ⟨mem_rng.mpr ⟨by omega, by omega⟩, by omega⟩
  · refine ⟨mem_rng.mpr ⟨by omega, by omega⟩, by omega⟩
/-- the turn's body -/
def turnZ : ZG := (zSeq (zSet 14 (zP [1] (eCall F49 (aC (eV 2) (aC (eV 3) (aC (eV 8) (aC (eV 9) (aN)))))))) (zSeq (zIf (zT2 eqD (zCall 1 F55 (zC (zP [1] (eC (.int 4))) (zN))) (zP [1] (eC (.int 0)))) (zSet 14 (zP [1] (eCall F49 (aC (eV 2) (aC (eV 3) (aC (eV 9) (aC (eV 8) (aN)))))))) (zNx)) (zSeq (zIf (zT2 gtD (zCall 1 F55 (zC (zP [1] (eC (.int 6))) (zN))) (zP [1] (eC (.int 0)))) (zSet 14 (zCall 1 F73 (zC (zP [1] (eV 2)) (zC (zP [1] (eV 14)) (zN))))) (zNx)) (zSeq (zSet 15 (zP [1] (eCall F71 (aC (eV 2) (aC (eV 4) (aC (eV 5) (aC (eV 8) (aC (eV 9) (aC (eV 14) (aN)))))))))) (zIf (zTP (tO (tN (tTr (eCall F57 (aC (eCall F52 (aC (eV 2) (aC (eV 3) (aC (eV 8) (aC (eV 9) (aC (eV 14) (aN))))))) (aC (eV 15) (aN)))))) (tA (tTr (eV 15)) (tB1 (e2 neD (e2 eqD (e2 ixE (eV 14) (eC (.int 0))) (eC (.str "always"))) (eV 10)))))) (zRet (zP [1] (eC (.bool false)))) (zNx))))))
/-- the state behind the draws of the law -/
def stt (l : Ls) (w : Wt) (a b : Int) (s0 o b11 b12 b13 b14 b15 b16 b17 b18 b19 b20 : Option PyData) : DE :=
  [s0, o, some (dL l), some (dW w), some (.list ((wantsM l w).map dP)), some (.list ((kindsM l (wantsM l w)).map dK')), some (.list ((rightsM l (kindsM l (wantsM l w))).map dI)), some (.int l.rs.length), some (.int a), some (.int b), some (.bool (alwaysM l (kindsM l (wantsM l w)) a b)), b11, b12, b13, b14, b15, b16, b17, b18, b19, b20]
structure Sit (l : Ls) (w : Wt) (a b : Int) : Prop where
  ok : OkL l
  two : 2 ≤ l.rs.length
  hw : OkW l w
  ha : a ∈ rng l.rs.length
  hb : b ∈ rng l.rs.length
  ne : a ≠ b
  r : ∃ r ∈ rowsM l.rs.length, wrongM l (kindsM l (wantsM l w)) r = none
theorem turnZ_eq {w : Wt} {a b : Int} (T : Sit l w a b) {o : PyData} (ho : StOk o) (s0 b11 b12 b13 b14 b15 b16 b17 b18 b19 b20 : Option PyData) :
    ∃ o' b14' b15', StOk o' ∧ turnZ (stt l w a b s0 (some o) b11 b12 b13 b14 b15 b16 b17 b18 b19 b20) = some (.nx (stt l w a b s0 (some o') b11 b12 b13 b14' b15' b16 b17 b18 b19 b20)) := by
  obtain ⟨r, hr, hR⟩ := T.r
  obtain ⟨d1, f1, E1⟩ := F49_eq T.ok T.hw T.ha T.hb T.ne hr hR
  obtain ⟨d2, f2, E2⟩ := F49_eq T.ok T.hw T.hb T.ha T.ne.symm hr hR
  unfold turnZ
  have tail : ∀ (o3 : PyData) (d : PyData), VOk d → ∃ b14' b15', (zSeq (zSet 15 (zP [1] (eCall F71 (aC (eV 2) (aC (eV 4) (aC (eV 5) (aC (eV 8) (aC (eV 9) (aC (eV 14) (aN)))))))))) (zIf (zTP (tO (tN (tTr (eCall F57 (aC (eCall F52 (aC (eV 2) (aC (eV 3) (aC (eV 8) (aC (eV 9) (aC (eV 14) (aN))))))) (aC (eV 15) (aN)))))) (tA (tTr (eV 15)) (tB1 (e2 neD (e2 eqD (e2 ixE (eV 14) (eC (.int 0))) (eC (.str "always"))) (eV 10)))))) (zRet (zP [1] (eC (.bool false)))) (zNx)))
      (stt l w a b s0 (some o3) b11 b12 b13 (some d) b15 b16 b17 b18 b19 b20) = some (.nx (stt l w a b s0 (some o3) b11 b12 b13 b14' b15' b16 b17 b18 b19 b20)) := fun o3 d hd => by
    have h71 := F71_eq T.ok (wants_ok T.ok T.hw).1 (K := kindsM l (wantsM l w)) T.ha T.hb hd
    have h52 := F52_eq T.ok T.hw T.ha T.hb T.ne hr hR hd
    refine ⟨some d, some (.bool (evB l (kindsM l (wantsM l w)) (wantsM l w) a b d)), ?_⟩
    refine zseq_set (zP_of (d := .bool (evB l (kindsM l (wantsM l w)) (wantsM l w) a b d)) (by simp [stt, runF, runFZ, startD, gSeq, gIf, gRet, gSet, gPut, gDrop, gNx, gFor, eA, eO, eN, eIf, e1, e2, e3, eTup, eLst, eCall, eM, eSl, oN, aN, aC, tA, tO, tN, tTr, tB1, tTrue, eC, eV, asB, asI, asL, asTT, truD, wipeD, setAllD, m1, mT, lenD, subD, addD_int, leD, ltD_int, gtD, geD, eqD_int, neD_int, gd_lim, h71])) ?_
    refine zIf_no (zTP_of ?_) rfl
    cases q : evB l (kindsM l (wantsM l w)) (wantsM l w) a b d with
    | false =>
      rw [q] at h52
      simp [stt, runF, runFZ, startD, gSeq, gIf, gRet, gSet, gPut, gDrop, gNx, gFor, eA, eO, eN, eIf, e1, e2, e3, eTup, eLst, eCall, eM, eSl, oN, aN, aC, tA, tO, tN, tTr, tB1, tTrue, eC, eV, asB, asI, asL, asTT, truD, wipeD, setAllD, m1, mT, lenD, subD, addD_int, leD, ltD_int, gtD, geD, eqD_int, neD_int, gd_lim, h52, F57_eq]
    | true =>
      rw [q] at h52
      rcases ev_sound T.ok.few T.ha T.hb T.ne q with ⟨v, rfl, hal⟩ | ⟨v, rfl, hal⟩
      · simp [stt, runF, runFZ, startD, gSeq, gIf, gRet, gSet, gPut, gDrop, gNx, gFor, eA, eO, eN, eIf, e1, e2, e3, eTup, eLst, eCall, eM, eSl, oN, aN, aC, tA, tO, tN, tTr, tB1, tTrue, eC, eV, asB, asI, asL, asTT, truD, wipeD, setAllD, m1, mT, lenD, subD, addD_int, leD, ltD_int, gtD, geD, eqD_int, neD_int, gd_lim, h52, F57_eq, ixE_0, eq_na2, hal, ne_bb]
      · simp [stt, runF, runFZ, startD, gSeq, gIf, gRet, gSet, gPut, gDrop, gNx, gFor, eA, eO, eN, eIf, e1, e2, e3, eTup, eLst, eCall, eM, eSl, oN, aN, aC, tA, tO, tN, tTr, tB1, tTrue, eC, eV, asB, asI, asL, asTT, truD, wipeD, setAllD, m1, mT, lenD, subD, addD_int, leD, ltD_int, gtD, geD, eqD_int, neD_int, gd_lim, h52, F57_eq, ixE_0, eq_aa2, hal, ne_bb]
  have mid : ∀ (o2 : PyData) (d : PyData), StOk o2 → Ev l d → ∃ o' b14' b15', StOk o' ∧ (zSeq (zIf (zT2 gtD (zCall 1 F55 (zC (zP [1] (eC (.int 6))) (zN))) (zP [1] (eC (.int 0)))) (zSet 14 (zCall 1 F73 (zC (zP [1] (eV 2)) (zC (zP [1] (eV 14)) (zN))))) (zNx)) (zSeq (zSet 15 (zP [1] (eCall F71 (aC (eV 2) (aC (eV 4) (aC (eV 5) (aC (eV 8) (aC (eV 9) (aC (eV 14) (aN)))))))))) (zIf (zTP (tO (tN (tTr (eCall F57 (aC (eCall F52 (aC (eV 2) (aC (eV 3) (aC (eV 8) (aC (eV 9) (aC (eV 14) (aN))))))) (aC (eV 15) (aN)))))) (tA (tTr (eV 15)) (tB1 (e2 neD (e2 eqD (e2 ixE (eV 14) (eC (.int 0))) (eC (.str "always"))) (eV 10)))))) (zRet (zP [1] (eC (.bool false)))) (zNx))))
      (stt l w a b s0 (some o2) b11 b12 b13 (some d) b15 b16 b17 b18 b19 b20) = some (.nx (stt l w a b s0 (some o') b11 b12 b13 b14' b15' b16 b17 b18 b19 b20)) := fun o2 d h1 h2 => by
    obtain ⟨v, o3, e3, v1, v2, v3⟩ := draw (i := 1) (Γ := stt l w a b s0 (some o2) b11 b12 b13 (some d) b15 b16 b17 b18 b19 b20) (zP_c [1] (.int 6) _) rfl h1 (by decide) (by decide)
    by_cases hv : 0 < v
    · obtain ⟨d', o4, e4, g1, g2⟩ := F73_eq T.ok T.two h2 v3
      obtain ⟨b14', b15', h⟩ := tail o4 d' g1
      refine ⟨o4, b14', b15', g2, ?_⟩
      refine zseq_nx (zIf_yes (zT2_of e3 (zP_c _ _ _) (by simp [gtD, hv])) (zSet_of (d := d') (Γ1 := stt l w a b s0 (some o4) b11 b12 b13 (some d) b15 b16 b17 b18 b19 b20) (zCall_of (o := o3) (zC_of (zP_of (d := dL l) (by simp [stt, eV, wipeD])) (zC_of (zP_of (d := d) (by simp [stt, eV, wipeD])) zN_of)) rfl e4))) h
    · obtain ⟨b14', b15', h⟩ := tail o3 d (h2.vok T.ok)
      refine ⟨o3, b14', b15', v3, ?_⟩
      exact zseq_nx (zIf_no (zT2_of e3 (zP_c _ _ _) (by simp [gtD, hv])) rfl) h
  obtain ⟨v, o2, e2', v1, v2, v3⟩ := draw (i := 1) (Γ := stt l w a b s0 (some o) b11 b12 b13 (some d1) b15 b16 b17 b18 b19 b20) (zP_c [1] (.int 4) _) rfl ho (by decide) (by decide)
  by_cases hv : v = 0
  · obtain ⟨o', b14', b15', g1, g2⟩ := mid o2 d2 v3 E2
    refine ⟨o', b14', b15', g1, ?_⟩
    refine zseq_set (zP_of (d := d1) (by simp [stt, runF, runFZ, startD, gSeq, gIf, gRet, gSet, gPut, gDrop, gNx, gFor, eA, eO, eN, eIf, e1, e2, e3, eTup, eLst, eCall, eM, eSl, oN, aN, aC, tA, tO, tN, tTr, tB1, tTrue, eC, eV, asB, asI, asL, asTT, truD, wipeD, setAllD, m1, mT, lenD, subD, addD_int, leD, ltD_int, gtD, geD, eqD_int, neD_int, gd_lim, f1])) ?_
    exact zseq_nx (zIf_yes (zT2_of e2' (zP_c _ _ _) (by rw [eqD_int, decide_eq_true hv])) (zSet_of (d := d2) (zP_of (by simp [stt, runF, runFZ, startD, gSeq, gIf, gRet, gSet, gPut, gDrop, gNx, gFor, eA, eO, eN, eIf, e1, e2, e3, eTup, eLst, eCall, eM, eSl, oN, aN, aC, tA, tO, tN, tTr, tB1, tTrue, eC, eV, asB, asI, asL, asTT, truD, wipeD, setAllD, m1, mT, lenD, subD, addD_int, leD, ltD_int, gtD, geD, eqD_int, neD_int, gd_lim, f2])))) g2
  · obtain ⟨o', b14', b15', g1, g2⟩ := mid o2 d1 v3 E1
    refine ⟨o', b14', b15', g1, ?_⟩
    refine zseq_set (zP_of (d := d1) (by simp [stt, runF, runFZ, startD, gSeq, gIf, gRet, gSet, gPut, gDrop, gNx, gFor, eA, eO, eN, eIf, e1, e2, e3, eTup, eLst, eCall, eM, eSl, oN, aN, aC, tA, tO, tN, tTr, tB1, tTrue, eC, eV, asB, asI, asL, asTT, truD, wipeD, setAllD, m1, mT, lenD, subD, addD_int, leD, ltD_int, gtD, geD, eqD_int, neD_int, gd_lim, f1])) ?_
    exact zseq_nx (zIf_no (zT2_of e2' (zP_c _ _ _) (by rw [eqD_int, decide_eq_false hv])) rfl) g2
end
end G8

/-! M23: the law answers True, whole. -/
namespace G8
open L2 PyProof.Rows PySem.Spec PySem
section
variable {l : Ls}
def valZ : ZG := (zSeq (zSet 15 (zP [1] (eCall F71 (aC (eV 2) (aC (eV 4) (aC (eV 5) (aC (eV 8) (aC (eV 9) (aC (eTup (aC (eV 16) (aC (eV 14) (aN)))) (aN)))))))))) (zIf (zTP (tB1 (e2 neD (eCall F52 (aC (eV 2) (aC (eV 3) (aC (eV 8) (aC (eV 9) (aC (eTup (aC (eV 16) (aC (eV 14) (aN)))) (aN))))))) (eV 15)))) (zRet (zP [1] (eC (.bool false)))) (zNx)))
theorem valZ_eq {w : Wt} {a b : Int} (T : Sit l w a b) {v : PyData} (hv : PV v) (s0 o b11 b12 b13 b15 b17 b18 b19 b20 : Option PyData) : ∃ b15', valZ (stt l w a b s0 o b11 b12 b13 (some v) b15 (some (.str "always")) b17 b18 b19 b20) = some (.nx (stt l w a b s0 o b11 b12 b13 (some v) b15' (some (.str "always")) b17 b18 b19 b20)) := by
  obtain ⟨r, hr, hR⟩ := T.r
  have hd : VOk (.tuple [.str "always", v]) := VOk_two (.inr (.inr (.inl rfl))) hv
  have h71 := F71_eq T.ok (wants_ok T.ok T.hw).1 (K := kindsM l (wantsM l w)) T.ha T.hb hd
  have h52 := F52_eq T.ok T.hw T.ha T.hb T.ne hr hR hd
  refine ⟨some (.bool (evB l (kindsM l (wantsM l w)) (wantsM l w) a b (.tuple [.str "always", v]))), ?_⟩
  unfold valZ
  refine zseq_set (zP_of (d := .bool (evB l (kindsM l (wantsM l w)) (wantsM l w) a b (.tuple [.str "always", v]))) (by simp [stt, runF, runFZ, startD, gSeq, gIf, gRet, gSet, gPut, gDrop, gNx, gFor, eA, eO, eN, eIf, e1, e2, e3, eTup, eLst, eCall, eM, eSl, oN, aN, aC, tA, tO, tN, tTr, tB1, tTrue, eC, eV, asB, asI, asL, asTT, truD, wipeD, setAllD, m1, mT, lenD, subD, addD_int, leD, ltD_int, gtD, geD, eqD_int, neD_int, gd_lim, gd, LIM, h71])) ?_
  refine zIf_no (zTP_of ?_) rfl
  simp [stt, runF, runFZ, startD, gSeq, gIf, gRet, gSet, gPut, gDrop, gNx, gFor, eA, eO, eN, eIf, e1, e2, e3, eTup, eLst, eCall, eM, eSl, oN, aN, aC, tA, tO, tN, tTr, tB1, tTrue, eC, eV, asB, asI, asL, asTT, truD, wipeD, setAllD, m1, mT, lenD, subD, addD_int, leD, ltD_int, gtD, geD, eqD_int, neD_int, gd_lim, gd, LIM, h52, ne_bb]
def tailZ : ZG := (zSeq (zPut [16, 17] (mT 2) (zP [1] (eCall F49 (aC (eV 2) (aC (eV 3) (aC (eV 8) (aC (eV 9) (aN)))))))) (zSeq (zIf (zTP (tB1 (e2 neD (eV 16) (eC (.str "always"))))) (zRet (zP [1] (eC (.bool true)))) (zNx)) (zSeq (zSet 12 (zP [1] (eLc [13] (iR (eCall lenD (aC (eV 17) (aN)))) m1 [13] (tTrue) (e2 addD (eSl (eV 17) none (some (eV 13))) (eSl (eV 17) (some (e2 addD (eV 13) (eC (.int 1)))) none))))) (zSeq (zFor (zIP [1] (iR (eCall lenD (aC (eV 17) (aN))))) m1 [13] (zSet 12 (zP [1] (e2 addD (eV 12) (eLc [19, 20] (iS (eSl (eV 4) none (some (eC (.int 12))))) (mT 2) [19, 20] (tTrue) (e2 addD (e2 addD (eSl (eV 17) none (some (eV 13))) (eTup (aC (eTup (aC (e2 ixE (e2 ixE (eV 17) (eV 13)) (eC (.int 0))) (aC (eV 19) (aN)))) (aN)))) (eSl (eV 17) (some (e2 addD (eV 13) (eC (.int 1)))) none))))))) (zSeq (zFor (zIP [1] (iS (eV 12))) m1 [14] valZ) (zRet (zP [1] (eC (.bool true)))))))))
theorem tailZ_eq {w : Wt} {a b : Int} (T : Sit l w a b) (s0 o b11 b12 b13 b14 b15 b16 b17 b18 b19 b20 : Option PyData) : QR (fun d _ => d = .bool true) (tailZ (stt l w a b s0 o b11 b12 b13 b14 b15 b16 b17 b18 b19 b20)) := by
  obtain ⟨r, hr, hR⟩ := T.r
  obtain ⟨d1, f1, E1⟩ := F49_eq T.ok T.hw T.ha T.hb T.ne hr hR
  have w12 := (wants_ok T.ok T.hw).2
  unfold tailZ
  have put : ∀ {x y : PyData} {g : ZG}, d1 = .tuple [x, y] → QR (fun d _ => d = .bool true) (g (stt l w a b s0 o b11 b12 b13 b14 b15 (some x) (some y) b18 b19 b20)) → QR (fun d _ => d = .bool true) (zSeq (zPut [16, 17] (mT 2) (zP [1] (eCall F49 (aC (eV 2) (aC (eV 3) (aC (eV 8) (aC (eV 9) (aN)))))))) g (stt l w a b s0 o b11 b12 b13 b14 b15 b16 b17 b18 b19 b20)) := fun {x y g} e h => by
    subst e
    rw [zseq_nx (Γ1 := stt l w a b s0 o b11 b12 b13 b14 b15 (some x) (some y) b18 b19 b20) ?_ rfl]
    · exact h
    · have : zP [1] (eCall F49 (aC (eV 2) (aC (eV 3) (aC (eV 8) (aC (eV 9) (aN)))))) (stt l w a b s0 o b11 b12 b13 b14 b15 b16 b17 b18 b19 b20) = some (.tuple [x, y], stt l w a b s0 o b11 b12 b13 b14 b15 b16 b17 b18 b19 b20) := zP_of (by simp [stt, runF, runFZ, startD, gSeq, gIf, gRet, gSet, gPut, gDrop, gNx, gFor, eA, eO, eN, eIf, e1, e2, e3, eTup, eLst, eCall, eM, eSl, oN, aN, aC, tA, tO, tN, tTr, tB1, tTrue, eC, eV, asB, asI, asL, asTT, truD, wipeD, setAllD, m1, mT, lenD, subD, addD_int, leD, ltD_int, gtD, geD, eqD_int, neD_int, gd_lim, f1])
      simp only [zPut, zB, this, Option.bind_some]
      rfl
  rcases E1 with ⟨row, _, e⟩ | ⟨ps, e, hl, hps⟩
  · refine put e ?_
    exact Q_yes (zTP_of (by simp [stt, runF, runFZ, startD, gSeq, gIf, gRet, gSet, gPut, gDrop, gNx, gFor, eA, eO, eN, eIf, e1, e2, e3, eTup, eLst, eCall, eM, eSl, oN, aN, aC, tA, tO, tN, tTr, tB1, tTrue, eC, eV, asB, asI, asL, asTT, truD, wipeD, setAllD, m1, mT, lenD, subD, addD_int, leD, ltD_int, gtD, geD, eqD_int, neD_int, gd_lim, ne_na])) (Q_ret (zP_c _ _ _) rfl)
  refine put e ?_
  refine Q_no (zTP_of (by simp [stt, runF, runFZ, startD, gSeq, gIf, gRet, gSet, gPut, gDrop, gNx, gFor, eA, eO, eN, eIf, e1, e2, e3, eTup, eLst, eCall, eM, eSl, oN, aN, aC, tA, tO, tN, tTr, tB1, tTrue, eC, eV, asB, asI, asL, asTT, truD, wipeD, setAllD, m1, mT, lenD, subD, addD_int, leD, ltD_int, gtD, geD, eqD_int, neD_int, gd_lim, ne_aa])) ?_
  let ds := ps.map dE
  have hdl : ds.length = ps.length := by simp [ds]
  have hE : ∀ e ∈ ds, PE' e := fun e he => by obtain ⟨p, _, rfl⟩ := List.mem_map.mp he; exact PE_dE p
  have hz1 : (ps.length : Int) ≤ 100000 := by omega
  have c1 : eLc [13] (iR (eCall lenD (aC (eV 17) (aN)))) m1 [13] (tTrue) (e2 addD (eSl (eV 17) none (some (eV 13))) (eSl (eV 17) (some (e2 addD (eV 13) (eC (.int 1)))) none)) (wipeD (stt l w a b s0 o b11 b12 b13 b14 b15 (some (.str "always")) (some (.tuple ds)) b18 b19 b20) [1]) = some (.list ((rng ps.length).map fun k => .tuple (cutD ds none (some k) ++ cutD ds (some (k + 1)) none))) := by
    refine eLc_all (enc := PyData.int) (xs := rng ps.length) (by simp [stt, iR, runF, runFZ, startD, gSeq, gIf, gRet, gSet, gPut, gDrop, gNx, gFor, eA, eO, eN, eIf, e1, e2, e3, eTup, eLst, eCall, eM, eSl, oN, aN, aC, tA, tO, tN, tTr, tB1, tTrue, eC, eV, asB, asI, asL, asTT, truD, wipeD, setAllD, m1, mT, lenD, subD, addD_int, leD, ltD_int, gtD, geD, eqD_int, neD_int, gd_lim, rgD_eq, LIM, hdl, hz1]) fun k hk => ⟨[.int k], rfl, ?_⟩
    have q1 := cutD_len ds none (some k)
    have q2 := cutD_len ds (some (k + 1)) none
    have d1 : decide ((cutD ds none (some k)).length + (cutD ds (some (k + 1)) none).length ≤ LIM) = true := decide_eq_true (by simp only [LIM]; omega)
    simp only [stt, runF, runFZ, startD, gSeq, gIf, gRet, gSet, gPut, gDrop, gNx, gFor, eA, eO, eN, eIf, e1, e2, e3, eTup, eLst, eCall, eM, eSl, oN, aN, aC, tA, tO, tN, tTr, tB1, tTrue, eC, eV, asB, asI, asL, asTT, truD, wipeD, setAllD, m1, mT, lenD, subD, addD_int, leD, ltD_int, gtD, geD, eqD_int, neD_int, gd_lim, Option.bind_some, List.set_cons_succ, List.set_cons_zero, slD, addD, gd, d1, if_true]
  refine Q_set (zP_of (d := .list ((rng ps.length).map fun k => .tuple (cutD ds none (some k) ++ cutD ds (some (k + 1)) none))) c1) ?_
  show QR _ (zSeq _ _ (stt l w a b s0 o b11 (some (.list ((rng ps.length).map fun k => .tuple (cutD ds none (some k) ++ cutD ds (some (k + 1)) none)))) b13 b14 b15 (some (.str "always")) (some (.tuple ds)) b18 b19 b20))
  refine zseq_pre (P := QR _) (Γ1 := stt l w a b s0 o b11 (some (.list ((rng ps.length).map fun k => .tuple (cutD ds none (some k) ++ cutD ds (some (k + 1)) none)))) b13 b14 b15 (some (.str "always")) (some (.tuple ds)) b18 b19 b20)
    (fun pre Γ => ∃ (D : List PyData) (b13 : Option PyData), D.length ≤ 4 + 12 * pre.length ∧ (∀ d ∈ D, PV d) ∧ Γ = stt l w a b s0 o b11 (some (.list D)) b13 b14 b15 (some (.str "always")) (some (.tuple ds)) b18 b19 b20) PyData.int (rng ps.length) (by simp [stt, zIP, iR, runF, runFZ, startD, gSeq, gIf, gRet, gSet, gPut, gDrop, gNx, gFor, eA, eO, eN, eIf, e1, e2, e3, eTup, eLst, eCall, eM, eSl, oN, aN, aC, tA, tO, tN, tTr, tB1, tTrue, eC, eV, asB, asI, asL, asTT, truD, wipeD, setAllD, m1, mT, lenD, subD, addD_int, leD, ltD_int, gtD, geD, eqD_int, neD_int, gd_lim, rgD_eq, LIM, hdl, hz1])
    ⟨_, b13, by rw [List.length_map, rng_len]; simp; omega, fun d hd => ?_, rfl⟩ ?_ ?_
  · obtain ⟨k, hk, rfl⟩ := List.mem_map.mp hd
    have q1 := cutD_len ds none (some k)
    have q2 := cutD_len ds (some (k + 1)) none
    exact PV_tup (by rw [List.length_append]; omega) fun e he => (List.mem_append.mp he).elim (fun z => hE e (cutD_mem z)) fun z => hE e (cutD_mem z)
  · rintro pre k q Γ e0 ⟨D, b13', h1, h2, rfl⟩
    have hk : k ∈ rng ps.length := by rw [e0]; simp
    obtain ⟨k1, k2⟩ := mem_rng.mp hk
    have hkn : k.toNat < ps.length := by omega
    have hpre : pre.length + (q.length + 1) = ps.length := by
      have := congrArg List.length e0
      rw [rng_len] at this
      simpa using this.symm
    have q1 := cutD_len ds none (some k)
    have q2 := cutD_len ds (some (k + 1)) none
    have g1 : decide ((cutD ds none (some k)).length + 1 ≤ LIM) = true := decide_eq_true (by simp only [LIM]; omega)
    have g2 : ∀ x : PyData, decide ((cutD ds none (some k) ++ [x]).length + (cutD ds (some (k + 1)) none).length ≤ LIM) = true := fun x => decide_eq_true (by simp only [LIM, List.length_append, List.length_singleton]; omega)
    have hix : ixE (.tuple ds) (.int k) = some (dE ps[k.toNat]) := by rw [ixE_T k1]; simp [ds, List.getElem?_eq_getElem hkn]
    have hix0 : ixE (dE ps[k.toNat]) (.int 0) = some (.int ps[k.toNat].1) := by simp [dE, ixE_0]
    have c2 : eLc [19, 20] (iS (eSl (eV 4) none (some (eC (.int 12))))) (mT 2) [19, 20] (tTrue) (e2 addD (e2 addD (eSl (eV 17) none (some (eV 13))) (eTup (aC (eTup (aC (e2 ixE (e2 ixE (eV 17) (eV 13)) (eC (.int 0))) (aC (eV 19) (aN)))) (aN)))) (eSl (eV 17) (some (e2 addD (eV 13) (eC (.int 1)))) none)) (wipeD (stt l w a b s0 o b11 (some (.list D)) (some (.int k)) b14 b15 (some (.str "always")) (some (.tuple ds)) b18 b19 b20) [1]) =
        some (.list ((wantsM l w).map fun p => .tuple (cutD ds none (some k) ++ [.tuple [.int ps[k.toNat].1, dI p.1]] ++ cutD ds (some (k + 1)) none))) := by
      refine eLc_all (enc := dP) (xs := wantsM l w) ?_ fun p hp => ⟨[dI p.1, .int p.2], rfl, ?_⟩
      · have : cutD ((wantsM l w).map dP) none (some 12) = (wantsM l w).map dP := by
          have := cutD_take ((wantsM l w).map dP) 12
          rw [List.take_of_length_le (by simpa using w12)] at this
          exact this
        simp only [stt, iS, runF, runFZ, startD, gSeq, gIf, gRet, gSet, gPut, gDrop, gNx, gFor, eA, eO, eN, eIf, e1, e2, e3, eTup, eLst, eCall, eM, eSl, oN, aN, aC, tA, tO, tN, tTr, tB1, tTrue, eC, eV, asB, asI, asL, asTT, truD, wipeD, setAllD, m1, mT, lenD, subD, addD_int, leD, ltD_int, gtD, geD, eqD_int, neD_int, gd_lim, Option.bind_some, List.set_cons_succ, List.set_cons_zero, slD, this]
      · simp only [stt, runF, runFZ, startD, gSeq, gIf, gRet, gSet, gPut, gDrop, gNx, gFor, eA, eO, eN, eIf, e1, e2, e3, eTup, eLst, eCall, eM, eSl, oN, aN, aC, tA, tO, tN, tTr, tB1, tTrue, eC, eV, asB, asI, asL, asTT, truD, wipeD, setAllD, m1, mT, lenD, subD, addD_int, leD, ltD_int, gtD, geD, eqD_int, neD_int, gd_lim, Option.bind_some, List.set_cons_succ, List.set_cons_zero, slD, hix, hix0, addD, List.length_cons, List.length_nil, Nat.zero_add, g1, g2, gd, if_true]
        have g1' : (cutD ds none (some k)).length ≤ 99999 := by omega
        have g2' : (cutD ds none (some k)).length + 1 + (cutD ds (some (k + 1)) none).length ≤ 100000 := by omega
        simp [LIM, g1', g2']
    have hD : decide (D.length + ((wantsM l w).map fun p => PyData.tuple (cutD ds none (some k) ++ [.tuple [.int ps[k.toNat].1, dI p.1]] ++ cutD ds (some (k + 1)) none)).length ≤ LIM) = true := decide_eq_true (by simp only [LIM, List.length_map]; omega)
    refine ⟨[.int k], rfl, stt l w a b s0 o b11 (some (.list (D ++ (wantsM l w).map fun p => .tuple (cutD ds none (some k) ++ [.tuple [.int ps[k.toNat].1, dI p.1]] ++ cutD ds (some (k + 1)) none)))) (some (.int k)) b14 b15 (some (.str "always")) (some (.tuple ds)) b18 b19 b20, ?_, _, _, by simp only [List.length_append, List.length_map, List.length_singleton]; omega, fun d hd => ?_, rfl⟩
    · refine zSet_of (Γ1 := stt l w a b s0 o b11 (some (.list D)) (some (.int k)) b14 b15 (some (.str "always")) (some (.tuple ds)) b18 b19 b20) (zP_of ?_)
      show e2 addD (eV 12) _ (wipeD (stt l w a b s0 o b11 (some (.list D)) (some (.int k)) b14 b15 (some (.str "always")) (some (.tuple ds)) b18 b19 b20) [1]) = _
      simp only [e2, c2, Option.bind_some]
      rw [show eV 12 (wipeD (stt l w a b s0 o b11 (some (.list D)) (some (.int k)) b14 b15 (some (.str "always")) (some (.tuple ds)) b18 b19 b20) [1]) = some (.list D) from rfl, Option.bind_some]
      simp only [addD, hD, gd, if_true]
    · rcases List.mem_append.mp hd with z | z
      · exact h2 d z
      · obtain ⟨p, hp, rfl⟩ := List.mem_map.mp z
        refine PV_tup (by simp only [List.length_append, List.length_singleton]; omega) fun e he => ?_
        rcases List.mem_append.mp he with y | y
        · rcases List.mem_append.mp y with u | u
          · exact hE e (cutD_mem u)
          · rw [List.mem_singleton] at u
            subst u
            exact PE_dE (ps[k.toNat].1, p.1)
        · exact hE e (cutD_mem y)
  · rintro Γ' ⟨D, b13', h1, h2, rfl⟩
    refine zseq_pre (P := QR _) (Γ1 := stt l w a b s0 o b11 (some (.list D)) b13' b14 b15 (some (.str "always")) (some (.tuple ds)) b18 b19 b20)
      (fun pre Γ => ∃ (b14 b15 : Option PyData), Γ = stt l w a b s0 o b11 (some (.list D)) b13' b14 b15 (some (.str "always")) (some (.tuple ds)) b18 b19 b20) (fun x => x) D (by simp [stt, zIP, iS, runF, runFZ, startD, gSeq, gIf, gRet, gSet, gPut, gDrop, gNx, gFor, eA, eO, eN, eIf, e1, e2, e3, eTup, eLst, eCall, eM, eSl, oN, aN, aC, tA, tO, tN, tTr, tB1, tTrue, eC, eV, asB, asI, asL, asTT, truD, wipeD, setAllD, m1, mT, lenD, subD, addD_int, leD, ltD_int, gtD, geD, eqD_int, neD_int, gd_lim]) ⟨_, _, rfl⟩ ?_ ?_
    · rintro pre v q Γ e0 ⟨b14', b15', rfl⟩
      obtain ⟨b15'', hv⟩ := valZ_eq T (h2 v (by rw [e0]; simp)) s0 o b11 (some (.list D)) b13' b15' (some (.tuple ds)) b18 b19 b20
      exact ⟨[v], rfl, _, hv, _, _, rfl⟩
    · rintro Γ' ⟨b14', b15', rfl⟩
      exact Q_ret (zP_c _ _ _) rfl
theorem gT_eq {o0 : PyData} (ho0 : StOk o0) (s0 : Option PyData) : QR (fun d _ => d = .bool true) (gT74 [s0, some o0, none, none, none, none, none, none, none, none, none, none, none, none, none, none, none, none, none, none, none]) := by
  obtain ⟨ws, o1, f59, hws, ho1⟩ := F59_eq ho0
  obtain ⟨l, o2, f58, ok, two, ho2⟩ := F58_eq hws ho1
  obtain ⟨wd, o3, f64, w, rfl, hw, ho3⟩ := F64_eq ok two ho2
  have few := ok.few
  obtain ⟨wl1, wl2⟩ := wants_ok ok hw
  have f65 := F65_eq ok hw
  have f66 := F66_eq ok wl1 wl2
  have f69 := F69_eq ok (kindsM l (wantsM l w))
  unfold gT74
  refine Q_set (d := dL l) (Γ1 := [s0, some o2, none, none, none, none, none, none, none, none, none, none, none, none, none, none, none, none, none, none, none]) ?_ ?_
  · exact zCall_of (o := o1) (zC_of (zCall_of (o := o0) zN_of rfl f59) (zC_of (zP_c _ _ _) (zC_of (zP_c _ _ _) zN_of))) rfl f58
  refine Q_set (d := dW w) (Γ1 := [s0, some o3, some (dL l), none, none, none, none, none, none, none, none, none, none, none, none, none, none, none, none, none, none]) ?_ ?_
  · exact zCall_of (o := o2) (zC_of (zP_of (d := dL l) rfl) zN_of) rfl f64
  refine Q_set (zP_of (d := .list ((wantsM l w).map dP)) (by simp [runF, runFZ, startD, gSeq, gIf, gRet, gSet, gPut, gDrop, gNx, gFor, eA, eO, eN, eIf, e1, e2, e3, eTup, eLst, eCall, eM, eSl, oN, aN, aC, tA, tO, tN, tTr, tB1, tTrue, eC, eV, asB, asI, asL, asTT, truD, wipeD, setAllD, m1, mT, lenD, subD, addD_int, leD, ltD_int, gtD, geD, eqD_int, neD_int, gd_lim, f65])) ?_
  refine Q_set (zP_of (d := .list ((kindsM l (wantsM l w)).map dK')) (by simp [runF, runFZ, startD, gSeq, gIf, gRet, gSet, gPut, gDrop, gNx, gFor, eA, eO, eN, eIf, e1, e2, e3, eTup, eLst, eCall, eM, eSl, oN, aN, aC, tA, tO, tN, tTr, tB1, tTrue, eC, eV, asB, asI, asL, asTT, truD, wipeD, setAllD, m1, mT, lenD, subD, addD_int, leD, ltD_int, gtD, geD, eqD_int, neD_int, gd_lim, f66])) ?_
  refine Q_set (zP_of (d := .list ((rightsM l (kindsM l (wantsM l w))).map dI)) (by simp [runF, runFZ, startD, gSeq, gIf, gRet, gSet, gPut, gDrop, gNx, gFor, eA, eO, eN, eIf, e1, e2, e3, eTup, eLst, eCall, eM, eSl, oN, aN, aC, tA, tO, tN, tTr, tB1, tTrue, eC, eV, asB, asI, asL, asTT, truD, wipeD, setAllD, m1, mT, lenD, subD, addD_int, leD, ltD_int, gtD, geD, eqD_int, neD_int, gd_lim, f69])) ?_
  simp only [List.set_cons_succ, List.set_cons_zero]
  cases hrt : rightsM l (kindsM l (wantsM l w)) with
  | nil => exact Q_yes (zTP_of (by simp [runF, runFZ, startD, gSeq, gIf, gRet, gSet, gPut, gDrop, gNx, gFor, eA, eO, eN, eIf, e1, e2, e3, eTup, eLst, eCall, eM, eSl, oN, aN, aC, tA, tO, tN, tTr, tB1, tTrue, eC, eV, asB, asI, asL, asTT, truD, wipeD, setAllD, m1, mT, lenD, subD, addD_int, leD, ltD_int, gtD, geD, eqD_int, neD_int, gd_lim])) (Q_ret (zP_c _ _ _) rfl)
  | cons r0 rt =>
    have hr0 : r0 ∈ rightsM l (kindsM l (wantsM l w)) := by rw [hrt]; simp
    obtain ⟨hr, hR⟩ := List.mem_filter.mp hr0
    have hR' := Option.isNone_iff_eq_none.mp hR
    rw [← hrt]
    refine Q_no (zTP_of (by simp [runF, runFZ, startD, gSeq, gIf, gRet, gSet, gPut, gDrop, gNx, gFor, eA, eO, eN, eIf, e1, e2, e3, eTup, eLst, eCall, eM, eSl, oN, aN, aC, tA, tO, tN, tTr, tB1, tTrue, eC, eV, asB, asI, asL, asTT, truD, wipeD, setAllD, m1, mT, lenD, subD, addD_int, leD, ltD_int, gtD, geD, eqD_int, neD_int, gd_lim, hrt])) ?_
    refine Q_set (zP_of (d := .int l.rs.length) (by simp [runF, runFZ, startD, gSeq, gIf, gRet, gSet, gPut, gDrop, gNx, gFor, eA, eO, eN, eIf, e1, e2, e3, eTup, eLst, eCall, eM, eSl, oN, aN, aC, tA, tO, tN, tTr, tB1, tTrue, eC, eV, asB, asI, asL, asTT, truD, wipeD, setAllD, m1, mT, lenD, subD, addD_int, leD, ltD_int, gtD, geD, eqD_int, neD_int, gd_lim, dL_1])) ?_
    simp only [List.set_cons_succ, List.set_cons_zero]
    obtain ⟨a, o4, e4, a1, a2, a3⟩ := draw (i := 1) (f := zP [1] (eV 7)) (Γ := [s0, some o3, some (dL l), some (dW w), some (.list ((wantsM l w).map dP)), some (.list ((kindsM l (wantsM l w)).map dK')), some (.list ((rightsM l (kindsM l (wantsM l w))).map dI)), some (.int l.rs.length), none, none, none, none, none, none, none, none, none, none, none, none, none]) (n := (l.rs.length : Int)) (by simp [zP, runF, runFZ, startD, gSeq, gIf, gRet, gSet, gPut, gDrop, gNx, gFor, eA, eO, eN, eIf, e1, e2, e3, eTup, eLst, eCall, eM, eSl, oN, aN, aC, tA, tO, tN, tTr, tB1, tTrue, eC, eV, asB, asI, asL, asTT, truD, wipeD, setAllD, m1, mT, lenD, subD, addD_int, leD, ltD_int, gtD, geD, eqD_int, neD_int, gd_lim]) rfl ho3 (by omega) (by omega)
    refine Q_set e4 ?_
    simp only [List.set_cons_succ, List.set_cons_zero]
    obtain ⟨v, o5, e5, v1, v2, v3⟩ := draw (i := 1) (f := zP [1] (e2 subD (eV 7) (eC (.int 1)))) (Γ := [s0, some o4, some (dL l), some (dW w), some (.list ((wantsM l w).map dP)), some (.list ((kindsM l (wantsM l w)).map dK')), some (.list ((rightsM l (kindsM l (wantsM l w))).map dI)), some (.int l.rs.length), some (.int a), none, none, none, none, none, none, none, none, none, none, none, none]) (n := (l.rs.length : Int) - 1) (by simp [zP, runF, runFZ, startD, gSeq, gIf, gRet, gSet, gPut, gDrop, gNx, gFor, eA, eO, eN, eIf, e1, e2, e3, eTup, eLst, eCall, eM, eSl, oN, aN, aC, tA, tO, tN, tTr, tB1, tTrue, eC, eV, asB, asI, asL, asTT, truD, wipeD, setAllD, m1, mT, lenD, subD, addD_int, leD, ltD_int, gtD, geD, eqD_int, neD_int, gd_lim]) rfl a3 (by omega) (by omega)
    obtain ⟨hb, ne⟩ := second_ok two few a1 a2 v1 v2
    refine Q_set (d := .int ((a + 1 + v) % (l.rs.length : Int))) (Γ1 := [s0, some o5, some (dL l), some (dW w), some (.list ((wantsM l w).map dP)), some (.list ((kindsM l (wantsM l w)).map dK')), some (.list ((rightsM l (kindsM l (wantsM l w))).map dI)), some (.int l.rs.length), some (.int a), none, none, none, none, none, none, none, none, none, none, none, none]) ?_ ?_
    · refine z2_of (z2_of (zP_of (d := .int (a + 1)) (by simp [runF, runFZ, startD, gSeq, gIf, gRet, gSet, gPut, gDrop, gNx, gFor, eA, eO, eN, eIf, e1, e2, e3, eTup, eLst, eCall, eM, eSl, oN, aN, aC, tA, tO, tN, tTr, tB1, tTrue, eC, eV, asB, asI, asL, asTT, truD, wipeD, setAllD, m1, mT, lenD, subD, addD_int, leD, ltD_int, gtD, geD, eqD_int, neD_int, gd_lim])) e5 (r := .int (a + 1 + v)) (by rw [addD_int])) (zP_of (d := .int l.rs.length) (by simp [runF, runFZ, startD, gSeq, gIf, gRet, gSet, gPut, gDrop, gNx, gFor, eA, eO, eN, eIf, e1, e2, e3, eTup, eLst, eCall, eM, eSl, oN, aN, aC, tA, tO, tN, tTr, tB1, tTrue, eC, eV, asB, asI, asL, asTT, truD, wipeD, setAllD, m1, mT, lenD, subD, addD_int, leD, ltD_int, gtD, geD, eqD_int, neD_int, gd_lim])) ?_
      have : (0 : Int) < l.rs.length := by omega
      simp only [modD, decide_eq_true this, gd, if_true]
    simp only [List.set_cons_succ, List.set_cons_zero]
    generalize hbe : (a + 1 + v) % (l.rs.length : Int) = b at hb ne
    have T : Sit l w a b := ⟨ok, two, hw, mem_rng.mpr ⟨a1, a2⟩, hb, ne, r0, hr, hR'⟩
    have cal : eLc [18] (iS (eV 6)) m1 [18] (tTrue) (e2 ltD (eM indexD (eV 18) (aC (eV 8) aN)) (eM indexD (eV 18) (aC (eV 9) aN))) [s0, none, some (dL l), some (dW w), some (.list ((wantsM l w).map dP)), some (.list ((kindsM l (wantsM l w)).map dK')), some (.list ((rightsM l (kindsM l (wantsM l w))).map dI)), some (.int l.rs.length), some (.int a), some (.int b), none, none, none, none, none, none, none, none, none, none, none] = some (.list ((rightsM l (kindsM l (wantsM l w))).map fun r => .bool (decide ((posn r a : Int) < posn r b)))) := by
      refine eLc_all (enc := dI) (xs := rightsM l (kindsM l (wantsM l w))) (by simp [iS, runF, runFZ, startD, gSeq, gIf, gRet, gSet, gPut, gDrop, gNx, gFor, eA, eO, eN, eIf, e1, e2, e3, eTup, eLst, eCall, eM, eSl, oN, aN, aC, tA, tO, tN, tTr, tB1, tTrue, eC, eV, asB, asI, asL, asTT, truD, wipeD, setAllD, m1, mT, lenD, subD, addD_int, leD, ltD_int, gtD, geD, eqD_int, neD_int, gd_lim]) fun r hr => ⟨[dI r], rfl, ?_⟩
      have hrow := (List.mem_filter.mp hr).1
      simp [runF, runFZ, startD, gSeq, gIf, gRet, gSet, gPut, gDrop, gNx, gFor, eA, eO, eN, eIf, e1, e2, e3, eTup, eLst, eCall, eM, eSl, oN, aN, aC, tA, tO, tN, tTr, tB1, tTrue, eC, eV, asB, asI, asL, asTT, truD, wipeD, setAllD, m1, mT, lenD, subD, addD_int, leD, ltD_int, gtD, geD, eqD_int, neD_int, gd_lim, index_of (row_all hrow a T.ha), index_of (row_all hrow b T.hb)]
    refine Q_set (d := .bool (alwaysM l (kindsM l (wantsM l w)) a b)) (zP_of ?_) ?_
    · simp only [eCall, aC, aN, wipeD, List.set_cons_succ, List.set_cons_zero, cal, Option.bind_some, allD_of]
      rfl
    show QR _ (zSeq _ _ (stt l w a b s0 (some o5) none none none none none none none none none none))
    refine zseq_pre (P := QR _) (Γ1 := stt l w a b s0 (some o5) none none none none none none none none none none)
      (fun pre Γ => ∃ (o : PyData) (b11 b14 b15 : Option PyData), StOk o ∧ Γ = stt l w a b s0 (some o) b11 none none b14 b15 none none none none none) PyData.int (rng 6) ?_ ⟨o5, none, none, none, v3, rfl⟩ ?_ ?_
    · simp [stt, zIP, iR, runF, runFZ, startD, gSeq, gIf, gRet, gSet, gPut, gDrop, gNx, gFor, eA, eO, eN, eIf, e1, e2, e3, eTup, eLst, eCall, eM, eSl, oN, aN, aC, tA, tO, tN, tTr, tB1, tTrue, eC, eV, asB, asI, asL, asTT, truD, wipeD, setAllD, m1, mT, lenD, subD, addD_int, leD, ltD_int, gtD, geD, eqD_int, neD_int, gd_lim, rgD_eq, LIM]
    · rintro pre k q Γ e0 ⟨o, b11, b14, b15, h1, rfl⟩
      obtain ⟨o', b14', b15', g1, g2⟩ := turnZ_eq T h1 s0 (some (.int k)) none none b14 b15 none none none none none
      exact ⟨[.int k], rfl, _, g2, o', _, _, _, g1, rfl⟩
    · rintro Γ' ⟨o, b11, b14, b15, h1, rfl⟩
      exact tailZ_eq T _ _ _ _ _ _ _ _ _ _ _ _
end
end G8

namespace HeadG8
open G8 L2 PyProof.Rows PySem.Spec PySem

def d9 : He.DefD := ⟨("is_between", none), "is_between", "is_between", defArgs s9, defBody s9, defScope s9, [], []⟩
def d10 : He.DefD := ⟨("is_widths", none), "is_widths", "is_widths", defArgs s10, defBody s10, defScope s10, [], []⟩
def d11 : He.DefD := ⟨("is_range", none), "is_range", "is_range", defArgs s11, defBody s11, defScope s11, [], []⟩
def d12 : He.DefD := ⟨("is_rule", none), "is_rule", "is_rule", defArgs s12, defBody s12, defScope s12, [], []⟩
def d13 : He.DefD := ⟨("is_list", none), "is_list", "is_list", defArgs s13, defBody s13, defScope s13, [], []⟩
def d14 : He.DefD := ⟨("is_case", none), "is_case", "is_case", defArgs s14, defBody s14, defScope s14, [], []⟩
def d15 : He.DefD := ⟨("is_number", none), "is_number", "is_number", defArgs s15, defBody s15, defScope s15, [], []⟩
def d16 : He.DefD := ⟨("is_row", none), "is_row", "is_row", defArgs s16, defBody s16, defScope s16, [], []⟩
def d17 : He.DefD := ⟨("check_list_lists", none), "check_list", "check_list", defArgs s17, defBody s17, defScope s17, [], []⟩
def d19 : He.DefD := ⟨("cases_of", none), "cases_of", "cases_of", defArgs s19, defBody s19, defScope s19, [], []⟩
def d20 : He.DefD := ⟨("matches_in", none), "matches_in", "matches_in", defArgs s20, defBody s20, defScope s20, [], []⟩
def d21 : He.DefD := ⟨("decided", none), "decided", "decided", defArgs s21, defBody s21, defScope s21, [], []⟩
def d25 : He.DefD := ⟨("is_action", none), "is_action", "is_action", defArgs s25, defBody s25, defScope s25, [], []⟩
def d26 : He.DefD := ⟨("are_pairs", none), "are_pairs", "are_pairs", defArgs s26, defBody s26, defScope s26, [], []⟩
def d27 : He.DefD := ⟨("is_wanted", none), "is_wanted", "is_wanted", defArgs s27, defBody s27, defScope s27, [], []⟩
def d28 : He.DefD := ⟨("check_list", none), "check_list", "check_list", defArgs s28, defBody s28, defScope s28, [], []⟩
def d30 : He.DefD := ⟨("ascending", none), "ascending", "ascending", defArgs s30, defBody s30, defScope s30, [], []⟩
def d31 : He.DefD := ⟨("wants", none), "wants", "wants", defArgs s31, defBody s31, defScope s31, [], []⟩
def d33 : He.DefD := ⟨("check_both", none), "check_both", "check_both", defArgs s33, defBody s33, defScope s33, [], []⟩
def d34 : He.DefD := ⟨("kinds_of", none), "kinds_of", "kinds_of", defArgs s34, defBody s34, defScope s34, [], []⟩
def d35 : He.DefD := ⟨("action_by", none), "action_by", "action_by", defArgs s35, defBody s35, defScope s35, [], []⟩
def d36 : He.DefD := ⟨("wrong_kind", none), "wrong_kind", "wrong_kind", defArgs s36, defBody s36, defScope s36, [], []⟩
def d37 : He.DefD := ⟨("barred", none), "barred", "barred", defArgs s37, defBody s37, defScope s37, [], []⟩
def d38 : He.DefD := ⟨("is_whole", none), "is_whole", "is_whole", defArgs s38, defBody s38, defScope s38, [], []⟩
def d40 : He.DefD := ⟨("placed_from", none), "placed_from", "placed_from", defArgs s40, defBody s40, defScope s40, [], []⟩
def d41 : He.DefD := ⟨("some_row", none), "some_row", "some_row", defArgs s41, defBody s41, defScope s41, [], []⟩
def d42 : He.DefD := ⟨("checked", none), "checked", "checked", defArgs s42, defBody s42, defScope s42, [], []⟩
def d43 : He.DefD := ⟨("need_some", none), "need_some", "need_some", defArgs s43, defBody s43, defScope s43, [], []⟩
def d44 : He.DefD := ⟨("check_number", none), "check_number", "check_number", defArgs s44, defBody s44, defScope s44, [], []⟩
def d45 : He.DefD := ⟨("check_two", none), "check_two", "check_two", defArgs s45, defBody s45, defScope s45, [], []⟩
def d47 : He.DefD := ⟨("demands_of", none), "demands_of", "demands_of", defArgs s47, defBody s47, defScope s47, [], []⟩
def d49 : He.DefD := ⟨("before_evidence", none), "before_evidence", "before_evidence", defArgs s49, defBody s49, defScope s49, [], []⟩
def d50 : He.DefD := ⟨("is_pair", none), "is_pair", "is_pair", defArgs s50, defBody s50, defScope s50, [], []⟩
def d51 : He.DefD := ⟨("is_fence", none), "is_fence", "is_fence", defArgs s51, defBody s51, defScope s51, [], []⟩
def d52 : He.DefD := ⟨("accepts_before", none), "accepts_before", "accepts_before", defArgs s52, defBody s52, defScope s52, [], []⟩
def d54 : He.DefD := ⟨("_law_stream", none), "_law_stream", "_law_stream", defArgs s54, defBody s54, defScope s54, [], []⟩
def d55 : He.DefD := ⟨("_law_next", none), "_law_next", "_law_next", defArgs s55, defBody s55, defScope s55, [], []⟩
def d56 : He.DefD := ⟨("_law_is_integer", none), "_law_is_integer", "_law_is_integer", defArgs s56, defBody s56, defScope s56, [], []⟩
def d57 : He.DefD := ⟨("_law_equal", none), "_law_equal", "_law_equal", defArgs s57, defBody s57, defScope s57, [], []⟩
def d58 : He.DefD := ⟨("_law_list", none), "_law_list", "_law_list", defArgs s58, defBody s58, defScope s58, [], []⟩
def d59 : He.DefD := ⟨("_law_widths", none), "_law_widths", "_law_widths", defArgs s59, defBody s59, defScope s59, [], []⟩
def d60 : He.DefD := ⟨("_law_cases", none), "_law_cases", "_law_cases", defArgs s60, defBody s60, defScope s60, [], []⟩
def d61 : He.DefD := ⟨("_law_matches", none), "_law_matches", "_law_matches", defArgs s61, defBody s61, defScope s61, [], []⟩
def d62 : He.DefD := ⟨("_law_decides", none), "_law_decides", "_law_decides", defArgs s62, defBody s62, defScope s62, [], []⟩
def d63 : He.DefD := ⟨("_law_shuffled", none), "_law_shuffled", "_law_shuffled", defArgs s63, defBody s63, defScope s63, [], []⟩
def d64 : He.DefD := ⟨("_law_wanted", none), "_law_wanted", "_law_wanted", defArgs s64, defBody s64, defScope s64, [], []⟩
def d65 : He.DefD := ⟨("_law_wants", none), "_law_wants", "_law_wants", defArgs s65, defBody s65, defScope s65, [], []⟩
def d66 : He.DefD := ⟨("_law_kinds", none), "_law_kinds", "_law_kinds", defArgs s66, defBody s66, defScope s66, [], []⟩
def d67 : He.DefD := ⟨("_law_wrong", none), "_law_wrong", "_law_wrong", defArgs s67, defBody s67, defScope s67, [], []⟩
def d68 : He.DefD := ⟨("_law_rows", none), "_law_rows", "_law_rows", defArgs s68, defBody s68, defScope s68, [], []⟩
def d69 : He.DefD := ⟨("_law_right_rows", none), "_law_right_rows", "_law_right_rows", defArgs s69, defBody s69, defScope s69, [], []⟩
def d70 : He.DefD := ⟨("_law_is_fence", none), "_law_is_fence", "_law_is_fence", defArgs s70, defBody s70, defScope s70, [], []⟩
def d71 : He.DefD := ⟨("_law_is_evidence", none), "_law_is_evidence", "_law_is_evidence", defArgs s71, defBody s71, defScope s71, [], []⟩
def d72 : He.DefD := ⟨("_law_drawn_pairs", none), "_law_drawn_pairs", "_law_drawn_pairs", defArgs s72, defBody s72, defScope s72, [], []⟩
def d73 : He.DefD := ⟨("_law_turned", none), "_law_turned", "_law_turned", defArgs s73, defBody s73, defScope s73, [], []⟩
def d74 : He.DefD := ⟨("law", none), "law", "law", defArgs s74, defBody s74, defScope s74, [], []⟩
def d28w : He.DefD := ⟨("check_list_wanted", none), "check_list", "check_list", defArgs s28, defBody s28, defScope s28, [], []⟩
def fn : List He.DefD := [d9, d10, d11, d12, d13, d14, d15, d16, d17, d19, d20, d21, d25, d26, d27, d28, d30, d31, d33, d34, d35, d36, d37, d38, d40, d41, d42, d43, d44, d45, d47, d49, d50, d51, d52, d54, d55, d56, d57, d58, d59, d60, d61, d62, d63, d64, d65, d66, d67, d68, d69, d70, d71, d72, d73, d74, d28w]
def fa : List He.Fa := [.glo "is_between", .glo "is_widths", .glo "is_range", .glo "is_rule", .glo "is_list", .glo "is_case", .glo "is_number", .glo "is_row", .glo "check_list_lists", .glo "cases_of", .glo "matches_in", .glo "decided", .glo "is_action", .glo "are_pairs", .glo "is_wanted", .glo "check_list", .glo "ascending", .glo "wants", .glo "check_both", .glo "kinds_of", .glo "action_by", .glo "wrong_kind", .glo "barred", .glo "is_whole", .glo "placed_from", .glo "some_row", .glo "checked", .glo "need_some", .glo "check_number", .glo "check_two", .glo "demands_of", .glo "before_evidence", .glo "is_pair", .glo "is_fence", .glo "accepts_before", .glo "_law_stream", .glo "_law_next", .glo "_law_is_integer", .glo "_law_equal", .glo "_law_list", .glo "_law_widths", .glo "_law_cases", .glo "_law_matches", .glo "_law_decides", .glo "_law_shuffled", .glo "_law_wanted", .glo "_law_wants", .glo "_law_kinds", .glo "_law_wrong", .glo "_law_rows", .glo "_law_right_rows", .glo "_law_is_fence", .glo "_law_is_evidence", .glo "_law_drawn_pairs", .glo "_law_turned", .glo "law", .glo "check_list_wanted", .int "MOST_FIELDS" 3, .int "MOST_WIDTH" 8, .int "MOST_RULES" 7, .int "LAST_ACTION" 5, .int "MOST_PAIRS" 12, .int "MOST_ACTION" 5, .free "isinstance", .free "int", .free "bool", .free "tuple", .free "list", .free "str", .free "len", .free "all", .free "any", .free "range", .free "enumerate", .free "sorted", .free "min", .free "max", .free "abs", .free "dict"]
abbrev R : PySem.W.OpenRow := PySem.W.OpenLaw.row PySem.Challenge.rw_rulerows_k42_whole_any_evidence
abbrev hk : PySem.W.Hook := He.hookD 4 fa fn
def ob (s : PySem.W.SharedT) : He.AlD := He.obsDG 4 fa fn (HandSHeadRun.getT s)
theorem ob_eq (s : PySem.W.SharedT) : ob s = hk.obs s.abs := He.obsDG_eq (HandSHeadRun.getT_eq s)

def lo0 : List PySem.Str := ["__name__", "RowError", "BadValue", "NotPossible", "MOST_FIELDS", "MOST_WIDTH", "MOST_RULES", "LAST_ACTION", "is_between", "is_widths", "is_range", "is_rule", "is_list", "is_case", "is_number", "is_row", "check_list", "check_list_lists", "cases_of", "matches_in", "decided", "MOST_PAIRS", "MOST_ACTION", "is_action", "are_pairs", "is_wanted", "check_list_wanted", "ascending", "wants", "check_both"]
def lo1 : List PySem.Str := ["kinds_of", "action_by", "wrong_kind", "barred", "is_whole", "placed_from", "some_row", "checked", "need_some", "check_number", "check_two", "demands_of", "before_evidence", "is_pair", "is_fence", "accepts_before", "_law_stream", "_law_next", "_law_is_integer", "_law_equal", "_law_list", "_law_widths", "_law_cases", "_law_matches", "_law_decides", "_law_shuffled", "_law_wanted", "_law_wants", "_law_kinds", "_law_wrong"]
def lo2 : List PySem.Str := ["_law_rows", "_law_right_rows", "_law_is_fence", "_law_is_evidence", "_law_drawn_pairs", "_law_turned"]
def loose : List PySem.Str := lo0 ++ lo1 ++ lo2
theorem run (w : World) : HandSHeadRun.RunEq R (PySem.W.view R.prog [74]) hk ob 4000 loose w := by
  intro os
  kernel_rfl
end HeadG8

/-! Z1: the law's promise, the head's facts, the claim. -/
namespace G8
open L2 PyProof.Rows PySem.Spec PySem
section
variable {P : Program} {w : World} {K : PySem.W.Frag} {mg : Str → Option Value} {base : Heap}
def spS (K : PySem.W.Frag) : Sp := fun vs H Q _ => ∃ (a : Addr) (ns : List Int), vs = [V.ref a] ∧ ns.length ≤ LIM ∧ SqL K H a (ns.map V.int) ∧ ∀ q p, H q = none → upd H q (.lst (ns.map V.int)) p = none → Q (.ref p) (upd (upd H q (.lst (ns.map V.int))) p (.lst [.ref q, .int 0, .int 0]))
theorem okS (hl : mg "list" = none) {f : Addr} {fd : FuncData} (F : FnP K "_law_stream" s54 f fd) : FnOk P w K mg base CX0 1 f fd ["_law_script"] (spS K) := by
  refine F.ok sc54 (fun vs H Q E ⟨_, _, h, _⟩ => by rw [h]; rfl) (fun cdv A outer s H vs Q E hr h => ⟨_, PSs.nox (pss_one (ps_ret (pe_lst (pa_cons (pe_callTy call_list_of rfl hl bt_list (pa_cons (pe_var (i := 0) rfl (Or.inl rfl)) pa_nil)) (pa_cons pe_int (pa_cons pe_int pa_nil)))))), ?_⟩)
  obtain ⟨a, ns, rfl, hz, hS, k⟩ := h
  exact ⟨_, rfl, a, ns.map V.int, rfl, .inl hS, fun q hq => ⟨lim_line (by simp [LIM]), fun p hp => k q p hq hp⟩⟩
def spLaw (K : PySem.W.Frag) : Sp := fun vs H Q _ => ∃ (a : Addr) (ns : List Int), vs = [V.ref a] ∧ ns.length ≤ LIM ∧ SqL K H a (ns.map V.int) ∧ ∀ H', Q (.bl true) H'
theorem okL (T : Tx K mg) {f : Addr} {fd : FuncData} (F : FnP K "law" s74 f fd) : FnOk P w K mg base CX0 lawK f fd ["_law_script"] (spLaw K) := by
  obtain ⟨fS, fdS, FS, hS⟩ := T.d54
  have GS : FnOk P w K mg base CX0 1 fS fdS ["_law_script"] (spS K) := okS T.list FS
  have bS : Binds K fdS ["_law_script"] [] := FS.bindsN fun _ _ _ _ _ _ us hl => match us, hl with | [_], _ => rfl
  refine F.ok sc74 (fun vs H Q E ⟨_, _, h, _⟩ => by rw [h]; rfl) (fun cdv A outer s H vs Q E hr h => ⟨tSeq (tAsg (tCall (spS K) [] E0 (tCons (tVar 0) tNil)) (gName 1)) (tZS ⟨P, w, K⟩ 0 [1] gT74), PSs.nox ?_, ?_⟩)
  · exact pss_cons (ps_set (i := 1) sc74.nd rfl (Or.inl rfl) (pe_call GS (hr.mono (by decide)) rfl hS FS.kp bS .nil pass0 (pa_cons (pe_var (i := 0) rfl (Or.inl rfl)) pa_nil))) (okT T cdv A outer s H E hr)
  · obtain ⟨a, ns, rfl, hz, hq, k⟩ := h
    refine ⟨_, rfl, a, ns, rfl, hz, hq, fun q p h1 h2 => ?_⟩
    have npq : q ≠ p := fun e => by rw [e, upd_same] at h2; cases h2
    obtain ⟨d, Γ2, e, rfl⟩ := gT_eq (o0 := .list [.list (dIs ns), .int 0, .int 0]) ⟨ns, 0, 0, rfl, by omega⟩ none
    refine ⟨[], [p], _, _, ⟨?_, by simp, by simp, fun b hb => by simp, rfl, ⟨rfl, fun i d' hd => ?_⟩, fun j i b g1 g2 => ?_⟩, e, fun Γ' z => (by cases z), fun d' Γ' z v H' s B r => ?_⟩
    · intro b hb
      rw [List.append_nil, List.mem_singleton] at hb
      subst hb
      rw [upd_same]
      exact Option.some_ne_none _
    · exfalso
      have : ∀ i, (wipeD [none, some (PyData.list [.list (dIs ns), .int 0, .int 0]), none, none, none, none, none, none, none, none, none, none, none, none, none, none, none, none, none, none, none] [1])[i]? ≠ some (some d') := fun i hi => by
        obtain ⟨g1, g2⟩ := wipeD_some hi
        match i, g1, g2 with
        | 0, _, g2 => cases g2
        | 1, g1, _ => exact g1 (by simp)
        | i + 2, _, g2 =>
          have := List.mem_of_getElem? g2
          have h3 : ([none, none, none, none, none, none, none, none, none, none, none, none, none, none, none, none, none, none, none] : DE)[i]? = some (some d') := by simpa using g2
          have := List.mem_of_getElem? h3
          simp at this
      exact this i hd
    · cases j with
      | succ j => simp at g1
      | zero =>
        cases g1
        cases g2
        refine ⟨rfl, _, rfl, .lst (upd_same ..) (by simp [LIM]) (.cons (.lst (a := q) (xs := ns.map V.int) ?_ (by rw [List.length_map]; exact hz) (DRs.ints ns)) (.cons (.int 0) (.cons (.int 0) .nil)))⟩
        rw [hid_out (by simp [npq]), upd_ne npq, upd_same]
    · cases z
      cases r
      exact k H'
end
end G8
namespace HeadG8
open G8 L2 PyProof.Rows PySem.Spec PySem
theorem tx {K : PySem.W.Frag} {h : Heap} {mg : Str → Option Value} (X : K.In h) (G : h.Ns mainGlobals mg) (c : He.SaysD fa fn K) : Tx K mg := by
  constructor
  · exact He.free_ok X G (c.fact 63 (f := .free "isinstance") rfl)
  · exact He.free_ok X G (c.fact 64 (f := .free "int") rfl)
  · exact He.free_ok X G (c.fact 65 (f := .free "bool") rfl)
  · exact He.free_ok X G (c.fact 66 (f := .free "tuple") rfl)
  · exact He.free_ok X G (c.fact 67 (f := .free "list") rfl)
  · exact He.free_ok X G (c.fact 68 (f := .free "str") rfl)
  · exact He.free_ok X G (c.fact 69 (f := .free "len") rfl)
  · exact He.free_ok X G (c.fact 70 (f := .free "all") rfl)
  · exact He.free_ok X G (c.fact 71 (f := .free "any") rfl)
  · exact He.free_ok X G (c.fact 72 (f := .free "range") rfl)
  · exact He.free_ok X G (c.fact 73 (f := .free "enumerate") rfl)
  · exact He.free_ok X G (c.fact 74 (f := .free "sorted") rfl)
  · exact He.free_ok X G (c.fact 75 (f := .free "min") rfl)
  · exact He.free_ok X G (c.fact 76 (f := .free "max") rfl)
  · exact He.free_ok X G (c.fact 77 (f := .free "abs") rfl)
  · exact He.int_ok X G (c.fact 57 (f := .int "MOST_FIELDS" 3) rfl)
  · exact He.int_ok X G (c.fact 58 (f := .int "MOST_WIDTH" 8) rfl)
  · exact He.int_ok X G (c.fact 59 (f := .int "MOST_RULES" 7) rfl)
  · exact He.int_ok X G (c.fact 60 (f := .int "LAST_ACTION" 5) rfl)
  · exact He.int_ok X G (c.fact 61 (f := .int "MOST_PAIRS" 12) rfl)
  · exact He.int_ok X G (c.fact 62 (f := .int "MOST_ACTION" 5) rfl)
  · obtain ⟨fd, F⟩ := c.def_ 0 (d := d9) rfl
    exact ⟨_, fd, F, He.glo_ok X G (c.fact 0 (f := .glo "is_between") rfl)⟩
  · obtain ⟨fd, F⟩ := c.def_ 1 (d := d10) rfl
    exact ⟨_, fd, F, He.glo_ok X G (c.fact 1 (f := .glo "is_widths") rfl)⟩
  · obtain ⟨fd, F⟩ := c.def_ 2 (d := d11) rfl
    exact ⟨_, fd, F, He.glo_ok X G (c.fact 2 (f := .glo "is_range") rfl)⟩
  · obtain ⟨fd, F⟩ := c.def_ 3 (d := d12) rfl
    exact ⟨_, fd, F, He.glo_ok X G (c.fact 3 (f := .glo "is_rule") rfl)⟩
  · obtain ⟨fd, F⟩ := c.def_ 4 (d := d13) rfl
    exact ⟨_, fd, F, He.glo_ok X G (c.fact 4 (f := .glo "is_list") rfl)⟩
  · obtain ⟨fd, F⟩ := c.def_ 5 (d := d14) rfl
    exact ⟨_, fd, F, He.glo_ok X G (c.fact 5 (f := .glo "is_case") rfl)⟩
  · obtain ⟨fd, F⟩ := c.def_ 6 (d := d15) rfl
    exact ⟨_, fd, F, He.glo_ok X G (c.fact 6 (f := .glo "is_number") rfl)⟩
  · obtain ⟨fd, F⟩ := c.def_ 7 (d := d16) rfl
    exact ⟨_, fd, F, He.glo_ok X G (c.fact 7 (f := .glo "is_row") rfl)⟩
  · obtain ⟨fd, F⟩ := c.def_ 8 (d := d17) rfl
    exact ⟨_, fd, F, He.glo_ok X G (c.fact 8 (f := .glo "check_list_lists") rfl)⟩
  · obtain ⟨fd, F⟩ := c.def_ 9 (d := d19) rfl
    exact ⟨_, fd, F, He.glo_ok X G (c.fact 9 (f := .glo "cases_of") rfl)⟩
  · obtain ⟨fd, F⟩ := c.def_ 10 (d := d20) rfl
    exact ⟨_, fd, F, He.glo_ok X G (c.fact 10 (f := .glo "matches_in") rfl)⟩
  · obtain ⟨fd, F⟩ := c.def_ 11 (d := d21) rfl
    exact ⟨_, fd, F, He.glo_ok X G (c.fact 11 (f := .glo "decided") rfl)⟩
  · obtain ⟨fd, F⟩ := c.def_ 12 (d := d25) rfl
    exact ⟨_, fd, F, He.glo_ok X G (c.fact 12 (f := .glo "is_action") rfl)⟩
  · obtain ⟨fd, F⟩ := c.def_ 13 (d := d26) rfl
    exact ⟨_, fd, F, He.glo_ok X G (c.fact 13 (f := .glo "are_pairs") rfl)⟩
  · obtain ⟨fd, F⟩ := c.def_ 14 (d := d27) rfl
    exact ⟨_, fd, F, He.glo_ok X G (c.fact 14 (f := .glo "is_wanted") rfl)⟩
  · obtain ⟨fd, F⟩ := c.def_ 15 (d := d28) rfl
    exact ⟨_, fd, F, He.glo_ok X G (c.fact 15 (f := .glo "check_list") rfl)⟩
  · obtain ⟨fd, F⟩ := c.def_ 16 (d := d30) rfl
    exact ⟨_, fd, F, He.glo_ok X G (c.fact 16 (f := .glo "ascending") rfl)⟩
  · obtain ⟨fd, F⟩ := c.def_ 17 (d := d31) rfl
    exact ⟨_, fd, F, He.glo_ok X G (c.fact 17 (f := .glo "wants") rfl)⟩
  · obtain ⟨fd, F⟩ := c.def_ 18 (d := d33) rfl
    exact ⟨_, fd, F, He.glo_ok X G (c.fact 18 (f := .glo "check_both") rfl)⟩
  · obtain ⟨fd, F⟩ := c.def_ 19 (d := d34) rfl
    exact ⟨_, fd, F, He.glo_ok X G (c.fact 19 (f := .glo "kinds_of") rfl)⟩
  · obtain ⟨fd, F⟩ := c.def_ 20 (d := d35) rfl
    exact ⟨_, fd, F, He.glo_ok X G (c.fact 20 (f := .glo "action_by") rfl)⟩
  · obtain ⟨fd, F⟩ := c.def_ 21 (d := d36) rfl
    exact ⟨_, fd, F, He.glo_ok X G (c.fact 21 (f := .glo "wrong_kind") rfl)⟩
  · obtain ⟨fd, F⟩ := c.def_ 22 (d := d37) rfl
    exact ⟨_, fd, F, He.glo_ok X G (c.fact 22 (f := .glo "barred") rfl)⟩
  · obtain ⟨fd, F⟩ := c.def_ 23 (d := d38) rfl
    exact ⟨_, fd, F, He.glo_ok X G (c.fact 23 (f := .glo "is_whole") rfl)⟩
  · obtain ⟨fd, F⟩ := c.def_ 24 (d := d40) rfl
    exact ⟨_, fd, F, He.glo_ok X G (c.fact 24 (f := .glo "placed_from") rfl)⟩
  · obtain ⟨fd, F⟩ := c.def_ 25 (d := d41) rfl
    exact ⟨_, fd, F, He.glo_ok X G (c.fact 25 (f := .glo "some_row") rfl)⟩
  · obtain ⟨fd, F⟩ := c.def_ 26 (d := d42) rfl
    exact ⟨_, fd, F, He.glo_ok X G (c.fact 26 (f := .glo "checked") rfl)⟩
  · obtain ⟨fd, F⟩ := c.def_ 27 (d := d43) rfl
    exact ⟨_, fd, F, He.glo_ok X G (c.fact 27 (f := .glo "need_some") rfl)⟩
  · obtain ⟨fd, F⟩ := c.def_ 28 (d := d44) rfl
    exact ⟨_, fd, F, He.glo_ok X G (c.fact 28 (f := .glo "check_number") rfl)⟩
  · obtain ⟨fd, F⟩ := c.def_ 29 (d := d45) rfl
    exact ⟨_, fd, F, He.glo_ok X G (c.fact 29 (f := .glo "check_two") rfl)⟩
  · obtain ⟨fd, F⟩ := c.def_ 30 (d := d47) rfl
    exact ⟨_, fd, F, He.glo_ok X G (c.fact 30 (f := .glo "demands_of") rfl)⟩
  · obtain ⟨fd, F⟩ := c.def_ 31 (d := d49) rfl
    exact ⟨_, fd, F, He.glo_ok X G (c.fact 31 (f := .glo "before_evidence") rfl)⟩
  · obtain ⟨fd, F⟩ := c.def_ 32 (d := d50) rfl
    exact ⟨_, fd, F, He.glo_ok X G (c.fact 32 (f := .glo "is_pair") rfl)⟩
  · obtain ⟨fd, F⟩ := c.def_ 33 (d := d51) rfl
    exact ⟨_, fd, F, He.glo_ok X G (c.fact 33 (f := .glo "is_fence") rfl)⟩
  · obtain ⟨fd, F⟩ := c.def_ 34 (d := d52) rfl
    exact ⟨_, fd, F, He.glo_ok X G (c.fact 34 (f := .glo "accepts_before") rfl)⟩
  · obtain ⟨fd, F⟩ := c.def_ 35 (d := d54) rfl
    exact ⟨_, fd, F, He.glo_ok X G (c.fact 35 (f := .glo "_law_stream") rfl)⟩
  · obtain ⟨fd, F⟩ := c.def_ 36 (d := d55) rfl
    exact ⟨_, fd, F, He.glo_ok X G (c.fact 36 (f := .glo "_law_next") rfl)⟩
  · obtain ⟨fd, F⟩ := c.def_ 37 (d := d56) rfl
    exact ⟨_, fd, F, He.glo_ok X G (c.fact 37 (f := .glo "_law_is_integer") rfl)⟩
  · obtain ⟨fd, F⟩ := c.def_ 38 (d := d57) rfl
    exact ⟨_, fd, F, He.glo_ok X G (c.fact 38 (f := .glo "_law_equal") rfl)⟩
  · obtain ⟨fd, F⟩ := c.def_ 39 (d := d58) rfl
    exact ⟨_, fd, F, He.glo_ok X G (c.fact 39 (f := .glo "_law_list") rfl)⟩
  · obtain ⟨fd, F⟩ := c.def_ 40 (d := d59) rfl
    exact ⟨_, fd, F, He.glo_ok X G (c.fact 40 (f := .glo "_law_widths") rfl)⟩
  · obtain ⟨fd, F⟩ := c.def_ 41 (d := d60) rfl
    exact ⟨_, fd, F, He.glo_ok X G (c.fact 41 (f := .glo "_law_cases") rfl)⟩
  · obtain ⟨fd, F⟩ := c.def_ 42 (d := d61) rfl
    exact ⟨_, fd, F, He.glo_ok X G (c.fact 42 (f := .glo "_law_matches") rfl)⟩
  · obtain ⟨fd, F⟩ := c.def_ 43 (d := d62) rfl
    exact ⟨_, fd, F, He.glo_ok X G (c.fact 43 (f := .glo "_law_decides") rfl)⟩
  · obtain ⟨fd, F⟩ := c.def_ 44 (d := d63) rfl
    exact ⟨_, fd, F, He.glo_ok X G (c.fact 44 (f := .glo "_law_shuffled") rfl)⟩
  · obtain ⟨fd, F⟩ := c.def_ 45 (d := d64) rfl
    exact ⟨_, fd, F, He.glo_ok X G (c.fact 45 (f := .glo "_law_wanted") rfl)⟩
  · obtain ⟨fd, F⟩ := c.def_ 46 (d := d65) rfl
    exact ⟨_, fd, F, He.glo_ok X G (c.fact 46 (f := .glo "_law_wants") rfl)⟩
  · obtain ⟨fd, F⟩ := c.def_ 47 (d := d66) rfl
    exact ⟨_, fd, F, He.glo_ok X G (c.fact 47 (f := .glo "_law_kinds") rfl)⟩
  · obtain ⟨fd, F⟩ := c.def_ 48 (d := d67) rfl
    exact ⟨_, fd, F, He.glo_ok X G (c.fact 48 (f := .glo "_law_wrong") rfl)⟩
  · obtain ⟨fd, F⟩ := c.def_ 49 (d := d68) rfl
    exact ⟨_, fd, F, He.glo_ok X G (c.fact 49 (f := .glo "_law_rows") rfl)⟩
  · obtain ⟨fd, F⟩ := c.def_ 50 (d := d69) rfl
    exact ⟨_, fd, F, He.glo_ok X G (c.fact 50 (f := .glo "_law_right_rows") rfl)⟩
  · obtain ⟨fd, F⟩ := c.def_ 51 (d := d70) rfl
    exact ⟨_, fd, F, He.glo_ok X G (c.fact 51 (f := .glo "_law_is_fence") rfl)⟩
  · obtain ⟨fd, F⟩ := c.def_ 52 (d := d71) rfl
    exact ⟨_, fd, F, He.glo_ok X G (c.fact 52 (f := .glo "_law_is_evidence") rfl)⟩
  · obtain ⟨fd, F⟩ := c.def_ 53 (d := d72) rfl
    exact ⟨_, fd, F, He.glo_ok X G (c.fact 53 (f := .glo "_law_drawn_pairs") rfl)⟩
  · obtain ⟨fd, F⟩ := c.def_ 54 (d := d73) rfl
    exact ⟨_, fd, F, He.glo_ok X G (c.fact 54 (f := .glo "_law_turned") rfl)⟩
  · obtain ⟨fd, F⟩ := c.def_ 55 (d := d74) rfl
    exact ⟨_, fd, F, He.glo_ok X G (c.fact 55 (f := .glo "law") rfl)⟩
  · obtain ⟨fd, F⟩ := c.def_ 56 (d := d28w) rfl
    exact ⟨_, fd, F, He.glo_ok X G (c.fact 56 (f := .glo "check_list_wanted") rfl)⟩
theorem facts {P : Program} {w : World} {K : PySem.W.Frag} {h : Heap} {mg : Str → Option Value} {f : Addr} (X : K.In h) (G : h.Ns mainGlobals mg) (hfa : mg ("law" : Str) = some (.ref f)) (c : He.SaysD fa fn K) :
    ∃ fd : FuncData, (∀ (s : Shared) (v : Value), BindsTo s fd ⟨[v], []⟩ [("_law_script", v)]) ∧ ∀ b : Heap, K.In b → b.Ns mainGlobals mg → FnOk P w K mg b CX0 lawK f fd ["_law_script"] (spLaw K) := by
  obtain ⟨fd, F⟩ := c.def_ 55 (d := d74) rfl
  have e := hfa.symm.trans (He.glo_ok X G (c.fact 55 (f := .glo "law") rfl))
  cases e
  have bb := FunD.bindsA (ps := ["_law_script"]) F fun _ _ _ _ _ _ us hl => match us, hl with | [_], _ => rfl
  exact ⟨fd, fun s v => bb s [v] rfl, fun b _ _ => okL (tx X G c) F⟩
end HeadG8
open PyProof.Rows PySem.Calls PySem.W PySem
theorem PySem.Challenge.cw_rulerows_k42_whole_any_evidence_holds : PySem.Challenge.rw_rulerows_k42_whole_any_evidence.Holds := by
  w_on; o_law
  refine HandSHeadRun.head_any (r := OpenLaw.row PySem.Challenge.rw_rulerows_k42_whole_any_evidence) (q := view (OpenLaw.row PySem.Challenge.rw_rulerows_k42_whole_any_evidence).prog [74]) (H := HeadG8.hk) (ob := HeadG8.ob) (M := 4000) (loose := HeadG8.loose) (d := HandSHeadRun.topDef (OpenLaw.row PySem.Challenge.rw_rulerows_k42_whole_any_evidence).prog 74) (kwd := []) HeadG8.ob_eq
    (by kernel_rfl) (fun s => by kernel_rfl) HeadG8.run (by kernel_rfl) (by kernel_rfl) (by kernel_rfl) (by rfl) (by first | assumption | decide +kernel) (by decide +kernel) ⟨rfl, rfl, rfl, rfl, rfl, by decide +kernel⟩ ?hw ?hc
  case hw => w_witness2
  case hc =>
    refine L2.walk_ofE (l := PySem.Challenge.rw_rulerows_k42_whole_any_evidence) (n := 63) (k := G8.lawK) (x := "_law_script") (CX := L2.CX0) rfl (by decide) (by kernel_rfl) ⟨rfl, by decide, by decide⟩ ?F (fun _ _ _ _ z => z)
    intro w mg fa h Y G hmg0
    obtain ⟨K, KX, c⟩ := Y
    have hmg : mg ("law" : PySem.Str) = some (.ref fa) := by
      have e : (HandSHeadRun.topDef (OpenLaw.row PySem.Challenge.rw_rulerows_k42_whole_any_evidence).prog 74).name = ("law" : PySem.Str) := by kernel_rfl
      rw [← e]
      exact hmg0
    obtain ⟨fd, hb, hF⟩ := HeadG8.facts (P := (PySem.Challenge.rw_rulerows_k42_whole_any_evidence).prog) (w := w) KX G hmg c
    exact ⟨K, fd, G8.spLaw K, KX, hb, fun H a ns hl _ hS => ⟨a, ns, rfl, Nat.le_trans hl (by decide), hS, fun _ => rfl⟩, hF⟩

