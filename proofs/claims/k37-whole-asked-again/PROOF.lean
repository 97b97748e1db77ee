import PyProof.Rows.All
import Wide.All
import OpenK.AllK
import Wide.FinOn
import HandS.ForMost
import HandS.TupAny
import HandS.Exc
import KE.SortData
import PySem.PyData
import HandS.DictTup
import HandS.Keys
import KE.KDictPairs
import KE.KDictWalk
import HandS.Walk
import KE.GoesEnum
import KE.GoesMore
import HandS.Steps
import KE.DataEq
import HandS.Wide
import HandS.SetFor
import HandS.Strs
import PyProof.Rows.SetFrom
import KE.DataMinMax
import HandS.Style
import KE.KRevSl
import KE.KDictKeyed
import KE.KDictDisplayH
import HandS.TupSets
import KE.LtData
import KE.KSortTupAny
import KE.KIndexOf
import HandS.WordsExc
import HandS.Lambda
import HandS.Nested
import KE.KDflt
import HandS.ExcIs
import HandS.IsInst
import KE.KStateDown
import Lean
import HandS.Defaults
import HandS.Head0
import HandS.Head1
import HandS.Head2
import HandS.HeadEnd
import HandS.HeadHook1
import HandS.HeadHook2
import HandS.HeadHook3
import HandS.HeadHook4
import HandS.HeadWalk
import PySem.Challenge.RW_leastout_k37_whole_asked_again
set_option Elab.async false
set_option linter.all false
set_option maxRecDepth 100000
set_option maxHeartbeats 2000000
/-! tuples that are known to have no dict of their own: what makes them says so (dict(t), t.index ask it) -/
namespace Lo
open PySem PySem.Spec PyProof.Rows L2

/-- at a a tuple of xs without a dict of its own -/
def PlT (K : PySem.W.Frag) (H : Hp) (a : Addr) (xs : List V) : Prop :=
  (∃ o : Obj, H a = some (.frz o (.tup xs)) ∧ o.dict = none) ∨
    ∃ (o : Obj) (its : Array Value) (n : Nat), K.lookup a = some o ∧ o.cls = .type "tuple" ∧ o.dict = none ∧ o.data = .seq its n ∧ its.size ≤ sizeLine ∧ Vals xs its.toList
theorem PlT.sqt {K : PySem.W.Frag} {H : Hp} {a : Addr} {xs : List V} (h : PlT K H a xs) : SqT K H a xs := by
  rcases h with ⟨o, h, _⟩ | ⟨o, its, n, h1, h2, _, h4⟩
  · exact .inl (.inr ⟨o, h⟩)
  · exact .inr ⟨o, its, n, h1, h2, h4⟩
/-- a tuple just laid -/
def newT (p : Addr) (o : Obj) (xs : List V) (H : Hp) : Hp := upd H p (.frz o (.tup xs))
theorem PlT.new {K : PySem.W.Frag} {H : Hp} {p : Addr} {o : Obj} {xs : List V} (h : o.dict = none) : PlT K (newT p o xs H) p xs := .inl ⟨o, upd_same, h⟩
/-- what follows where a new tuple is made -/
def NewT (xs : List V) (H : Hp) (Q : VK) : Prop := ∀ (p : Addr) (o : Obj), H p = none → o.dict = none → Q (.ref p) (newT p o xs H)
section
variable {X : Cx} {pins : List (Addr × Obj)} {σ : L2.St} {H : Hp} {s : Shared} {h' : Heap} {xs : List V}
/-- the plain object of a tuple -/
abbrev tupO (its : List Value) : Obj := { cls := .type "tuple", data := .seq its.toArray }
theorem newT_ok {its : List Value} (r : Vals xs its) (z : xs.length ≤ sizeLine) (I : Inv X pins σ H s) (k : ∀ b u, s.heap.get? b = some u → h'.get? b = some u) {p : Addr} (hp : s.heap.objs.size ≤ p) (e : h'.get? p = some (tupO its)) {Q : VK} {tk : Nat} (q : NewT xs H Q) :
    EP X pins σ Q (.ref p) { s with heap := h', toks := tk } := by
  have hf : H p = none := I.hok.fresh hp
  exact ⟨.ref p, newT p (tupO its) xs H, I.laid (t' := tk) k hp ⟨e, z, its, r, ⟨_, e, rfl, _, rfl⟩⟩, rfl, q p _ hf rfl⟩
end
section
variable {X : Cx} {es : List Expr} {t : TA} {pos : Pos}
def tTupP (t : TA) : TE := fun σ H Q => t σ H fun xs H1 => xs.length ≤ sizeLine ∧ NewT xs H1 Q
theorem pe_tupP {x1} (h : PA X es t) : PE X (.Tuple es x1 pos) (tTupP t) := by
  refine ⟨fun pins s σ H Q I hq => ?_⟩
  refine wpAny_Tuple_spliced (thn (h.run pos pins s σ H _ I hq) fun us s1 ⟨xs, H1, I1, r, z, q⟩ => ⟨(by rw [← r.length]; exact z), ?_⟩)
  exact newT_ok (tk := s1.toks) r z I1 (fun b u e => Heap.get?_push_of_some _ e) (Nat.le_refl _) (Heap.get?_push_size _ rfl) q
/-- tuple(list) makes a new one, tuple(tuple) is itself -/
def rTupleP (K : PySem.W.Frag) : List V → Hp → VK → Prop := fun xs H Q => ∃ p ys, xs = [V.ref p] ∧ ((SqL K H p ys ∧ NewT ys H Q) ∨ (SqT K H p ys ∧ Q (.ref p) H))
theorem cr_tupleP : CallR X (.type "tuple") (rTupleP X.K) := by
  intro pins s σ H xs us Q I r h
  obtain ⟨p, ys, rfl, h⟩ := h
  obtain ⟨u, rfl, rx⟩ := vals1 r
  cases rx
  rcases h with ⟨hq, q⟩ | ⟨hq, q⟩
  · obtain ⟨its, r', pl, hz⟩ := I.list hq
    have hlen := r'.length
    refine call_tuple_list pl.isList (fun h' kp => ?_) (by simp only [List.size_toArray] <;> omega)
    have I1 : Inv X pins σ H { s with heap := h' } := I.kept (t' := s.toks) kp
    exact newT_ok (s := { s with heap := h' }) (tk := s.toks) r' hz I1 (fun b o e => Heap.get?_push_of_some _ e) (Nat.le_refl _) (Heap.get?_push_size _ rfl) q
  · obtain ⟨its, r', pl, hz⟩ := I.tuple hq
    exact call_tuple_same pl ⟨.ref p, H, I, rfl, q⟩
/-- t[lo:hi] -/
def rSlP (K : PySem.W.Frag) : V → Option Int → Option Int → Hp → VK → Prop := fun x lo hi H Q => ∃ a xs, x = .ref a ∧ SqT K H a xs ∧
  (cutV xs lo hi = xs → Q (.ref a) H) ∧ NewT (cutV xs lo hi) H Q
theorem sl_tupP : SlR X (rSlP X.K) := by
  intro pins s σ H x v vl vu lo hi sl Q I rx hs pl pu h
  obtain ⟨a, xs, rfl, hx, q1, q2⟩ := h
  obtain ⟨its, r, ht, hz⟩ := I.tuple hx
  have hlen : its.toArray.size = xs.length := by
    rw [List.size_toArray]
    exact r.length.symm
  by_cases hw : HT.sIx xs.length 0 lo = 0 ∧ HT.sIx xs.length xs.length hi = xs.length
  · cases rx
    have e : cutV xs lo hi = xs := by
      show (xs.drop (HT.sIx xs.length 0 lo)).take (HT.sIx xs.length xs.length hi - HT.sIx xs.length 0 lo) = xs
      rw [hw.1, hw.2, List.drop_zero, Nat.sub_zero, List.take_length]
    refine ⟨"tuple", _, PyProof.Rows.slot_tuple_getitem.lookup, ht.typeIs, ?_⟩
    exact getItem_tuple_whole ht hs pl pu (by rw [hlen]; exact hw) ⟨.ref a, H, I, rfl, q1 e⟩
  · cases rx
    refine ⟨"tuple", _, PyProof.Rows.slot_tuple_getitem.lookup, ht.typeIs, ?_⟩
    refine HT.getItem_tuple_cut ht hs pl pu (by rw [hlen]; exact hw) ?_ (by rw [hlen]; exact hz)
    rw [hlen]
    exact newT_ok (tk := s.toks) ((r.drop (HT.sIx xs.length 0 lo)).take (HT.sIx xs.length xs.length hi - HT.sIx xs.length 0 lo)) (Nat.le_trans (cutV_length xs lo hi) hz) I (fun b ob q => Heap.get?_push_of_some _ q) (Nat.le_refl _) (Heap.get?_push_size _ rfl) q2
/-- t + u -/
def rCatP (K : PySem.W.Frag) : R2 := fun x y H Q => ∃ a b xs ys, x = .ref a ∧ y = .ref b ∧ SqT K H a xs ∧ SqT K H b ys ∧ xs.length + ys.length ≤ sizeLine ∧
  (xs = [] → Q (.ref b) H) ∧ (ys = [] → Q (.ref a) H) ∧ NewT (xs ++ ys) H Q
theorem op_catP : OpR X (binaryOp .Add) (rCatP X.K) := by
  intro pins s σ H x y v u Q I rx ry h
  obtain ⟨a, b, xs, ys, rfl, rfl, ha, hb, hz, q0, q1, q2⟩ := h
  obtain ⟨its, r1, p1, _⟩ := I.tuple ha
  obtain ⟨its2, r2, p2, _⟩ := I.tuple hb
  cases rx
  cases ry
  by_cases hx : xs = []
  · subst hx
    cases r1
    exact cat_tup0 p1 p2 ⟨.ref b, H, I, rfl, q0 rfl⟩
  · refine HT.cat_tup p1 p2 (fun z => hx (r1.nil_iff.mp z)) (fun z => ⟨.ref a, H, I, rfl, q1 (r2.nil_iff.mp z)⟩) (fun z => ?_) (by rw [← r1.length, ← r2.length]; exact hz)
    exact newT_ok (tk := s.toks) (r1.append r2) (by rw [List.length_append]; exact hz) I (fun b ob q => Heap.get?_push_of_some _ q) (Nat.le_refl _) (Heap.get?_push_size _ rfl) q2
end
end Lo
set_option Elab.async false
set_option linter.all false
set_option maxRecDepth 100000
set_option maxHeartbeats 2000000
/-! my own layer: values that bear plain data (no list within), which stay as long as tuples stay -/
namespace Lo
open PySem PySem.Spec PyProof.Rows L2

/-- what never changes stands as before -/
def Imm : HO → Bool
  | .tup _ => true
  | .frz _ (.tup _) => true
  | _ => false
def SameT (H H' : Hp) : Prop := ∀ b o, H b = some o → Imm o = true → H' b = some o
theorem SameT.refl (H : Hp) : SameT H H := fun _ _ h _ => h
theorem SameT.trans {H H1 H2 : Hp} (a : SameT H H1) (b : SameT H1 H2) : SameT H H2 := fun c o h i => b c o (a c o h i) i
theorem SameT.of {H H' : Hp} (e : Same H H') : SameT H H' := fun b o h _ => e b o h
theorem SameT.upd {H H' : Hp} {l : Addr} {o : HO} (e : SameT H H') (n : ∀ u, H' l = some u → Imm u = false) : SameT H (upd H' l o) := fun b u h i => by
  have h2 := e b u h i
  by_cases hb : b = l
  · subst hb
    have := n u h2
    rw [this] at i
    cases i
  · rw [upd_ne hb]
    exact h2
theorem SameT.updL {H H' : Hp} {l : Addr} {o : HO} {xs : List V} (e : SameT H H') (n : H' l = some (.lst xs)) : SameT H (L2.upd H' l o) :=
  e.upd fun u h => by
    rw [n] at h
    cases h
    rfl
theorem SameT.updN {H H' : Hp} {l : Addr} {o : HO} (e : SameT H H') (n : H' l = none) : SameT H (L2.upd H' l o) :=
  e.upd fun u h => by
    rw [n] at h
    cases h
theorem same_new {H : Hp} {p : Addr} (h : H p = none) (o : HO) : Same H (upd H p o) := fun b u q => by
  rw [upd_ne (ne_of_none q h)]
  exact q
/-- a place that was free before may change -/
theorem same_mut {H H' : Hp} {p : Addr} (e : Same H H') (h : H p = none) (o : HO) : Same H (upd H' p o) := fun b u q => by
  rw [upd_ne (ne_of_none q h)]
  exact e b u q
theorem SameT.rd {H H' : Hp} {a : Addr} {xs : List V} (e : SameT H H') (h : Rd H a (.tup xs)) : Rd H' a (.tup xs) := by
  rcases h with h | ⟨o, h⟩
  · exact .inl (e _ _ h rfl)
  · exact .inr ⟨o, e _ _ h rfl⟩
theorem SameT.sqt {K : PySem.W.Frag} {H H' : Hp} {a : Addr} {xs : List V} (e : SameT H H') (h : SqT K H a xs) : SqT K H' a xs := by
  rcases h with h | h
  · exact .inl (e.rd h)
  · exact .inr h
theorem SameT.plt {K : PySem.W.Frag} {H H' : Hp} {a : Addr} {xs : List V} (e : SameT H H') (h : PlT K H a xs) : PlT K H' a xs := by
  rcases h with ⟨o, h, d⟩ | h
  · exact .inl ⟨o, e _ _ h rfl, d⟩
  · exact .inr h

mutual
/-- v bears the plain datum d -/
inductive Tp (K : PySem.W.Frag) (H : Hp) : V → PyData → Prop
  | non : Tp K H .non .none
  | bl (b : Bool) : Tp K H (.bl b) (.bool b)
  | int (i : Int) : Tp K H (.int i) (.int i)
  | str (x : Str) : Tp K H (.str x) (.str x)
  | tup {a : Addr} {xs : List V} {ds : List PyData} : PlT K H a xs → TpAll K H xs ds → Tp K H (.ref a) (.tuple ds)
inductive TpAll (K : PySem.W.Frag) (H : Hp) : List V → List PyData → Prop
  | nil : TpAll K H [] []
  | cons {v : V} {vs : List V} {d : PyData} {ds : List PyData} : Tp K H v d → TpAll K H vs ds → TpAll K H (v :: vs) (d :: ds)
end
variable {K : PySem.W.Frag} {H H' H1 : Hp}
mutual
theorem Tp.mono (e : SameT H H') : ∀ {v : V} {d : PyData}, Tp K H v d → Tp K H' v d
  | _, _, .non => .non
  | _, _, .bl b => .bl b
  | _, _, .int i => .int i
  | _, _, .str x => .str x
  | _, _, .tup h t => .tup (e.plt h) (TpAll.mono e t)
theorem TpAll.mono (e : SameT H H') : ∀ {vs : List V} {ds : List PyData}, TpAll K H vs ds → TpAll K H' vs ds
  | _, _, .nil => .nil
  | _, _, .cons h t => .cons (Tp.mono e h) (TpAll.mono e t)
end
mutual
theorem Tp.dp : ∀ {v : V} {d : PyData}, Tp K H v d → Dp K H v d
  | _, _, .non => .non
  | _, _, .bl b => .bl b
  | _, _, .int i => .int i
  | _, _, .str x => .str x
  | _, _, .tup h t => .tup h.sqt (TpAll.dp t)
theorem TpAll.dp : ∀ {vs : List V} {ds : List PyData}, TpAll K H vs ds → DpAll K H vs ds
  | _, _, .nil => .nil
  | _, _, .cons h t => .cons (Tp.dp h) (TpAll.dp t)
end
theorem Tp.same (e : Same H H') {v : V} {d : PyData} (h : Tp K H v d) : Tp K H' v d := h.mono (.of e)
theorem TpAll.same (e : Same H H') {v : List V} {d : List PyData} (h : TpAll K H v d) : TpAll K H' v d := h.mono (.of e)
theorem Tp.int_inv {v : V} {i : Int} (h : Tp K H v (.int i)) : v = .int i := by cases h; rfl
theorem Tp.str_inv {v : V} {x : Str} (h : Tp K H v (.str x)) : v = .str x := by cases h; rfl
theorem Tp.non_inv {v : V} (h : Tp K H v .none) : v = .non := by cases h; rfl
theorem Tp.bl_inv {v : V} {b : Bool} (h : Tp K H v (.bool b)) : v = .bl b := by cases h; rfl
theorem Tp.tup_inv {v : V} {ds : List PyData} (h : Tp K H v (.tuple ds)) : ∃ a xs, v = .ref a ∧ PlT K H a xs ∧ TpAll K H xs ds := by
  cases h with
  | tup h t => exact ⟨_, _, rfl, h, t⟩
theorem TpAll.length : ∀ {vs : List V} {ds : List PyData}, TpAll K H vs ds → vs.length = ds.length
  | _, _, .nil => rfl
  | _, _, .cons _ t => congrArg (· + 1) (TpAll.length t)
theorem TpAll.get : ∀ {vs : List V} {ds : List PyData} {i : Nat} {d : PyData}, TpAll K H vs ds → ds[i]? = some d → ∃ v, vs[i]? = some v ∧ Tp K H v d
  | _, _, i, d, .nil, e => by simp at e
  | _, _, 0, d, .cons h _, e => by
    simp at e
    subst e
    exact ⟨_, rfl, h⟩
  | _, _, i + 1, d, .cons _ t, e => by
    obtain ⟨v, h1, h2⟩ := TpAll.get (i := i) (d := d) t (by simpa using e)
    exact ⟨v, by simpa using h1, h2⟩
theorem TpAll.getV : ∀ {vs : List V} {ds : List PyData} {i : Nat} {v : V}, TpAll K H vs ds → vs[i]? = some v → ∃ d, ds[i]? = some d ∧ Tp K H v d
  | _, _, i, d, .nil, e => by simp at e
  | _, _, 0, d, .cons h _, e => by
    simp at e
    subst e
    exact ⟨_, rfl, h⟩
  | _, _, i + 1, d, .cons _ t, e => by
    obtain ⟨v, h1, h2⟩ := TpAll.getV (i := i) (v := d) t (by simpa using e)
    exact ⟨v, by simpa using h1, h2⟩
theorem TpAll.append : ∀ {vs ws : List V} {ds es : List PyData}, TpAll K H vs ds → TpAll K H ws es → TpAll K H (vs ++ ws) (ds ++ es)
  | _, _, _, _, .nil, s => s
  | _, _, _, _, .cons h t, s => .cons h (TpAll.append t s)
theorem TpAll.snoc {vs : List V} {ds : List PyData} {v : V} {d : PyData} (t : TpAll K H vs ds) (h : Tp K H v d) : TpAll K H (vs ++ [v]) (ds ++ [d]) := t.append (.cons h .nil)
theorem TpAll.drop : ∀ {vs : List V} {ds : List PyData} (n : Nat), TpAll K H vs ds → TpAll K H (vs.drop n) (ds.drop n)
  | _, _, 0, t => t
  | _, _, _ + 1, .nil => .nil
  | _, _, n + 1, .cons _ t => TpAll.drop n t
theorem TpAll.take : ∀ {vs : List V} {ds : List PyData} (n : Nat), TpAll K H vs ds → TpAll K H (vs.take n) (ds.take n)
  | _, _, 0, _ => .nil
  | _, _, _ + 1, .nil => .nil
  | _, _, n + 1, .cons h t => .cons h (TpAll.take n t)
theorem TpAll.reverse : ∀ {vs : List V} {ds : List PyData}, TpAll K H vs ds → TpAll K H vs.reverse ds.reverse
  | _, _, .nil => .nil
  | _, _, .cons h t => by
    rw [List.reverse_cons, List.reverse_cons]
    exact (TpAll.reverse t).snoc h
theorem TpAll.ints : ∀ ns : List Int, TpAll K H (ns.map V.int) (ns.map PyData.int)
  | [] => .nil
  | n :: ns => .cons (.int n) (TpAll.ints ns)
theorem TpAll.ints_inv : ∀ {ns : List Int} {vs : List V}, TpAll K H vs (ns.map PyData.int) → vs = ns.map V.int
  | [], _, h => by cases h; rfl
  | n :: ns, _, h => by
    cases h with
    | cons h t =>
      cases h
      rw [TpAll.ints_inv t]
      rfl
theorem TpAll.strs : ∀ ns : List Str, TpAll K H (ns.map V.str) (ns.map PyData.str)
  | [] => .nil
  | n :: ns => .cons (.str n) (TpAll.strs ns)
theorem TpAll.strs_inv : ∀ {ns : List Str} {vs : List V}, TpAll K H vs (ns.map PyData.str) → vs = ns.map V.str
  | [], _, h => by cases h; rfl
  | n :: ns, _, h => by
    cases h with
    | cons h t =>
      cases h
      rw [TpAll.strs_inv t]
      rfl

/-! ### expressions that evaluate to data -/
/-- te gives, behind any growth of H, a value that bears d -/
def EvD (K : PySem.W.Frag) (te : TE) (σ : L2.St) (H : Hp) (d : PyData) : Prop := ∀ H1, Same H H1 → ∀ Q : VK, (∀ v H2, Same H1 H2 → Tp K H2 v d → Q v H2) → te σ H1 Q
/-- a new list -/
def EvLs (K : PySem.W.Frag) (te : TE) (σ : L2.St) (H : Hp) (ds : List PyData) : Prop := ∀ H1, Same H H1 → ∀ Q : VK, (∀ l xs H2, H1 l = none → Same H1 H2 → H2 l = some (.lst xs) → TpAll K H2 xs ds → Q (.ref l) H2) → te σ H1 Q
def EvB (tt : TT) (σ : L2.St) (H : Hp) (b : Bool) : Prop := ∀ H1, Same H H1 → ∀ Q : Bool → Hp → Prop, (∀ H2, Same H1 H2 → Q b H2) → tt σ H1 Q
def EvAs (K : PySem.W.Frag) (ta : TA) (σ : L2.St) (H : Hp) (ds : List PyData) : Prop := ∀ H1, Same H H1 → ∀ Q : List V → Hp → Prop, (∀ vs H2, Same H1 H2 → TpAll K H2 vs ds → Q vs H2) → ta σ H1 Q
def EvPt (to : TO) (σ : L2.St) (H : Hp) (o : Option Int) : Prop := ∀ H1, Same H H1 → ∀ Q : Option Int → Hp → Prop, (∀ H2, Same H1 H2 → Q o H2) → to σ H1 Q
/-- an operator on values that bear data -/
def OpD (K : PySem.W.Frag) (r : R2) (H : Hp) (d e z : PyData) : Prop := ∀ H1, Same H H1 → ∀ x y, Tp K H1 x d → Tp K H1 y e → ∀ Q : VK, (∀ v H2, Same H1 H2 → Tp K H2 v z → Q v H2) → r x y H1 Q
def OpB (K : PySem.W.Frag) (r : R2) (H : Hp) (d e : PyData) (b : Bool) : Prop := OpD K r H d e (.bool b)
section
variable {σ : L2.St} {ta tb te : TE} {t u : TT} {d e z : PyData} {r : R2}
theorem EvD.mono (s : Same H H') (h : EvD K te σ H d) : EvD K te σ H' d := fun H1 a Q q => h H1 (s.trans a) Q q
theorem EvB.mono {b : Bool} (s : Same H H') (h : EvB t σ H b) : EvB t σ H' b := fun H1 a Q q => h H1 (s.trans a) Q q
theorem EvAs.mono {tr : TA} {ds : List PyData} (s : Same H H') (h : EvAs K tr σ H ds) : EvAs K tr σ H' ds := fun H1 a Q q => h H1 (s.trans a) Q q
theorem EvD.go (h : EvD K te σ H d) {Q : VK} (q : ∀ v H2, Same H H2 → Tp K H2 v d → Q v H2) : te σ H Q := h H (Same.refl H) Q q
theorem EvLs.go {ds : List PyData} (h : EvLs K te σ H ds) {Q : VK} (q : ∀ l xs H2, H l = none → Same H H2 → H2 l = some (.lst xs) → TpAll K H2 xs ds → Q (.ref l) H2) : te σ H Q := h H (Same.refl H) Q q
theorem EvB.go {b : Bool} (h : EvB t σ H b) {Q : Bool → Hp → Prop} (q : ∀ H2, Same H H2 → Q b H2) : t σ H Q := h H (Same.refl H) Q q
theorem EvAs.go {tr : TA} {ds : List PyData} (h : EvAs K tr σ H ds) {Q : List V → Hp → Prop} (q : ∀ v H2, Same H H2 → TpAll K H2 v ds → Q v H2) : tr σ H Q := h H (Same.refl H) Q q
theorem EvD.is {d' : PyData} (h : EvD K te σ H d) (e : d = d') : EvD K te σ H d' := e ▸ h
theorem EvB.is {b b' : Bool} (h : EvB t σ H b) (e : b = b') : EvB t σ H b' := e ▸ h
theorem evd_var {i : Nat} {v : V} (h : σ[i]? = some (some v)) (hd : Tp K H v d) : EvD K (tVar i) σ H d := fun H1 s _ q => ⟨v, h, q v H1 (Same.refl H1) (hd.same s)⟩
theorem evd_c {v : V} (hd : Tp K H v d) : EvD K (tC v) σ H d := fun H1 s _ q => q v H1 (Same.refl H1) (hd.same s)
theorem evd_int {i : Int} : EvD K (tC (.int i)) σ H (.int i) := evd_c (.int i)
theorem evd_str {x : Str} : EvD K (tC (.str x)) σ H (.str x) := evd_c (.str x)
theorem evd_non : EvD K (tC .non) σ H .none := evd_c .non
theorem evd_bl {b : Bool} : EvD K (tC (.bl b)) σ H (.bool b) := evd_c (.bl b)
theorem evd_op (ha : EvD K ta σ H d) (hb : EvD K tb σ H e) (hr : OpD K r H d e z) : EvD K (tOp r ta tb) σ H z := fun H1 s Q q =>
  ha H1 s _ fun x H2 s2 hx => hb H2 (s.trans s2) _ fun y H3 s3 hy => hr H3 ((s.trans s2).trans s3) x y (hx.same s3) hy Q fun v H4 s4 hv => q v H4 ((s2.trans s3).trans s4) hv
theorem evb_test {b : Bool} (h : EvD K te σ H (.bool b)) : EvB (tTest te) σ H b := fun H1 s _ q => h H1 s _ fun v H2 s2 hv => ⟨b, hv.bl_inv, q H2 s2⟩
theorem evb_B {b : Bool} (h : EvD K te σ H (.bool b)) : EvB (tB te) σ H b := fun H1 s _ q => h H1 s _ fun v H2 s2 hv => ⟨b, hv.bl_inv, q H2 s2⟩
theorem evb_and {a b : Bool} (h1 : EvB t σ H a) (h2 : a = true → EvB u σ H b) : EvB (tAnd t u) σ H (a && b) := fun H1 s Q q => h1 H1 s _ fun H2 s2 => by
  cases a with
  | true =>
    show u σ H2 Q
    exact h2 rfl H2 (s.trans s2) Q fun H3 s3 => q H3 (s2.trans s3)
  | false =>
    show Q false H2
    exact q H2 s2
theorem evb_or {a b : Bool} (h1 : EvB t σ H a) (h2 : a = false → EvB u σ H b) : EvB (tOr t u) σ H (a || b) := fun H1 s Q q => h1 H1 s _ fun H2 s2 => by
  cases a with
  | true =>
    show Q true H2
    exact q H2 s2
  | false =>
    show u σ H2 Q
    exact h2 rfl H2 (s.trans s2) Q fun H3 s3 => q H3 (s2.trans s3)
theorem evb_not {a : Bool} (h1 : EvB t σ H a) : EvB (tNot t) σ H (!a) := fun H1 s _ q => h1 H1 s _ fun H2 s2 => q H2 s2
theorem evd_if {b : Bool} (h : EvB t σ H b) (h1 : b = true → EvD K ta σ H d) (h2 : b = false → EvD K tb σ H d) : EvD K (tIf t ta tb) σ H d := fun H1 s Q q => h H1 s _ fun H2 s2 => by
  cases b with
  | true =>
    show ta σ H2 Q
    exact h1 rfl H2 (s.trans s2) Q fun v H3 s3 hv => q v H3 (s2.trans s3) hv
  | false =>
    show tb σ H2 Q
    exact h2 rfl H2 (s.trans s2) Q fun v H3 s3 hv => q v H3 (s2.trans s3) hv
theorem evd_andV {a b : Bool} (h1 : EvD K ta σ H (.bool a)) (h2 : a = true → EvD K tb σ H (.bool b)) : EvD K (tAndV ta tb) σ H (.bool (a && b)) := fun H1 s Q q => h1 H1 s _ fun x H2 s2 hx => ⟨a, hx.bl_inv, by
  cases a with
  | true =>
    show tb σ H2 Q
    exact h2 rfl H2 (s.trans s2) Q fun v H3 s3 hv => q v H3 (s2.trans s3) hv
  | false =>
    show Q (.bl false) H2
    exact q _ H2 s2 (.bl false)⟩
theorem eva_nil : EvAs K tNil σ H [] := fun H1 _ _ q => q [] H1 (Same.refl H1) .nil
theorem eva_cons {tr : TA} {ds : List PyData} (h : EvD K ta σ H d) (hr : EvAs K tr σ H ds) : EvAs K (tCons ta tr) σ H (d :: ds) := fun H1 s _ q =>
  h H1 s _ fun x H2 s2 hx => hr H2 (s.trans s2) _ fun vs H3 s3 hv => q _ H3 (s2.trans s3) (.cons (hx.same s3) hv)
theorem evd_tup {tr : TA} {ds : List PyData} (h : EvAs K tr σ H ds) (hl : ds.length ≤ 100000 := by first | decide | simp) : EvD K (tTupP tr) σ H (.tuple ds) := fun H1 s _ q =>
  h H1 s _ fun vs H2 s2 hv => ⟨Nat.le_trans (by rw [hv.length]; exact hl) (by decide), fun p o hp ho => q _ _ (s2.trans (same_new hp _)) (.tup (.new ho) (hv.same (same_new hp _)))⟩
theorem evl_lst {tr : TA} {ds : List PyData} (h : EvAs K tr σ H ds) (hl : ds.length ≤ 100000 := by first | decide | simp) : EvLs K (tLst tr) σ H ds := fun H1 s _ q =>
  h H1 s _ fun vs H2 s2 hv => ⟨Nat.le_trans (by rw [hv.length]; exact hl) (by decide), fun p hp => q p _ _ (s2.free hp) (s2.trans (same_new hp _)) upd_same (hv.same (same_new hp _))⟩
/-! operators -/
theorem opd_I0 {g : Int → Int → V} {i j : Int} (hz : Tp K H (g i j) z) : OpD K (rI0 g) H (.int i) (.int j) z := fun H1 s x y hx hy Q q =>
  ⟨i, j, hx.int_inv, hy.int_inv, q _ H1 (Same.refl H1) (hz.same s)⟩
theorem opd_I {C : Int → Int → Prop} {g : Int → Int → V} {i j : Int} (hc : C i j) (hz : Tp K H (g i j) z) : OpD K (rI C g) H (.int i) (.int j) z := fun H1 s x y hx hy Q q =>
  ⟨i, j, hx.int_inv, hy.int_inv, hc, q _ H1 (Same.refl H1) (hz.same s)⟩
end
/-- what one plain datum is as a value, where it has no object -/
def scV : PyData → Option V
  | .none => some .non
  | .bool b => some (.bl b)
  | .int i => some (.int i)
  | .str x => some (.str x)
  | _ => none
theorem Tp.sc {v x : V} {d : PyData} (h : Tp K H v d) (e : scV d = some x) : v = x := by
  cases h <;> simp [scV] at e <;> exact e
theorem opd_eqS {d e : PyData} {x y : V} (hx : scV d = some x) (hy : scV e = some y) (hs : scal x y = true) : OpD K rEq H d e (.bool (decide (x = y))) := fun H1 s a b ha hb Q q => by
  have e1 := ha.sc hx
  have e2 := hb.sc hy
  subst e1
  subst e2
  exact ⟨hs, q _ H1 (Same.refl H1) (.bl _)⟩
theorem opd_neS {d e : PyData} {x y : V} (hx : scV d = some x) (hy : scV e = some y) (hs : scal x y = true) : OpD K rNe H d e (.bool (!decide (x = y))) := fun H1 s a b ha hb Q q => by
  have e1 := ha.sc hx
  have e2 := hb.sc hy
  subst e1
  subst e2
  exact ⟨hs, q _ H1 (Same.refl H1) (.bl _)⟩
theorem opd_eqI {i j : Int} : OpD K rEq H (.int i) (.int j) (.bool (decide (i = j))) := by
  have h := opd_eqS (K := K) (H := H) (d := .int i) (e := .int j) rfl rfl rfl
  have e : decide (V.int i = V.int j) = decide (i = j) := by
    by_cases h : i = j
    · rw [h]; simp
    · rw [decide_eq_false h, decide_eq_false (fun z => h (V.int.inj z))]
  rw [← e]
  exact h
theorem opd_neI {i j : Int} : OpD K rNe H (.int i) (.int j) (.bool (!decide (i = j))) := by
  have h := opd_neS (K := K) (H := H) (d := .int i) (e := .int j) rfl rfl rfl
  have e : decide (V.int i = V.int j) = decide (i = j) := by
    by_cases h : i = j
    · rw [h]; simp
    · rw [decide_eq_false h, decide_eq_false (fun z => h (V.int.inj z))]
  rw [← e]
  exact h
theorem opd_eqStr {i j : Str} : OpD K rEq H (.str i) (.str j) (.bool (decide (i = j))) := by
  have h := opd_eqS (K := K) (H := H) (d := .str i) (e := .str j) rfl rfl rfl
  have e : decide (V.str i = V.str j) = decide (i = j) := by
    by_cases h : i = j
    · rw [h]; simp
    · rw [decide_eq_false h, decide_eq_false (fun z => h (V.str.inj z))]
  rw [← e]
  exact h
theorem opd_eqD {d e : PyData} (sd : SeqAt.shaped d = true) (se : SeqAt.shaped e = true) : OpD K (rEqD K) H d e (.bool (PyData.eqv d e)) := fun H1 s x y hx hy Q q =>
  ⟨d, e, hx.dp, hy.dp, sd, se, q _ H1 (Same.refl H1) (.bl _)⟩
theorem opd_neD {d e : PyData} (sd : SeqAt.shaped d = true) (se : SeqAt.shaped e = true) : OpD K (rNeD K) H d e (.bool (!PyData.eqv d e)) := fun H1 s x y hx hy Q q =>
  ⟨d, e, hx.dp, hy.dp, sd, se, q _ H1 (Same.refl H1) (.bl _)⟩
/-- an item of a tuple -/
theorem opd_ixT {ds : List PyData} {i : Nat} {d : PyData} (h : ds[i]? = some d) : OpD K (rIxT K) H (.tuple ds) (.int i) d := fun H1 s x y hx hy Q q => by
  obtain ⟨a, xs, rfl, hS, hA⟩ := hx.tup_inv
  obtain ⟨v, hv, hd⟩ := hA.get h
  exact ⟨a, xs, i, v, rfl, hy.int_inv, hS.sqt, atI_nat hv, q v H1 (Same.refl H1) hd⟩
/-- tuple + tuple -/
theorem opd_cat {ds es : List PyData} (hl : ds.length + es.length ≤ sizeLine) : OpD K (rCatP K) H (.tuple ds) (.tuple es) (.tuple (ds ++ es)) := fun H1 s x y hx hy Q q => by
  obtain ⟨a, xs, rfl, hS, hA⟩ := hx.tup_inv
  obtain ⟨b, ys, rfl, hT, hB⟩ := hy.tup_inv
  refine ⟨a, b, xs, ys, rfl, rfl, hS.sqt, hT.sqt, by rw [hA.length, hB.length]; exact hl, fun e => ?_, fun e => ?_, fun p o hp ho => ?_⟩
  · subst e
    cases hA
    exact q _ H1 (Same.refl H1) hy
  · subst e
    cases hB
    exact q _ H1 (Same.refl H1) (by rw [List.append_nil]; exact hx)
  · exact q _ _ (same_new hp _) (.tup (.new ho) ((hA.append hB).same (same_new hp _)))
/-- t[lo:hi] -/
theorem evd_sl {te : TE} {tl th : TO} {σ : L2.St} {ds : List PyData} {lo hi : Option Int} (h : EvD K te σ H (.tuple ds)) (h1 : EvPt tl σ H lo) (h2 : EvPt th σ H hi) :
    EvD K (tSl (rSlP K) te tl th) σ H (.tuple ((ds.drop (HT.sIx ds.length 0 lo)).take (HT.sIx ds.length ds.length hi - HT.sIx ds.length 0 lo))) := fun H1 s Q q =>
  h H1 s _ fun v H2 s2 hv => h1 H2 (s.trans s2) _ fun H3 s3 => h2 H3 ((s.trans s2).trans s3) _ fun H4 s4 => by
    obtain ⟨a, xs, rfl, hS, hA⟩ := (hv.same (s3.trans s4)).tup_inv
    have hl := hA.length
    have hC : TpAll K H4 (cutV xs lo hi) ((ds.drop (HT.sIx ds.length 0 lo)).take (HT.sIx ds.length ds.length hi - HT.sIx ds.length 0 lo)) := by
      rw [← hl]
      exact (hA.drop _).take _
    refine ⟨a, xs, rfl, hS.sqt, fun e => ?_, fun p o hp ho => ?_⟩
    · rw [e] at hC
      exact q _ H4 ((s2.trans s3).trans s4) (.tup hS hC)
    · exact q _ _ (((s2.trans s3).trans s4).trans (same_new hp _)) (.tup (.new ho) (hC.same (same_new hp _)))
theorem evp_none {σ : L2.St} : EvPt tNoPart σ H none := fun H1 _ _ q => q H1 (Same.refl H1)
theorem evp_some {te : TE} {σ : L2.St} {i : Int} (h : EvD K te σ H (.int i)) : EvPt (tPart te) σ H (some i) := fun H1 s _ q => h H1 s _ fun v H2 s2 hv => ⟨i, hv.int_inv, q H2 s2⟩
/-! ### promises about data -/
/-- from data (rel: what is asked, what comes) to data; all else stands -/
def spD (K : PySem.W.Frag) (rel : List PyData → PyData → Prop) : Sp := fun vs H Q _ => ∃ ds d, TpAll K H vs ds ∧ rel ds d ∧ ∀ v H', Same H H' → Tp K H' v d → Q v H'
/-- .. to a new list of data -/
def spLs (K : PySem.W.Frag) (rel : List PyData → List PyData → Prop) : Sp := fun vs H Q _ => ∃ ds es, TpAll K H vs ds ∧ rel ds es ∧ ∀ l xs H', H l = none → Same H H' → H' l = some (.lst xs) → TpAll K H' xs es → Q (.ref l) H'
section
variable {σ : L2.St} {tr : TA} {ds : List PyData} {d : PyData} {E : XK}
theorem evd_call {rel : List PyData → PyData → Prop} (h : EvAs K tr σ H ds) (hr : rel ds d) : EvD K (tCall (spD K rel) [] E tr) σ H d := fun H1 s Q q =>
  h H1 s _ fun vs H2 s2 hv => ⟨ds, d, by rw [List.append_nil]; exact hv, hr, fun v H3 s3 h3 => q v H3 (s2.trans s3) h3⟩
theorem evl_call {rel : List PyData → List PyData → Prop} {es : List PyData} (h : EvAs K tr σ H ds) (hr : rel ds es) : EvLs K (tCall (spLs K rel) [] E tr) σ H es := fun H1 s Q q =>
  h H1 s _ fun vs H2 s2 hv => ⟨ds, es, by rw [List.append_nil]; exact hv, hr, fun l xs H3 n s3 h3 h4 => q l xs H3 (s2.free n) (s2.trans s3) h3 h4⟩
end

/-! ### built-ins -/
/-- a built-in's call on data -/
def CbD (K : PySem.W.Frag) (r : List V → Hp → VK → Prop) (H : Hp) (ds : List PyData) (z : PyData) : Prop := ∀ H1, Same H H1 → ∀ vs, TpAll K H1 vs ds → ∀ Q : VK, (∀ v H2, Same H1 H2 → Tp K H2 v z → Q v H2) → r vs H1 Q
section
variable {σ : L2.St} {tr : TA} {te : TE} {ds : List PyData} {z : PyData} {r : List V → Hp → VK → Prop}
theorem evd_cb (h : EvAs K tr σ H ds) (hr : CbD K r H ds z) : EvD K (tCB r tr) σ H z := fun H1 s Q q =>
  h H1 s _ fun vs H2 s2 hv => hr H2 (s.trans s2) vs hv Q fun v H3 s3 h3 => q v H3 (s2.trans s3) h3
theorem one_inv {vs : List V} {d : PyData} (h : TpAll K H vs [d]) : ∃ v, vs = [v] ∧ Tp K H v d := by
  cases h with
  | cons h t =>
    cases t
    exact ⟨_, rfl, h⟩
theorem two_inv {vs : List V} {d e : PyData} (h : TpAll K H vs [d, e]) : ∃ v w, vs = [v, w] ∧ Tp K H v d ∧ Tp K H w e := by
  cases h with
  | cons h t =>
    obtain ⟨w, rfl, hw⟩ := one_inv t
    exact ⟨_, _, rfl, h, hw⟩
theorem three_inv {vs : List V} {d e f : PyData} (h : TpAll K H vs [d, e, f]) : ∃ v w u, vs = [v, w, u] ∧ Tp K H v d ∧ Tp K H w e ∧ Tp K H u f := by
  cases h with
  | cons h t =>
    obtain ⟨w, u, rfl, hw, hu⟩ := two_inv t
    exact ⟨_, _, _, rfl, h, hw, hu⟩
abbrev rAbs : List V → Hp → VK → Prop := fun xs H Q => ∃ i, xs = [V.int i] ∧ Q (.int (if i < 0 then -i else i)) H
abbrev rMin2 : List V → Hp → VK → Prop := fun xs H Q => ∃ i j, xs = [V.int i, V.int j] ∧ Q (.int (if j < i then j else i)) H
abbrev rInt1 : List V → Hp → VK → Prop := fun xs H Q => (∃ i, xs = [V.int i] ∧ Q (.int i) H) ∨ ∃ k, xs = [V.bl k] ∧ Q (.int (if k then 1 else 0)) H
abbrev rLenQ (K : PySem.W.Frag) : List V → Hp → VK → Prop := fun xs H Q => ∃ p ys, xs = [V.ref p] ∧ (SqL K H p ys ∨ SqT K H p ys) ∧ Q (.int ys.length) H
theorem cbd_abs {i : Int} : CbD K rAbs H [.int i] (.int (if i < 0 then -i else i)) := fun H1 _ vs hv Q q => by
  obtain ⟨v, rfl, h⟩ := one_inv hv
  exact ⟨i, by rw [h.int_inv], q _ H1 (Same.refl H1) (.int _)⟩
theorem cbd_min2 {i j : Int} : CbD K rMin2 H [.int i, .int j] (.int (if j < i then j else i)) := fun H1 _ vs hv Q q => by
  obtain ⟨v, w, rfl, h, h2⟩ := two_inv hv
  exact ⟨i, j, by rw [h.int_inv, h2.int_inv], q _ H1 (Same.refl H1) (.int _)⟩
theorem cbd_intB {b : Bool} : CbD K rInt1 H [.bool b] (.int (if b then 1 else 0)) := fun H1 _ vs hv Q q => by
  obtain ⟨v, rfl, h⟩ := one_inv hv
  exact .inr ⟨b, by rw [h.bl_inv], q _ H1 (Same.refl H1) (.int _)⟩
theorem cbd_lenT {es : List PyData} : CbD K (rLenQ K) H [.tuple es] (.int es.length) := fun H1 _ vs hv Q q => by
  obtain ⟨v, rfl, h⟩ := one_inv hv
  obtain ⟨a, xs, rfl, hS, hA⟩ := h.tup_inv
  exact ⟨a, xs, rfl, .inr hS.sqt, by rw [hA.length]; exact q _ H1 (Same.refl H1) (.int _)⟩
/-- tuple(a new list) -/
theorem evd_tupleL (h : EvLs K te σ H ds) : EvD K (tCB (rTupleP K) (tCons te tNil)) σ H (.tuple ds) := fun H1 s Q q =>
  h H1 s _ fun l xs H2 n s2 hl hx => ⟨l, xs, rfl, .inl ⟨.of hl, fun p o hp ho => q _ _ (s2.trans (same_new hp _)) (.tup (.new ho) (hx.same (same_new hp _)))⟩⟩
/-- sum(a new list of ints) -/
theorem evd_sumL {ns : List Int} (h : EvLs K te σ H (ns.map .int)) : EvD K (tCB (rSum K) (tCons te tNil)) σ H (.int ns.sum) := fun H1 s Q q =>
  h H1 s _ fun l xs H2 n s2 hl hx => ⟨l, ns, rfl, by rw [← hx.ints_inv]; exact .of hl, q _ H2 s2 (.int _)⟩
end

/-! ### comprehensions over a tuple's data -/
section
variable {σ : L2.St} {ts te : TE} {tt : TT} {g : TG} {vs : List Nat} {ds : List PyData}
theorem ds_more {ds : List PyData} {i : Nat} {d : PyData} (h : ds[i]? = some d) (keep : PyData → Bool) (elt : PyData → PyData) :
    ((ds.take (i + 1)).filter keep).map elt = ((ds.take i).filter keep).map elt ++ (if keep d = true then [elt d] else []) := by
  rw [List.take_succ, h, List.filter_append, List.map_append]
  cases e : keep d with
  | true => simp [e]
  | false => simp [e]
theorem evl_lcT (hl : ds.length ≤ sizeLine) (h : EvD K ts σ H (.tuple ds)) (keep : PyData → Bool) (elt : PyData → PyData)
    (hs : ∀ d ∈ ds, ∀ x H', Same H H' → Tp K H' x d → ∃ σ2, (∀ R : L2.St → Hp → Prop, R σ2 H' → g x (wipe σ vs) H' R) ∧ wipe σ2 vs = wipe σ vs ∧ EvB tt σ2 H' (keep d) ∧ (keep d = true → EvD K te σ2 H' (elt d))) :
    EvLs K (tLc (iTup K ts) g tt te vs) σ H ((ds.filter keep).map elt) := by
  intro H1 s1 Q q
  refine h H1 s1 _ fun v H2 s2 hv => ?_
  obtain ⟨a, xs, rfl, hS, hA⟩ := hv.tup_inv
  refine ⟨a, rfl, ⟨_, hS.sqt⟩, fun D hD => ?_⟩
  refine lc_tup (K := K) (a := a) (xs := xs) (fun i Hc => Same H2 Hc ∧ ∃ acc, Hc D = some (.lst acc) ∧ TpAll K Hc acc (((ds.take i).filter keep).map elt) ∧ acc.length ≤ i) ⟨same_new hD _, [], upd_same, .nil, Nat.le_refl _⟩
    (fun i Hc _ p => (SameT.of p.1).sqt hS.sqt) ?_ ?_
  · rintro i x Hc hx ⟨sc, acc, hacc, hT, hlen⟩
    obtain ⟨d, hd, hxd⟩ := hA.getV hx
    have hi : i < ds.length := (List.getElem?_eq_some_iff.mp hd).1
    obtain ⟨σ2, hg, hw, ht, he⟩ := hs d (List.mem_of_getElem? hd) x Hc ((s1.trans s2).trans sc) (hxd.same sc)
    refine hg _ ⟨hw, ht.go fun H3 s3 => ?_⟩
    have more := ds_more hd keep elt
    cases e : keep d with
    | true =>
      rw [if_pos rfl]
      refine (he e).mono s3 |>.go fun y H4 s4 hy => ?_
      refine ⟨acc, s4 _ _ (s3 _ _ hacc), Nat.lt_of_le_of_lt hlen (Nat.lt_of_lt_of_le hi hl), same_mut ((sc.trans s3).trans s4) hD _, _, upd_same, ?_, by rw [List.length_append, List.length_singleton]; omega⟩
      rw [more, if_pos e]
      have sT : SameT Hc (upd H4 D (.lst (acc ++ [y]))) := ((SameT.of s3).trans (SameT.of s4)).updL (s4 _ _ (s3 _ _ hacc))
      exact (hT.mono sT).snoc (hy.mono (SameT.updL (.refl _) (s4 _ _ (s3 _ _ hacc))))
    | false =>
      rw [if_neg Bool.false_ne_true]
      refine ⟨sc.trans s3, acc, s3 _ _ hacc, ?_, by omega⟩
      rw [more, if_neg (by rw [e]; exact Bool.false_ne_true), List.append_nil]
      exact hT.same s3
  · rintro Hc ⟨sc, acc, hacc, hT, _⟩
    rw [hA.length, List.take_length] at hT
    exact q D acc Hc (s2.free hD) (s2.trans sc) hacc hT
end
/-- a pair's names -/
theorem pair_names {i j : Nat} {n m : PyData} {x : V} {σ : L2.St} (h : Tp K H x (.tuple [n, m])) : ∃ v w, Tp K H v n ∧ Tp K H w m ∧ ∀ R : L2.St → Hp → Prop, R ((σ.set i (some v)).set j (some w)) H → gTup K 2 (gCons (gName i) (gCons (gName j) gNil)) x σ H R := by
  obtain ⟨a, xs, rfl, hS, hA⟩ := h.tup_inv
  obtain ⟨v, w, rfl, hv, hw⟩ := two_inv hA
  exact ⟨v, w, hv, hw, fun R r => ⟨a, _, rfl, hS.sqt, rfl, v, [w], rfl, w, [], rfl, rfl, r⟩⟩
end Lo
set_option Elab.async false
set_option linter.all false
set_option maxRecDepth 100000
set_option maxHeartbeats 2000000
/-! the text by places, what the top has, calls of its defs, statements over local lists -/
namespace Lo
open PySem PySem.Spec PyProof.Rows L2

def top (i : Nat) : Stmt := PySem.Challenge.pw_leastout_k37_whole_asked_again.main.body.getD i (.Pass ⟨0, 0, 0, 0⟩)

/-- what the top has of plain things -/
structure Txt (K : PySem.W.Frag) (mg : Str → Option Value) : Prop where
  zEnum : mg "enumerate" = none
  zLen : mg "len" = none
  zSum : mg "sum" = none
  zMin : mg "min" = none
  zInt : mg "int" = none
  zTuple : mg "tuple" = none
  zSorted : mg "sorted" = none
  zDict : mg "dict" = none
  zSet : mg "set" = none
  zRange : mg "range" = none
  zAbs : mg "abs" = none
  zStr : mg "str" = none
  zList : mg "list" = none
  zIsi : mg "isinstance" = none
  cPairs : ∃ t, mg "MOST_PAIRS" = some (.int 40 t)
  cFar : ∃ t, mg "FAR" = some (.int 1000000 t)
  cCount : ∃ t, mg "MOST_COUNT" = some (.int 1000000000000000000 t)
  cPut : ∃ t, mg "PUT" = some (.str "put" t)
  cTake : ∃ t, mg "TAKE" = some (.str "take" t)
  cTimes : ∃ t, mg "TIMES" = some (.str "times" t)
  cMPut : ∃ t, mg "MOST_PUT" = some (.int 999 t)
  cSteps : ∃ t, mg "MOST_STEPS" = some (.int 30 t)
  cDeep : ∃ t, mg "MOST_DEEP" = some (.int 3 t)
  cSingle : ∃ t, mg "MOST_SINGLE" = some (.int 9 t)
  cNothing : ∃ a, mg "NOTHING" = some (.ref a) ∧ ∀ H, Tp K H (.ref a) (.tuple [.tuple [], .tuple [], .int 0])

/-- a def of the top that keeps its promise, as its callers see it -/
structure Callee (P : Program) (w : World) (K : PySem.W.Frag) (mg : Str → Option Value) (base : Heap) (k : Nat) (x : Str) (ps : List Str) (sp : Sp) : Prop where
  ex : ∃ f fd, FnOk P w K mg base CX0 k f fd ps sp ∧ mg x = some (.ref f) ∧ PySem.W.keepIn K (.ref f) = true ∧ Binds K fd ps []
section
variable {X : Cx} {k j : Nat} {x : Str} {ps : List Str} {sp : Sp} {e : Expr} {es : List Expr} {t : TA} {p pos : Pos}
theorem pe_cal (F : Callee X.prog X.w X.K X.mg X.base k x ps sp) (hr : Room j X.A) (ha : PA X (e :: es) t) (hk : k ≤ j := by decide) (hg : Gl X x := by rfl) (hdb : (x == ("__debug__" : Str)) = false := by decide)
    (he : starEach (e :: es) X.env = (false, eval e X.env) :: starEach es X.env := by rfl) (hpl : (backTo pos (starEach es X.env)).any (·.1) = false := by rfl) :
    PE X (.Call (.Name x p) (e :: es) [] pos) (tCall sp [] E0 t) := by
  obtain ⟨f, fd, F, hm, hkp, hb⟩ := F.ex
  exact pe_call F (hr.mono hk) hg hm hkp hb .nil pass0 ha hdb he hpl
end
section
variable {K : PySem.W.Frag} {σ : L2.St} {H : Hp} {te ta tb : TE} {tr : TA} {D : Ends} {i : Nat} {l : Addr} {xs : List V} {es ds : List PyData} {d : PyData}
/-- list * int(bool) -/
theorem evl_rep {b : Bool} (ha : EvLs K ta σ H ds) (hb : ∀ H1, Same H H1 → EvD K tb σ H1 (.int (if b then 1 else 0))) (hl : ds.length ≤ 100000) : EvLs K (tOp rRep ta tb) σ H (if b then ds else []) := fun H1 s Q q =>
  ha H1 s _ fun l xs H2 n s2 h2 hx => (hb H2 (s.trans s2)).go fun v H3 s3 hv => by
    have z : xs.length ≤ sizeLine := by rw [hx.length]; exact Nat.le_trans hl (by decide)
    refine ⟨l, (if b then 1 else 0), xs, rfl, hv.int_inv, s3 _ _ h2, ?_, ?_, ?_, fun p hp => ?_⟩
    · cases b <;> decide
    · cases b <;> decide
    · cases b
      · show xs.length * 0 ≤ sizeLine
        omega
      · show xs.length * 1 ≤ sizeLine
        omega
    · have hp1 : H1 p = none := s2.free (s3.free hp)
      cases b
      · refine q p _ _ hp1 ((s2.trans s3).trans (same_new hp _)) upd_same ?_
        exact .nil
      · refine q p _ _ hp1 ((s2.trans s3).trans (same_new hp _)) upd_same ?_
        have e : (List.replicate (Int.toNat 1) xs).flatten = xs := by simp
        have e2 : (if (true : Bool) = true then (1 : Int) else 0) = 1 := rfl
        rw [e2, e]
        exact (hx.same s3).same (same_new hp _)
/-- xs.append(e), the list in a slot -/
theorem st_app (hv : σ[i]? = some (some (.ref l))) (hl : H l = some (.lst xs)) (ha : EvD K te σ H d) (hz : xs.length < sizeLine) (q : ∀ v H2, Same H H2 → Tp K H2 v d → D.nx σ (upd H2 l (.lst (xs ++ [v])))) :
    tDrop (tBM K "list" rAppend (tVar i) (tCons te tNil)) D σ H :=
  ⟨_, hv, .inl ⟨rfl, _, SqL.of hl⟩, ha.go fun v H2 s2 h2 => ⟨l, xs, v, rfl, rfl, s2 _ _ hl, hz, q v H2 s2 h2⟩⟩
/-- xs.extend(a new list) -/
theorem st_ext (hv : σ[i]? = some (some (.ref l))) (hl : H l = some (.lst xs)) (ha : EvLs K te σ H es) (hz : xs.length + es.length ≤ sizeLine) (q : ∀ zs H2, Same H H2 → TpAll K H2 zs es → D.nx σ (upd H2 l (.lst (xs ++ zs)))) :
    tDrop (tBM K "list" rExtend (tVar i) (tCons te tNil)) D σ H :=
  ⟨_, hv, .inl ⟨rfl, _, SqL.of hl⟩, ha.go fun p zs H2 n s2 h2 hx => ⟨l, p, xs, zs, rfl, rfl, s2 _ _ hl, h2, by rw [hx.length]; exact hz, q zs H2 s2 hx⟩⟩
/-- tuple(xs), the list in a slot -/
theorem evd_tupV (hv : σ[i]? = some (some (.ref l))) (hl : H l = some (.lst xs)) (hx : TpAll K H xs ds) : EvD K (tCB (rTupleP K) (tCons (tVar i) tNil)) σ H (.tuple ds) := fun H1 s Q q =>
  ⟨_, hv, l, xs, rfl, .inl ⟨.of (s _ _ hl), fun p o hp ho => q _ _ (same_new hp _) (.tup (.new ho) ((hx.same s).same (same_new hp _)))⟩⟩
/-- the end of a def: a datum -/
theorem rt_spD {v : V} {H' : Hp} {vs : List V} {Q : VK} (q : ∀ v H', Same H H' → Tp K H' v d → Q v H') (s : Same H H') (h : Tp K H' v d) : Q v H' := q v H' s h
/-- a for over a tuple's data (known at H), begun at H1, an invariant by the place -/
theorem for_data {H1 : Hp} {g : TG} {tb : TS} {a : Addr} {ys : List V} (hA : TpAll K H ys ds) (hS : SqT K H a ys) (Pv : Nat → L2.St → Hp → Prop) (h0 : Pv 0 σ H1) (hT : ∀ i σ H', Pv i σ H' → SameT H H')
    (hs : ∀ i d x σ H', ds[i]? = some d → Tp K H' x d → Pv i σ H' → g x σ H' fun σ2 H2 => tb { D with nx := Pv (i + 1), ct := Pv (i + 1), bk := D.nx } σ2 H2) (hd : ∀ σ H', Pv ds.length σ H' → D.nx σ H') :
    ∃ W : Nat → Nat → L2.St → Hp → Prop, (∃ m, W 0 m σ H1) ∧ ∀ i m σ H, W i m σ H → ((Itt K a).stop i H ∧ D.nx σ H) ∨ ((Itt K a).go i H ∧ ∃ Nx : L2.St → Hp → Prop, (∀ σ' H', Nx σ' H' → ∃ m', m' < m ∧ W (i + 1) m' σ' H') ∧
      ∀ x H', (Itt K a).yld i H x H' → g x σ H' fun σ2 H2 => tb { D with nx := Nx, ct := Nx, bk := D.nx } σ2 H2) := by
  have hlen := hA.length
  refine for_tup (K := K) (a := a) (xs := ys) Pv h0 (fun i σ H' _ p => (hT i σ H' p).sqt hS) ?_ (fun σ H' p => hd σ H' (by rw [← hlen]; exact p))
  intro i x σ H' hx p
  obtain ⟨d, hd', hxd⟩ := hA.getV hx
  exact hs i d x σ H' hd' (hxd.mono (hT i σ H' p)) p
/-- for x in (the tuple in slot i) -/
theorem st_for {H1 : Hp} {g : TG} {tb : TS} {v : V} (hv : σ[i]? = some (some v)) (hd : Tp K H v (.tuple ds)) (sT : SameT H H1) (Pv : Nat → L2.St → Hp → Prop) (h0 : Pv 0 σ H1) (hT : ∀ i σ H', Pv i σ H' → SameT H H')
    (hs : ∀ i d x σ H', ds[i]? = some d → Tp K H' x d → Pv i σ H' → g x σ H' fun σ2 H2 => tb { D with nx := Pv (i + 1), ct := Pv (i + 1), bk := D.nx } σ2 H2) (he : ∀ σ H', Pv ds.length σ H' → D.nx σ H') :
    tFor (iTup K (tVar i)) g tb D σ H1 := by
  obtain ⟨a, ys, rfl, hS, hA⟩ := hd.tup_inv
  exact ⟨_, hv, a, rfl, ⟨ys, sT.sqt hS.sqt⟩, for_data hA hS.sqt Pv h0 hT hs he⟩
theorem small_add {a b : Nat} (h : a ≤ 3000000) (k : b ≤ 3000000) : a + b ≤ sizeLine := Nat.le_trans (Nat.add_le_add h k) (by decide)
theorem small_lt {a : Nat} (h : a ≤ 3000000) : a < sizeLine := Nat.lt_of_le_of_lt h (by decide)
theorem small_le {a : Nat} (h : a ≤ 3000000) : a ≤ sizeLine := Nat.le_trans h (by decide)
/-! statements -/
theorem sd_seq {t u : TS} (h : t { D with nx := u D } σ H) : tSeq t u D σ H := h
theorem sd_set (h : EvD K te σ H d) (q : ∀ v H2, Same H H2 → Tp K H2 v d → D.nx (σ.set i (some v)) H2) : tAsg te (gName i) D σ H := h.go q
theorem sd_setL (h : EvLs K te σ H ds) (q : ∀ l xs H2, H l = none → Same H H2 → H2 l = some (.lst xs) → TpAll K H2 xs ds → D.nx (σ.set i (some (.ref l))) H2) : tAsg te (gName i) D σ H := h.go q
theorem sd_ret (h : EvD K te σ H d) (q : ∀ v H2, Same H H2 → Tp K H2 v d → D.rt v H2) : tRet te D σ H := h.go q
theorem sd_retL (h : EvLs K te σ H ds) (q : ∀ l xs H2, H l = none → Same H H2 → H2 l = some (.lst xs) → TpAll K H2 xs ds → D.rt (.ref l) H2) : tRet te D σ H := h.go q
theorem sd_drop (h : EvD K te σ H d) (q : ∀ v H2, Same H H2 → Tp K H2 v d → D.nx σ H2) : tDrop te D σ H := h.go q
theorem sd_yes {c : TT} {t u : TS} (h : EvB c σ H true) (q : ∀ H2, Same H H2 → t D σ H2) : tIfS c t u D σ H := h.go fun H2 s2 => by
  show (if true = true then t D σ H2 else u D σ H2)
  rw [if_pos rfl]
  exact q H2 s2
theorem sd_no {c : TT} {t u : TS} (h : EvB c σ H false) (q : ∀ H2, Same H H2 → u D σ H2) : tIfS c t u D σ H := h.go fun H2 s2 => by
  show (if false = true then t D σ H2 else u D σ H2)
  rw [if_neg Bool.false_ne_true]
  exact q H2 s2
theorem sd_if {c : TT} {t u : TS} {b : Bool} (h : EvB c σ H b) (q1 : b = true → ∀ H2, Same H H2 → t D σ H2) (q2 : b = false → ∀ H2, Same H H2 → u D σ H2) : tIfS c t u D σ H := by
  cases b with
  | true => exact sd_yes h (q1 rfl)
  | false => exact sd_no h (q2 rfl)
theorem sd_next (q : D.nx σ H) : tNext D σ H := q
theorem sd_aug {j : Int} {k : Int} {g : Int → Int → Int} (hv : σ[i]? = some (some (.int j))) (h : EvD K te σ H (.int k)) (q : ∀ H2, Same H H2 → D.nx (σ.set i (some (.int (g j k)))) H2) : tAug i te (ipI g) D σ H :=
  ⟨_, hv, h.go fun v H2 s2 hv2 => ⟨j, k, rfl, hv2.int_inv, q H2 s2⟩⟩
/-- left, out, idle = e -/
theorem sd_unp3 {i j k : Nat} {a b c : PyData} (h : EvD K te σ H (.tuple [a, b, c])) (q : ∀ x y z H2, Same H H2 → Tp K H2 x a → Tp K H2 y b → Tp K H2 z c → D.nx (((σ.set i (some x)).set j (some y)).set k (some z)) H2) :
    tAsg te (gTup K 3 (gCons (gName i) (gCons (gName j) (gCons (gName k) gNil)))) D σ H := h.go fun v H2 s2 hv => by
  obtain ⟨p, xs, rfl, hS, hA⟩ := hv.tup_inv
  obtain ⟨x, y, z, rfl, hx, hy, hz⟩ := three_inv hA
  exact ⟨p, _, rfl, hS.sqt, rfl, x, _, rfl, y, _, rfl, z, _, rfl, rfl, q x y z H2 s2 hx hy hz⟩
theorem sd_unp2 {i j : Nat} {a b : PyData} (h : EvD K te σ H (.tuple [a, b])) (q : ∀ x y H2, Same H H2 → Tp K H2 x a → Tp K H2 y b → D.nx ((σ.set i (some x)).set j (some y)) H2) :
    tAsg te (gTup K 2 (gCons (gName i) (gCons (gName j) gNil))) D σ H := h.go fun v H2 s2 hv => by
  obtain ⟨p, xs, rfl, hS, hA⟩ := hv.tup_inv
  obtain ⟨x, y, rfl, hx, hy⟩ := two_inv hA
  exact ⟨p, _, rfl, hS.sqt, rfl, x, _, rfl, y, _, rfl, rfl, q x y H2 s2 hx hy⟩
/-- a new list in a slot -/
theorem sd_nil (q : ∀ l, H l = none → D.nx (σ.set i (some (.ref l))) (upd H l (.lst []))) : tAsg (tLst tNil) (gName i) D σ H := ⟨Nat.zero_le _, q⟩
theorem fold_more {α β : Type} (f : β → α → β) (b : β) {l : List α} {i : Nat} {x : α} (h : l[i]? = some x) : (l.take (i + 1)).foldl f b = f ((l.take i).foldl f b) x := by
  rw [List.take_succ, h, List.foldl_append]
  rfl
theorem map_at {α β : Type} {f : α → β} {l : List α} {i : Nat} {y : β} (h : (l.map f)[i]? = some y) : ∃ x, l[i]? = some x ∧ y = f x := by
  rw [List.getElem?_map] at h
  cases e : l[i]? with
  | none => rw [e] at h; cases h
  | some x =>
    rw [e] at h
    exact ⟨x, rfl, (Option.some.inj h).symm⟩
end
end Lo
set_option linter.all false
set_option maxHeartbeats 1000000
/-! the mirror, first part: heaps, in plain Lean -/
namespace Lo
open PySem
abbrev Hl := List (Int × Int)
abbrev Three := Hl × Hl × Int
def leP (p q : Int × Int) : Bool := decide (p.1 < q.1 ∨ (p.1 = q.1 ∧ p.2 ≤ q.2))
def sortH (l : Hl) : Hl := l.mergeSort leP
def putI (l : Hl) (n c : Int) : Hl := if (l.any fun p => decide (p.1 = n)) = true then l.map (fun p => if p.1 = n then (p.1, c) else p) else l ++ [(n, c)]
def lookI (l : Hl) (n : Int) : Option Int := (l.find? fun p => decide (p.1 = n)).map (·.2)
def addI (d : Hl) (p : Int × Int) : Hl := putI d p.1 ((lookI d p.1).getD 0 + p.2)
def bothH (one other : Hl) : Hl := sortH (other.foldl addI one)
def sizeH (h : Hl) : Int := (h.map (·.2)).sum
def minI (a b : Int) : Int := if b < a then b else a
def pstep (s : Three) (p : Int × Int) : Three :=
  (s.1 ++ (if minI p.2 s.2.2 > 0 then [(p.1, minI p.2 s.2.2)] else []), s.2.1 ++ (if p.2 > minI p.2 s.2.2 then [(p.1, p.2 - minI p.2 s.2.2)] else []), s.2.2 - minI p.2 s.2.2)
def partedH (h : Hl) (many : Int) : Three := h.foldl pstep ([], [], many)
def behindT (one other : Three) : Three :=
  let p := partedH one.1 other.2.2
  let q := partedH (bothH p.2.1 other.2.1) (sizeH other.2.1)
  (bothH q.2.1 other.1, bothH (bothH one.2.1 p.1) q.1, one.2.2 + p.2.2)

/-! ### facts -/
/-- numbers rise, each of S, counts 1 or more -/
structure Good (S : List Int) (h : Hl) : Prop where
  rise : h.Pairwise fun p q => p.1 < q.1
  sub : ∀ p ∈ h, p.1 ∈ S
  pos : ∀ p ∈ h, 1 ≤ p.2
theorem Good.nil (S : List Int) : Good S [] := ⟨.nil, fun _ h => (by cases h), fun _ h => (by cases h)⟩
theorem Good.nodup {S : List Int} {h : Hl} (g : Good S h) : (h.map (·.1)).Nodup := by
  rw [List.Nodup, List.pairwise_map]
  exact g.rise.imp fun h => Int.ne_of_lt h
theorem nodup_len : ∀ (l S : List Int), l.Nodup → (∀ x ∈ l, x ∈ S) → l.length ≤ S.length
  | [], _, _, _ => Nat.zero_le _
  | x :: l, S, nd, h => by
    have hx : x ∈ S := h x (List.mem_cons_self ..)
    have nd' := List.nodup_cons.mp nd
    have ih := nodup_len l (S.erase x) nd'.2 fun y hy => by
      have hne : y ≠ x := fun e => nd'.1 (e ▸ hy)
      exact (List.mem_erase_of_ne hne).mpr (h y (List.mem_cons_of_mem _ hy))
    rw [List.length_erase_of_mem hx] at ih
    have : 0 < S.length := List.length_pos_of_mem hx
    show l.length + 1 ≤ S.length
    omega
theorem Good.len {S : List Int} {h : Hl} (g : Good S h) : h.length ≤ S.length := by
  have := nodup_len (h.map (·.1)) S g.nodup fun x hx => by
    obtain ⟨p, hp, rfl⟩ := List.mem_map.mp hx
    exact g.sub p hp
  rwa [List.length_map] at this
theorem Good.mono {S S' : List Int} {h : Hl} (g : Good S h) (s : ∀ x ∈ S, x ∈ S') : Good S' h := ⟨g.rise, fun p hp => s _ (g.sub p hp), g.pos⟩
/-! sort -/
theorem leP_trans (a b c : Int × Int) : leP a b = true → leP b c = true → leP a c = true := by
  unfold leP
  simp only [decide_eq_true_eq]
  omega
theorem leP_total (a b : Int × Int) : (leP a b || leP b a) = true := by
  unfold leP
  simp only [Bool.or_eq_true, decide_eq_true_eq]
  omega
theorem sortH_perm (l : Hl) : (sortH l).Perm l := List.mergeSort_perm l leP
theorem sortH_rise {l : Hl} (nd : (l.map (·.1)).Nodup) : (sortH l).Pairwise fun p q => p.1 < q.1 := by
  have h1 : (sortH l).Pairwise (fun a b => leP a b = true) := List.pairwise_mergeSort leP_trans leP_total l
  have h2 : ((sortH l).map (·.1)).Nodup := ((sortH_perm l).map (·.1)).nodup_iff.mpr nd
  rw [List.Nodup, List.pairwise_map] at h2
  have h3 := h1.and h2
  refine h3.imp fun {p q} h => ?_
  obtain ⟨a, b⟩ := h
  unfold leP at a
  simp only [decide_eq_true_eq] at a
  have b : p.1 ≠ q.1 := b
  omega
theorem any_look (l : Hl) (n : Int) : (l.any fun p => decide (p.1 = n)) = (lookI l n).isSome := by
  induction l with
  | nil => rfl
  | cons p r ih =>
    unfold lookI at ih ⊢
    rw [List.any_cons, List.find?_cons]
    cases e : decide (p.1 = n) with
    | true => simp
    | false => simpa using ih
theorem keys_put (l : Hl) (n c : Int) : (putI l n c).map (·.1) = if (lookI l n).isSome then l.map (·.1) else l.map (·.1) ++ [n] := by
  unfold putI
  rw [any_look]
  cases (lookI l n).isSome with
  | true =>
    rw [if_pos rfl, if_pos rfl, List.map_map]
    refine List.map_congr_left fun p _ => ?_
    show (if p.1 = n then (p.1, c) else p).1 = p.1
    split <;> rfl
  | false =>
    rw [if_neg Bool.false_ne_true, if_neg Bool.false_ne_true, List.map_append]
    rfl
theorem look_none {l : Hl} {n : Int} (h : lookI l n = none) : n ∉ l.map (·.1) := by
  unfold lookI at h
  intro hn
  obtain ⟨p, hp, rfl⟩ := List.mem_map.mp hn
  rw [Option.map_eq_none_iff, List.find?_eq_none] at h
  exact h p hp (by simp)
theorem look_some {l : Hl} {n c : Int} (h : lookI l n = some c) : (n, c) ∈ l := by
  unfold lookI at h
  obtain ⟨p, hp, rfl⟩ := Option.map_eq_some_iff.mp h
  have h1 := List.mem_of_find?_eq_some hp
  have h2 : p.1 = n := by simpa using List.find?_some hp
  rw [← h2]
  exact h1
theorem nodup_put {l : Hl} (nd : (l.map (·.1)).Nodup) (n c : Int) : ((putI l n c).map (·.1)).Nodup := by
  rw [keys_put]
  cases e : lookI l n with
  | some v => simpa using nd
  | none =>
    have hn := look_none e
    simp only [Option.isSome_none, Bool.false_eq_true, if_false]
    rw [List.nodup_append]
    refine ⟨nd, by simp, fun a ha b hb => ?_⟩
    rw [List.mem_singleton] at hb
    intro q
    exact hn (by rw [← hb, ← q]; exact ha)
theorem sum_put : ∀ {l : Hl}, (l.map (·.1)).Nodup → ∀ (n c : Int), sizeH (putI l n c) = sizeH l + c - (lookI l n).getD 0
  | [], _, n, c => by
    simp [putI, lookI, sizeH]
  | p :: r, nd, n, c => by
    rw [List.map_cons, List.nodup_cons] at nd
    have ih := sum_put (l := r) nd.2 n c
    by_cases e : p.1 = n
    · have hr : ∀ q ∈ r, ¬ q.1 = n := fun q hq z => nd.1 (by rw [e, ← z]; exact List.mem_map.mpr ⟨q, hq, rfl⟩)
      have m : r.map (fun p => if p.1 = n then (p.1, c) else p) = r := by
        conv => rhs; rw [← List.map_id r]
        refine List.map_congr_left fun q hq => ?_
        rw [if_neg (hr q hq)]
        rfl
      have z : putI (p :: r) n c = (p.1, c) :: r := by
        unfold putI
        rw [if_pos (by simp [e]), List.map_cons, m, if_pos e]
      rw [z]
      have lk : lookI (p :: r) n = some p.2 := by
        unfold lookI
        rw [List.find?_cons]
        simp [e]
      rw [lk]
      unfold sizeH
      simp only [List.map_cons, List.sum_cons, Option.getD_some]
      omega
    · have lk : lookI (p :: r) n = lookI r n := by
        unfold lookI
        rw [List.find?_cons]
        simp [e]
      have z : putI (p :: r) n c = p :: putI r n c := by
        unfold putI
        rw [List.any_cons, decide_eq_false e, Bool.false_or]
        split
        · rw [List.map_cons, if_neg e]
        · rfl
      rw [z, lk]
      unfold sizeH at ih ⊢
      simp only [List.map_cons, List.sum_cons]
      omega
theorem sub_put {S : List Int} {l : Hl} (h : ∀ p ∈ l, p.1 ∈ S) {n c : Int} (hn : n ∈ S) : ∀ p ∈ putI l n c, p.1 ∈ S := by
  intro p hp
  have hk : p.1 ∈ (putI l n c).map (·.1) := List.mem_map.mpr ⟨p, hp, rfl⟩
  rw [keys_put] at hk
  have old : ∀ x ∈ l.map (·.1), x ∈ S := fun x hx => by
    obtain ⟨q, hq, rfl⟩ := List.mem_map.mp hx
    exact h q hq
  split at hk
  · exact old _ hk
  · rcases List.mem_append.mp hk with hk | hk
    · exact old _ hk
    · rw [List.mem_singleton] at hk
      rw [hk]
      exact hn
theorem pos_put {l : Hl} (h : ∀ p ∈ l, 1 ≤ p.2) {n c : Int} (hc : 1 ≤ c) : ∀ p ∈ putI l n c, 1 ≤ p.2 := by
  intro p hp
  unfold putI at hp
  split at hp
  · obtain ⟨q, hq, rfl⟩ := List.mem_map.mp hp
    split
    · exact hc
    · exact h q hq
  · rcases List.mem_append.mp hp with hp | hp
    · exact h p hp
    · rw [List.mem_singleton] at hp
      subst hp
      exact hc
/-- what a dict of numbers holds while it grows -/
structure GoodD (S : List Int) (h : Hl) : Prop where
  nd : (h.map (·.1)).Nodup
  sub : ∀ p ∈ h, p.1 ∈ S
  pos : ∀ p ∈ h, 1 ≤ p.2
theorem Good.d {S : List Int} {h : Hl} (g : Good S h) : GoodD S h := ⟨g.nodup, g.sub, g.pos⟩
theorem GoodD.len {S : List Int} {h : Hl} (g : GoodD S h) : h.length ≤ S.length := by
  have := nodup_len (h.map (·.1)) S g.nd fun x hx => by
    obtain ⟨p, hp, rfl⟩ := List.mem_map.mp hx
    exact g.sub p hp
  rwa [List.length_map] at this
theorem GoodD.add {S : List Int} {d : Hl} (g : GoodD S d) {p : Int × Int} (hs : p.1 ∈ S) (hp : 1 ≤ p.2) : GoodD S (addI d p) := by
  refine ⟨nodup_put g.nd _ _, sub_put g.sub hs, pos_put g.pos ?_⟩
  cases e : lookI d p.1 with
  | none => simpa using hp
  | some c =>
    have := g.pos _ (look_some e)
    simp only [Option.getD_some]
    have : 1 ≤ c := this
    omega
theorem size_add {S : List Int} {d : Hl} (g : GoodD S d) (p : Int × Int) : sizeH (addI d p) = sizeH d + p.2 := by
  unfold addI
  rw [sum_put g.nd]
  omega
theorem GoodD.fold {S : List Int} : ∀ {other d : Hl}, GoodD S d → (∀ p ∈ other, p.1 ∈ S) → (∀ p ∈ other, 1 ≤ p.2) → GoodD S (other.foldl addI d) ∧ sizeH (other.foldl addI d) = sizeH d + sizeH other
  | [], d, g, _, _ => ⟨g, by simp [sizeH]⟩
  | p :: r, d, g, h1, h2 => by
    have g2 := g.add (h1 p (List.mem_cons_self ..)) (h2 p (List.mem_cons_self ..))
    obtain ⟨a, b⟩ := GoodD.fold (other := r) g2 (fun q hq => h1 q (List.mem_cons_of_mem _ hq)) (fun q hq => h2 q (List.mem_cons_of_mem _ hq))
    refine ⟨a, ?_⟩
    rw [List.foldl_cons, b, size_add g]
    simp [sizeH]
    omega
theorem sum_perm {x y : List Int} (h : x.Perm y) : x.sum = y.sum := by
  induction h with
  | nil => rfl
  | cons x _ ih => simp [ih]
  | swap x y l => simp only [List.sum_cons]; omega
  | trans _ _ i1 i2 => exact i1.trans i2
theorem sizeH_perm {a b : Hl} (h : a.Perm b) : sizeH a = sizeH b := by
  exact sum_perm (h.map (·.2))
theorem Good.both {S : List Int} {one other : Hl} (g : Good S one) (k : Good S other) : Good S (bothH one other) ∧ sizeH (bothH one other) = sizeH one + sizeH other := by
  obtain ⟨a, b⟩ := GoodD.fold g.d k.sub k.pos
  have pm := sortH_perm (other.foldl addI one)
  exact ⟨⟨sortH_rise a.nd, fun p hp => a.sub p (pm.mem_iff.mp hp), fun p hp => a.pos p (pm.mem_iff.mp hp)⟩, by rw [← b]; exact sizeH_perm pm⟩
/-! parted -/
structure PGood (S : List Int) (h : Hl) (m : Int) (done : Hl) (s : Three) : Prop where
  g1 : s.1.Pairwise fun p q => p.1 < q.1
  g2 : s.2.1.Pairwise fun p q => p.1 < q.1
  k1 : ∀ p ∈ s.1, ∃ q ∈ done, q.1 = p.1
  k2 : ∀ p ∈ s.2.1, ∃ q ∈ done, q.1 = p.1
  p1 : ∀ p ∈ s.1, 1 ≤ p.2
  p2 : ∀ p ∈ s.2.1, 1 ≤ p.2
  m0 : 0 ≤ s.2.2
  z1 : sizeH s.1 + s.2.2 = m
  z2 : sizeH s.1 + sizeH s.2.1 = sizeH done
  l1 : s.1.length ≤ done.length
  l2 : s.2.1.length ≤ done.length
  zr : 0 < s.2.2 → s.2.1 = []
theorem minI_le1 (a b : Int) : minI a b ≤ a := by unfold minI; split <;> omega
theorem minI_le2 (a b : Int) : minI a b ≤ b := by unfold minI; split <;> omega
theorem minI_nonneg {a b : Int} (h : 0 ≤ a) (k : 0 ≤ b) : 0 ≤ minI a b := by unfold minI; split <;> omega
theorem sizeH_append (a b : Hl) : sizeH (a ++ b) = sizeH a + sizeH b := by simp [sizeH]
theorem sizeH_one (p : Int × Int) : sizeH [p] = p.2 := by simp [sizeH]
theorem sizeH_nil : sizeH [] = 0 := rfl
theorem PGood.step {S : List Int} {h : Hl} {m : Int} {done : Hl} {s : Three} (g : PGood S h m done s) {p : Int × Int} (hp : 1 ≤ p.2) (hr : ∀ q ∈ done, q.1 < p.1) : PGood S h m (done ++ [p]) (pstep s p) := by
  have e1 := minI_le1 p.2 s.2.2
  have e2 := minI_le2 p.2 s.2.2
  have e0 := minI_nonneg (a := p.2) (b := s.2.2) (by omega) g.m0
  have old : ∀ {q : Int × Int}, (∃ r ∈ done, r.1 = q.1) → ∃ r ∈ done ++ [p], r.1 = q.1 := fun ⟨r, h1, h2⟩ => ⟨r, List.mem_append_left _ h1, h2⟩
  have new : ∃ r ∈ done ++ [p], r.1 = p.1 := ⟨p, List.mem_append_right _ (List.mem_singleton.mpr rfl), rfl⟩
  have lt : ∀ {l : Hl}, (∀ q ∈ l, ∃ r ∈ done, r.1 = q.1) → ∀ q ∈ l, q.1 < p.1 := fun hk q hq => by
    obtain ⟨r, h1, h2⟩ := hk q hq
    rw [← h2]
    exact hr r h1
  have z1 := g.z1
  have z2 := g.z2
  have l1 := g.l1
  have l2 := g.l2
  refine ⟨?_, ?_, ?_, ?_, ?_, ?_, ?_, ?_, ?_, ?_, ?_, ?_⟩
  · show (s.1 ++ (if minI p.2 s.2.2 > 0 then [(p.1, minI p.2 s.2.2)] else [])).Pairwise _
    split
    · refine List.pairwise_append.mpr ⟨g.g1, List.pairwise_singleton _ _, fun a ha b hb => ?_⟩
      rw [List.mem_singleton] at hb
      subst hb
      exact lt g.k1 a ha
    · rw [List.append_nil]
      exact g.g1
  · show (s.2.1 ++ (if p.2 > minI p.2 s.2.2 then [(p.1, p.2 - minI p.2 s.2.2)] else [])).Pairwise _
    split
    · refine List.pairwise_append.mpr ⟨g.g2, List.pairwise_singleton _ _, fun a ha b hb => ?_⟩
      rw [List.mem_singleton] at hb
      subst hb
      exact lt g.k2 a ha
    · rw [List.append_nil]
      exact g.g2
  · intro q hq
    rcases List.mem_append.mp hq with hq | hq
    · exact old (g.k1 q hq)
    · split at hq
      · rw [List.mem_singleton] at hq
        subst hq
        exact new
      · cases hq
  · intro q hq
    rcases List.mem_append.mp hq with hq | hq
    · exact old (g.k2 q hq)
    · split at hq
      · rw [List.mem_singleton] at hq
        subst hq
        exact new
      · cases hq
  · intro q hq
    rcases List.mem_append.mp hq with hq | hq
    · exact g.p1 q hq
    · split at hq
      · rw [List.mem_singleton] at hq
        subst hq
        show 1 ≤ minI p.2 s.2.2
        omega
      · cases hq
  · intro q hq
    rcases List.mem_append.mp hq with hq | hq
    · exact g.p2 q hq
    · split at hq
      · rw [List.mem_singleton] at hq
        subst hq
        show 1 ≤ p.2 - minI p.2 s.2.2
        omega
      · cases hq
  · show 0 ≤ s.2.2 - minI p.2 s.2.2
    omega
  · show sizeH (s.1 ++ _) + (s.2.2 - minI p.2 s.2.2) = m
    rw [sizeH_append]
    split
    · rw [sizeH_one]
      omega
    · rw [sizeH_nil]
      omega
  · show sizeH (s.1 ++ _) + sizeH (s.2.1 ++ _) = sizeH (done ++ [p])
    rw [sizeH_append, sizeH_append, sizeH_append, sizeH_one]
    split <;> split <;> simp only [sizeH_one, sizeH_nil] <;> omega
  · show (s.1 ++ _).length ≤ (done ++ [p]).length
    rw [List.length_append, List.length_append]
    split <;> simp <;> omega
  · show (s.2.1 ++ _).length ≤ (done ++ [p]).length
    rw [List.length_append, List.length_append]
    split <;> simp <;> omega
  · intro h0
    have h0 : 0 < s.2.2 - minI p.2 s.2.2 := h0
    have h1 : minI p.2 s.2.2 = p.2 := by
      unfold minI at h0 ⊢
      split at h0
      · omega
      · rw [if_neg (by assumption)]
    show s.2.1 ++ _ = []
    rw [g.zr (by omega), h1, if_neg (by omega)]
    rfl
theorem pgood_fold {S : List Int} {h : Hl} {m : Int} : ∀ {r done : Hl} {s : Three}, PGood S h m done s → (done ++ r).Pairwise (fun p q => p.1 < q.1) → (∀ p ∈ r, 1 ≤ p.2) → PGood S h m (done ++ r) (r.foldl pstep s)
  | [], done, s, g, _, _ => by rw [List.append_nil]; exact g
  | p :: r, done, s, g, hr, hp => by
    have e : done ++ p :: r = (done ++ [p]) ++ r := by simp
    rw [e]
    rw [e] at hr
    refine pgood_fold (g.step (hp p (List.mem_cons_self ..)) fun q hq => ?_) hr fun q hq => hp q (List.mem_cons_of_mem _ hq)
    have h1 := (List.pairwise_append.mp hr).1
    exact (List.pairwise_append.mp h1).2.2 q hq p (List.mem_singleton.mpr rfl)
theorem pgood_zero (S : List Int) (h : Hl) {m : Int} (hm : 0 ≤ m) : PGood S h m [] ([], [], m) :=
  ⟨.nil, .nil, fun _ h => (by cases h), fun _ h => (by cases h), fun _ h => (by cases h), fun _ h => (by cases h), hm, by simp [sizeH], rfl, Nat.le_refl _, Nat.le_refl _, fun _ => rfl⟩
/-- parted, as far as i -/
theorem parted_to {S : List Int} {h : Hl} (g : Good S h) {m : Int} (hm : 0 ≤ m) (i : Nat) : PGood S h m (h.take i) ((h.take i).foldl pstep ([], [], m)) := by
  have := pgood_fold (r := h.take i) (pgood_zero S h hm) (by rw [List.nil_append]; exact g.rise.sublist (List.take_sublist ..)) (fun p hp => g.pos p (List.mem_of_mem_take hp))
  simpa using this
theorem Good.parted {S : List Int} {h : Hl} (g : Good S h) {m : Int} (hm : 0 ≤ m) : Good S (partedH h m).1 ∧ Good S (partedH h m).2.1 ∧ 0 ≤ (partedH h m).2.2 ∧ sizeH (partedH h m).1 + (partedH h m).2.2 = m ∧ sizeH (partedH h m).1 + sizeH (partedH h m).2.1 = sizeH h ∧ (0 < (partedH h m).2.2 → (partedH h m).2.1 = []) := by
  have p := parted_to g hm h.length
  rw [List.take_length] at p
  exact ⟨⟨p.g1, fun q hq => by obtain ⟨r, h1, h2⟩ := p.k1 q hq; rw [← h2]; exact g.sub r h1, p.p1⟩, ⟨p.g2, fun q hq => by obtain ⟨r, h1, h2⟩ := p.k2 q hq; rw [← h2]; exact g.sub r h1, p.p2⟩, p.m0, p.z1, p.z2, p.zr⟩
theorem Good.size_nonneg {S : List Int} : ∀ {h : Hl}, Good S h → 0 ≤ sizeH h
  | [], _ => Int.le_refl _
  | p :: r, g => by
    have ih := Good.size_nonneg (h := r) ⟨(List.pairwise_cons.mp g.rise).2, fun q hq => g.sub q (List.mem_cons_of_mem _ hq), fun q hq => g.pos q (List.mem_cons_of_mem _ hq)⟩
    have := g.pos p (List.mem_cons_self ..)
    have e : sizeH (p :: r) = p.2 + sizeH r := by simp [sizeH]
    omega
/-- a three over the numbers S -/
structure GoodT (S : List Int) (t : Three) : Prop where
  left : Good S t.1
  out : Good S t.2.1
  idle : 0 ≤ t.2.2
theorem GoodT.nothing (S : List Int) : GoodT S ([], [], 0) := ⟨.nil S, .nil S, Int.le_refl _⟩
theorem GoodT.mono {S S' : List Int} {t : Three} (g : GoodT S t) (s : ∀ x ∈ S, x ∈ S') : GoodT S' t := ⟨g.left.mono s, g.out.mono s, g.idle⟩
/-- how many steps of single ones a three has -/
def stepsT (t : Three) : Int := sizeH t.1 + 2 * sizeH t.2.1 + t.2.2
theorem GoodT.behind {S : List Int} {a b : Three} (g : GoodT S a) (k : GoodT S b) : GoodT S (behindT a b) ∧ stepsT (behindT a b) = stepsT a + stepsT b := by
  obtain ⟨p1, p2, p3, p4, p5, _⟩ := g.left.parted k.idle
  obtain ⟨b1, b2⟩ := p2.both k.out
  obtain ⟨q1, q2, q3, q4, q5, q6⟩ := b1.parted k.out.size_nonneg
  obtain ⟨c1, c2⟩ := q2.both k.left
  obtain ⟨d1, d2⟩ := g.out.both p1
  obtain ⟨f1, f2⟩ := d1.both q1
  refine ⟨⟨c1, f1, ?_⟩, ?_⟩
  · show 0 ≤ a.2.2 + (partedH a.1 b.2.2).2.2
    have := g.idle
    omega
  · have n0 : 0 ≤ sizeH (partedH a.1 b.2.2).2.1 := p2.size_nonneg
    have n1 : 0 ≤ sizeH b.2.1 := k.out.size_nonneg
    have n2 : 0 ≤ sizeH (partedH (bothH (partedH a.1 b.2.2).2.1 b.2.1) (sizeH b.2.1)).2.1 := q2.size_nonneg
    show sizeH (bothH _ b.1) + 2 * sizeH (bothH (bothH a.2.1 _) _) + (a.2.2 + _) = _
    rw [c2, f2, d2]
    unfold stepsT
    have n3 : (partedH (bothH (partedH a.1 b.2.2).2.1 b.2.1) (sizeH b.2.1)).2.2 = 0 := by
      have h1 : ¬ 0 < (partedH (bothH (partedH a.1 b.2.2).2.1 b.2.1) (sizeH b.2.1)).2.2 := fun h0 => by
        have e := q6 h0
        rw [e, sizeH_nil] at q5
        omega
      omega
    omega
end Lo
set_option Elab.async false
set_option linter.all false
set_option maxRecDepth 100000
set_option maxHeartbeats 4000000
/-! size_of, parted -/
namespace Lo
open PySem PySem.Spec PyProof.Rows L2

def encP (p : Int × Int) : PyData := .tuple [.int p.1, .int p.2]
def encH (h : Hl) : PyData := .tuple (h.map encP)
def encT (t : Three) : PyData := .tuple [encH t.1, encH t.2.1, .int t.2.2]
def snd2 : PyData → PyData
  | .tuple [_, c] => c
  | d => d
def fst2 : PyData → PyData
  | .tuple [c, _] => c
  | d => d
theorem snd2_encP (h : Hl) : (h.map encP).map snd2 = (h.map (·.2)).map PyData.int := by
  rw [List.map_map, List.map_map]
  rfl
theorem fst2_encP (h : Hl) : (h.map encP).map fst2 = (h.map (·.1)).map PyData.int := by
  rw [List.map_map, List.map_map]
  rfl
theorem filter_yes {α : Type} (l : List α) : l.filter (fun _ => true) = l := by simp
abbrev sSize : Stmt := top 20
abbrev sParted : Stmt := top 21
/-- size_of -/
def rSize (ds : List PyData) (d : PyData) : Prop := ∃ h : Hl, ds = [encH h] ∧ h.length ≤ sizeLine ∧ d = .int (sizeH h)
def rParted (ds : List PyData) (d : PyData) : Prop := ∃ (h : Hl) (m : Int), ds = [encH h, .int m] ∧ (∃ S, Good S h) ∧ 0 ≤ m ∧ h.length ≤ 2000001 ∧ d = encT (partedH h m)

section
variable {P : Program} {w : World} {K : PySem.W.Frag} {mg : Str → Option Value} {base : Heap} {f : Addr} {fd : FuncData}
theorem spD_len {rel : List PyData → PyData → Prop} {n : Nat} (h : ∀ ds d, rel ds d → ds.length = n) : ∀ (vs : List V) (H : Hp) (Q : VK) (E : XK), spD K rel vs H Q E → vs.length = n := fun vs H Q E ⟨ds, d, hv, r, _⟩ => by
  rw [hv.length]
  exact h ds d r
theorem spLs_len {rel : List PyData → List PyData → Prop} {n : Nat} (h : ∀ ds d, rel ds d → ds.length = n) : ∀ (vs : List V) (H : Hp) (Q : VK) (E : XK), spLs K rel vs H Q E → vs.length = n := fun vs H Q E ⟨ds, d, hv, r, _⟩ => by
  rw [hv.length]
  exact h ds d r
theorem scSize : FnScope ["heap", "number", "count"] ["heap"] (defScope sSize) := ⟨rfl, rfl, rfl, by decide +kernel, rfl, by decide +kernel, by decide +kernel⟩
theorem ok_size (F : Fun K "size_of" "size_of" sSize f fd) (T : Txt K mg) : FnOk P w K mg base CX0 1 f fd ["heap"] (spD K rSize) := by
  refine F.ok scSize (spD_len fun ds d ⟨h, e, _⟩ => by rw [e]; rfl) (fun cdv A outer s H vs Q E hr h => ?_)
  obtain ⟨ds, d, hvs, ⟨h, rfl, hl, rfl⟩, q⟩ := h
  obtain ⟨v, rfl, hv⟩ := one_inv hvs
  refine ⟨_, pss_one (ps_ret (pe_callB (cr_sum rfl) (by rfl) T.zSum (by decide +kernel) (pa_cons (pe_lc (own := [("number", 1), ("count", 2)]) (g := gTup K 2 (gCons (gName 1) (gCons (gName 2) gNil))) (tt := tYes) rfl scSize.nd
    (pi_tup (pv 0)) (blkOk_by (N := ["heap", "number", "count"]) (sc := defScope sSize) (by decide +kernel))
    (fun _ _ _ _ _ => pg_tup rfl (pgs_cons (pg_name (i := 1) scSize.nd rfl (Or.inl rfl)) (pgs_cons (pg_name (i := 2) scSize.nd rfl (Or.inl rfl)) pgs_nil))) (fun _ _ _ _ _ => pts_nil) (fun _ _ _ _ _ => pv 2)) pa_nil))), ?_⟩
  refine sd_ret (K := K) (evd_sumL (ns := h.map Prod.snd) ?_) fun v H2 s2 h2 => q v H2 s2 h2
  have e := snd2_encP h
  rw [← filter_yes (h.map encP)] at e
  rw [← e]
  refine evl_lcT (by rw [List.length_map]; exact hl) (evd_var rfl hv) (fun _ => true) snd2 fun d hd x H' s' hx => ?_
  obtain ⟨p, _, rfl⟩ := List.mem_map.mp hd
  obtain ⟨a, b, ha, hb, hg⟩ := pair_names (i := 1) (j := 2) hx
  exact ⟨_, hg, rfl, fun H1 s1 Q q => q H1 (Same.refl H1), fun _ => evd_var rfl hb⟩

theorem scParted : FnScope ["heap", "many", "out", "rest", "number", "count", "here"] ["heap", "many"] (defScope sParted) := ⟨rfl, rfl, rfl, by decide +kernel, rfl, by decide +kernel, by decide +kernel⟩
theorem if_pair {b : Bool} {p : Int × Int} {c : Prop} [Decidable c] (e : b = decide c) : (if b = true then [encP p] else []) = (if c then [p] else []).map encP := by
  subst e
  by_cases h : c
  · simp [h]
  · simp [h]
theorem ok_parted (F : Fun K "parted" "parted" sParted f fd) (T : Txt K mg) : FnOk P w K mg base CX0 1 f fd ["heap", "many"] (spD K rParted) := by
  refine F.ok scParted (spD_len fun ds d ⟨h, m, e, _⟩ => by rw [e]; rfl) (fun cdv A outer s H vs Q E hr h => ?_)
  obtain ⟨ds, d, hv, ⟨h, m, rfl, ⟨S, hg⟩, hm, hl, rfl⟩, q⟩ := h
  obtain ⟨vh, vm, rfl, hvh, hvm⟩ := two_inv hv
  obtain rfl := hvm.int_inv
  obtain ⟨a, ys, rfl, hS, hA⟩ := hvh.tup_inv
  refine ⟨_, pss_cons (ps_par (i := 2) (j := 3) rfl scParted.nd rfl rfl (by decide) rfl rfl (pa_cons (pe_lst pa_nil) (pa_cons (pe_lst pa_nil) pa_nil)) (by rfl))
    (pss_cons (ps_for PassesOwn.never rfl (pi_tup (pv 0)) (pg_tup rfl (pgs_cons (pg_name (i := 4) scParted.nd rfl (Or.inl rfl)) (pgs_cons (pg_name (i := 5) scParted.nd rfl (Or.inl rfl)) pgs_nil)))
      (pss_cons (ps_set (i := 6) scParted.nd rfl (Or.inl rfl) (pe_callB (call_min2 rfl) (by rfl) T.zMin (by decide +kernel) (pa_cons (pv 5) (pa_cons (pv 1) pa_nil))))
      (pss_cons (ps_aug (i := 1) scParted.nd rfl (Or.inl rfl) (pv 6) ip_sub)
      (pss_cons (ps_expr (pe_bm PySem.F.plainAttrs_list PySem.F.slot_list_extend PySem.F.type_list_extend mt_extend (pv 2) (pa_cons (pe_op op_rep (pe_lst (pa_cons (pe_tupP (pa_cons (pv 4) (pa_cons (pv 6) pa_nil))) pa_nil)) (pe_callTy call_int1 (by rfl) T.zInt (by decide +kernel) (pa_cons (pe_cmpR op_gt (pv 6) pe_int (nomark _)) pa_nil))) pa_nil)))
      (pss_one (ps_expr (pe_bm PySem.F.plainAttrs_list PySem.F.slot_list_extend PySem.F.type_list_extend mt_extend (pv 3) (pa_cons (pe_op op_rep (pe_lst (pa_cons (pe_tupP (pa_cons (pv 4) (pa_cons (pe_op op_sub (pv 5) (pv 6)) pa_nil))) pa_nil)) (pe_callTy call_int1 (by rfl) T.zInt (by decide +kernel) (pa_cons (pe_cmpR op_gt (pv 5) (pv 6) (nomark _)) pa_nil))) pa_nil))))))))
    (pss_one (ps_ret (pe_tupP (pa_cons (pe_callTy cr_tupleP (by rfl) T.zTuple (by decide +kernel) (pa_cons (pv 2) pa_nil)) (pa_cons (pe_callTy cr_tupleP (by rfl) T.zTuple (by decide +kernel) (pa_cons (pv 3) pa_nil)) (pa_cons (pv 1) pa_nil))))))), ?_⟩
  refine ⟨Nat.zero_le _, fun lo hlo => ⟨Nat.zero_le _, fun lr hlr => ?_⟩⟩
  have ne : lo ≠ lr := ne_of_none upd_same hlr
  have hlr0 : H lr = none := by
    rw [upd_ne ne.symm] at hlr
    exact hlr
  refine ⟨_, _, rfl, ?_⟩
  refine st_for (K := K) (H := H) (ds := h.map encP) (v := .ref a) rfl (.tup hS hA) (SameT.of ((same_new hlo _).trans (same_new hlr _))) (fun i σ H' => ∃ (xo xr : List V) (m' : Int) (u1 u2 u3 : Option V), σ = [some (.ref a), some (.int m'), some (.ref lo), some (.ref lr), u1, u2, u3] ∧ Same H H' ∧
      H' lo = some (.lst xo) ∧ H' lr = some (.lst xr) ∧ TpAll K H' xo (((h.take i).foldl pstep ([], [], m)).1.map encP) ∧ TpAll K H' xr (((h.take i).foldl pstep ([], [], m)).2.1.map encP) ∧ m' = ((h.take i).foldl pstep ([], [], m)).2.2) ?_ (fun _ _ _ ⟨_, _, _, _, _, _, _, s', _⟩ => .of s') ?_ ?_
  · exact ⟨[], [], m, none, none, none, rfl, (same_new hlo _).trans (same_new hlr _), by rw [upd_ne ne]; exact upd_same, upd_same, .nil, .nil, rfl⟩
  · rintro i d x σ H' hd hx ⟨xo, xr, m', u1, u2, u3, rfl, s', h1, h2, t1, t2, em⟩
    obtain ⟨p, hp, rfl⟩ := map_at hd
    obtain ⟨b, c, hb, hc, hgo⟩ := pair_names (i := 4) (j := 5) hx
    obtain rfl := hb.int_inv
    obtain rfl := hc.int_inv
    have hpl : i < h.length := (List.getElem?_eq_some_iff.mp hp).1
    have PG := parted_to hg hm i
    have L1 : xo.length ≤ 2000001 := by rw [t1.length, List.length_map]; exact Nat.le_trans PG.l1 (by rw [List.length_take]; omega)
    have L2' : xr.length ≤ 2000001 := by rw [t2.length, List.length_map]; exact Nat.le_trans PG.l2 (by rw [List.length_take]; omega)
    refine hgo _ ?_
    -- here
    refine sd_seq (sd_set (K := K) (evd_cb (eva_cons (evd_var rfl hc) (eva_cons (evd_var rfl (.int m')) eva_nil)) cbd_min2) fun v H2 s2 hv2 => ?_)
    obtain rfl := hv2.int_inv
    -- many -= here
    refine sd_seq (sd_aug (K := K) rfl (evd_var rfl (.int _)) fun H2b s2b => ?_)
    have s2 := s2.trans s2b
    -- out.extend
    have one1 : ∀ {σ : L2.St} {H3 : Hp} (e4 : σ[4]? = some (some (.int p.1))) (e6 : σ[6]? = some (some (.int (minI p.2 m')))), EvLs K (tLst (tCons (tTupP (tCons (tVar 4) (tCons (tVar 6) tNil))) tNil)) σ H3 [encP (p.1, minI p.2 m')] :=
      fun e4 e6 => evl_lst (eva_cons (evd_tup (eva_cons (evd_var e4 (.int _)) (eva_cons (evd_var e6 (.int _)) eva_nil))) eva_nil)
    have one2 : ∀ {σ : L2.St} {H3 : Hp} (e4 : σ[4]? = some (some (.int p.1))) (e5 : σ[5]? = some (some (.int p.2))) (e6 : σ[6]? = some (some (.int (minI p.2 m')))), EvLs K (tLst (tCons (tTupP (tCons (tVar 4) (tCons (tOp (rI0 fun i j => .int (i - j)) (tVar 5) (tVar 6)) tNil))) tNil)) σ H3 [encP (p.1, p.2 - minI p.2 m')] :=
      fun e4 e5 e6 => evl_lst (eva_cons (evd_tup (eva_cons (evd_var e4 (.int _)) (eva_cons (evd_op (evd_var e5 (.int _)) (evd_var e6 (.int _)) (opd_I0 (.int _))) eva_nil))) eva_nil)
    refine sd_seq (st_ext (K := K) (i := 2) (l := lo) (xs := xo) rfl (s2 _ _ h1) (evl_rep (b := decide (minI p.2 m' > 0)) (one1 rfl rfl) (fun H3 s3 => evd_cb (eva_cons (evd_op (evd_var (v := .int (minI p.2 m')) rfl (.int _)) evd_int (opd_I0 (.bl _))) eva_nil) cbd_intB) (by simp)) ?_ fun zs H3 s3 hz => ?_)
    · refine small_add (by omega) ?_
      split <;> simp
    have h2' : upd H3 lo (.lst (xo ++ zs)) lr = some (.lst xr) := by
      rw [upd_ne ne.symm]
      exact s3 _ _ (s2 _ _ h2)
    have sA : SameT H' (upd H3 lo (.lst (xo ++ zs))) := ((SameT.of s2).trans (SameT.of s3)).updL (s3 _ _ (s2 _ _ h1))
    have sB : SameT H3 (upd H3 lo (.lst (xo ++ zs))) := SameT.updL (.refl _) (s3 _ _ (s2 _ _ h1))
    refine st_ext (K := K) (i := 3) (l := lr) (xs := xr) rfl h2' (evl_rep (b := decide (p.2 > minI p.2 m')) (one2 rfl rfl rfl) (fun H4 s4 => evd_cb (eva_cons (evd_op (evd_var (v := .int p.2) rfl (.int _)) (evd_var (v := .int (minI p.2 m')) rfl (.int _)) (opd_I0 (.bl _))) eva_nil) cbd_intB) (by simp)) ?_ fun ws H4 s4 hw => ?_
    · refine small_add (by omega) ?_
      split <;> simp
    have sC : SameT H3 (upd H4 lr (.lst (xr ++ ws))) := (sB.trans (SameT.of s4)).updL (s4 _ _ h2')
    have sD : SameT H' (upd H4 lr (.lst (xr ++ ws))) := (sA.trans (SameT.of s4)).updL (s4 _ _ h2')
    have fm := fold_more pstep ([], [], m) hp
    refine ⟨xo ++ zs, xr ++ ws, m' - minI p.2 m', some (.int p.1), some (.int p.2), some (.int (minI p.2 m')), rfl, ?_, ?_, upd_same, ?_, ?_, ?_⟩
    · exact same_mut ((same_mut ((s'.trans s2).trans s3) hlo _).trans s4) hlr0 _
    · rw [upd_ne ne]
      exact s4 _ _ upd_same
    · rw [fm]
      show TpAll K _ (xo ++ zs) ((_ ++ _ : Hl).map encP)
      rw [List.map_append, ← em, ← if_pair rfl]
      exact (t1.mono sD).append (hz.mono sC)
    · rw [fm]
      show TpAll K _ (xr ++ ws) ((_ ++ _ : Hl).map encP)
      rw [List.map_append, ← em, ← if_pair rfl]
      exact (t2.mono sD).append (hw.mono (SameT.updL (.refl _) (s4 _ _ h2')))
    · rw [fm, em]
      rfl
  · rintro σ H' ⟨xo, xr, m', u1, u2, u3, rfl, s', h1, h2, t1, t2, em⟩
    rw [List.length_map, List.take_length] at t1 t2 em
    exact sd_ret (K := K) (evd_tup (eva_cons (evd_tupV rfl h1 t1) (eva_cons (evd_tupV rfl h2 t2) (eva_cons (evd_var rfl (by rw [em]; exact .int _)) eva_nil)))) fun v H2 s2 hv2 => q v H2 (s'.trans s2) hv2
end
end Lo
set_option Elab.async false
set_option linter.all false
set_option maxRecDepth 100000
set_option maxHeartbeats 2000000
/-! dict(a tuple of pairs), d.items() as a value, sorted(..) of it, of a tuple of data -/
namespace Lo
open PySem PySem.Spec PyProof.Rows L2

/-! ### dict(t) -/
section
variable {X : Cx} {pins : List (Addr × Obj)} {σ : L2.St} {H : Hp} {s : Shared}
theorem PlT.raw {a : Addr} {xs : List V} (I : Inv X pins σ H s) (h : PlT X.K H a xs) : ∃ its : List Value, Vals xs its ∧ PlainSeq "tuple" s.heap a its.toArray ∧ xs.length ≤ sizeLine := by
  rcases h with ⟨o, h, hd⟩ | ⟨o, its, n, h1, h2, hd, h3, h4, h5⟩
  · obtain ⟨e, z, its, r, o', e', hc, n, hdat⟩ := (show ObjOk X.prog X.w H s.heap a (.frz o (.tup xs)) from I.hok a _ h)
    rw [e] at e'
    cases e'
    exact ⟨its, r, ⟨o, n, e, hc, hd, hdat⟩, z⟩
  · refine ⟨its.toList, h5, ⟨o, n, I.kIn a o h1, h2, hd, by rw [Array.toArray_toList]; exact h3⟩, ?_⟩
    rw [h5.length, Array.length_toList]
    exact h4
theorem rel_key {k : Key} {u : Value} (h : RelV (kV k) u) : keyIs k u = true := by
  cases k with
  | inl i =>
    obtain ⟨t, rfl⟩ := h
    exact keyIs_int i t
  | inr x =>
    obtain ⟨t, rfl⟩ := h
    exact keyIs_str x t
theorem pairs_raw (I : Inv X pins σ H s) : ∀ {ps : List Addr} {kvs : List (Key × V)}, Paired (fun p kv => SqT X.K H p [kV kv.1, kv.2]) ps kvs →
    ∃ (prs : List (Key × Value)) (vps : List (Value × Value)), KV kvs prs ∧ prs.length = ps.length ∧ vps.length = ps.length ∧
      ∀ (j : Nat) (k v : Value), vps[j]? = some (k, v) → ∃ (b : Addr) (q : Key), ps[j]? = some b ∧ prs[j]? = some (q, v) ∧ keyIs q k = true ∧ IsTup s.heap b #[k, v]
  | _, _, .nil => ⟨[], [], .nil, rfl, rfl, fun j k v e => by simp at e⟩
  | _, _, .cons (a := p) (b := kv) h t => by
    obtain ⟨prs, vps, r, l1, l2, hp⟩ := pairs_raw I t
    obtain ⟨its, rv, ht, _⟩ := I.tuple h
    obtain ⟨u, y, rfl, ru, ry⟩ := vals2 rv
    refine ⟨(kv.1, y) :: prs, (u, y) :: vps, .cons ⟨rfl, ry⟩ r, by rw [List.length_cons, List.length_cons, l1], by rw [List.length_cons, List.length_cons, l2], fun j k v e => ?_⟩
    cases j with
    | zero =>
      have e' : (u, y) = (k, v) := Option.some.inj e
      cases e'
      exact ⟨p, kv.1, rfl, rfl, rel_key ru, ht⟩
    | succ j =>
      obtain ⟨b, q, e1, e2, e3⟩ := hp j k v (by simpa using e)
      exact ⟨b, q, by simpa using e1, by simpa using e2, e3⟩
def rDictP (K : PySem.W.Frag) : List V → Hp → VK → Prop := fun xs H Q => ∃ (a : Addr) (ps : List Addr) (kvs : List (Key × V)), xs = [.ref a] ∧ PlT K H a (ps.map V.ref) ∧ Paired (fun p kv => SqT K H p [kV kv.1, kv.2]) ps kvs ∧
  ∀ p, H p = none → Q (.ref p) (upd H p (.dK (mergeK [] kvs)))
theorem cr_dictP (hcalm : X.calm = true) : CallR X (.type "dict") (rDictP X.K) := by
  intro pins s σ H xs us Q I r q
  obtain ⟨a, ps, kvs, rfl, hq, hp, q⟩ := q
  obtain ⟨u, rfl, rx⟩ := vals1 r
  cases rx
  obtain ⟨its, rv, pl, hz⟩ := hq.raw I
  obtain rfl := refs_at rv
  rw [List.length_map] at hz
  obtain ⟨prs, vps, rel, l1, l2, hpr⟩ := pairs_raw I hp
  refine PySem.call_dict_pairs (knd := mixKind X.prog X.w) (kvs := prs) (PairArg.tuple a (ps.map Value.ref).toArray (fun j => ps.getD j 0) vps) (I.ok.hd hcalm) ⟨pl, by simp [l2], fun j k v e => ?_⟩ ⟨by rw [l1, l2], fun j k v e => ?_⟩ (by rw [l2]; exact hz) fun h' tk hd' k => ?_
  · obtain ⟨b, q', e1, e2, e3, e4⟩ := hpr j k v e
    refine ⟨?_, .inl ?_⟩
    · simp [e1]
    · have eb : ps.getD j 0 = b := by rw [List.getD_eq_getElem?_getD, e1]; rfl
      show IsTup s.heap (ps.getD j 0) #[k, v]
      rw [eb]
      exact e4
  · obtain ⟨b, q', e1, e2, e3, e4⟩ := hpr j k v e
    exact ⟨q', e2, e3⟩
  · have hm : (s.heap.objs.size == sysModules) = false := beq_eq_false_iff_ne.mpr (Nat.ne_of_gt I.big)
    have kp : ∀ b o, s.heap.get? b = some o → h'.get? b = some o := fun b o e => k b o (by simp) e
    have hlen : (mergeK [] kvs).length ≤ sizeLine := by
      refine Nat.le_trans (length_mergeK kvs []) ?_
      rw [List.length_nil, Nat.zero_add, rel.length, l1]
      exact hz
    exact ⟨.ref s.heap.objs.size, upd H s.heap.objs.size (.dK (mergeK [] kvs)), I.laid (t' := tk) kp (Nat.le_refl _) ⟨hlen, hm, merged [] prs, KV.merge rel .nil, hd'⟩, rfl, q _ (I.hok.fresh (Nat.le_refl _))⟩
end

/-! ### d.items() -/
section
variable {X : Cx}
def rItemsK : V → List V → Hp → VK → Prop := fun x xs H Q => ∃ (a : Addr) (kvs : List (Key × V)), x = .ref a ∧ xs = [] ∧ H a = some (.dK kvs) ∧ ∀ p, H p = none → Q (.ref p) (upd H p (DX.itemsO p a))
theorem mt_itemsK : MtR X "dict.items" rItemsK := by
  intro pins s σ H x xs v us Q I rx rxs h
  obtain ⟨a, kvs, rfl, rfl, ha, q⟩ := h
  cases rx
  cases rxs
  obtain ⟨z, hd, vs, rel, dd⟩ := dk_of I.hok ha
  obtain ⟨es, ep, hraw, _⟩ := dd.raw
  refine DT.callItems (es := es) (ep := ep) hd hraw ?_
  have hf : H s.heap.objs.size = none := I.hok.fresh (Nat.le_refl _)
  exact ⟨.ref s.heap.objs.size, upd H s.heap.objs.size (DX.itemsO s.heap.objs.size a), I.laid (t' := s.toks) (fun b u e => Heap.get?_push_of_some _ e) (Nat.le_refl _) (DX.itemsO_ok (Heap.get?_push_size _ rfl)), rfl, q _ hf⟩
end

/-! ### list.sort of a new list of data -/
section
open PySem.W PySem.Calls
variable {prog : Program} {w : World} {A : Around} {E : Value → Shared → Prop} {s : Shared} {β : Type}
theorem eachIs_map (val : β → Value) : ∀ bs : List β, EachIs (fun v b => v = val b) (bs.map val) bs
  | [] => .nil
  | b :: bs => .cons rfl (eachIs_map val bs)
theorem eachIs_map_inv {val : β → Value} : ∀ {vs : List Value} {bs : List β}, EachIs (fun v b => v = val b) vs bs → vs = bs.map val
  | _, _, .nil => rfl
  | _, _, .cons h t => by
    rw [h, eachIs_map_inv t]
    rfl
theorem eachIs_reads {h : Heap} {enc : β → PyData} {D : Addr} (val : β → Value) : ∀ bs : List β, (∀ b ∈ bs, Reads h (val b) (enc b) []) → EachIs (fun v b => ∃ as, Reads h v (enc b) as ∧ D ∉ as) (bs.map val) bs
  | [], _ => .nil
  | b :: bs, r => .cons ⟨[], r b (List.mem_cons_self ..), by simp⟩ (eachIs_reads val bs fun c hc => r c (List.mem_cons_of_mem _ hc))
theorem sort_new {h' : Heap} {tk : Nat} {bs : List β} (val : β → Value) (enc : β → PyData) {Q : Value → Shared → Prop} (er : ∀ b ∈ bs, Reads h' (val b) (enc b) []) (hal : AllAlike (bs.map enc)) (hk : Sortable (bs.map enc)) (hL : bs.length ≤ sizeLine)
    (hu : ∀ b ∈ bs, A.units + 2 + (enc b).depth < cLine)
    (h : ∀ h3 e, (∀ b o, h'.get? b = some o → h3.get? b = some o) → h3.get? h'.objs.size = some (seqObj "list" ((bs.mergeSort (dataLe false enc)).map val).toArray e) → Q (.ref h'.objs.size) { s with heap := h3, toks := tk }) :
    wpAny (model prog w) A.in1 (call (.builtin "list.sort") [.ref h'.objs.size]) (fun _ s' => Q (.ref h'.objs.size) s') E { s with heap := h'.push { cls := .type "list", data := .seq (bs.map val).toArray }, toks := tk } := by
  have ho : (h'.push { cls := .type "list", data := .seq (bs.map val).toArray }).get? h'.objs.size = some (seqObj "list" (bs.map val).toArray 0) := Heap.get?_push_size _ rfl
  refine list_sort_data (s := { s with heap := h'.push { cls := .type "list", data := .seq (bs.map val).toArray }, toks := tk }) (bs := bs) (enc := enc) (R := fun v b => v = val b) ho (eachIs_map val bs) (eachIs_reads val bs fun b hb => PyProof.Rows.Reads.keeps (fun _ _ e => Heap.get?_push_of_some _ e) (er b hb)) hal hk hL
    (fun b hb => by have := hu b hb; show A.units + 1 + 1 + _ < cLine; omega) fun out ho' eo => ?_
  obtain rfl := eachIs_map_inv eo
  obtain ⟨e, he⟩ := sortedHeap_at (out := List.toArray ((bs.mergeSort (dataLe false enc)).map val)) ho
  exact h _ e (fun b o eb => (sortedHeap_old (Nat.ne_of_lt (Heap.lt_size eb)) (Heap.lt_size (Heap.get?_push_of_some _ eb))).trans (Heap.get?_push_of_some _ eb)) he
end

/-! ### new pairs taken into what is known -/
section
variable {X : Cx} {pins : List (Addr × Obj)} {σ : L2.St} {H : Hp} {s : Shared} {h' : Heap} {tk : Nat}
theorem lay_pairs (I0 : Inv X pins σ H s) : ∀ (L : List (Addr × Int × Int)) (H1 : Hp), Inv X pins σ H1 { s with heap := h', toks := tk } → (L.map (·.1)).Nodup →
    (∀ p ∈ L, s.heap.objs.size ≤ p.1 ∧ H1 p.1 = none ∧ ∃ t1 t2, h'.get? p.1 = some (tupO [.int p.2.1 t1, .int p.2.2 t2])) →
    ∃ H2, Inv X pins σ H2 { s with heap := h', toks := tk } ∧ Same H1 H2 ∧ TpAll X.K H2 (L.map fun p => V.ref p.1) (L.map fun p => .tuple [.int p.2.1, .int p.2.2])
  | [], H1, I1, _, _ => ⟨H1, I1, Same.refl H1, .nil⟩
  | p :: L, H1, I1, hn, h => by
    obtain ⟨hb, hnone, t1, t2, e⟩ := h p (List.mem_cons_self ..)
    have I2 : Inv X pins σ (newT p.1 (tupO [.int p.2.1 t1, .int p.2.2 t2]) [.int p.2.1, .int p.2.2] H1) { s with heap := h', toks := tk } :=
      I1.take (h' := h') (t' := tk) (fun b ob _ q => q) (I0.fpOk hb hnone) ⟨e, by show 2 ≤ sizeLine; decide, [.int p.2.1 t1, .int p.2.2 t2], .cons ⟨t1, rfl⟩ (.cons ⟨t2, rfl⟩ .nil), ⟨_, e, rfl, _, rfl⟩⟩
    rw [List.map_cons, List.nodup_cons] at hn
    obtain ⟨H2, I3, g, q⟩ := lay_pairs I0 L _ I2 hn.2 fun c hc => by
      obtain ⟨c1, c2, c3⟩ := h c (List.mem_cons_of_mem _ hc)
      refine ⟨c1, ?_, c3⟩
      show upd H1 p.1 _ c.1 = none
      rw [upd_ne (fun z => hn.1 (by rw [← z]; exact List.mem_map.mpr ⟨c, hc, rfl⟩))]
      exact c2
    exact ⟨H2, I3, (same_new hnone _).trans g, .cons (Tp.same g (.tup (.new rfl) (.cons (.int _) (.cons (.int _) .nil)))) q⟩
end

/-! ### sorted(d.items()), d a dict of numbers -/
def kvI (d : Hl) : List (Key × V) := d.map fun p => (Sum.inl p.1, V.int p.2)
def rSortItK (K : PySem.W.Frag) : List V → Hp → VK → Prop := fun xs H Q => ∃ (p a : Addr) (d : Hl), xs = [.ref p] ∧ H p = some (DX.itemsO p a) ∧ H a = some (.dK (kvI d)) ∧
  ∀ l ys H', H l = none → Same H H' → H' l = some (.lst ys) → TpAll K H' ys ((sortH d).map fun p => .tuple [.int p.1, .int p.2]) → Q (.ref l) H'
theorem kv_at {d : Hl} {vs : List (Key × Value)} (r : KV (kvI d) vs) {j : Nat} {p : Int × Int} (h : d[j]? = some p) : ∃ t, vs[j]? = some (Sum.inl p.1, Value.int p.2 t) := by
  induction d generalizing j vs with
  | nil => simp at h
  | cons q d ih =>
    cases vs with
    | nil => cases r
    | cons b vs =>
      obtain ⟨b1, b2⟩ := b
      have h2 : KV (kvI d) vs := by
        cases r with
        | cons _ h2 => exact h2
      have h1 : Sum.inl q.1 = b1 ∧ RelV (.int q.2) b2 := by
        cases r with
        | cons h1 _ => exact h1
      cases j with
      | zero =>
        simp at h
        subst h
        obtain ⟨e1, t, e2⟩ := h1
        exact ⟨t, by rw [← e1, e2]; rfl⟩
      | succ j =>
        obtain ⟨t, e⟩ := ih h2 (by simpa using h)
        exact ⟨t, by simpa using e⟩
theorem kvI_len {d : Hl} : (kvI d).length = d.length := by unfold kvI; rw [List.length_map]
section
variable {X : Cx}
theorem cr_sortItK (hc : X.calm = true) (hu : X.A.units + 64 < cLine) : CallR X (.builtin "sorted") (rSortItK X.K) := by
  intro pins s σ H xs us Q I r h
  obtain ⟨p, a, d, rfl, hp, ha, q⟩ := h
  obtain rfl := Vals.ref1 r
  have view : s.heap.IsItemsView p a := (show ObjOk X.prog X.w H s.heap p (DX.itemsO p a) from I.hok p _ hp).1
  obtain ⟨z, hd, vs, rel, dd⟩ := dk_of I.hok ha
  rw [kvI_len] at z
  obtain ⟨es, ep, hraw, hsz, hes⟩ := dd.raw
  have lv : d.length = vs.length := by rw [← kvI_len]; exact Paired.length rel
  have hh : X.A.handled = none := I.ok.hd hc
  refine DT.sortedI (es := es) (ep := ep) hh view hraw (by omega) fun h' tk as hk hlt hl hG => ?_
  have lak : as.length = d.length := by omega
  have nd : as.Nodup := List.Pairwise.imp (fun h => Nat.ne_of_lt h) hG.rise
  have pr : ∀ b ∈ as.zip d, ∃ t1 t2, h'.get? b.1 = some (tupO [.int b.2.1 t1, .int b.2.2 t2]) := by
    intro b hb
    obtain ⟨j, hj⟩ := List.mem_iff_getElem?.mp hb
    obtain ⟨h1, h2⟩ := List.getElem?_zip_eq_some.mp hj
    obtain ⟨en, he, hg⟩ := hG.pairs j b.1 h1
    obtain ⟨t2, e2⟩ := kv_at rel h2
    have hje : j < es.size := by
      have := (List.getElem?_eq_some_iff.mp h2).1
      omega
    obtain ⟨k1, k2⟩ := hes j hje _ _ e2
    rw [Array.getElem?_eq_getElem hje] at he
    cases he
    rcases keyIs_shape (show keyIs (Sum.inl b.2.1) es[j].key = true from k1) with ⟨i, t, ei, ek⟩ | ⟨x, t, ei, ek⟩
    · cases ei
      exact ⟨t, t2, by rw [hg, ek, k2]⟩
    · cases ei
  have hv : as.map Value.ref = (as.zip d).map fun b => Value.ref b.1 := by
    have := List.map_fst_zip (l₁ := as) (l₂ := d) (by omega)
    conv => lhs; rw [← this]
    rw [List.map_map]
    rfl
  rw [hv]
  refine sort_new (A := X.A) (bs := as.zip d) (fun b => Value.ref b.1) (fun b => .tuple [.int b.2.1, .int b.2.2]) (fun b hb => ?_) (PySem.W.AllAlike.of fun b b' => ?_) (PySem.W.Sortable.tuples fun b => ⟨_, _, rfl⟩) ?_ (fun b hb => ?_) fun h3 e keep hD => ?_
  · obtain ⟨t1, t2, hg⟩ := pr b hb
    exact Reads.tuple (as := [] ++ ([] ++ [])) hg rfl rfl (.cons (.int _ _) (.cons (.int _ _) .nil))
  · simp [PySem.W.alike, PySem.W.alikeAll]
  · rw [List.length_zip]
    omega
  · have : (PyData.tuple [.int b.2.1, .int b.2.2]).depth = 1 := by simp [PyData.depth, PyData.depthAll]
    omega
  · have hD0 : H h'.objs.size = none := I.hok.fresh (Nat.le_of_lt hlt)
    have kS : ∀ b o, s.heap.get? b = some o → h3.get? b = some o := fun b o e => keep b o (hk b o e)
    have I1 : Inv X pins σ H { s with heap := h3, toks := tk } := I.kept (t' := tk) kS
    have pm : ((as.zip d).mergeSort (PySem.W.dataLe false fun b => PyData.tuple [.int b.2.1, .int b.2.2])).Perm (as.zip d) := List.mergeSort_perm _ _
    generalize hcs : (as.zip d).mergeSort (PySem.W.dataLe false fun b => PyData.tuple [.int b.2.1, .int b.2.2]) = cs at pm hD
    have hlen : (cs.map fun b => V.ref b.1).length ≤ sizeLine := by
      rw [List.length_map, pm.length_eq, List.length_zip]
      omega
    have rv : Vals (cs.map fun b => V.ref b.1) (cs.map fun b => Value.ref b.1) := by
      clear hcs hD hlen pm
      induction cs with
      | nil => exact .nil
      | cons b cs ih => exact .cons rfl ih
    have I2 : Inv X pins σ (upd H h'.objs.size (.lst (cs.map fun b => V.ref b.1))) { s with heap := h3, toks := tk } :=
      I1.take (h' := h3) (t' := tk) (fun b ob _ e => e) (I.fpOk (Nat.le_of_lt hlt) hD0) ⟨hlen, _, e, rv, hD⟩
    obtain ⟨H2, I3, g, qt⟩ := lay_pairs (h' := h3) (tk := tk) I cs _ I2 (by
        have := (pm.map (·.1)).nodup_iff.mpr (by rw [List.map_fst_zip (by omega)]; exact nd)
        exact this) fun b hb => by
      have hb' := pm.mem_iff.mp hb
      have hba : b.1 ∈ as := (List.of_mem_zip hb').1
      obtain ⟨t1, t2, hg⟩ := pr b hb'
      have hab := hG.above _ hba
      refine ⟨Nat.le_of_lt hab, ?_, t1, t2, keep _ _ hg⟩
      rw [upd_ne (Nat.ne_of_lt (Heap.lt_size hg))]
      exact I.hok.fresh (Nat.le_of_lt hab)
    refine ⟨.ref h'.objs.size, H2, I3, rfl, q _ _ H2 hD0 ((same_new hD0 _).trans g) (g _ _ upd_same) ?_⟩
    have e2 : cs.map (fun p => PyData.tuple [.int p.2.1, .int p.2.2]) = (sortH d).map fun p => PyData.tuple [.int p.1, .int p.2] := by
      have m1 : cs.map (·.2) = sortH d := by
        rw [← hcs, PySem.W.dataLe_ii]
        have m := PySem.W.sort_maps (r := fun p q : Addr × Int × Int => decide (p.2.1 < q.2.1 ∨ (p.2.1 = q.2.1 ∧ p.2.2 ≤ q.2.2))) (s := leP) (fun b : Addr × Int × Int => b.2) (l := as.zip d) (fun _ _ _ _ => rfl)
        rw [m, List.map_snd_zip (by omega)]
        rfl
      rw [← m1, List.map_map]
      rfl
    rw [← e2]
    exact qt
end
end Lo
set_option Elab.async false
set_option linter.all false
set_option maxRecDepth 100000
set_option maxHeartbeats 2000000
/-! sorted(a list or tuple of data), comprehensions over d.items() -/
namespace Lo
open PySem PySem.Spec PySem.Calls PyProof.Rows L2
section
variable {X : Cx} {pins : List (Addr × Obj)} {σ : L2.St} {H : Hp} {s : Shared}
mutual
theorem Tp.reads0 (I : Inv X pins σ H s) : ∀ {d : PyData} {v : V} {u : Value}, Tp X.K H v d → RelV v u → Reads s.heap u d []
  | _, _, _, .non, r => by
    obtain rfl := r
    exact Reads.none
  | _, _, _, .bl b, r => by
    obtain rfl := r
    exact Reads.bool b
  | _, _, _, .int i, r => by
    obtain ⟨t, rfl⟩ := r
    exact Reads.int i t
  | _, _, _, .str x, r => by
    obtain ⟨t, rfl⟩ := r
    exact Reads.str x t
  | _, _, _, .tup hs ha, r => by
    obtain rfl := r
    obtain ⟨its, rv, ⟨o, n, ho, hc, _, hd⟩, _⟩ := hs.raw I
    exact Reads.tuple ho hc hd (TpAll.reads0 I ha rv)
theorem TpAll.reads0 (I : Inv X pins σ H s) : ∀ {ds : List PyData} {vs : List V} {us : List Value}, TpAll X.K H vs ds → Vals vs us → ReadsAll s.heap us ds []
  | _, _, _, .nil, .nil => ReadsAll.nil
  | _, _, _, .cons h1 h2, .cons r1 r2 => ReadsAll.cons (as := []) (bs := []) (Tp.reads0 I h1 r1) (TpAll.reads0 I h2 r2)
end
theorem obj_live {P : Program} {w : World} {H : Hp} {h : Heap} {a : Addr} {o : HO} (x : ObjOk P w H h a o) : ∃ u, h.get? a = some u := by
  cases o with
  | lst xs => obtain ⟨_, _, _, _, e⟩ := x; exact ⟨_, e⟩
  | tup xs => obtain ⟨_, _, _, o, e, _⟩ := x; exact ⟨_, e⟩
  | dK kvs => obtain ⟨_, _, _, _, o, _, _, e, _⟩ := x; exact ⟨_, e⟩
  | dT kvs => obtain ⟨_, _, _, _, o, _, _, e, _⟩ := x; exact ⟨_, e⟩
  | set S n => obtain ⟨o, _, _, _, e, _⟩ := x; exact ⟨_, e⟩
  | ins C dx fs => obtain ⟨_, _, _, e, _⟩ := x; exact ⟨_, e⟩
  | own y => obtain ⟨o, e⟩ := x; exact ⟨_, e⟩
  | xd fs => obtain ⟨_, ⟨o, _, _, e, _⟩, _⟩ := x; exact ⟨_, e⟩
  | rng lo hi => obtain ⟨_, _, _, e⟩ := x; exact ⟨_, e⟩
  | frz ob u => obtain ⟨e, _⟩ := x; exact ⟨_, e⟩
  | tbl ps => exact ⟨_, (show h.get? a = some _ from x)⟩
  | met f y => exact ⟨_, (show h.get? a = some _ from x)⟩
  | ext φ => obtain ⟨_, ⟨o, e⟩, _⟩ := x; exact ⟨_, e⟩
/-- what lies behind a heap that keeps all is free and may be taken -/
theorem past_free {h' : Heap} (I : Inv X pins σ H s) (hk : ∀ b o, s.heap.get? b = some o → h'.get? b = some o) {D : Addr} (hD : h'.objs.size ≤ D) : H D = none ∧ FpOk X pins H D := by
  have dead : ∀ o, s.heap.get? D ≠ some o := fun o e => absurd (Nat.lt_of_lt_of_le (Heap.lt_size (hk _ _ e)) hD) (Nat.lt_irrefl _)
  have hn : H D = none := by
    cases e : H D with
    | none => rfl
    | some u =>
      obtain ⟨o, ho⟩ := obj_live (I.hok D u e)
      exact absurd ho (dead o)
  obtain ⟨m, ⟨oL, es, ep, hoL, _⟩, _⟩ := id I.loc
  have hL : X.env.locals < D := Nat.lt_of_lt_of_le (Heap.lt_size (hk _ _ hoL)) hD
  refine ⟨hn, hn, Nat.ne_of_gt hL, fun hb => ?_, .inr (Nat.le_trans I.ok.above (Nat.le_of_lt hL)), fun x c e z => ?_, fun p hp z => ?_⟩
  · obtain ⟨_, o, ho, _⟩ := I.funs.mem hb
    exact dead o ho
  · obtain ⟨v, o, ho, _⟩ := I.cell x c e
    rw [z] at ho
    exact dead o ho
  · have ho := (I.pin p hp).1
    rw [z] at ho
    exact dead _ ho
/-- values, what they are, what they bear, in one list -/
theorem triple (K : PySem.W.Frag) (H : Hp) : ∀ {vs : List V} {us : List Value} {ds : List PyData}, Vals vs us → TpAll K H vs ds →
    ∃ bs : List (V × Value × PyData), bs.map (·.1) = vs ∧ bs.map (·.2.1) = us ∧ bs.map (·.2.2) = ds ∧ ∀ b ∈ bs, RelV b.1 b.2.1 ∧ Tp K H b.1 b.2.2
  | _, _, _, .nil, .nil => ⟨[], rfl, rfl, rfl, fun _ h => by cases h⟩
  | _, _, _, .cons (a := v) (b := u) r1 r2, .cons (d := d) h1 h2 => by
    obtain ⟨bs, e1, e2, e3, hb⟩ := triple K H r2 h2
    refine ⟨(v, u, d) :: bs, by rw [List.map_cons, e1], by rw [List.map_cons, e2], by rw [List.map_cons, e3], fun b hm => ?_⟩
    rcases List.mem_cons.mp hm with rfl | hm
    · exact ⟨r1, h1⟩
    · exact hb b hm
theorem triple_all {K : PySem.W.Frag} {H : Hp} : ∀ {bs : List (V × Value × PyData)}, (∀ b ∈ bs, RelV b.1 b.2.1 ∧ Tp K H b.1 b.2.2) → Vals (bs.map (·.1)) (bs.map (·.2.1)) ∧ TpAll K H (bs.map (·.1)) (bs.map (·.2.2))
  | [], _ => ⟨.nil, .nil⟩
  | b :: bs, h => by
    obtain ⟨a1, a2⟩ := h b (List.mem_cons_self ..)
    obtain ⟨b1, b2⟩ := triple_all (bs := bs) fun c hc => h c (List.mem_cons_of_mem _ hc)
    exact ⟨.cons a1 b1, .cons a2 b2⟩
/-- data by their order -/
noncomputable def sortD (ds : List PyData) : List PyData := ds.mergeSort (PySem.W.dataLe false id)
structure SortOk (ds : List PyData) : Prop where
  alike : PySem.W.AllAlike ds
  kind : PySem.W.Sortable ds
  len : ds.length ≤ sizeLine
  deep : ∀ d ∈ ds, d.depth ≤ 60
def rSortD (K : PySem.W.Frag) : List V → Hp → VK → Prop := fun xs H Q => ∃ (l : Addr) (ys : List V) (ds : List PyData), xs = [.ref l] ∧ (SqL K H l ys ∨ SqT K H l ys) ∧ TpAll K H ys ds ∧ SortOk ds ∧
  ∀ p zs, H p = none → TpAll K H zs (sortD ds) → Q (.ref p) (upd H p (.lst zs))
end
section
variable {X : Cx}
theorem cr_sortD (hu : X.A.units + 64 < cLine) : CallR X (.builtin "sorted") (rSortD X.K) := by
  intro pins s σ H xs us Q I r h
  obtain ⟨l, ys, ds, rfl, hs, hT, ok, q⟩ := h
  obtain rfl := Vals.ref1 r
  obtain ⟨its, rv, T, o, n, hTT, ho, hc, hd, hz⟩ : ∃ (its : List Value), Vals ys its ∧ ∃ (T : String) (o : Obj) (n : Nat), (T = "list" ∨ T = "tuple") ∧ s.heap.get? l = some o ∧ o.cls = .type T ∧ o.data = .seq its.toArray n ∧ ys.length ≤ sizeLine := by
    rcases hs with hs | hs
    · obtain ⟨its, rv, ⟨o, n, h1, h2, _, h3⟩, hz⟩ := I.list hs
      exact ⟨its, rv, "list", o, n, .inl rfl, h1, h2, h3, hz⟩
    · obtain ⟨its, rv, ⟨o, h1, h2, n, h3⟩, hz⟩ := I.tuple hs
      exact ⟨its, rv, "tuple", o, n, .inr rfl, h1, h2, h3, hz⟩
  obtain ⟨bs, e1, e2, e3, hb⟩ := triple X.K H rv hT
  have lb : bs.length = ds.length := by rw [← e3, List.length_map]
  refine call_function_entry kind_sorted plain_sorted entry_sorted (args_sorted1 _) ?_
  unfold Builtin.«sorted»
  refine wpAny_bind (m := checkCount "sorted" 1 1 _) (wpAny_pure ?_)
  refine wpAny_bind (wpAny_collect_seq (A := X.A.in1) l hTT ho hc hd (fun h' hk => ?_) (by rw [List.size_toArray, ← rv.length]; exact hz))
  refine wpAny_bind (wpAny_newList ?_ (by rw [List.toList_toArray, ← rv.length]; exact hz))
  have hits : its.toArray.toList = bs.map fun b => b.2.1 := by rw [List.toList_toArray, e2]
  rw [hits]
  refine wpAny_bind (wpAny_holding (wpAny_mono (sort_new (A := X.A) (Q := fun u s' => EP X pins σ Q u s') (s := s) (tk := s.toks) (bs := bs) (fun b : V × Value × PyData => b.2.1) (fun b : V × Value × PyData => b.2.2) (fun b hm => ?_) ?_ ?_ ?_ (fun b hm => ?_) fun h3 e keep hD => ?_) (fun _ s' x => wpAny_pure ⟨_, rfl, x⟩) fun _ _ e => e))
  · obtain ⟨a1, a2⟩ := hb b hm
    exact PyProof.Rows.Reads.keeps hk (a2.reads0 I a1)
  · rw [e3]
    exact ok.alike
  · rw [e3]
    exact ok.kind
  · rw [lb]
    exact ok.len
  · have := ok.deep b.2.2 (by rw [← e3]; exact List.mem_map.mpr ⟨b, hm, rfl⟩)
    omega
  · have kS : ∀ b o, s.heap.get? b = some o → h3.get? b = some o := fun b o eb => keep b o (hk b o eb)
    obtain ⟨hD0, hfp⟩ := past_free I hk (Nat.le_refl _)
    have I1 : Inv X pins σ H { s with heap := h3, toks := s.toks } := I.kept (t' := s.toks) kS
    have pm : (bs.mergeSort (PySem.W.dataLe false fun b : V × Value × PyData => b.2.2)).Perm bs := List.mergeSort_perm _ _
    have ms := PySem.W.sort_maps (r := PySem.W.dataLe false fun b : V × Value × PyData => b.2.2) (s := PySem.W.dataLe false id) (fun b : V × Value × PyData => b.2.2) (l := bs) (fun _ _ _ _ => rfl)
    generalize hcs : bs.mergeSort (PySem.W.dataLe false fun b : V × Value × PyData => b.2.2) = cs at pm hD ms
    obtain ⟨a1, a2⟩ := triple_all (bs := cs) fun b hm => hb b (pm.mem_iff.mp hm)
    rw [ms, e3] at a2
    have hlen : (cs.map (·.1)).length ≤ sizeLine := by
      rw [List.length_map, pm.length_eq, lb]
      exact ok.len
    have I2 : Inv X pins σ (upd H h'.objs.size (.lst (cs.map (·.1)))) { s with heap := h3, toks := s.toks } :=
      I1.take (h' := h3) (t' := s.toks) (fun b ob _ e => e) hfp ⟨hlen, _, e, a1, hD⟩
    exact ⟨.ref h'.objs.size, _, I2, rfl, q _ _ hD0 a2⟩
end
section
variable {K : PySem.W.Frag} {σ : L2.St} {H : Hp} {te : TE} {ds : List PyData}
theorem evl_sortD (h : EvD K te σ H (.tuple ds)) (ok : SortOk ds) : EvLs K (tCB (rSortD K) (tCons te tNil)) σ H (sortD ds) := fun H1 s Q q =>
  h H1 s _ fun v H2 s2 hv => by
    obtain ⟨a, xs, rfl, hS, hA⟩ := hv.tup_inv
    exact ⟨a, xs, ds, rfl, .inr hS.sqt, hA, ok, fun p zs hp hz => q p zs _ (s2.free hp) (s2.trans (same_new hp _)) upd_same (hz.same (same_new hp _))⟩
theorem evl_sortL (h : EvLs K te σ H ds) (ok : SortOk ds) : EvLs K (tCB (rSortD K) (tCons te tNil)) σ H (sortD ds) := fun H1 s Q q =>
  h H1 s _ fun l xs H2 n s2 hl hA => ⟨l, xs, ds, rfl, .inl (.of hl), hA, ok, fun p zs hp hz => q p zs _ (s2.free hp) (s2.trans (same_new hp _)) upd_same (hz.same (same_new hp _))⟩
theorem sortD_pairs (d : Hl) : sortD (d.map fun p => PyData.tuple [.int p.1, .int p.2]) = (sortH d).map fun p => PyData.tuple [.int p.1, .int p.2] := by
  unfold sortD sortH
  have e := PySem.W.dataLe_ii (β := Int × Int) (fun p => p.1) (fun p => p.2)
  refine (PySem.W.sort_maps (r := leP) (s := PySem.W.dataLe false id) (fun p : Int × Int => PyData.tuple [.int p.1, .int p.2]) fun a _ b _ => ?_).symm
  have e2 := congrFun (congrFun e a) b
  show leP a b = PySem.W.dataLe false (fun p : Int × Int => PyData.tuple [.int p.1, .int p.2]) a b
  rw [e2]
  rfl
theorem sortOk_pairs {d : Hl} (h : d.length ≤ sizeLine) : SortOk (d.map fun p => PyData.tuple [.int p.1, .int p.2]) :=
  ⟨PySem.W.AllAlike.of fun b b' => by simp [PySem.W.alike, PySem.W.alikeAll], PySem.W.Sortable.tuples fun b => ⟨_, _, rfl⟩, by rw [List.length_map]; exact h, fun x hx => by
    obtain ⟨p, _, rfl⟩ := List.mem_map.mp hx
    simp [PyData.depth, PyData.depthAll]⟩
/-- ints, rising, the same ones -/
def sortI (l : List Int) : List Int := l.mergeSort fun a b => decide (a ≤ b)
theorem sortD_ints (l : List Int) : sortD (l.map PyData.int) = (sortI l).map PyData.int := by
  unfold sortD sortI
  have e := PySem.W.dataLe_int (β := Int) (fun p => p)
  refine (PySem.W.sort_maps (r := fun a b : Int => decide (a ≤ b)) (s := PySem.W.dataLe false id) (fun p : Int => PyData.int p) fun a _ b _ => ?_).symm
  have e2 := congrFun (congrFun e a) b
  show decide (a ≤ b) = PySem.W.dataLe false (fun p : Int => PyData.int p) a b
  rw [e2]
theorem sortOk_ints {d : List Int} (h : d.length ≤ sizeLine) : SortOk (d.map PyData.int) :=
  ⟨PySem.W.AllAlike.of fun b b' => by simp [PySem.W.alike], PySem.W.Sortable.others fun b => ⟨by simp, by simp⟩, by rw [List.length_map]; exact h, fun x hx => by
    obtain ⟨p, _, rfl⟩ := List.mem_map.mp hx
    simp [PyData.depth]⟩
/-! a comprehension over d.items() -/
variable {tt : TT} {g : TG} {vs : List Nat} {a : Addr} {i : Nat} {d : Hl}
theorem hl_more {d : Hl} {i : Nat} {p : Int × Int} (h : d[i]? = some p) (keep : Int × Int → Bool) (elt : Int × Int → PyData) :
    ((d.take (i + 1)).filter keep).map elt = ((d.take i).filter keep).map elt ++ (if keep p = true then [elt p] else []) := by
  rw [List.take_succ, h, List.filter_append, List.map_append]
  cases e : keep p with
  | true => simp [e]
  | false => simp [e]
theorem evl_items (hv : σ[i]? = some (some (.ref a))) (ha : H a = some (.dK (kvI d))) (hl : d.length ≤ sizeLine) (keep : Int × Int → Bool) (elt : Int × Int → PyData) {j k : Nat}
    (hw : ∀ v w : Option V, wipe (((wipe σ vs).set j v).set k w) vs = wipe σ vs)
    (hs : ∀ p ∈ d, ∀ H', EvB tt (((wipe σ vs).set j (some (.int p.1))).set k (some (.int p.2))) H' (keep p) ∧ (keep p = true → EvD K te (((wipe σ vs).set j (some (.int p.1))).set k (some (.int p.2))) H' (elt p))) :
    EvLs K (tLockE (tLc (iItems (tVar i)) (gTup K 2 (gCons (gName j) (gCons (gName k) gNil))) tt te vs)) σ H ((d.filter keep).map elt) := by
  intro H1 s1 Q q
  refine ⟨a, _, s1 _ _ ha, trivial, fun od => ?_⟩
  refine ⟨_, hv, a, od, _, rfl, upd_same, fun D hD => ?_⟩
  have nDa : D ≠ a := fun e => by
    rw [e, upd_same] at hD
    cases hD
  have hD1 : H1 D = none := by
    rw [upd_ne nDa] at hD
    exact hD
  refine lc_it (J := Iti a od (kvI d)) walk_items (fun i Hc => Same (upd H1 a (.frz od (.dK (kvI d)))) Hc ∧ ∃ acc, Hc D = some (.lst acc) ∧ TpAll K Hc acc (((d.take i).filter keep).map elt) ∧ acc.length ≤ i) ⟨same_new hD _, [], upd_same, .nil, Nat.le_refl _⟩
    (fun i Hc _ p => p.1 _ _ upd_same) ?_ ?_
  · rintro m x Hc Hc' hm ⟨sc, acc, hacc, hT, hlen⟩ ⟨T, u, v, rfl, hTn, rfl, hu, hv'⟩
    rw [kvI_len] at hm
    have hp : d[m]? = some d[m] := List.getElem?_eq_getElem hm
    have hu1 : u = .int d[m].1 := by
      have hu : (kvI d)[m]?.map (fun kv => kV kv.1) = some u := hu
      unfold kvI at hu
      rw [List.getElem?_map, hp] at hu
      exact (Option.some.inj hu).symm
    have hv1 : v = .int d[m].2 := by
      have hv' : (kvI d)[m]?.map Prod.snd = some v := hv'
      unfold kvI at hv'
      rw [List.getElem?_map, hp] at hv'
      exact (Option.some.inj hv').symm
    subst hu1 hv1
    have sT := same_new hTn (.tup [.int d[m].1, .int d[m].2])
    refine ⟨T, _, rfl, .of upd_same, rfl, _, _, rfl, _, _, rfl, rfl, hw _ _, ?_⟩
    obtain ⟨ht, he⟩ := hs d[m] (List.getElem_mem hm) (upd Hc T (.tup [.int d[m].1, .int d[m].2]))
    refine ht.go fun H3 s3 => ?_
    have more := hl_more hp keep elt
    have sc3 := (sc.trans sT).trans s3
    have hacc3 := s3 _ _ (sT _ _ hacc)
    cases e : keep d[m] with
    | true =>
      rw [if_pos rfl]
      refine ((he e).mono s3).go fun y H4 s4 hy => ?_
      refine ⟨acc, s4 _ _ hacc3, Nat.lt_of_le_of_lt hlen (Nat.lt_of_lt_of_le hm hl), same_mut (sc3.trans s4) hD _, _, upd_same, ?_, by rw [List.length_append, List.length_singleton]; omega⟩
      rw [more, if_pos e]
      have sU : SameT Hc (upd H4 D (.lst (acc ++ [y]))) := (((SameT.of sT).trans (SameT.of s3)).trans (SameT.of s4)).updL (s4 _ _ hacc3)
      exact (hT.mono sU).snoc (hy.mono (SameT.updL (.refl _) (s4 _ _ hacc3)))
    | false =>
      rw [if_neg Bool.false_ne_true]
      refine ⟨sc3, acc, hacc3, ?_, by omega⟩
      rw [more, if_neg (by rw [e]; exact Bool.false_ne_true), List.append_nil]
      exact (hT.same sT).same s3
  · rintro Hc ⟨sc, acc, hacc, hT, _⟩
    rw [kvI_len, List.take_length] at hT
    have haC := sc _ _ (upd_same (H := H1) (a := a) (o := .frz od (.dK (kvI d))))
    refine ⟨haC, q D acc _ hD1 (fun b o e => ?_) ?_ ?_⟩
    · by_cases hb : b = a
      · subst hb
        rw [upd_same]
        rw [s1 _ _ ha] at e
        exact e
      · rw [upd_ne hb]
        exact sc _ _ (by rw [upd_ne hb]; exact e)
    · rw [upd_ne nDa]
      exact hacc
    · refine hT.mono (SameT.upd (.refl _) fun u e => ?_)
      rw [haC] at e
      cases e
      rfl
end
end Lo
set_option Elab.async false
set_option linter.all false
set_option maxRecDepth 100000
set_option maxHeartbeats 4000000
/-! both, without, bad_place, need_heap -/
namespace Lo
open PySem PySem.Spec PyProof.Rows L2

/-! dicts of numbers -/
theorem any_kvI (d : Hl) (n : Int) : ((kvI d).any fun kv => decide (kv.1 = Sum.inl n)) = d.any fun p => decide (p.1 = n) := by
  unfold kvI
  rw [List.any_map]
  congr 1
  funext p
  show decide ((Sum.inl p.1 : Key) = Sum.inl n) = decide (p.1 = n)
  by_cases h : p.1 = n
  · rw [h]; simp
  · rw [decide_eq_false h, decide_eq_false fun z => h (Sum.inl.inj z)]
theorem putK_kvI (d : Hl) (n c : Int) : putK (kvI d) (Sum.inl n) (.int c) = kvI (putI d n c) := by
  unfold putK putI
  rw [any_kvI]
  split
  · unfold kvI
    rw [List.map_map, List.map_map]
    refine List.map_congr_left fun p _ => ?_
    show (if (Sum.inl p.1 : Key) = Sum.inl n then ((Sum.inl p.1 : Key), V.int c) else (Sum.inl p.1, V.int p.2)) = _
    by_cases h : p.1 = n
    · rw [if_pos (by rw [h])]
      show _ = (Sum.inl (if p.1 = n then (p.1, c) else p).1, V.int (if p.1 = n then (p.1, c) else p).2)
      rw [if_pos h]
    · rw [if_neg fun z => h (Sum.inl.inj z)]
      show _ = (Sum.inl (if p.1 = n then (p.1, c) else p).1, V.int (if p.1 = n then (p.1, c) else p).2)
      rw [if_neg h]
  · unfold kvI
    rw [List.map_append]
    rfl
theorem valV_kvI (d : Hl) (n : Int) : valV (kvI d) (Sum.inl n) = (lookI d n).map V.int := by
  induction d with
  | nil => rfl
  | cons p d ih =>
    unfold lookI at ih ⊢
    show valV ((Sum.inl p.1, V.int p.2) :: kvI d) (Sum.inl n) = _
    rw [List.find?_cons]
    by_cases h : p.1 = n
    · rw [valV_pos (by rw [h]), decide_eq_true h]
      rfl
    · rw [valV_neg (fun z => h (Sum.inl.inj z)), decide_eq_false h, ih]
theorem mergeK_kvI : ∀ (h acc : Hl), ((acc ++ h).map (·.1)).Nodup → mergeK (kvI acc) (kvI h) = kvI (acc ++ h)
  | [], acc, _ => by rw [List.append_nil]; rfl
  | p :: h, acc, nd => by
    have e1 : valV (kvI acc) (Sum.inl p.1) = none := by
      rw [valV_kvI]
      cases e : lookI acc p.1 with
      | none => rfl
      | some c =>
        exfalso
        have hm := look_some e
        rw [List.map_append, List.nodup_append] at nd
        exact nd.2.2 p.1 (List.mem_map.mpr ⟨_, hm, rfl⟩) p.1 (List.mem_map.mpr ⟨p, List.mem_cons_self .., rfl⟩) rfl
    have e2 : putK (kvI acc) (Sum.inl p.1) (.int p.2) = kvI (acc ++ [p]) := by
      rw [putK_new _ e1]
      unfold kvI
      rw [List.map_append]
      rfl
    show mergeK (putK (kvI acc) (Sum.inl p.1) (.int p.2)) (kvI h) = _
    rw [e2, mergeK_kvI h (acc ++ [p]) (by simpa using nd)]
    simp
section
variable {K : PySem.W.Frag} {σ : L2.St} {H : Hp} {te ty tv : TE} {D : Ends} {i : Nat} {a : Addr} {d : Hl} {n c : Int}
theorem evd_dget {z : Int} (hv : σ[i]? = some (some (.ref a))) (ha : H a = some (.dK (kvI d))) (hk : EvD K ty σ H (.int n)) : EvD K (tDGet2 (tVar i) ty (tC (.int z))) σ H (.int ((lookI d n).getD z)) := fun H1 s Q q =>
  ⟨_, hv, a, rfl, .inl ⟨_, .inl (s _ _ ha)⟩, hk H1 s _ fun v H2 s2 h2 => by
    obtain rfl := h2.int_inv
    refine ⟨valV (kvI d) (Sum.inl n), DGet.k (k := Sum.inl n) (s2 _ _ (s _ _ ha)), ?_⟩
    rw [valV_kvI]
    have e : ((lookI d n).map V.int).getD (V.int z) = V.int ((lookI d n).getD z) := by
      cases lookI d n <;> rfl
    rw [e]
    exact q _ H2 s2 (.int _)⟩
theorem st_dput (hv : σ[i]? = some (some (.ref a))) (ha : H a = some (.dK (kvI d))) (h1 : EvD K tv σ H (.int c)) (h2 : EvD K ty σ H (.int n)) (hz : d.length < sizeLine) (q : ∀ H2, Same H H2 → D.nx σ (upd H2 a (.dK (kvI (putI d n c))))) :
    sDPut (tVar i) ty tv D σ H := h1.go fun v H1 s1 hv1 => by
  obtain rfl := hv1.int_inv
  refine ⟨_, hv, (h2.mono s1).go fun y H2 s2 hy => ?_⟩
  obtain rfl := hy.int_inv
  refine ⟨a, _, rfl, DPut.k (k := Sum.inl n) (s2 _ _ (s1 _ _ ha)) (by rw [kvI_len]; exact hz), ?_⟩
  rw [putK_kvI]
  exact q H2 (s1.trans s2)
theorem pairs_of_enc : ∀ {h : Hl} {xs : List V}, TpAll K H xs (h.map encP) → ∃ ps : List Addr, xs = ps.map V.ref ∧ Paired (fun p kv => SqT K H p [kV kv.1, kv.2]) ps (kvI h)
  | [], _, t => by cases t; exact ⟨[], rfl, .nil⟩
  | p :: h, _, t => by
    cases t with
    | cons h1 h2 =>
      obtain ⟨ps, rfl, hp⟩ := pairs_of_enc h2
      obtain ⟨b, ys, rfl, hS, hA⟩ := Tp.tup_inv h1
      obtain ⟨x, y, rfl, hx, hy⟩ := two_inv hA
      obtain rfl := hx.int_inv
      obtain rfl := hy.int_inv
      exact ⟨b :: ps, rfl, .cons hS.sqt hp⟩
/-- x = dict(h) -/
theorem sd_dict {h : Hl} (he : EvD K te σ H (encH h)) (nd : (h.map (·.1)).Nodup) (q : ∀ p H2, H p = none → Same H H2 → H2 p = some (.dK (kvI h)) → D.nx (σ.set i (some (.ref p))) H2) : tAsg (tCB (rDictP K) (tCons te tNil)) (gName i) D σ H :=
  he.go fun v H2 s2 hv => by
    obtain ⟨b, xs, rfl, hS, hA⟩ := hv.tup_inv
    obtain ⟨ps, rfl, hp⟩ := pairs_of_enc hA
    refine ⟨b, ps, kvI h, rfl, hS, hp, fun p hp => q p _ (s2.free hp) (s2.trans (same_new hp _)) ?_⟩
    have e := mergeK_kvI h [] (by simpa using nd)
    have e : mergeK [] (kvI h) = kvI h := e
    rw [e]
    exact upd_same
theorem evl_sortIt (hv : σ[i]? = some (some (.ref a))) (ha : H a = some (.dK (kvI d))) : EvLs K (tCB (rSortItK K) (tCons (tBM0 K "dict" rItemsK (tVar i)) tNil)) σ H ((sortH d).map encP) := fun H1 s Q q =>
  ⟨_, hv, .inr (.inr (.inl ⟨rfl, .inl ⟨_, s _ _ ha⟩⟩)), a, _, rfl, rfl, s _ _ ha, fun p hp => ⟨p, a, d, rfl, upd_same, by
      rw [upd_ne (ne_of_none (s _ _ ha) hp)]
      exact s _ _ ha, fun l ys H' hl s' h1 h2 => by
      have e : H1 l = none := by
        by_cases hlp : l = p
        · rw [hlp]; exact hp
        · rw [upd_ne hlp] at hl; exact hl
      exact q l ys H' e ((same_new hp _).trans s') h1 h2⟩⟩
end

abbrev sBoth : Stmt := top 19
def rBoth (ds : List PyData) (d : PyData) : Prop := ∃ (one other : Hl) (S : List Int), ds = [encH one, encH other] ∧ Good S one ∧ Good S other ∧ S.length ≤ 2000001 ∧ d = encH (bothH one other)
section
variable {P : Program} {w : World} {K : PySem.W.Frag} {mg : Str → Option Value} {base : Heap} {f : Addr} {fd : FuncData}
theorem scBoth : FnScope ["one", "other", "found", "number", "count"] ["one", "other"] (defScope sBoth) := ⟨rfl, rfl, rfl, by decide +kernel, rfl, by decide +kernel, by decide +kernel⟩
theorem hu64 {k : Nat} {A : Around} (hr : Room k A) : A.units + 64 < cLine := by have := hr.un; omega
theorem ok_both (F : Fun K "both" "both" sBoth f fd) (T : Txt K mg) : FnOk P w K mg base CX0 1 f fd ["one", "other"] (spD K rBoth) := by
  refine F.ok scBoth (spD_len fun ds d ⟨_, _, _, e, _⟩ => by rw [e]; rfl) (fun cdv A outer s H vs Q E hr h => ?_)
  obtain ⟨ds, d, hvs, ⟨one, other, S, rfl, g1, g2, hS, rfl⟩, q⟩ := h
  obtain ⟨v1, v2, rfl, hv1, hv2⟩ := two_inv hvs
  have hu := hu_of hr
  refine ⟨_, pss_cons (ps_set (i := 2) scBoth.nd rfl (Or.inl rfl) (pe_callTy (cr_dictP rfl) (by rfl) T.zDict (by decide +kernel) (pa_cons (pv 0) pa_nil)))
    (pss_cons (ps_for PassesOwn.never rfl (pi_tup (pv 1)) (pg_tup rfl (pgs_cons (pg_name (i := 3) scBoth.nd rfl (Or.inl rfl)) (pgs_cons (pg_name (i := 4) scBoth.nd rfl (Or.inl rfl)) pgs_nil)))
      (pss_one (ps_dput hu (pv 2) (pv 3) (pe_op op_add (pe_dget2 hu (pv 2) (pv 3) pe_int ⟨rfl, rfl, rfl, rfl⟩) (pv 4)) rfl)))
    (pss_one (ps_ret (pe_callTy cr_tupleP (by rfl) T.zTuple (by decide +kernel) (pa_cons (pe_callB (cr_sortItK rfl (hu64 hr)) (by rfl) T.zSorted (by decide +kernel) (pa_cons (pe_bm0 PySem.F.plainAttrs_dict PySem.F.slot_dict_items PySem.F.type_dict_items mt_itemsK (pv 2)) pa_nil)) pa_nil))))), ?_⟩
  refine sd_seq (sd_dict (K := K) (i := 2) (evd_var rfl hv1) g1.nodup fun p H2 np s2 h2 => ?_)
  refine sd_seq (st_for (K := K) (H := H) (i := 1) (v := v2) (ds := other.map encP) rfl hv2 (.of s2) (fun i σ H' => ∃ u1 u2 : Option V, σ = [some v1, some v2, some (.ref p), u1, u2] ∧ Same H H' ∧ H' p = some (.dK (kvI ((other.take i).foldl addI one)))) ?_ (fun _ _ _ ⟨_, _, _, s', _⟩ => .of s') ?_ ?_)
  · exact ⟨none, none, rfl, s2, h2⟩
  · rintro i d x σ H' hd hx ⟨u1, u2, rfl, s', hp⟩
    obtain ⟨r, hr', rfl⟩ := map_at hd
    obtain ⟨b, c, hb, hc, hgo⟩ := pair_names (i := 3) (j := 4) hx
    obtain rfl := hb.int_inv
    obtain rfl := hc.int_inv
    refine hgo _ ?_
    have gd := (GoodD.fold (d := one) (other := other.take i) g1.d (fun p hp => g2.sub p (List.mem_of_mem_take hp)) fun p hp => g2.pos p (List.mem_of_mem_take hp)).1
    refine st_dput (K := K) (n := r.1) (c := ((lookI ((other.take i).foldl addI one) r.1).getD 0 + r.2)) rfl hp (evd_op (evd_dget rfl hp (evd_var rfl (.int _))) (evd_var rfl (.int _)) (opd_I0 (.int _))) (evd_var rfl (.int _)) ?_ fun H3 s3 => ?_
    · have := gd.len
      exact small_lt (by omega)
    · refine ⟨_, _, rfl, same_mut (s'.trans s3) np _, ?_⟩
      rw [fold_more addI one hr']
      exact upd_same
  · rintro σ H' ⟨u1, u2, rfl, s', hp⟩
    rw [List.length_map, List.take_length] at hp
    exact sd_ret (K := K) (evd_tupleL (evl_sortIt rfl hp)) fun v H3 s3 h3 => q v H3 (s'.trans s3) h3
end
end Lo
set_option Elab.async false
set_option linter.all false
set_option maxRecDepth 100000
set_option maxHeartbeats 2000000
/-! for place, x in enumerate(a tuple) -/
namespace Lo
open PySem PySem.Spec PySem.Calls PyProof.Rows L2
set_option maxHeartbeats 1000000 in
theorem meets_enum1 {v : Value} {ob : Obj} {Hs : Heap → Prop} (B : Begins v ob Hs) :
    Meets (Builtin.«enumerate.__new__» ⟨[.type "enumerate", v], []⟩) (fun _ R s => Hs s.heap ∧
      R (.ok (.ret (.ref (s.heap.push ob).objs.size))) { s with heap := (s.heap.push ob).push { cls := .type "enumerate", data := .fields #[.none, .bool false, .ref s.heap.objs.size, rawInt 0, .none, .none] } }) :=
  .of_wp fun prog w A R s h => by
    obtain ⟨hp, gl, dp, tks, oss⟩ := s; obtain ⟨b1, h⟩ := h
    have hsub := sub_enumerate
    have it1 : ∀ {A' : Around} {E : Value → Shared → Prop} {Q : Value → Shared → Prop}, Q (.ref hp.objs.size) ⟨hp.push ob, gl, dp, tks, oss⟩ → wpAny (model prog w) A' (pyIter v) Q E ⟨hp, gl, dp, tks, oss⟩ :=
      fun r => B.iter prog w _ _ ⟨hp, gl, dp, tks, oss⟩ _ b1 r
    wp_walk using it1
    refine wpAny_stack_any fun st => wpAny_pure ?_
    split
    · rename_i c _ _ _ _ _
      cases (c == Value.type "enumerate")
      all_goals
        wp_walk using it1
        exact ⟨_, rfl, h⟩
    · wp_walk using it1
      exact ⟨_, rfl, h⟩
section
variable {prog : Program} {w : World} {A : Around} {E : Value → Shared → Prop} {s : Shared}
theorem enum1_begins {v : Value} {ob : Obj} {Hs : Heap → Prop} {Q : Value → Shared → Prop} (B : Begins v ob Hs) (b1 : Hs s.heap)
    (q : ∀ h', IsEnum h' (s.heap.objs.size + 1) s.heap.objs.size 0 .none → h'.get? s.heap.objs.size = some ob →
      (∀ b u, s.heap.get? b = some u → h'.get? b = some u) → Q (.ref (s.heap.objs.size + 1)) { s with heap := h' }) :
    wpAny (model prog w) A (call (.type "enumerate") [v]) Q E s := by
  refine callType_new F.called_enumerate (by decide) (F.typeCall_enumerate_1 _) (F.newCall_enumerate_1 _) (fun obj => F.args_object_init_2 obj _) F.entry_enumerate_new
    (meets_enum1 B) ⟨b1, ?_⟩
  have hz : (s.heap.push ob).objs.size = s.heap.objs.size + 1 := Heap.size_push ..
  show _ ∧ _
  rw [hz]
  have he : IsEnum ((s.heap.push ob).push { cls := .type "enumerate", data := .fields #[.none, .bool false, .ref s.heap.objs.size, rawInt 0, .none, .none] }) (s.heap.objs.size + 1) s.heap.objs.size 0 .none := by
    have eq := Heap.get?_push_size (s.heap.push ob) (o := { cls := .type "enumerate", data := .fields #[.none, .bool false, .ref s.heap.objs.size, rawInt 0, .none, .none] }) rfl
    rw [hz] at eq; exact eq
  exact ⟨⟨_, he, rfl⟩, q _ he (Heap.get?_push_of_some _ (Heap.get?_push_size _ B.free)) fun b u x => Heap.get?_push_of_some _ (Heap.get?_push_of_some _ x)⟩
end
/-- the tuple's items by their places, each in a new pair -/
def IteT (K : PySem.W.Frag) (a : Addr) : It :=
  ⟨fun i H => ∃ (xs : List V) (x : V), SqT K H a xs ∧ xs[i]? = some x, fun i H v H' => ∃ T x, v = .ref T ∧ H T = none ∧ (∃ o : Obj, o.dict = none ∧ H' = newT T o [.int (i : Nat), x] H) ∧ ∀ xs, SqT K H a xs → xs[i]? = some x, fun i H => ∃ xs : List V, SqT K H a xs ∧ xs.length = i⟩
theorem turn_enumT {P : Program} {w : World} {K : PySem.W.Frag} {elts : List Expr} {kk : Nat} {tpos : Pos} (a e it : Addr) (hla : a ≠ it) (hea : e ≠ a) (hei : e ≠ it) :
    Turn P w K (.Tuple elts kk tpos) (IteT K a) [e, it] e (fun i h => (∃ old, IsEnum h e it ((i : Nat) : Int) old) ∧ h.IsTupleIter it a i) where
  mem := by simp
  obj := fun i h st b hb => by
    obtain ⟨⟨old, he⟩, ⟨o, ho, hc, hd⟩⟩ := st
    have z : b = e ∨ b = it := by simpa using hb
    rcases z with z | z
    · exact ⟨_, z ▸ he, fun v q => by cases q⟩
    · exact ⟨o, z ▸ ho, fun v q => by rw [hd] at q; cases q⟩
  keep := fun i h h' st k => let ⟨⟨old, he⟩, hi⟩ := st; ⟨⟨old, k e (by simp) _ he⟩, hi.at fun o q => k it (by simp) o q⟩
  item := by
    intro X hP hw hK hc i pins s σ H E I hf st hg
    subst hP hw hK
    obtain ⟨⟨old, he⟩, hit⟩ := st
    obtain ⟨xs, x, hq, hx⟩ := hg
    obtain ⟨its, rv, tp, hz⟩ := I.tuple hq
    obtain ⟨u, hu, ru⟩ := rv.get hx
    have hlt : i < its.toArray.size := by
      rw [List.size_toArray]
      exact (List.getElem?_eq_some_iff.mp hu).1
    have hel : e < s.heap.objs.size := Heap.lt_size he
    have hil : it < s.heap.objs.size := by obtain ⟨_, q, _⟩ := hit; exact Heap.lt_size q
    refine wpAny_pyNext_enum_itemD (Draws.tuple (A := X.A.in1) (I.ok.hd hc) it a hla its.toArray) he ⟨hit, tp⟩ hlt hei (by simp [hei, hea]) fun y h' tk hy ho st' hT hsz hk => ?_
    have hy' : y = u := by
      have z : its[i]? = some y := by simpa using hy
      rw [hu] at z
      exact (Option.some.inj z).symm
    subst hy'
    refine ⟨_, rfl, wpAny_letOwnedTupleGo_enum (s := { s with heap := h', toks := tk + 1 }) ho fun h'' he' sb => ?_⟩
    have hT2 : h''.get? s.heap.objs.size = some (tupO [.int i tk, y]) := (sb.2 _ (Nat.ne_of_gt hel)).trans hT
    have new : ObjOk X.prog X.w (newT s.heap.objs.size (tupO [.int i tk, y]) [.int (i : Nat), x] H) h'' s.heap.objs.size (.frz (tupO [.int i tk, y]) (.tup [.int (i : Nat), x])) :=
      ⟨hT2, by show 2 ≤ sizeLine; decide, [.int i tk, y], .cons ⟨_, rfl⟩ (.cons ru .nil), ⟨_, hT2, rfl, _, rfl⟩⟩
    have I1 : Inv X pins σ (newT s.heap.objs.size (tupO [.int i tk, y]) [.int (i : Nat), x] H) { s with heap := h'', toks := tk + 1 } :=
      I.turnedNew (ch := [e, it]) (fun b ob hb q => (sb.2 b (fun z => hb (by simp [z]))).trans (hk b ob (fun z => hb (by simp [z])) (fun z => hb (by simp [z])) q)) hf (Nat.le_refl _) new
    refine ⟨.ref s.heap.objs.size, _, I1, rfl, ⟨_, x, rfl, I.hok.fresh (Nat.le_refl _), ⟨tupO [.int i tk, y], rfl, rfl⟩, fun ys hy => ?_⟩, ⟨⟨y, ?_⟩, st'.1.at fun o q => (sb.2 it (Ne.symm hei)).trans q⟩, fun b hb => ?_⟩
    · rw [I.tuple_inj hy hq]
      exact hx
    · have z : ((i + 1 : Nat) : Int) = (i : Int) + 1 := by omega
      rw [z]; exact he'
    · have hb' : b < s.heap.objs.size := by
        have z : b = e ∨ b = it := by simpa using hb
        rcases z with z | z
        · exact z ▸ hel
        · exact z ▸ hil
      show upd H s.heap.objs.size _ b = none
      rw [upd_ne (Nat.ne_of_lt hb')]
      exact (hf b hb).1
  done := by
    intro X hP hw hK hc i pins s σ H E I hf st hg
    subst hP hw hK
    obtain ⟨⟨old, he⟩, hit⟩ := st
    obtain ⟨xs, hq, hx⟩ := hg
    obtain ⟨its, rv, tp, hz⟩ := I.tuple hq
    obtain ⟨f0, f1, f2, f3, f4, f5⟩ := hf it (by simp)
    have hl : i = its.toArray.size := by rw [List.size_toArray, ← rv.length]; exact hx.symm
    subst hl
    exact wpAny_pyNext_enum_endD (Draws.tuple (A := X.A.in1) (I.ok.hd hc) it a hla its.toArray) he ⟨hit, tp⟩ fun h' eb => ⟨rfl, I.turned (t' := s.toks) (fun b u hb q => eb b u hb q) f0 f1 f3 f4 f5⟩
  self := fun A i s Q E st h => let ⟨⟨_, he⟩, _⟩ := st; wpAny_pyIter_enum he h
def iEnumT (K : PySem.W.Frag) (ta : TA) : TI := fun σ H R => ta σ H fun vs H1 => ∃ a xs, vs = [.ref a] ∧ SqT K H1 a xs ∧ R (IteT K a) H1
theorem pi_enumT {X : Cx} {e : Expr} {ta : TA} {p pos tpos : Pos} {elts : List Expr} {kk : Nat} (hg : Gl X "enumerate") (hm : X.mg "enumerate" = none) (ha : PA X [e] ta) (hs : starEach [e] X.env = [(false, eval e X.env)] := by rfl) :
    PI X (.Tuple elts kk tpos) (.Call (.Name "enumerate" p) [e] [] pos) (iEnumT X.K ta) := by
  refine ⟨fun pins s σ H R I h => Call_ (ld_blt I hg hm boot_enumerate (PyProof.Rows.callWith_type1 (thn (ha.run pos pins s σ H _ I h) fun us s1 ⟨vs, H1, I1, r1, q1⟩ => ?_) hs rfl))⟩
  obtain ⟨a, xs, rfl, hq, q⟩ := q1
  obtain rfl := r1.ref1
  obtain ⟨its, rv, tp, hz⟩ := I1.tuple hq
  have hal : a < s1.heap.objs.size := by
    obtain ⟨o, ho, _⟩ := tp
    exact Heap.lt_size ho
  refine enum1_begins (begins_tuple a its.toArray) tp fun h' he hit hk => wpAny_pyIter_enum he ?_
  have I2 : Inv X pins σ H1 { s1 with heap := h' } := I1.kept (t' := s1.toks) hk
  refine ⟨s1.heap.objs.size + 1, [s1.heap.objs.size + 1, s1.heap.objs.size], _, _, H1, rfl, I2, turn_enumT a (s1.heap.objs.size + 1) s1.heap.objs.size (Nat.ne_of_lt hal) (Nat.ne_of_gt (Nat.lt_succ_of_lt hal)) (Nat.succ_ne_self _), ⟨⟨.none, he⟩, ⟨_, hit, rfl, rfl⟩⟩, fun b hb => ?_, q⟩
  have hle : s1.heap.objs.size ≤ b := by
    have z : b = s1.heap.objs.size + 1 ∨ b = s1.heap.objs.size := by simpa using hb
    rcases z with z | z
    · rw [z]; exact Nat.le_succ _
    · rw [z]; exact Nat.le_refl _
  exact I1.fpOk hle (I1.hok.fresh hle)
section
variable {K : PySem.W.Frag} {a : Addr} {xs : List V}
theorem walk_enumT : Walk (IteT K a) xs.length (fun H => SqT K H a xs) (fun i H v H' => ∃ T x, v = .ref T ∧ H T = none ∧ (∃ o : Obj, o.dict = none ∧ H' = newT T o [.int (i : Nat), x] H) ∧ xs[i]? = some x) := by
  refine ⟨fun i _ hi q => ⟨xs, xs[i], q, by simp [hi]⟩, fun _ q => ⟨xs, q, rfl⟩, fun i H v H' _ q ⟨T, x, h1, h2, h3, h4⟩ => ⟨T, x, h1, h2, h3, h4 xs q⟩⟩
end
end Lo
set_option Elab.async false
set_option linter.all false
set_option maxRecDepth 100000
set_option maxHeartbeats 2000000
/-! more readings: chains, constants of the top, tests on None, walks -/
namespace Lo
open PySem PySem.Spec PyProof.Rows L2
section
variable {X : Cx} {x : Str} {pos : Pos}
theorem pe_gI {n : Int} (hm : ∃ t, X.mg x = some (.int n t)) (hg : Gl X x := by rfl) (hd : (x == ("__debug__" : Str)) = false := by decide) : PE X (.Name x pos) (tC (.int n)) := by
  obtain ⟨t, h⟩ := hm
  exact pe_glob hg h ⟨t, rfl⟩ hd
theorem pe_gS {n : Str} (hm : ∃ t, X.mg x = some (.str n t)) (hg : Gl X x := by rfl) (hd : (x == ("__debug__" : Str)) = false := by decide) : PE X (.Name x pos) (tC (.str n)) := by
  obtain ⟨t, h⟩ := hm
  exact pe_glob hg h ⟨t, rfl⟩ hd
end
section
variable {K : PySem.W.Frag} {σ : L2.St} {H : Hp} {te ta tb tc : TE} {D : Ends} {i : Nat} {d e z : PyData} {ds : List PyData} {r r' : R2}
theorem evd_chain {a b : Bool} (ha : EvD K ta σ H d) (hb : EvD K tb σ H e) (hr : OpD K r H d e (.bool a)) (hc : a = true → EvD K tc σ H z) (hr' : a = true → OpD K r' H e z (.bool b)) : EvD K (tChain r r' ta tb tc) σ H (.bool (a && b)) := fun H1 s Q q =>
  ha H1 s _ fun x H2 s2 hx => hb H2 (s.trans s2) _ fun y H3 s3 hy => hr H3 ((s.trans s2).trans s3) x y (hx.same s3) hy _ fun v H4 s4 hv => ⟨a, hv.bl_inv, by
    cases a with
    | false =>
      rw [if_neg Bool.false_ne_true]
      exact q _ H4 ((s2.trans s3).trans s4) (.bl false)
    | true =>
      rw [if_pos rfl]
      exact hc rfl H4 (((s.trans s2).trans s3).trans s4) _ fun u H5 s5 hu => hr' rfl H5 ((((s.trans s2).trans s3).trans s4).trans s5) y u (hy.same (s4.trans s5)) hu Q fun v2 H6 s6 hv2 => q v2 H6 ((((s2.trans s3).trans s4).trans s5).trans s6) hv2⟩
def dNon : PyData → Bool
  | .none => true
  | _ => false
theorem opd_is : OpD K rIsN H d .none (.bool (dNon d)) := fun H1 s x y hx hy Q q => ⟨hy.non_inv, by
  have e : decide (x = V.non) = dNon d := by
    cases hx <;> simp [dNon]
  rw [e]
  exact q _ H1 (Same.refl H1) (.bl _)⟩
theorem opd_notN : OpD K rNotN H d .none (.bool (!dNon d)) := fun H1 s x y hx hy Q q => ⟨hy.non_inv, by
  have e : decide (x = V.non) = dNon d := by
    cases hx <;> simp [dNon]
  rw [e]
  exact q _ H1 (Same.refl H1) (.bl _)⟩
theorem evd_is {d' : PyData} (h : EvD K te σ H d) (e : d = d') : EvD K te σ H d' := e ▸ h
/-- a comparison of two ints in a test -/
theorem evb_cmp {g : Int → Int → V} {a b : Int} {k : Bool} (ha : EvD K ta σ H (.int a)) (hb : EvD K tb σ H (.int b)) (hk : g a b = .bl k) : EvB (tTest (tOp (rI0 g) ta tb)) σ H k :=
  evb_test (evd_op ha hb (opd_I0 (by rw [hk]; exact .bl k)))
theorem sd_go {t : L2.St → Hp → Prop} {rt : VK} {bk ct : L2.St → Hp → Prop} (h : t σ H) : Ends.nx ⟨t, rt, bk, ct⟩ σ H := h
theorem sd_no1 {c : TT} {t : TS} (h : EvB c σ H false) (q : ∀ H2, Same H H2 → D.nx σ H2) : tIfS c t tNext D σ H := sd_no h q
/-- for place, x in enumerate(a tuple) -/
theorem st_forE {H1 : Hp} {g : TG} {tb : TS} {ta : TE} (hv : EvD K ta σ H1 (.tuple ds)) (Pv : Hp → Nat → L2.St → Hp → Prop) (h0 : ∀ H2, Same H1 H2 → Pv H2 0 σ H2) (hT : ∀ H2 i σ H', Pv H2 i σ H' → SameT H2 H')
    (hs : ∀ H2 i d x T (o : Obj) σ H', Same H1 H2 → ds[i]? = some d → o.dict = none → H' T = none → Pv H2 i σ H' → Tp K (newT T o [.int (i : Nat), x] H') x d →
      g (.ref T) σ (newT T o [.int (i : Nat), x] H') fun σ2 H3 => tb { D with nx := Pv H2 (i + 1), ct := Pv H2 (i + 1), bk := D.nx } σ2 H3) (he : ∀ H2 σ H', Same H1 H2 → Pv H2 ds.length σ H' → D.nx σ H') :
    tFor (iEnumT K (tCons ta tNil)) g tb D σ H1 := hv.go fun v H2 s2 h2 => by
  obtain ⟨a, ys, rfl, hS, hA⟩ := h2.tup_inv
  have hlen := hA.length
  refine ⟨a, ys, rfl, hS.sqt, for_it (D := D) walk_enumT (Pv H2) (h0 H2 s2) (fun i σ H' _ p => (hT H2 i σ H' p).sqt hS.sqt) ?_ (fun σ H' p => he H2 σ H' s2 (by rw [← hlen]; exact p))⟩
  rintro i x σ H' H3 hi p ⟨T, y, rfl, nT, ⟨o, ho, rfl⟩, hy⟩
  obtain ⟨d, hd, hyd⟩ := hA.getV hy
  have sN : SameT H2 (newT T o [.int (i : Nat), y] H') := (hT H2 i σ H' p).trans (SameT.of (same_new nT _))
  exact hs H2 i d y T o σ H' s2 hd ho nT p (hyd.mono sN)
end
end Lo
set_option Elab.async false
set_option linter.all false
set_option maxRecDepth 100000
set_option maxHeartbeats 4000000
/-! bad_place, need_heap, without, numbers_of -/
namespace Lo
open PySem PySem.Spec PyProof.Rows L2
abbrev sBad : Stmt := top 17
abbrev sNeedH : Stmt := top 18
/-- a heap that can be, its numbers within far -/
structure CanH (far : Int) (h : Hl) : Prop where
  rise : h.Pairwise fun p q => p.1 < q.1
  near : ∀ p ∈ h, -far ≤ p.1 ∧ p.1 ≤ far
  cnt : ∀ p ∈ h, 1 ≤ p.2 ∧ p.2 ≤ 1000000000000000000
  len : h.length ≤ 40
def rBad (ds : List PyData) (d : PyData) : Prop := ∃ (h : Hl) (far : Int), ds = [encH h, .int far] ∧ CanH far h ∧ d = .none
def rNeedH (ds : List PyData) (d : PyData) : Prop := ∃ h : Hl, ds = [encH h] ∧ CanH 1000000 h ∧ d = .none
section
variable {P : Program} {w : World} {K : PySem.W.Frag} {mg : Str → Option Value} {base : Heap} {f : Addr} {fd : FuncData}
theorem scBad : FnScope ["heap", "far", "place", "number", "count"] ["heap", "far"] (defScope sBad) := ⟨rfl, rfl, rfl, by decide +kernel, rfl, by decide +kernel, by decide +kernel⟩
theorem ok_bad (F : Fun K "bad_place" "bad_place" sBad f fd) (T : Txt K mg) : FnOk P w K mg base CX0 1 f fd ["heap", "far"] (spD K rBad) := by
  refine F.ok scBad (spD_len fun ds d ⟨_, _, e, _⟩ => by rw [e]; rfl) (fun cdv A outer s H vs Q E hr h => ?_)
  obtain ⟨ds, d, hvs, ⟨h, far, rfl, can, rfl⟩, q⟩ := h
  obtain ⟨v1, v2, rfl, hv1, hv2⟩ := two_inv hvs
  obtain rfl := hv2.int_inv
  obtain ⟨a, ys, rfl, hS, hA⟩ := hv1.tup_inv
  refine ⟨_, pss_cons (ps_for PassesOwn.never rfl (pi_enumT (by rfl) T.zEnum (pa_cons (pv 0) pa_nil)) (pg_tup rfl (pgs_cons (pg_name (i := 2) scBad.nd rfl (Or.inl rfl)) (pgs_cons (pg_tup rfl (pgs_cons (pg_name (i := 3) scBad.nd rfl (Or.inl rfl)) (pgs_cons (pg_name (i := 4) scBad.nd rfl (Or.inl rfl)) pgs_nil))) pgs_nil)))
      (pss_cons (ps_if (PW.pt (pw_or (pt_cmpR op_eq (pv 2) (pe_gI T.cPairs) (nomark _)) (pw_or (pt_not (pt_chain op_le op_le (pe_op op_sub pe_int (pv 1)) (pv 3) (pv 1))) (pw_or1 (pt_not (pt_chain op_le op_le pe_int (pv 4) (pe_gI T.cCount)))))))
        (pss_one ps_never) pss_nil)
      (pss_one (ps_if (PW.pt (pw_and (pt_cmpR op_gt (pv 2) pe_int (nomark _)) (pw_and1 (pt_cmpR op_ge (pe_ix ix_tup (pe_ix ix_tup (pv 0) (pe_op op_sub (pv 2) pe_int) (fun _ _ => rfl)) pe_int (fun _ _ => rfl)) (pv 3) (nomark _)))))
        (pss_one ps_never) pss_nil))))
    (pss_one (ps_ret pe_non)), ?_⟩
  refine sd_seq (st_forE (K := K) (evd_var (v := .ref a) rfl hv1) (fun H0 i σ H' => ∃ u1 u2 u3 : Option V, σ = [some (.ref a), some (.int far), u1, u2, u3] ∧ Same H H' ∧ Same H0 H') (fun H2 s2 => ⟨none, none, none, rfl, s2, Same.refl H2⟩) (fun H2 i σ H' ⟨_, _, _, _, _, s'⟩ => .of s') ?_ ?_)
  · rintro H0 i d x T2 o σ H1 s0 hd ho nT ⟨u1, u2, u3, rfl, s', s0'⟩ hyd
    obtain ⟨p, hp, rfl⟩ := map_at hd
    have sN : Same H1 (newT T2 o [.int (i : Nat), x] H1) := same_new nT _
    obtain ⟨b, c, hb, hc, hgo⟩ := pair_names (i := 3) (j := 4) hyd
    obtain rfl := hb.int_inv
    obtain rfl := hc.int_inv
    have hlen : i < h.length := (List.getElem?_eq_some_iff.mp hp).1
    have hpm := List.mem_of_getElem? hp
    have c1 := can.near p hpm
    have c2 := can.cnt p hpm
    have c3 := can.len
    refine ⟨T2, _, rfl, (PlT.new (K := K) ho).sqt, rfl, _, _, rfl, _, _, rfl, hgo _ ⟨rfl, ?_⟩⟩
    refine sd_seq (sd_no (EvB.is (evb_or (evb_test (K := K) (evd_op (evd_var (v := .int (i : Nat)) rfl (.int _)) evd_int opd_eqI)) fun _ => evb_or (evb_not (evb_test (K := K) (evd_chain (evd_op evd_int (evd_var rfl (.int far)) (opd_I0 (.int _))) (evd_var rfl (.int p.1)) (opd_I0 (.bl _)) (fun _ => evd_var rfl (.int far)) fun _ => opd_I0 (.bl _)))) fun _ => evb_not (evb_test (K := K) (evd_chain evd_int (evd_var rfl (.int p.2)) (opd_I0 (.bl _)) (fun _ => evd_int) fun _ => opd_I0 (.bl _)))) ?_) fun H3 s3 => ?_)
    · have e1 : ¬ ((i : Int) = 40) := by omega
      have e2 : (0 : Int) - far ≤ p.1 := by omega
      have e2' : -far ≤ p.1 := c1.1
      simp [e1, e2', c1.2, c2.1, c2.2]
    · refine sd_next (sd_go (sd_no1 ?_ fun H4 s4 => ?_))
      · have sT := (s'.trans sN).trans s3
        by_cases hz : i = 0
        · subst hz
          exact EvB.is (evb_and (b := false) (evb_cmp (K := K) (k := false) (evd_var (v := .int 0) rfl (.int _)) evd_int rfl) fun z => nomatch z) rfl
        · have hj : i - 1 < h.length := by omega
          have hpj : h[i - 1]? = some h[i - 1] := List.getElem?_eq_getElem hj
          have hlt : (h[i - 1]).1 < p.1 := by
            have e : p = h[i] := by rw [List.getElem?_eq_getElem hlen] at hp; exact (Option.some.inj hp).symm
            rw [e]
            exact List.pairwise_iff_getElem.mp can.rise (i - 1) i hj hlen (by omega)
          have eq1 : ((i : Nat) : Int) - 1 = ((i - 1 : Nat) : Int) := by omega
          refine EvB.is (evb_and (b := false) (evb_cmp (K := K) (k := true) (evd_var (v := .int (i : Nat)) rfl (.int _)) evd_int (by rw [decide_eq_true (by omega)])) fun _ => evb_cmp (K := K) (k := false) (a := (h[i - 1]).1) (b := p.1) ?_ (evd_var rfl (.int _)) (by rw [decide_eq_false (by omega)])) rfl
          refine evd_op (evd_op (evd_var (v := .ref a) (d := encH h) rfl ((Tp.tup hS hA).same sT)) (evd_op (evd_var rfl (.int (i : Nat))) evd_int (opd_I0 (z := .int ((i - 1 : Nat) : Int)) (by rw [eq1]; exact .int _))) (opd_ixT (d := encP h[i - 1]) (by rw [List.getElem?_map, hpj]; rfl))) evd_int (opd_ixT (i := 0) rfl)
      · exact ⟨_, _, _, rfl, ((s'.trans sN).trans s3).trans s4, ((s0'.trans sN).trans s3).trans s4⟩
  · rintro H0 σ H' s0 ⟨u1, u2, u3, rfl, s', s0'⟩
    refine sd_go ?_
    exact sd_ret (K := K) evd_non fun v H3 s3 h3 => q v H3 (s'.trans s3) h3
end
end Lo
set_option linter.all false
set_option maxHeartbeats 1000000
/-! the mirror, second part: without, numbers -/
namespace Lo
open PySem
def subI (d : Hl) (p : Int × Int) : Hl := putI d p.1 ((lookI d p.1).getD 0 - p.2)
def withoutGo : Hl → Hl → Option Hl
  | d, [] => some (sortH (d.filter fun p => decide (0 < p.2)))
  | d, p :: r => if (lookI d p.1).getD 0 < p.2 then none else withoutGo (subI d p) r
def withoutH (one other : Hl) : Option Hl := withoutGo one other
/-- a dict that counts down -/
structure Keys (S : List Int) (h : Hl) : Prop where
  nd : (h.map (·.1)).Nodup
  sub : ∀ p ∈ h, p.1 ∈ S
theorem Good.keys {S : List Int} {h : Hl} (g : Good S h) : Keys S h := ⟨g.nodup, g.sub⟩
theorem Keys.len {S : List Int} {h : Hl} (g : Keys S h) : h.length ≤ S.length := by
  have := nodup_len (h.map (·.1)) S g.nd fun x hx => by
    obtain ⟨p, hp, rfl⟩ := List.mem_map.mp hx
    exact g.sub p hp
  rwa [List.length_map] at this
theorem Keys.put {S : List Int} {h : Hl} (g : Keys S h) {n : Int} (c : Int) (hn : n ∈ S) : Keys S (putI h n c) := ⟨nodup_put g.nd n c, sub_put g.sub hn⟩
theorem look_in {S : List Int} {d : Hl} (g : Keys S d) {n c : Int} (h : lookI d n = some c) : n ∈ S := g.sub _ (look_some h)
theorem Keys.done {S : List Int} {d : Hl} (g : Keys S d) : Good S (sortH (d.filter fun p => decide (0 < p.2))) := by
  have pm := sortH_perm (d.filter fun p => decide (0 < p.2))
  refine ⟨sortH_rise ?_, fun p hp => ?_, fun p hp => ?_⟩
  · exact List.Nodup.sublist ((List.filter_sublist).map _) g.nd
  · exact g.sub p (List.mem_filter.mp (pm.mem_iff.mp hp)).1
  · have := (List.mem_filter.mp (pm.mem_iff.mp hp)).2
    simp at this
    omega
theorem withoutGo_good {S : List Int} : ∀ {other d r : Hl}, Keys S d → (∀ p ∈ other, 1 ≤ p.2) → withoutGo d other = some r → Good S r
  | [], d, r, g, _, e => by
    unfold withoutGo at e
    cases e
    exact g.done
  | p :: o, d, r, g, hp, e => by
    unfold withoutGo at e
    split at e
    · cases e
    · rename_i hc
      have h1 := hp p (List.mem_cons_self ..)
      have hl : ∃ c, lookI d p.1 = some c := by
        cases q : lookI d p.1 with
        | none => rw [q] at hc; simp at hc; omega
        | some c => exact ⟨c, rfl⟩
      obtain ⟨c, hc'⟩ := hl
      exact withoutGo_good (g.put _ (look_in g hc')) (fun q hq => hp q (List.mem_cons_of_mem _ hq)) e
theorem Good.without {S : List Int} {one other r : Hl} (g : Good S one) (ho : ∀ p ∈ other, 1 ≤ p.2) (e : withoutH one other = some r) : Good S r := withoutGo_good g.keys ho e
def numsH (h : Hl) : List Int := h.flatMap fun p => List.replicate p.2.toNat p.1
theorem numsH_len : ∀ {h : Hl}, (∀ p ∈ h, 0 ≤ p.2) → ((numsH h).length : Int) = sizeH h
  | [], _ => rfl
  | p :: r, hp => by
    have ih := numsH_len (h := r) fun q hq => hp q (List.mem_cons_of_mem _ hq)
    have := hp p (List.mem_cons_self ..)
    unfold numsH at ih ⊢
    rw [List.flatMap_cons, List.length_append, List.length_replicate]
    have e : sizeH (p :: r) = p.2 + sizeH r := by simp [sizeH]
    omega
theorem take_all {α : Type} {l : List α} {i : Nat} {x : α} (h : l[i]? = some x) : l.drop i = x :: l.drop (i + 1) := by
  have hi := (List.getElem?_eq_some_iff.mp h).1
  rw [List.getElem?_eq_getElem hi] at h
  rw [List.drop_eq_getElem_cons hi, Option.some.inj h]
end Lo
set_option Elab.async false
set_option linter.all false
set_option maxRecDepth 100000
set_option maxHeartbeats 4000000
/-! need_heap, without, numbers_of -/
namespace Lo
open PySem PySem.Spec PyProof.Rows L2
abbrev sWithout : Stmt := top 22
abbrev sNums : Stmt := top 23
def encO : Option Hl → PyData
  | none => .none
  | some h => encH h
def rWithout (ds : List PyData) (d : PyData) : Prop := ∃ (one other : Hl) (S : List Int), ds = [encH one, encH other] ∧ Good S one ∧ (∀ p ∈ other, 1 ≤ p.2) ∧ S.length ≤ 2000001 ∧ d = encO (withoutH one other)
section
variable {P : Program} {w : World} {K : PySem.W.Frag} {mg : Str → Option Value} {base : Heap} {f : Addr} {fd : FuncData}
theorem scNeedH : FnScope ["heap", "place"] ["heap"] (defScope sNeedH) := ⟨rfl, rfl, rfl, by decide +kernel, rfl, by decide +kernel, by decide +kernel⟩
theorem ok_needH (F : Fun K "need_heap" "need_heap" sNeedH f fd) (T : Txt K mg) (cBad : Callee P w K mg base 1 "bad_place" ["heap", "far"] (spD K rBad)) : FnOk P w K mg base CX0 2 f fd ["heap"] (spD K rNeedH) := by
  refine F.ok scNeedH (spD_len fun ds d ⟨_, e, _⟩ => by rw [e]; rfl) (fun cdv A outer s H vs Q E hr h => ?_)
  obtain ⟨ds, d, hvs, ⟨h, rfl, can, rfl⟩, q⟩ := h
  obtain ⟨v1, rfl, hv1⟩ := one_inv hvs
  refine ⟨_, pss_cons (ps_set (i := 1) scNeedH.nd rfl (Or.inl rfl) (pe_cal cBad hr (pa_cons (pv 0) (pa_cons (pe_gI T.cFar) pa_nil))))
    (pss_one (ps_if (pt_cmpR op_notN1 (pv 1) pe_non (nomark _)) (pss_one ps_never) pss_nil)), ?_⟩
  refine sd_seq (sd_set (K := K) (evd_call (eva_cons (evd_var rfl hv1) (eva_cons evd_int eva_nil)) ⟨h, _, rfl, can, rfl⟩) fun v H2 s2 h2 => ?_)
  obtain rfl := h2.non_inv
  refine sd_go (sd_no1 (evb_test (K := K) (evd_op (evd_var (v := .non) rfl .non) evd_non opd_notN)) fun H3 s3 => ?_)
  exact q .non H3 (s2.trans s3) .non
theorem scWithout : FnScope ["one", "other", "found", "number", "count"] ["one", "other"] (defScope sWithout) := ⟨rfl, rfl, rfl, by decide +kernel, rfl, by decide +kernel, by decide +kernel⟩
theorem st_dsub {K : PySem.W.Frag} {σ : L2.St} {H : Hp} {ty tv : TE} {D : Ends} {i : Nat} {a : Addr} {d : Hl} {n c m : Int} (hv : σ[i]? = some (some (.ref a))) (ha : H a = some (.dK (kvI d))) (hl : lookI d n = some m) (h2 : EvD K ty σ H (.int n)) (h1 : EvD K tv σ H (.int c)) (hz : d.length < sizeLine)
    (q : ∀ H2, Same H H2 → D.nx σ (upd H2 a (.dK (kvI (putI d n (m - c)))))) : sDAug (tVar i) ty tv rSub D σ H := ⟨_, hv, h2.go fun y H2 s2 hy => by
  obtain rfl := hy.int_inv
  refine ⟨a, .int m, rfl, ?_, (h1.mono s2).go fun v H3 s3 hv3 => ?_⟩
  · have g := DGet.k (k := Sum.inl n) (s2 _ _ ha)
    rw [valV_kvI, hl] at g
    exact g
  · obtain rfl := hv3.int_inv
    refine ⟨m, c, rfl, rfl, ?_⟩
    refine ⟨_, DPut.k (k := Sum.inl n) (s3 _ _ (s2 _ _ ha)) (by rw [kvI_len]; exact hz), ?_⟩
    rw [putK_kvI]
    exact q H3 (s2.trans s3)⟩
theorem ok_without (F : Fun K "without" "without" sWithout f fd) (T : Txt K mg) : FnOk P w K mg base CX0 1 f fd ["one", "other"] (spD K rWithout) := by
  refine F.ok scWithout (spD_len fun ds d ⟨_, _, _, e, _⟩ => by rw [e]; rfl) (fun cdv A outer s H vs Q E hr h => ?_)
  obtain ⟨ds, d, hvs, ⟨one, other, S, rfl, g1, ho, hS, rfl⟩, q⟩ := h
  obtain ⟨v1, v2, rfl, hv1, hv2⟩ := two_inv hvs
  have hu := hu_of hr
  refine ⟨_, pss_cons (ps_set (i := 2) scWithout.nd rfl (Or.inl rfl) (pe_callTy (cr_dictP rfl) (by rfl) T.zDict (by decide +kernel) (pa_cons (pv 0) pa_nil)))
    (pss_cons (ps_for PassesOwn.never rfl (pi_tup (pv 1)) (pg_tup rfl (pgs_cons (pg_name (i := 3) scWithout.nd rfl (Or.inl rfl)) (pgs_cons (pg_name (i := 4) scWithout.nd rfl (Or.inl rfl)) pgs_nil)))
      (pss_cons (ps_if (pt_cmpR op_lt (pe_dget2 hu (pv 2) (pv 3) pe_int ⟨rfl, rfl, rfl, rfl⟩) (pv 4) (nomark _)) (pss_one (ps_ret pe_non)) pss_nil)
      (pss_one (ps_daug hu (pv 2) (pv 3) (pv 4) in_sub (fun _ _ _ => rfl)))))
    (pss_one (ps_ret (pe_callTy cr_tupleP (by rfl) T.zTuple (by decide +kernel) (pa_cons (pe_callB (cr_sortD (hu64 hr)) (by rfl) T.zSorted (by decide +kernel) (pa_cons
      (pe_lock (pe_lc (own := [("number", 3), ("count", 4)]) (g := gTup K 2 (gCons (gName 3) (gCons (gName 4) gNil))) rfl scWithout.nd (pi_items (pv 2)) (blkOk_by (N := ["one", "other", "found", "number", "count"]) (sc := defScope sWithout) (by decide +kernel))
        (fun _ _ _ _ _ => pg_tup rfl (pgs_cons (pg_name (i := 3) scWithout.nd rfl (Or.inl rfl)) (pgs_cons (pg_name (i := 4) scWithout.nd rfl (Or.inl rfl)) pgs_nil))) (fun _ _ _ _ _ => pts_one (pt_cmpR op_gt (pv 4) pe_int (nomark _))) (fun _ _ _ _ _ => pe_tupP (pa_cons (pv 3) (pa_cons (pv 4) pa_nil))))) pa_nil)) pa_nil))))), ?_⟩
  refine sd_seq (sd_dict (K := K) (i := 2) (evd_var rfl hv1) g1.nodup fun p H2 np s2 h2 => ?_)
  refine sd_seq (st_for (K := K) (H := H) (i := 1) (v := v2) (ds := other.map encP) rfl hv2 (.of s2) (fun i σ H' => ∃ (u1 u2 : Option V) (di : Hl), σ = [some v1, some v2, some (.ref p), u1, u2] ∧ Same H H' ∧ H' p = some (.dK (kvI di)) ∧ Keys S di ∧ withoutH one other = withoutGo di (other.drop i)) ?_ (fun _ _ _ ⟨_, _, _, _, s', _⟩ => .of s') ?_ ?_)
  · exact ⟨none, none, one, rfl, s2, h2, g1.keys, rfl⟩
  · rintro i d x σ H' hd hx ⟨u1, u2, di, rfl, s', hp, kd, ew⟩
    obtain ⟨r, hr', rfl⟩ := map_at hd
    obtain ⟨b, c, hb, hc, hgo⟩ := pair_names (i := 3) (j := 4) hx
    obtain rfl := hb.int_inv
    obtain rfl := hc.int_inv
    refine hgo _ ?_
    have hm := ho r (List.mem_of_getElem? hr')
    rw [take_all hr'] at ew
    refine sd_seq (sd_if (b := decide ((lookI di r.1).getD 0 < r.2)) (evb_test (K := K) (evd_op (evd_dget rfl hp (evd_var rfl (.int r.1))) (evd_var rfl (.int r.2)) (opd_I0 (.bl _)))) (fun hlt H3 s3 => ?_) fun hge H3 s3 => ?_)
    · unfold withoutGo at ew
      rw [if_pos (by simpa using hlt)] at ew
      rw [ew] at q
      exact sd_ret (K := K) evd_non fun v H4 s4 h4 => q v H4 ((s'.trans s3).trans s4) h4
    · unfold withoutGo at ew
      rw [if_neg (by simpa using hge)] at ew
      have hk : ∃ m, lookI di r.1 = some m := by
        cases e : lookI di r.1 with
        | some m => exact ⟨m, rfl⟩
        | none =>
          rw [e] at hge
          simp at hge
          omega
      obtain ⟨m, hm2⟩ := hk
      have kl := kd.len
      refine sd_next (sd_go (st_dsub (K := K) (m := m) (c := r.2) rfl (s3 _ _ hp) hm2 (evd_var rfl (.int _)) (evd_var rfl (.int _)) (small_lt (by omega)) fun H4 s4 => ?_))
      refine ⟨_, _, subI di r, rfl, same_mut ((s'.trans s3).trans s4) np _, ?_, kd.put _ (look_in kd hm2), ew⟩
      unfold subI
      rw [hm2]
      exact upd_same
  · rintro σ H' ⟨u1, u2, di, rfl, s', hp, kd, ew⟩
    rw [List.length_map, List.drop_length] at ew
    rw [ew] at q
    have kl := kd.len
    refine sd_go (sd_ret (K := K) (d := encH (sortH (di.filter fun p => decide (0 < p.2)))) (evd_tupleL ?_) fun v H3 s3 h3 => q v H3 (s'.trans s3) h3)
    have e := sortD_pairs (di.filter fun p => decide (0 < p.2))
    show EvLs K _ _ H' ((sortH (di.filter fun p => decide (0 < p.2))).map fun p => PyData.tuple [.int p.1, .int p.2])
    rw [← e]
    have hf : (di.filter fun p => decide (0 < p.2)).length ≤ di.length := List.length_filter_le ..
    refine evl_sortL ?_ (sortOk_pairs (small_le (by omega)))
    refine evl_items (j := 3) (k := 4) rfl hp (small_le (by omega)) (fun p => decide (0 < p.2)) _ (fun _ _ => rfl) fun p hp2 H4 => ⟨?_, fun _ => ?_⟩
    · exact evb_test (K := K) (evd_op (evd_var (v := .int p.2) rfl (.int _)) evd_int (opd_I0 (.bl _)))
    · exact evd_tup (eva_cons (evd_var (v := .int p.1) rfl (.int _)) (eva_cons (evd_var (v := .int p.2) rfl (.int _)) eva_nil))
def rNums (ds es : List PyData) : Prop := ∃ h : Hl, ds = [encH h] ∧ (∀ p ∈ h, 0 ≤ p.2) ∧ sizeH h ≤ 1000 ∧ es = (numsH h).map PyData.int
theorem scNums : FnScope ["heap", "number", "count", "turn"] ["heap"] (defScope sNums) := ⟨rfl, rfl, rfl, by decide +kernel, rfl, by decide +kernel, by decide +kernel⟩
theorem nums_more {h : Hl} {i : Nat} {p : Int × Int} (hp : h[i]? = some p) : numsH (h.take (i + 1)) = numsH (h.take i) ++ List.replicate p.2.toNat p.1 := by
  unfold numsH
  rw [List.take_succ, hp, List.flatMap_append]
  simp
theorem nums_take {h : Hl} (h0 : ∀ p ∈ h, 0 ≤ p.2) (i : Nat) : (numsH (h.take i)).length ≤ (numsH h).length := by
  conv => rhs; rw [← List.take_append_drop i h]
  unfold numsH
  rw [List.flatMap_append, List.length_append]
  omega
theorem tyes_go {σ : L2.St} {H : Hp} {Q : Bool → Hp → Prop} (h : Q true H) : tYes σ H Q := h
theorem ok_nums (F : Fun K "numbers_of" "numbers_of" sNums f fd) (T : Txt K mg) : FnOk P w K mg base CX0 1 f fd ["heap"] (spLs K rNums) := by
  refine F.ok scNums (spLs_len fun ds d ⟨_, e, _⟩ => by rw [e]; rfl) (fun cdv A outer s H vs Q E hr h => ?_)
  obtain ⟨ds, es, hvs, ⟨h, rfl, h0, hz, rfl⟩, q⟩ := h
  obtain ⟨v1, rfl, hv1⟩ := one_inv hvs
  refine ⟨_, pss_one (ps_ret (pe_lc2 (own := [("number", 1), ("count", 2), ("turn", 3)]) (g := gTup K 2 (gCons (gName 1) (gCons (gName 2) gNil))) (g1 := gName 3) (tt := tYes) (tt1 := tYes) (vs1 := [3]) rfl scNums.nd (pi_tup (pv 0))
      (blkOk_by (N := ["heap", "number", "count", "turn"]) (sc := defScope sNums) (by decide +kernel)) (by decide)
      (fun _ _ _ _ _ => pg_tup rfl (pgs_cons (pg_name (i := 1) scNums.nd rfl (Or.inl rfl)) (pgs_cons (pg_name (i := 2) scNums.nd rfl (Or.inl rfl)) pgs_nil))) (fun _ _ _ _ _ => pts_nil)
      (fun _ _ _ _ _ => pi_range1 rfl T.zRange (pa_cons (pv 2) pa_nil)) (fun _ _ _ _ _ => pg_name (i := 3) scNums.nd rfl (Or.inl rfl)) (fun _ _ _ _ _ => pts_nil) (fun _ _ _ _ _ => pv 1))), ?_⟩
  obtain ⟨a, ys, rfl, hS, hA⟩ := hv1.tup_inv
  have hlen : ys.length = h.length := by rw [hA.length, List.length_map]
  have hN := numsH_len h0
  refine ⟨_, rfl, a, rfl, ⟨ys, hS.sqt⟩, fun Dn hD => ?_⟩
  refine ⟨fun i m Hc => m = h.length - i ∧ i ≤ h.length ∧ Same H Hc ∧ Hc Dn = some (.lst ((numsH (h.take i)).map V.int)), ⟨h.length, by simp, Nat.zero_le _, same_new hD _, upd_same⟩, ?_⟩
  rintro i m Hc ⟨rfl, hi, sc, hDc⟩
  have hSc : SqT K Hc a ys := (SameT.of sc).sqt hS.sqt
  by_cases hlt : i < h.length
  · refine .inr ⟨⟨ys, ys[i], hSc, by simp [hlen, hlt]⟩, fun H' => Same H H' ∧ H' Dn = some (.lst ((numsH (h.take (i + 1))).map V.int)), fun H' p' => ⟨h.length - (i + 1), by omega, rfl, hlt, p'⟩, ?_⟩
    rintro x H' ⟨rfl, hx⟩
    have hx := hx ys hSc
    obtain ⟨d, hd, hxd⟩ := hA.getV hx
    obtain ⟨p, hp, rfl⟩ := map_at hd
    obtain ⟨b, c, hb, hc, hgo⟩ := pair_names (i := 1) (j := 2) (hxd.same sc)
    obtain rfl := hb.int_inv
    obtain rfl := hc.int_inv
    refine hgo _ ⟨rfl, ?_⟩
    refine tyes_go (iteT ?_)
    have hp0 := h0 p (List.mem_of_getElem? hp)
    have mr := nums_more hp
    have tk := nums_take h0 (i + 1)
    rw [mr, List.length_append, List.length_replicate] at tk
    have hpz : p.2 ≤ 1000 := by omega
    refine ⟨_, rfl, p.2, rfl, by omega, by omega, ?_⟩
    refine ⟨fun j k Hj => k = p.2.toNat - j ∧ j ≤ p.2.toNat ∧ Same H Hj ∧ Hj Dn = some (.lst ((numsH (h.take i) ++ List.replicate j p.1).map V.int)), ⟨p.2.toNat, by simp, Nat.zero_le _, sc, by simpa using hDc⟩, ?_⟩
    rintro j k Hj ⟨rfl, hj, sj, hDj⟩
    by_cases hjl : j < p.2.toNat
    · refine .inr ⟨hjl, fun H' => Same H H' ∧ H' Dn = some (.lst ((numsH (h.take i) ++ List.replicate (j + 1) p.1).map V.int)), fun H' p' => ⟨p.2.toNat - (j + 1), by omega, rfl, hjl, p'⟩, ?_⟩
      rintro x H' ⟨rfl, rfl⟩
      refine ⟨rfl, ?_⟩
      refine tyes_go (iteT ?_)
      refine ⟨_, rfl, _, hDj, small_lt (by simp; omega), same_mut sj hD _, ?_⟩
      rw [upd_same, List.replicate_succ', ← List.append_assoc, List.map_append (l₁ := numsH (h.take i) ++ List.replicate j p.1)]
      rfl
    · have e : j = p.2.toNat := by omega
      subst e
      exact .inl ⟨Nat.le_refl _, sj, by rw [mr]; exact hDj⟩
  · have e : i = h.length := by omega
    subst e
    rw [List.take_length] at hDc
    exact .inl ⟨⟨ys, hSc, by omega⟩, q Dn _ Hc hD sc hDc (TpAll.ints _)⟩
end
end Lo
set_option linter.all false
set_option maxHeartbeats 1000000
/-! the mirror, third part: works and their threes -/
namespace Lo
open PySem
inductive Stp where
  | put (c : Int)
  | take
  | times (n : Int) (b : List Stp)
abbrev Wk := List Stp
def noT : Three := ([], [], 0)
theorem half_lt {m : Nat} (h : ¬ m = 0) : m / 2 < m := by omega
def powerT (found three : Three) (m : Nat) : Three := if h : m = 0 then found else powerT (if m % 2 = 1 then behindT found three else found) (behindT three three) (m / 2)
termination_by m
decreasing_by exact half_lt h
mutual
def stepT : Stp → Three
  | .put c => ([(c, 1)], [], 0)
  | .take => ([], [], 1)
  | .times n b => powerT noT (threeGo noT b) n.toNat
def threeGo : Three → List Stp → Three
  | f, [] => f
  | f, s :: r => threeGo (behindT f (stepT s)) r
end
def threeT (b : Wk) : Three := threeGo noT b
mutual
/-- how deep the times lie -/
def depS : Stp → Nat
  | .put _ => 0
  | .take => 0
  | .times _ b => depSs b + 1
def depSs : List Stp → Nat
  | [] => 0
  | s :: r => max (depS s) (depSs r)
end
mutual
def cntS : Stp → Nat
  | .put _ => 1
  | .take => 1
  | .times _ b => 1 + cntSs b
def cntSs : List Stp → Nat
  | [] => 0
  | s :: r => cntS s + cntSs r
end
mutual
def putsS : Stp → List Int
  | .put c => [c]
  | .take => []
  | .times _ b => putsSs b
def putsSs : List Stp → List Int
  | [] => []
  | s :: r => putsS s ++ putsSs r
end
mutual
/-- each step can be -/
def okS : Stp → Prop
  | .put c => -999 ≤ c ∧ c ≤ 999
  | .take => True
  | .times n b => (0 ≤ n ∧ n ≤ 1000000000000000000) ∧ okSs b
def okSs : List Stp → Prop
  | [] => True
  | s :: r => okS s ∧ okSs r
end
mutual
def encS : Stp → PyData
  | .put c => .tuple [.str (Str.ofString "put"), .int c]
  | .take => .tuple [.str (Str.ofString "take")]
  | .times n b => .tuple [.str (Str.ofString "times"), .int n, .tuple (encSs b)]
def encSs : List Stp → List PyData
  | [] => []
  | s :: r => encS s :: encSs r
end
def encW (b : Wk) : PyData := .tuple (encSs b)
theorem encSs_map : ∀ b : List Stp, encSs b = b.map encS
  | [] => by rw [encSs]; rfl
  | s :: r => by rw [encSs, encSs_map r]; rfl
theorem encSs_len (b : List Stp) : (encSs b).length = b.length := by rw [encSs_map, List.length_map]
theorem depSs_mem : ∀ {b : List Stp} {s : Stp}, s ∈ b → depS s ≤ depSs b
  | x :: r, s, h => by
    rw [depSs]
    rcases List.mem_cons.mp h with rfl | h
    · exact Nat.le_max_left _ _
    · exact Nat.le_trans (depSs_mem h) (Nat.le_max_right _ _)
theorem okSs_mem : ∀ {b : List Stp} {s : Stp}, okSs b → s ∈ b → okS s
  | x :: r, s, g, h => by
    rw [okSs] at g
    rcases List.mem_cons.mp h with rfl | h
    · exact g.1
    · exact okSs_mem g.2 h
theorem cntSs_append : ∀ a b : List Stp, cntSs (a ++ b) = cntSs a + cntSs b
  | [], b => by rw [List.nil_append, cntSs]; omega
  | s :: r, b => by
    rw [List.cons_append, cntSs, cntSs, cntSs_append r b]
    omega
theorem cntSs_one (s : Stp) : cntSs [s] = cntS s := by
  rw [cntSs, cntSs]
  rfl
theorem cntS_pos : ∀ s : Stp, 1 ≤ cntS s
  | .put _ => by rw [cntS]; omega
  | .take => by rw [cntS]; omega
  | .times _ b => by rw [cntS]; omega
theorem cntSs_len : ∀ b : List Stp, b.length ≤ cntSs b
  | [] => Nat.zero_le _
  | s :: r => by
    rw [cntSs, List.length_cons]
    have := cntS_pos s
    have := cntSs_len r
    omega
theorem cntSs_take_le (b : List Stp) (i : Nat) : cntSs (b.take i) ≤ cntSs b := by
  conv => rhs; rw [← List.take_append_drop i b, cntSs_append]
  omega
theorem putsSs_append : ∀ a b : List Stp, putsSs (a ++ b) = putsSs a ++ putsSs b
  | [], b => by rw [List.nil_append, putsSs, List.nil_append]
  | s :: r, b => by
    rw [List.cons_append, putsSs, putsSs, putsSs_append r b, List.append_assoc]
theorem putsSs_mem : ∀ {b : List Stp} {s : Stp} {x : Int}, s ∈ b → x ∈ putsS s → x ∈ putsSs b
  | y :: r, s, x, h, hx => by
    rw [putsSs]
    rcases List.mem_cons.mp h with rfl | h
    · exact List.mem_append_left _ hx
    · exact List.mem_append_right _ (putsSs_mem h hx)
mutual
theorem putsS_len : ∀ s : Stp, (putsS s).length ≤ cntS s
  | .put _ => by rw [putsS, cntS]; exact Nat.le_refl 1
  | .take => by rw [putsS, cntS]; exact Nat.zero_le _
  | .times _ b => by
    rw [putsS, cntS]
    have := putsSs_len b
    omega
theorem putsSs_len : ∀ b : List Stp, (putsSs b).length ≤ cntSs b
  | [] => by rw [putsSs]; exact Nat.zero_le _
  | s :: r => by
    rw [putsSs, cntSs, List.length_append]
    have := putsS_len s
    have := putsSs_len r
    omega
end
theorem powerT_good {S : List Int} : ∀ (m : Nat) {f t : Three}, GoodT S f → GoodT S t → GoodT S (powerT f t m) := by
  intro m
  induction m using Nat.strongRecOn with
  | _ m ih =>
    intro f t gf gt
    rw [powerT]
    split
    · exact gf
    · rename_i h
      refine ih (m / 2) (half_lt h) ?_ (gt.behind gt).1
      split
      · exact (gf.behind gt).1
      · exact gf
mutual
theorem stepT_good {S : List Int} : ∀ s : Stp, (∀ x ∈ putsS s, x ∈ S) → GoodT S (stepT s)
  | .put c, h => by
    rw [stepT]
    rw [putsS] at h
    exact ⟨⟨List.pairwise_singleton _ _, fun p hp => by
      rw [List.mem_singleton] at hp
      subst hp
      exact h c (List.mem_singleton.mpr rfl), fun p hp => by
      rw [List.mem_singleton] at hp
      subst hp
      exact Int.le_refl 1⟩, .nil S, Int.le_refl _⟩
  | .take, h => by
    rw [stepT]
    exact ⟨.nil S, .nil S, by decide⟩
  | .times n b, h => by
    rw [stepT]
    rw [putsS] at h
    exact powerT_good _ (.nothing S) (threeGo_good b (.nothing S) h)
theorem threeGo_good {S : List Int} : ∀ (b : List Stp) {f : Three}, GoodT S f → (∀ x ∈ putsSs b, x ∈ S) → GoodT S (threeGo f b)
  | [], f, g, _ => by
    rw [threeGo]
    exact g
  | s :: r, f, g, h => by
    rw [threeGo]
    rw [putsSs] at h
    exact threeGo_good r (g.behind (stepT_good s fun x hx => h x (List.mem_append_left _ hx))).1 fun x hx => h x (List.mem_append_right _ hx)
end
theorem threeGo_fold : ∀ (b : List Stp) (f : Three), threeGo f b = b.foldl (fun f s => behindT f (stepT s)) f
  | [], f => by rw [threeGo]; rfl
  | s :: r, f => by
    rw [threeGo, threeGo_fold r]
    rfl
end Lo
set_option Elab.async false
set_option linter.all false
set_option maxRecDepth 100000
set_option maxHeartbeats 2000000
/-! the shapes of data, when data are equal -/
namespace Lo
open PySem PySem.Spec
mutual
/-- ints, short texts, tuples of them -/
def simD : PyData → Bool
  | .int _ => true
  | .str x => PyData.strOk x
  | .tuple xs => simAll xs
  | _ => false
def simAll : List PyData → Bool
  | [] => true
  | x :: xs => simD x && simAll xs
end
mutual
theorem simD_lay : ∀ d : PyData, simD d = true → d.canLay0 = true
  | .int _, _ => rfl
  | .str x, h => by
    rw [simD] at h
    rw [PyData.canLay0]
    exact h
  | .tuple xs, h => by
    rw [simD] at h
    rw [PyData.canLay0]
    exact simAll_lay xs h
  | .none, h => by simp [simD] at h
  | .bool _, h => by simp [simD] at h
  | .list _, h => by simp [simD] at h
  | .dict _, h => by simp [simD] at h
theorem simAll_lay : ∀ xs : List PyData, simAll xs = true → PyData.canLayAll0 xs = true
  | [], _ => rfl
  | x :: xs, h => by
    rw [simAll, Bool.and_eq_true] at h
    rw [PyData.canLayAll0, simD_lay x h.1, simAll_lay xs h.2]
    rfl
end
mutual
theorem simD_eq : ∀ d e : PyData, simD d = true → simD e = true → PyData.eqv d e = true → d = e
  | .int i, .int j, _, _, h => by
    simp [PyData.eqv] at h
    rw [h]
  | .str x, .str y, _, _, h => by
    simp [PyData.eqv] at h
    rw [h]
  | .tuple xs, .tuple ys, h1, h2, h => by
    rw [simD] at h1 h2
    rw [PyData.eqv] at h
    rw [simAll_eq xs ys h1 h2 h]
  | .int _, .str _, _, _, h => by simp [PyData.eqv] at h
  | .int _, .tuple _, _, _, h => by simp [PyData.eqv] at h
  | .str _, .int _, _, _, h => by simp [PyData.eqv] at h
  | .str _, .tuple _, _, _, h => by simp [PyData.eqv] at h
  | .tuple _, .int _, _, _, h => by simp [PyData.eqv] at h
  | .tuple _, .str _, _, _, h => by simp [PyData.eqv] at h
  | .none, _, h, _, _ => by simp [simD] at h
  | .bool _, _, h, _, _ => by simp [simD] at h
  | .list _, _, h, _, _ => by simp [simD] at h
  | .dict _, _, h, _, _ => by simp [simD] at h
  | _, .none, _, h, _ => by simp [simD] at h
  | _, .bool _, _, h, _ => by simp [simD] at h
  | _, .list _, _, h, _ => by simp [simD] at h
  | _, .dict _, _, h, _ => by simp [simD] at h
theorem simAll_eq : ∀ xs ys : List PyData, simAll xs = true → simAll ys = true → PyData.eqvAll xs ys = true → xs = ys
  | [], [], _, _, _ => rfl
  | [], _ :: _, _, _, h => by simp [PyData.eqvAll] at h
  | _ :: _, [], _, _, h => by simp [PyData.eqvAll] at h
  | x :: xs, y :: ys, h1, h2, h => by
    rw [simAll, Bool.and_eq_true] at h1 h2
    rw [PyData.eqvAll, Bool.and_eq_true] at h
    rw [simD_eq x y h1.1 h2.1 h.1, simAll_eq xs ys h1.2 h2.2 h.2]
end
theorem simD_refl {d : PyData} (h : simD d = true) : PyData.eqv d d = true := PySem.SeqAt.eqv_refl_plain d (PyData.plain_of_canLay0 d (simD_lay d h))
theorem simD_iff {d e : PyData} (h1 : simD d = true) (h2 : simD e = true) : PyData.eqv d e = true ↔ d = e := ⟨simD_eq d e h1 h2, fun h => h ▸ simD_refl h1⟩
theorem shaped_of {d : PyData} (h : simD d = true) (hd : d.depth ≤ 64) : SeqAt.shaped d = true := by
  unfold SeqAt.shaped
  rw [simD_lay d h, decide_eq_true hd]
  rfl
theorem simAll_of : ∀ {l : List PyData}, (∀ d ∈ l, simD d = true) → simAll l = true
  | [], _ => rfl
  | x :: xs, h => by
    rw [simAll, h x (List.mem_cons_self ..), simAll_of fun d hd => h d (List.mem_cons_of_mem _ hd)]
    rfl
theorem simAll_mem : ∀ {l : List PyData}, simAll l = true → ∀ d ∈ l, simD d = true
  | x :: xs, h, d, hd => by
    rw [simAll, Bool.and_eq_true] at h
    rcases List.mem_cons.mp hd with rfl | hd
    · exact h.1
    · exact simAll_mem h.2 d hd
theorem depthAll_le {n : Nat} : ∀ {l : List PyData}, (∀ d ∈ l, d.depth ≤ n) → PyData.depthAll l ≤ n
  | [], _ => by simp [PyData.depthAll]
  | x :: xs, h => by
    have h1 := h x (List.mem_cons_self ..)
    have h2 := depthAll_le fun d hd => h d (List.mem_cons_of_mem _ hd)
    simp only [PyData.depthAll]
    omega
theorem depth_tuple (xs : List PyData) : (PyData.tuple xs).depth = 1 + PyData.depthAll xs ∨ (PyData.tuple xs).depth = PyData.depthAll xs + 1 := by
  exact .inr (by simp [PyData.depth])
theorem depth_tup {n : Nat} {xs : List PyData} (h : ∀ d ∈ xs, d.depth ≤ n) : (PyData.tuple xs).depth ≤ n + 1 := by
  have := depthAll_le h
  rcases depth_tuple xs with e | e <;> omega
theorem depth_int (i : Int) : (PyData.int i).depth = 0 := by simp [PyData.depth]
theorem depth_str (i : Str) : (PyData.str i).depth = 0 := by simp [PyData.depth]
theorem sim_P (p : Int × Int) : simD (encP p) = true := rfl
theorem dep_P (p : Int × Int) : (encP p).depth ≤ 1 := depth_tup (n := 0) fun d hd => by
  simp at hd
  rcases hd with rfl | rfl <;> simp [PyData.depth]
theorem sim_H (h : Hl) : simD (encH h) = true := by
  unfold encH
  rw [simD]
  refine simAll_of fun d hd => ?_
  obtain ⟨p, _, rfl⟩ := List.mem_map.mp hd
  rfl
theorem dep_H (h : Hl) : (encH h).depth ≤ 2 := depth_tup (n := 1) fun d hd => by
  obtain ⟨p, _, rfl⟩ := List.mem_map.mp hd
  exact dep_P p
theorem sim_T (t : Three) : simD (encT t) = true := by
  unfold encT
  rw [simD, simAll, simAll, simAll, simAll, sim_H, sim_H]
  rfl
theorem dep_T (t : Three) : (encT t).depth ≤ 3 := depth_tup (n := 2) fun d hd => by
  simp at hd
  rcases hd with rfl | rfl | rfl
  · exact dep_H _
  · exact dep_H _
  · simp [PyData.depth]
theorem shaped_H (h : Hl) : SeqAt.shaped (encH h) = true := shaped_of (sim_H h) (Nat.le_trans (dep_H h) (by decide))
theorem shaped_T (t : Three) : SeqAt.shaped (encT t) = true := shaped_of (sim_T t) (Nat.le_trans (dep_T t) (by decide))
theorem sim_put : simD (.str (Str.ofString "put")) = true := by
  rw [simD]
  decide +kernel
theorem sim_take : simD (.str (Str.ofString "take")) = true := by
  rw [simD]
  decide +kernel
theorem sim_times : simD (.str (Str.ofString "times")) = true := by
  rw [simD]
  decide +kernel
mutual
theorem sim_S : ∀ s : Stp, simD (encS s) = true
  | .put c => by
    rw [encS, simD, simAll, sim_put]
    rfl
  | .take => by
    rw [encS, simD, simAll, sim_take]
    rfl
  | .times n b => by
    rw [encS, simD, simAll, sim_times, simAll, simAll, simD, simD, sim_Ss b]
    rfl
theorem sim_Ss : ∀ b : List Stp, simAll (encSs b) = true
  | [] => by rw [encSs]; rfl
  | s :: r => by
    rw [encSs, simAll, sim_S s, sim_Ss r]
    rfl
end
theorem sim_W (b : Wk) : simD (encW b) = true := by
  unfold encW
  rw [simD]
  exact sim_Ss b
mutual
theorem dep_S : ∀ s : Stp, (encS s).depth ≤ 1 + 2 * depS s
  | .put c => by
    rw [encS, depS]
    exact depth_tup (n := 0) fun d hd => by
      simp at hd
      rcases hd with rfl | rfl <;> simp [PyData.depth]
  | .take => by
    rw [encS, depS]
    exact depth_tup (n := 0) fun d hd => by
      simp at hd
      rcases hd with rfl <;> simp [PyData.depth]
  | .times n b => by
    rw [encS, depS]
    have := depth_tup (n := 1 + 2 * depSs b) (dep_Ss b)
    have e := depth_tup (n := 1 + 2 * depSs b + 1) (xs := [.str (Str.ofString "times"), .int n, .tuple (encSs b)]) fun d hd => by
      simp at hd
      rcases hd with rfl | rfl | rfl
      · simp [PyData.depth]
      · simp [PyData.depth]
      · exact this
    omega
theorem dep_Ss : ∀ b : List Stp, ∀ d ∈ encSs b, d.depth ≤ 1 + 2 * depSs b
  | [], d, h => by
    rw [encSs] at h
    cases h
  | s :: r, d, h => by
    rw [encSs] at h
    rw [depSs]
    rcases List.mem_cons.mp h with rfl | h
    · have := dep_S s
      omega
    · have := dep_Ss r d h
      omega
end
theorem dep_W (b : Wk) : (encW b).depth ≤ 2 + 2 * depSs b := by
  have := depth_tup (dep_Ss b)
  unfold encW
  omega
theorem shaped_W {b : Wk} (h : depSs b ≤ 30) : SeqAt.shaped (encW b) = true := shaped_of (sim_W b) (by have := dep_W b; omega)
theorem shaped_S {b : Stp} (h : depS b ≤ 30) : SeqAt.shaped (encS b) = true := shaped_of (sim_S b) (by have := dep_S b; omega)
end Lo
set_option Elab.async false
set_option linter.all false
set_option maxRecDepth 100000
set_option maxHeartbeats 4000000
/-! works, first part -/
namespace Lo
open PySem PySem.Spec PyProof.Rows L2
section
variable {K : PySem.W.Frag} {σ : L2.St} {H : Hp} {te ta tb tc : TE} {D : Ends} {i : Nat} {d e z : PyData} {ds : List PyData}
theorem sd_while {c : TT} {tb : TS} (Pv : Nat → L2.St → Hp → Prop) (m0 : Nat) (h0 : Pv m0 σ H)
    (hs : ∀ m σ H, Pv m σ H → ∃ b, EvB c σ H b ∧ (b = true → ∀ H1, Same H H1 → ∀ N : L2.St → Hp → Prop, (∀ m' σ' H', m' < m → Pv m' σ' H' → N σ' H') → tb { D with nx := N, ct := N, bk := D.nx } σ H1) ∧ (b = false → ∀ H1, Same H H1 → D.nx σ H1)) : tWhile c tb D σ H := by
  refine ⟨Pv, ⟨m0, h0⟩, fun m σ H p => ?_⟩
  obtain ⟨b, hb, h1, h2⟩ := hs m σ H p
  refine hb.go fun H1 s1 => ?_
  cases b with
  | true => exact iteT ⟨fun σ' H' => ∃ m', m' < m ∧ Pv m' σ' H', fun σ' H' q => q, h1 rfl H1 s1 _ fun m' σ' H' l q => ⟨m', l, q⟩⟩
  | false =>
    rw [if_neg Bool.false_ne_true]
    exact h2 rfl H1 s1
theorem sd_augI {C : Int → Int → Prop} {g : Int → Int → V} {j k : Int} (hv : σ[i]? = some (some (.int j))) (h : EvD K te σ H (.int k)) (hc : C j k) (q : ∀ H2, Same H H2 → D.nx (σ.set i (some (g j k))) H2) : tAug i te (rI C g) D σ H :=
  ⟨_, hv, h.go fun v H2 s2 hv2 => ⟨j, k, rfl, hv2.int_inv, hc, q H2 s2⟩⟩
theorem evd_len {es : List PyData} (h : EvD K te σ H (.tuple es)) : EvD K (tCB (rLenQ K) (tCons te tNil)) σ H (.int es.length) := evd_cb (eva_cons h eva_nil) cbd_lenT
theorem evd_at {es : List PyData} (j : Nat) (h : EvD K te σ H (.tuple es)) (hj : es[j]? = some d) : EvD K (tOp (rIxT K) te (tC (.int (j : Int)))) σ H d := evd_op h evd_int (opd_ixT hj)
end
abbrev sIsStep : Stmt := top 32
abbrev sNeedSt : Stmt := top 33
abbrev sNeedW : Stmt := top 34
abbrev sBehind : Stmt := top 35
abbrev sPower : Stmt := top 36
abbrev sThree : Stmt := top 37
def rIsStep (ds : List PyData) (d : PyData) : Prop := ∃ s : Stp, ds = [encS s] ∧ okS s ∧ d = .bool true
/-- need_steps, nested less than n deep -/
def rNeedSt (n : Nat) (ds : List PyData) (d : PyData) : Prop := ∃ (b : List Stp) (deep num : Int), ds = [encW b, .int deep, .int num] ∧ okSs b ∧ depSs b < n ∧ deep + n ≤ 4 ∧ num + cntSs b ≤ 30 ∧ d = .int (num + cntSs b)
/-- a work that can be -/
structure OkW (b : Wk) : Prop where
  ok : okSs b
  dep : depSs b < 3
  cnt : cntSs b ≤ 30
def rNeedW (ds : List PyData) (d : PyData) : Prop := ∃ b : Wk, ds = [encW b] ∧ OkW b ∧ d = .none
def rBehind (ds : List PyData) (d : PyData) : Prop := ∃ (a b : Three) (S : List Int), ds = [encT a, encT b] ∧ GoodT S a ∧ GoodT S b ∧ S.length ≤ 2000001 ∧ d = encT (behindT a b)
def rPower (ds : List PyData) (d : PyData) : Prop := ∃ (t : Three) (m : Int) (S : List Int), ds = [encT t, .int m] ∧ GoodT S t ∧ S.length ≤ 2000001 ∧ 0 ≤ m ∧ d = encT (powerT noT t m.toNat)
def rThree (n : Nat) (ds : List PyData) (d : PyData) : Prop := ∃ b : Wk, ds = [encW b] ∧ okSs b ∧ depSs b < n ∧ cntSs b ≤ 1000 ∧ d = encT (threeT b)
section
variable {P : Program} {w : World} {K : PySem.W.Frag} {mg : Str → Option Value} {base : Heap} {f : Addr} {fd : FuncData}
theorem scIsStep : FnScope ["step"] ["step"] (defScope sIsStep) := ⟨rfl, rfl, rfl, by decide +kernel, rfl, by decide +kernel, by decide +kernel⟩
theorem ok_isStep (F : Fun K "is_step" "is_step" sIsStep f fd) (T : Txt K mg) : FnOk P w K mg base CX0 1 f fd ["step"] (spD K rIsStep) := by
  refine F.ok scIsStep (spD_len fun ds d ⟨_, e, _⟩ => by rw [e]; rfl) (fun cdv A outer s H vs Q E hr h => ?_)
  obtain ⟨ds, d, hvs, ⟨t, rfl, ok, rfl⟩, q⟩ := h
  obtain ⟨v1, rfl, hv1⟩ := one_inv hvs
  refine ⟨_, pss_cons (ps_if (pt_cmpR op_eq (pe_callB call_len_seq (by rfl) T.zLen (by decide +kernel) (pa_cons (pv 0) pa_nil)) pe_int (nomark _)) (pss_one (ps_ret pe_bl)) pss_nil)
    (pss_cons (ps_if (pt_cmpR op_eq (pe_ix ix_tup (pv 0) pe_int (fun _ _ => rfl)) (pe_gS T.cPut) (nomark _)) (pss_one (ps_ret (pe_and (pe_cmpR op_eq (pe_callB call_len_seq (by rfl) T.zLen (by decide +kernel) (pa_cons (pv 0) pa_nil)) pe_int (nomark _)) (pe_one (pe_cmpR op_le (pe_callB call_abs (by rfl) T.zAbs (by decide +kernel) (pa_cons (pe_ix ix_tup (pv 0) pe_int (fun _ _ => rfl)) pa_nil)) (pe_gI T.cMPut) (nomark _)))))) pss_nil)
    (pss_cons (ps_if (pt_cmpR op_eq (pe_ix ix_tup (pv 0) pe_int (fun _ _ => rfl)) (pe_gS T.cTimes) (nomark _)) (pss_one (ps_ret (pe_and (pe_cmpR op_eq (pe_callB call_len_seq (by rfl) T.zLen (by decide +kernel) (pa_cons (pv 0) pa_nil)) pe_int (nomark _)) (pe_one (pe_chain op_le op_le pe_int (pe_ix ix_tup (pv 0) pe_int (fun _ _ => rfl)) (pe_gI T.cCount)))))) pss_nil)
    (pss_one (ps_ret (pe_cmpR (op_eqD (hu64 hr)) (pv 0) (pe_tupP (pa_cons (pe_gS T.cTake) pa_nil)) (nomark _)))))), ?_⟩
  cases t with
  | put c =>
    rw [encS] at hv1
    rw [okS] at ok
    refine sd_seq (sd_no1 (EvB.is (evb_test (K := K) (evd_op (evd_len (evd_var rfl hv1)) evd_int opd_eqI)) rfl) fun H2 s2 => ?_)
    refine sd_go (sd_seq (sd_yes (EvB.is (evb_test (K := K) (evd_op (evd_at 0 (evd_var rfl (hv1.same s2)) rfl) evd_str opd_eqStr)) (by decide +kernel)) fun H3 s3 => ?_))
    refine sd_ret (K := K) (d := .bool true) (evd_is (evd_andV (evd_op (evd_len (evd_var rfl (hv1.same (s2.trans s3)))) evd_int opd_eqI) fun _ => evd_op (evd_cb (eva_cons (evd_at 1 (evd_var rfl (hv1.same (s2.trans s3))) rfl) eva_nil) cbd_abs) evd_int (opd_I0 (.bl _))) ?_) fun v H4 s4 h4 => q v H4 ((s2.trans s3).trans s4) h4
    have e1 : (if c < 0 then -c else c) ≤ 999 := by split <;> omega
    rw [decide_eq_true e1]
    rfl
  | take =>
    have hv1' := hv1
    rw [encS] at hv1
    refine sd_seq (sd_no1 (EvB.is (evb_test (K := K) (evd_op (evd_len (evd_var rfl hv1)) evd_int opd_eqI)) rfl) fun H2 s2 => ?_)
    refine sd_go (sd_seq (sd_no1 (EvB.is (evb_test (K := K) (evd_op (evd_at 0 (evd_var rfl (hv1.same s2)) rfl) evd_str opd_eqStr)) (by decide +kernel)) fun H3 s3 => ?_))
    refine sd_go (sd_seq (sd_no1 (EvB.is (evb_test (K := K) (evd_op (evd_at 0 (evd_var rfl (hv1.same (s2.trans s3))) rfl) evd_str opd_eqStr)) (by decide +kernel)) fun H4 s4 => ?_))
    refine sd_go (sd_ret (K := K) (d := .bool true) (evd_is (evd_op (evd_var rfl (hv1'.same ((s2.trans s3).trans s4))) (evd_is (d' := encS .take) (evd_tup (eva_cons evd_str eva_nil)) (by rw [encS])) (opd_eqD (shaped_S (b := .take) (by decide)) (shaped_S (b := .take) (by decide)))) ?_) fun v H5 s5 h5 => q v H5 (((s2.trans s3).trans s4).trans s5) h5)
    rw [simD_refl (sim_S .take)]
  | times n b =>
    rw [encS] at hv1
    rw [okS] at ok
    refine sd_seq (sd_no1 (EvB.is (evb_test (K := K) (evd_op (evd_len (evd_var rfl hv1)) evd_int opd_eqI)) rfl) fun H2 s2 => ?_)
    refine sd_go (sd_seq (sd_no1 (EvB.is (evb_test (K := K) (evd_op (evd_at 0 (evd_var rfl (hv1.same s2)) rfl) evd_str opd_eqStr)) (by decide +kernel)) fun H3 s3 => ?_))
    refine sd_go (sd_seq (sd_yes (EvB.is (evb_test (K := K) (evd_op (evd_at 0 (evd_var rfl (hv1.same (s2.trans s3))) rfl) evd_str opd_eqStr)) (by decide +kernel)) fun H4 s4 => ?_))
    have h3 := hv1.same ((s2.trans s3).trans s4)
    refine sd_ret (K := K) (d := .bool true) (evd_is (evd_andV (evd_op (evd_len (evd_var rfl h3)) evd_int opd_eqI) fun _ => evd_chain evd_int (evd_at 1 (evd_var rfl h3) rfl) (opd_I0 (.bl _)) (fun _ => evd_int) fun _ => opd_I0 (.bl _)) ?_) fun v H5 s5 h5 => q v H5 (((s2.trans s3).trans s4).trans s5) h5
    rw [decide_eq_true ok.1.1, decide_eq_true ok.1.2]
    rfl
theorem scNeedSt : FnScope ["steps", "deep", "number", "step"] ["steps", "deep", "number"] (defScope sNeedSt) := ⟨rfl, rfl, rfl, by decide +kernel, rfl, by decide +kernel, by decide +kernel⟩
theorem encSs_at {b : List Stp} {i : Nat} {d : PyData} (h : (encSs b)[i]? = some d) : ∃ s, b[i]? = some s ∧ d = encS s := by
  rw [encSs_map] at h
  exact map_at h
theorem cnt_more {b : List Stp} {i : Nat} {s : Stp} (h : b[i]? = some s) : cntSs (b.take (i + 1)) = cntSs (b.take i) + cntS s := by
  rw [List.take_succ, h, cntSs_append]
  show _ + cntSs [s] = _
  rw [cntSs_one]
def nameS : Stp → Str
  | .put _ => Str.ofString "put"
  | .take => Str.ofString "take"
  | .times _ _ => Str.ofString "times"
theorem put_times (c : Int) : decide (nameS (.put c) = Str.ofString "times") = false := by
  show decide (Str.ofString "put" = Str.ofString "times") = false
  decide +kernel
theorem take_times : decide (nameS .take = Str.ofString "times") = false := by decide +kernel
theorem times_times (n : Int) (b : List Stp) : decide (nameS (.times n b) = Str.ofString "times") = true := by
  show decide (Str.ofString "times" = Str.ofString "times") = true
  decide +kernel
theorem put_put (c : Int) : decide (nameS (.put c) = Str.ofString "put") = true := by
  show decide (Str.ofString "put" = Str.ofString "put") = true
  decide +kernel
theorem take_put : decide (nameS .take = Str.ofString "put") = false := by decide +kernel
theorem take_take : decide (nameS .take = Str.ofString "take") = true := by decide +kernel
theorem times_put (n : Int) (b : List Stp) : decide (nameS (.times n b) = Str.ofString "put") = false := by
  show decide (Str.ofString "times" = Str.ofString "put") = false
  decide +kernel
theorem times_take (n : Int) (b : List Stp) : decide (nameS (.times n b) = Str.ofString "take") = false := by
  show decide (Str.ofString "times" = Str.ofString "take") = false
  decide +kernel
theorem head_is {s : Stp} {σ : L2.St} {H : Hp} {i : Nat} {v : V} (hv : σ[i]? = some (some v)) (hd : Tp K H v (encS s)) {x : Str} {b : Bool} (hb : decide (nameS s = x) = b) :
    EvB (tTest (tOp rEq (tOp (rIxT K) (tVar i) (tC (.int 0))) (tC (.str x)))) σ H b := by
  cases s with
  | put c =>
    rw [encS] at hd
    exact EvB.is (evb_test (K := K) (evd_op (evd_at 0 (evd_var hv hd) rfl) evd_str opd_eqStr)) hb
  | take =>
    rw [encS] at hd
    exact EvB.is (evb_test (K := K) (evd_op (evd_at 0 (evd_var hv hd) rfl) evd_str opd_eqStr)) hb
  | times n b =>
    rw [encS] at hd
    exact EvB.is (evb_test (K := K) (evd_op (evd_at 0 (evd_var hv hd) rfl) evd_str opd_eqStr)) hb
theorem ok_needSt {n k : Nat} (F : Fun K "need_steps" "need_steps" sNeedSt f fd) (T : Txt K mg) (hk : 1 ≤ k) (cIs : Callee P w K mg base 1 "is_step" ["step"] (spD K rIsStep)) (cMe : Callee P w K mg base k "need_steps" ["steps", "deep", "number"] (spD K (rNeedSt n))) :
    FnOk P w K mg base CX0 (k + 1) f fd ["steps", "deep", "number"] (spD K (rNeedSt (n + 1))) := by
  refine F.ok scNeedSt (spD_len fun ds d ⟨_, _, _, e, _⟩ => by rw [e]; rfl) (fun cdv A outer s H vs Q E hr h => ?_)
  obtain ⟨ds, d, hvs, ⟨b, deep, num, rfl, ok, dep, hdeep, hnum, rfl⟩, q⟩ := h
  obtain ⟨v1, v2, v3, rfl, hv1, hv2, hv3⟩ := three_inv hvs
  obtain rfl := hv2.int_inv
  obtain rfl := hv3.int_inv
  refine ⟨_, pss_cons (ps_for PassesOwn.never rfl (pi_tup (pv 0)) (pg_name (i := 3) scNeedSt.nd rfl (Or.inl rfl))
      (pss_cons (ps_if (PW.pt (pw_or (pt_cmpR op_eq (pv 2) (pe_gI T.cSteps) (nomark _)) (pw_or (pt_cmpR op_gt (pv 1) (pe_gI T.cDeep) (nomark _)) (pw_or1 (pt_not (pt_val (pe_cal cIs hr (pa_cons (pv 3) pa_nil) hk))))))) (pss_one ps_never) pss_nil)
      (pss_cons (ps_aug (i := 2) scNeedSt.nd rfl (Or.inl rfl) pe_int ip_add)
      (pss_one (ps_if (pt_cmpR op_eq (pe_ix ix_tup (pv 3) pe_int (fun _ _ => rfl)) (pe_gS T.cTimes) (nomark _))
        (pss_one (ps_set (i := 2) scNeedSt.nd rfl (Or.inl rfl) (pe_cal cMe hr (pa_cons (pe_ix ix_tup (pv 3) pe_int (fun _ _ => rfl)) (pa_cons (pe_op op_add (pv 1) pe_int) (pa_cons (pv 2) pa_nil))) (Nat.le_refl k)))) pss_nil)))))
    (pss_one (ps_ret (pv 2))), ?_⟩
  refine sd_seq (st_for (K := K) (H := H) (i := 0) (v := v1) (ds := encSs b) rfl hv1 (.refl H) (fun i σ H' => ∃ u : Option V, σ = [some v1, some (.int deep), some (.int (num + cntSs (b.take i))), u] ∧ Same H H') ?_ (fun _ _ _ ⟨_, _, s'⟩ => .of s') ?_ ?_)
  · exact ⟨none, by simp [cntSs, L2.start], Same.refl H⟩
  · rintro i d x σ H' hd hx ⟨u, rfl, s'⟩
    obtain ⟨t, ht, rfl⟩ := encSs_at hd
    have hm := List.mem_of_getElem? ht
    have hle := cntSs_take_le b (i + 1)
    have mr := cnt_more ht
    have hp := cntS_pos t
    have hokt := okSs_mem ok hm
    have hdt := depSs_mem hm
    refine sd_seq (sd_no1 (EvB.is (evb_or (evb_test (K := K) (evd_op (evd_var (v := .int (num + cntSs (b.take i))) rfl (.int _)) evd_int opd_eqI)) fun _ => evb_or (evb_cmp (K := K) (evd_var (v := .int deep) rfl (.int _)) evd_int rfl) fun _ => evb_not (evb_B (K := K) (evd_call (eva_cons (evd_var rfl hx) eva_nil) ⟨t, rfl, hokt, rfl⟩))) ?_) fun H2 s2 => ?_)
    · have e1 : ¬ (num + (cntSs (b.take i) : Int) = 30) := by omega
      have e2 : ¬ ((3 : Int) < deep) := by omega
      simp only [e1, e2, decide_false, Bool.or_false, Bool.not_true]
    refine sd_go (sd_seq (sd_aug (K := K) rfl evd_int fun H3 s3 => ?_))
    have hx3 := hx.same (s2.trans s3)
    cases t with
    | put c =>
      refine sd_go (sd_no1 (head_is (K := K) rfl hx3 (b := false) (put_times c)) fun H4 s4 => ⟨some x, ?_, ((s'.trans s2).trans s3).trans s4⟩)
      rw [mr, cntS]
      show _ = [some v1, some (V.int deep), some (V.int (num + ((cntSs (b.take i) + 1 : Nat) : Int))), some x]
      rw [Int.natCast_add, ← Int.add_assoc]
      rfl
    | take =>
      refine sd_go (sd_no1 (head_is (K := K) rfl hx3 (b := false) take_times) fun H4 s4 => ⟨some x, ?_, ((s'.trans s2).trans s3).trans s4⟩)
      rw [mr, cntS]
      show _ = [some v1, some (V.int deep), some (V.int (num + ((cntSs (b.take i) + 1 : Nat) : Int))), some x]
      rw [Int.natCast_add, ← Int.add_assoc]
      rfl
    | times m c =>
      refine sd_go (sd_yes (head_is (K := K) rfl hx3 (b := true) (times_times m c)) fun H4 s4 => ?_)
      have hx4 := hx3.same s4
      rw [encS] at hx4
      rw [okS] at hokt
      rw [depS] at hdt
      rw [cntS] at mr
      refine sd_set (K := K) (evd_call (eva_cons (evd_at 2 (evd_var rfl hx4) rfl) (eva_cons (evd_op (evd_var rfl (.int deep)) evd_int (opd_I0 (.int _))) (eva_cons (evd_var rfl (.int (num + cntSs (b.take i) + 1))) eva_nil))) ⟨c, _, _, rfl, hokt.2, by omega, by omega, by omega, rfl⟩) fun v H5 s5 h5 => ?_
      obtain rfl := h5.int_inv
      refine ⟨some x, ?_, (((s'.trans s2).trans s3).trans s4).trans s5⟩
      rw [mr]
      have e : num + (cntSs (b.take i) : Int) + 1 + (cntSs c : Int) = num + ((cntSs (b.take i) + (1 + cntSs c) : Nat) : Int) := by omega
      rw [e]
      rfl
  · rintro σ H' ⟨u, rfl, s'⟩
    rw [encSs_len, List.take_length]
    exact sd_go (sd_ret (K := K) (evd_var rfl (.int _)) fun v H3 s3 h3 => q v H3 (s'.trans s3) h3)
theorem no_needSt : FnOk P w K mg base CX0 0 f fd ["steps", "deep", "number"] (spD K (rNeedSt 0)) :=
  ⟨spD_len fun ds d ⟨_, _, _, e, _⟩ => by rw [e]; rfl, fun A outer s H args us vs Q E hr he hb hv ⟨ds, d, _, ⟨_, _, _, _, _, hd, _⟩, _⟩ => absurd hd (Nat.not_lt_zero _)⟩
end
end Lo
set_option Elab.async false
set_option linter.all false
set_option maxRecDepth 100000
set_option maxHeartbeats 4000000
/-! works, second part -/
namespace Lo
open PySem PySem.Spec PyProof.Rows L2
/-- a def of the top -/
structure Dfn (K : PySem.W.Frag) (mg : Str → Option Value) (x : Str) (st : Stmt) (ps : List Str) : Prop where
  ex : ∃ f fd, Fun K x x st f fd ∧ mg x = some (.ref f) ∧ Binds K fd ps []
section
variable {P : Program} {w : World} {K : PySem.W.Frag} {mg : Str → Option Value} {base : Heap} {f : Addr} {fd : FuncData} {x : Str} {st : Stmt} {ps : List Str} {sp sp' : Sp} {k j : Nat}
theorem Dfn.callee (D : Dfn K mg x st ps) (h : ∀ f fd, Fun K x x st f fd → FnOk P w K mg base CX0 k f fd ps sp) : Callee P w K mg base k x ps sp := by
  obtain ⟨f, fd, F, hm, hb⟩ := D.ex
  exact ⟨f, fd, h f fd F, hm, F.kp, hb⟩
theorem Callee.mono (c : Callee P w K mg base j x ps sp) (h : j ≤ k) : Callee P w K mg base k x ps sp := by
  obtain ⟨f, fd, F, r⟩ := c.ex
  exact ⟨f, fd, F.mono h, r⟩
theorem callee_needSt (D : Dfn K mg "need_steps" sNeedSt ["steps", "deep", "number"]) (T : Txt K mg) (cIs : Callee P w K mg base 1 "is_step" ["step"] (spD K rIsStep)) : ∀ n, Callee P w K mg base (n + 1) "need_steps" ["steps", "deep", "number"] (spD K (rNeedSt n))
  | 0 => D.callee fun f fd F => no_needSt.mono (Nat.zero_le _)
  | n + 1 => D.callee fun f fd F => ok_needSt F T (Nat.le_add_left 1 n) cIs (callee_needSt D T cIs n)
theorem scNeedW : FnScope ["work"] ["work"] (defScope sNeedW) := ⟨rfl, rfl, rfl, by decide +kernel, rfl, by decide +kernel, by decide +kernel⟩
theorem ok_needW (F : Fun K "need_work" "need_work" sNeedW f fd) (c : Callee P w K mg base 4 "need_steps" ["steps", "deep", "number"] (spD K (rNeedSt 3))) : FnOk P w K mg base CX0 5 f fd ["work"] (spD K rNeedW) := by
  refine F.ok scNeedW (spD_len fun ds d ⟨_, e, _⟩ => by rw [e]; rfl) (fun cdv A outer s H vs Q E hr h => ?_)
  obtain ⟨ds, d, hvs, ⟨b, rfl, ok, rfl⟩, q⟩ := h
  obtain ⟨v1, rfl, hv1⟩ := one_inv hvs
  refine ⟨_, pss_one (ps_expr (pe_cal c hr (pa_cons (pv 0) (pa_cons pe_int (pa_cons pe_int pa_nil))))), ?_⟩
  exact sd_drop (K := K) (evd_call (eva_cons (evd_var rfl hv1) (eva_cons evd_int (eva_cons evd_int eva_nil))) ⟨b, 1, 0, rfl, ok.ok, ok.dep, by decide, by have := ok.cnt; omega, rfl⟩) fun v H2 s2 h2 => q .non H2 s2 .non
theorem scBehind : FnScope ["one", "other", "left", "out", "idle", "first", "rest", "lacking", "second", "none"] ["one", "other"] (defScope sBehind) := ⟨rfl, rfl, rfl, by decide +kernel, rfl, by decide +kernel, by decide +kernel⟩
theorem tp_T {H : Hp} {v : V} {t : Three} (h : Tp K H v (encT t)) : Tp K H v (.tuple [encH t.1, encH t.2.1, .int t.2.2]) := h
theorem ok_behind (F : Fun K "behind" "behind" sBehind f fd) (T : Txt K mg) (cSize : Callee P w K mg base 1 "size_of" ["heap"] (spD K rSize)) (cBoth : Callee P w K mg base 1 "both" ["one", "other"] (spD K rBoth)) (cParted : Callee P w K mg base 1 "parted" ["heap", "many"] (spD K rParted)) :
    FnOk P w K mg base CX0 2 f fd ["one", "other"] (spD K rBehind) := by
  refine F.ok scBehind (spD_len fun ds d ⟨_, _, _, e, _⟩ => by rw [e]; rfl) (fun cdv A outer s H vs Q E hr h => ?_)
  obtain ⟨ds, d, hvs, ⟨a, b, S, rfl, ga, gb, hS, rfl⟩, q⟩ := h
  obtain ⟨v1, v2, rfl, hv1, hv2⟩ := two_inv hvs
  have nd := scBehind.nd
  refine ⟨_, pss_cons (ps_asg (pv 0) (pg_tup rfl (pgs_cons (pg_name (i := 2) nd rfl (Or.inl rfl)) (pgs_cons (pg_name (i := 3) nd rfl (Or.inl rfl)) (pgs_cons (pg_name (i := 4) nd rfl (Or.inl rfl)) pgs_nil)))))
    (pss_cons (ps_asg (pe_cal cParted hr (pa_cons (pv 2) (pa_cons (pe_ix ix_tup (pv 1) pe_int (fun _ _ => rfl)) pa_nil))) (pg_tup rfl (pgs_cons (pg_name (i := 5) nd rfl (Or.inl rfl)) (pgs_cons (pg_name (i := 6) nd rfl (Or.inl rfl)) (pgs_cons (pg_name (i := 7) nd rfl (Or.inl rfl)) pgs_nil)))))
    (pss_cons (ps_asg (pe_cal cParted hr (pa_cons (pe_cal cBoth hr (pa_cons (pv 6) (pa_cons (pe_ix ix_tup (pv 1) pe_int (fun _ _ => rfl)) pa_nil))) (pa_cons (pe_cal cSize hr (pa_cons (pe_ix ix_tup (pv 1) pe_int (fun _ _ => rfl)) pa_nil)) pa_nil))) (pg_tup rfl (pgs_cons (pg_name (i := 8) nd rfl (Or.inl rfl)) (pgs_cons (pg_name (i := 6) nd rfl (Or.inl rfl)) (pgs_cons (pg_name (i := 9) nd rfl (Or.inl rfl)) pgs_nil)))))
    (pss_one (ps_ret (pe_tupP (pa_cons (pe_cal cBoth hr (pa_cons (pv 6) (pa_cons (pe_ix ix_tup (pv 1) pe_int (fun _ _ => rfl)) pa_nil)))
      (pa_cons (pe_cal cBoth hr (pa_cons (pe_cal cBoth hr (pa_cons (pv 3) (pa_cons (pv 5) pa_nil))) (pa_cons (pv 8) pa_nil))) (pa_cons (pe_op op_add (pv 4) (pv 7)) pa_nil))))))))
    , ?_⟩
  obtain ⟨p1, p2, p3, _⟩ := ga.left.parted gb.idle
  have b1 := (p2.both gb.out).1
  obtain ⟨q1, q2, q3, _⟩ := b1.parted gb.out.size_nonneg
  have d1 := (ga.out.both p1).1
  have ln : ∀ {h : Hl}, Good S h → h.length ≤ 2000001 := fun g => Nat.le_trans g.len hS
  refine sd_seq (sd_unp3 (K := K) (evd_var rfl (tp_T hv1)) fun x y z H1 s1 hx hy hz => ?_)
  refine sd_go (sd_seq (sd_unp3 (K := K) (a := encH (partedH a.1 b.2.2).1) (b := encH (partedH a.1 b.2.2).2.1) (c := .int (partedH a.1 b.2.2).2.2) (evd_call (d := encT (partedH a.1 b.2.2)) (eva_cons (evd_var rfl hx) (eva_cons (evd_at 2 (evd_var rfl (tp_T (hv2.same s1))) rfl) eva_nil)) ⟨a.1, b.2.2, rfl, ⟨S, ga.left⟩, gb.idle, ln ga.left, rfl⟩) fun x2 y2 z2 H2 s2 hx2 hy2 hz2 => ?_))
  have hv2' := tp_T (hv2.same (s1.trans s2))
  refine sd_go (sd_seq (sd_unp3 (K := K) (a := encH (partedH (bothH (partedH a.1 b.2.2).2.1 b.2.1) (sizeH b.2.1)).1) (b := encH (partedH (bothH (partedH a.1 b.2.2).2.1 b.2.1) (sizeH b.2.1)).2.1) (c := .int (partedH (bothH (partedH a.1 b.2.2).2.1 b.2.1) (sizeH b.2.1)).2.2)
    (evd_call (d := encT (partedH (bothH (partedH a.1 b.2.2).2.1 b.2.1) (sizeH b.2.1))) (eva_cons (evd_call (eva_cons (evd_var rfl hy2) (eva_cons (evd_at 1 (evd_var rfl hv2') rfl) eva_nil)) ⟨_, _, S, rfl, p2, gb.out, hS, rfl⟩) (eva_cons (evd_call (eva_cons (evd_at 1 (evd_var rfl hv2') rfl) eva_nil) ⟨_, rfl, small_le (by have := ln gb.out; omega), rfl⟩) eva_nil)) ⟨_, _, rfl, ⟨S, b1⟩, gb.out.size_nonneg, ln b1, rfl⟩) fun x3 y3 z3 H3 s3 hx3 hy3 hz3 => ?_))
  obtain rfl := hz.int_inv
  obtain rfl := hz2.int_inv
  refine sd_go (sd_ret (K := K) (d := encT (behindT a b)) (evd_tup (eva_cons (evd_call (d := encH (behindT a b).1) (eva_cons (evd_var rfl hy3) (eva_cons (evd_at 0 (evd_var rfl (hv2'.same s3)) rfl) eva_nil)) ⟨_, _, S, rfl, q2, gb.left, hS, rfl⟩)
    (eva_cons (evd_call (d := encH (behindT a b).2.1) (eva_cons (evd_call (eva_cons (evd_var rfl (hy.same (s2.trans s3))) (eva_cons (evd_var rfl (hx2.same s3)) eva_nil)) ⟨_, _, S, rfl, ga.out, p1, hS, rfl⟩) (eva_cons (evd_var rfl hx3) eva_nil)) ⟨_, _, S, rfl, d1, q1, hS, rfl⟩)
    (eva_cons (evd_op (evd_var rfl (.int a.2.2)) (evd_var rfl (.int (partedH a.1 b.2.2).2.2)) (opd_I0 (.int _))) eva_nil)))) fun v H4 s4 h4 => q v H4 (((s1.trans s2).trans s3).trans s4) h4)
theorem scPower : FnScope ["three", "many", "found"] ["three", "many"] (defScope sPower) := ⟨rfl, rfl, rfl, by decide +kernel, rfl, by decide +kernel, by decide +kernel⟩
theorem pe_gR {X : Cx} {x : Str} {pos : Pos} {a : Addr} (hm : X.mg x = some (.ref a)) (hg : Gl X x := by rfl) (hd : (x == ("__debug__" : Str)) = false := by decide) : PE X (.Name x pos) (tC (.ref a)) := pe_glob hg hm rfl hd
theorem ok_power (F : Fun K "power" "power" sPower f fd) (T : Txt K mg) (cBeh : Callee P w K mg base 2 "behind" ["one", "other"] (spD K rBehind)) : FnOk P w K mg base CX0 3 f fd ["three", "many"] (spD K rPower) := by
  refine F.ok scPower (spD_len fun ds d ⟨_, _, _, e, _⟩ => by rw [e]; rfl) (fun cdv A outer s H vs Q E hr h => ?_)
  obtain ⟨ds, d, hvs, ⟨t, m, S, rfl, gt, hS, hm, rfl⟩, q⟩ := h
  obtain ⟨v1, v2, rfl, hv1, hv2⟩ := two_inv hvs
  obtain rfl := hv2.int_inv
  have nd := scPower.nd
  obtain ⟨aN, mN, tN⟩ := T.cNothing
  refine ⟨_, pss_cons (ps_set (i := 2) nd rfl (Or.inl rfl) (pe_gR mN))
    (pss_cons (ps_while PassesOwn.never (pt_cmpR op_gt (pv 1) pe_int (nomark _))
      (pss_cons (ps_if (pt_cmpR op_eq (pe_op op_mod (pv 1) pe_int) pe_int (nomark _)) (pss_one (ps_set (i := 2) nd rfl (Or.inl rfl) (pe_cal cBeh hr (pa_cons (pv 2) (pa_cons (pv 0) pa_nil))))) pss_nil)
      (pss_cons (ps_set (i := 0) nd rfl (Or.inl rfl) (pe_cal cBeh hr (pa_cons (pv 0) (pa_cons (pv 0) pa_nil))))
      (pss_one (ps_aug (i := 1) nd rfl (Or.inl rfl) pe_int iop_fdiv)))))
    (pss_one (ps_ret (pv 2)))), ?_⟩
  refine sd_seq (sd_set (K := K) (evd_c (tN H)) fun v H1 s1 h1 => ?_)
  refine sd_go (sd_seq (sd_while (fun n σ H' => ∃ (vt vf : V) (t' f' : Three) (k : Int), σ = [some vt, some (.int k), some vf] ∧ Same H H' ∧ Tp K H' vt (encT t') ∧ Tp K H' vf (encT f') ∧ GoodT S t' ∧ GoodT S f' ∧ 0 ≤ k ∧ n = k.toNat ∧ powerT f' t' k.toNat = powerT noT t m.toNat) m.toNat ⟨v1, v, t, noT, m, rfl, s1, hv1.same s1, h1, gt, .nothing S, hm, rfl, rfl⟩ ?_))
  rintro n σ H' ⟨vt, vf, t', f', k, rfl, s', ht, hf, gt', gf', hk, rfl, ep⟩
  refine ⟨_, evb_cmp (K := K) (evd_var (v := .int k) rfl (.int _)) evd_int rfl, fun hpos H2 s2 N hN => ?_, fun hz H2 s2 => ?_⟩
  · have hpos : 0 < k := by simpa using hpos
    rw [powerT, dif_neg (by omega)] at ep
    have e2 : (k / 2).toNat = k.toNat / 2 := by omega
    have hmod : (k % 2 = 1) ↔ (k.toNat % 2 = 1) := by omega
    refine sd_seq (sd_if (b := decide (k % 2 = 1)) (EvB.is (evb_test (K := K) (evd_op (evd_op (evd_var (v := .int k) rfl (.int _)) evd_int (opd_I (by show (0 : Int) < 2; decide) (.int _))) evd_int opd_eqI)) rfl) (fun hb H3 s3 => ?_) fun hb H3 s3 => ?_)
    · rw [if_pos (hmod.mp (by simpa using hb))] at ep
      refine sd_set (K := K) (evd_call (eva_cons (evd_var rfl (hf.same (s2.trans s3))) (eva_cons (evd_var rfl (ht.same (s2.trans s3))) eva_nil)) ⟨f', t', S, rfl, gf', gt', hS, rfl⟩) fun v4 H4 s4 h4 => ?_
      refine sd_go (sd_seq (sd_set (K := K) (evd_call (eva_cons (evd_var rfl (ht.same ((s2.trans s3).trans s4))) (eva_cons (evd_var rfl (ht.same ((s2.trans s3).trans s4))) eva_nil)) ⟨t', t', S, rfl, gt', gt', hS, rfl⟩) fun v5 H5 s5 h5 => ?_))
      refine sd_go (sd_augI (K := K) (j := k) (k := 2) rfl evd_int ⟨by decide, by decide⟩ fun H6 s6 => hN _ _ _ (half_lt (by omega) : k.toNat / 2 < k.toNat) ⟨v5, v4, _, _, k / 2, rfl, ((((s'.trans s2).trans s3).trans s4).trans s5).trans s6, h5.same s6, h4.same (s5.trans s6), (gt'.behind gt').1, (gf'.behind gt').1, by omega, e2.symm, by rw [e2]; exact ep⟩)
    · rw [if_neg (fun z => by simp [hmod.mpr z] at hb)] at ep
      refine sd_next (sd_go (sd_seq (sd_set (K := K) (evd_call (eva_cons (evd_var rfl (ht.same (s2.trans s3))) (eva_cons (evd_var rfl (ht.same (s2.trans s3))) eva_nil)) ⟨t', t', S, rfl, gt', gt', hS, rfl⟩) fun v5 H5 s5 h5 => ?_)))
      refine sd_go (sd_augI (K := K) (j := k) (k := 2) rfl evd_int ⟨by decide, by decide⟩ fun H6 s6 => hN _ _ _ (half_lt (by omega) : k.toNat / 2 < k.toNat) ⟨v5, vf, _, _, k / 2, rfl, (((s'.trans s2).trans s3).trans s5).trans s6, h5.same s6, hf.same (((s2.trans s3).trans s5).trans s6), (gt'.behind gt').1, gf', by omega, e2.symm, by rw [e2]; exact ep⟩)
  · have hz : ¬ 0 < k := by simpa using hz
    rw [powerT, dif_pos (by omega)] at ep
    rw [← ep] at q
    exact sd_go (sd_ret (K := K) (evd_var rfl (hf.same s2)) fun v3 H3 s3 h3 => q v3 H3 ((s'.trans s2).trans s3) h3)
theorem scThree : FnScope ["steps", "found", "step", "here"] ["steps"] (defScope sThree) := ⟨rfl, rfl, rfl, by decide +kernel, rfl, by decide +kernel, by decide +kernel⟩
theorem go_more {b : List Stp} {i : Nat} {s : Stp} {f : Three} (h : b[i]? = some s) : threeGo f (b.take (i + 1)) = behindT (threeGo f (b.take i)) (stepT s) := by
  rw [threeGo_fold, threeGo_fold]
  exact fold_more (fun f s => behindT f (stepT s)) f h
theorem ok_three {n k : Nat} (F : Fun K "three_of" "three_of" sThree f fd) (T : Txt K mg) (hk : 3 ≤ k) (cBeh : Callee P w K mg base 2 "behind" ["one", "other"] (spD K rBehind)) (cPow : Callee P w K mg base 3 "power" ["three", "many"] (spD K rPower)) (cMe : Callee P w K mg base k "three_of" ["steps"] (spD K (rThree n))) :
    FnOk P w K mg base CX0 (k + 1) f fd ["steps"] (spD K (rThree (n + 1))) := by
  refine F.ok scThree (spD_len fun ds d ⟨_, e, _⟩ => by rw [e]; rfl) (fun cdv A outer s H vs Q E hr h => ?_)
  obtain ⟨ds, d, hvs, ⟨b, rfl, ok, dep, hc, rfl⟩, q⟩ := h
  obtain ⟨v1, rfl, hv1⟩ := one_inv hvs
  have nd := scThree.nd
  obtain ⟨aN, mN, tN⟩ := T.cNothing
  refine ⟨_, pss_cons (ps_set (i := 1) nd rfl (Or.inl rfl) (pe_gR mN))
    (pss_cons (ps_for PassesOwn.never rfl (pi_tup (pv 0)) (pg_name (i := 2) nd rfl (Or.inl rfl))
      (pss_cons (ps_if (pt_cmpR op_eq (pe_ix ix_tup (pv 2) pe_int (fun _ _ => rfl)) (pe_gS T.cPut) (nomark _)) (pss_one (ps_set (i := 3) nd rfl (Or.inl rfl) (pe_tupP (pa_cons (pe_tupP (pa_cons (pe_tupP (pa_cons (pe_ix ix_tup (pv 2) pe_int (fun _ _ => rfl)) (pa_cons pe_int pa_nil))) pa_nil)) (pa_cons (pe_tupP pa_nil) (pa_cons pe_int pa_nil))))))
        (pss_one (ps_if (pt_cmpR op_eq (pe_ix ix_tup (pv 2) pe_int (fun _ _ => rfl)) (pe_gS T.cTake) (nomark _)) (pss_one (ps_set (i := 3) nd rfl (Or.inl rfl) (pe_tupP (pa_cons (pe_tupP pa_nil) (pa_cons (pe_tupP pa_nil) (pa_cons pe_int pa_nil))))))
          (pss_one (ps_set (i := 3) nd rfl (Or.inl rfl) (pe_cal cPow hr (pa_cons (pe_cal cMe hr (pa_cons (pe_ix ix_tup (pv 2) pe_int (fun _ _ => rfl)) pa_nil) (Nat.le_refl k)) (pa_cons (pe_ix ix_tup (pv 2) pe_int (fun _ _ => rfl)) pa_nil)) hk))))))
      (pss_one (ps_set (i := 1) nd rfl (Or.inl rfl) (pe_cal cBeh hr (pa_cons (pv 1) (pa_cons (pv 3) pa_nil)) (Nat.le_trans (by decide) hk))))))
    (pss_one (ps_ret (pv 1)))), ?_⟩
  have hS : (putsSs b).length ≤ 2000001 := by have := putsSs_len b; omega
  refine sd_seq (sd_set (K := K) (evd_c (tN H)) fun v H1 s1 h1 => ?_)
  refine sd_go (sd_seq (st_for (K := K) (H := H) (i := 0) (v := v1) (ds := encSs b) rfl hv1 (.of s1) (fun i σ H' => ∃ (vf : V) (u1 u2 : Option V), σ = [some v1, some vf, u1, u2] ∧ Same H H' ∧ Tp K H' vf (encT (threeGo noT (b.take i)))) ?_ (fun _ _ _ ⟨_, _, _, _, s', _⟩ => .of s') ?_ ?_))
  · refine ⟨v, none, none, rfl, s1, ?_⟩
    rw [List.take_zero, threeGo]
    exact h1
  · rintro i d x σ H' hd hx ⟨vf, u1, u2, rfl, s', hf⟩
    obtain ⟨t, ht, rfl⟩ := encSs_at hd
    have hm := List.mem_of_getElem? ht
    have hokt := okSs_mem ok hm
    have hdt := depSs_mem hm
    have gm := go_more (f := noT) ht
    have g1 : GoodT (putsSs b) (threeGo noT (b.take i)) := threeGo_good _ (.nothing _) fun y hy => by
      rw [← List.take_append_drop i b, putsSs_append]
      exact List.mem_append_left _ hy
    have g2 : GoodT (putsSs b) (stepT t) := stepT_good t fun y hy => putsSs_mem hm hy
    have fin : ∀ {vh : V} {H4 : Hp}, Same H' H4 → Tp K H4 vh (encT (stepT t)) → ∀ {D : Ends}, D.nx = (fun σ H' => ∃ (vf : V) (u1 u2 : Option V), σ = [some v1, some vf, u1, u2] ∧ Same H H' ∧ Tp K H' vf (encT (threeGo noT (b.take (i + 1))))) → tAsg (tCall (spD K rBehind) [] E0 (tCons (tVar 1) (tCons (tVar 3) tNil))) (gName 1) D [some v1, some vf, some x, some vh] H4 := fun {vh H4} s4 h4 {D} eD =>
      sd_set (K := K) (evd_call (eva_cons (evd_var rfl (hf.same s4)) (eva_cons (evd_var rfl h4) eva_nil)) ⟨_, _, _, rfl, g1, g2, hS, rfl⟩) fun v5 H5 s5 h5 => by
        rw [eD]
        exact ⟨v5, some x, some vh, rfl, (s'.trans s4).trans s5, by rw [gm]; exact h5⟩
    cases t with
    | put c =>
      rw [stepT] at fin
      refine sd_seq (sd_yes (head_is (K := K) rfl hx (put_put c)) fun H2 s2 => ?_)
      have hx2 := hx.same s2
      rw [encS] at hx2
      exact sd_set (K := K) (d := encT ([(c, 1)], [], 0)) (evd_tup (eva_cons (evd_tup (eva_cons (evd_tup (eva_cons (evd_at 1 (evd_var rfl hx2) rfl) (eva_cons evd_int eva_nil))) eva_nil)) (eva_cons (evd_tup eva_nil) (eva_cons evd_int eva_nil)))) fun v3 H3 s3 h3 => fin (s2.trans s3) h3 rfl
    | take =>
      rw [stepT] at fin
      refine sd_seq (sd_no (head_is (K := K) rfl hx take_put) fun H2 s2 => ?_)
      refine sd_yes (head_is (K := K) rfl (hx.same s2) take_take) fun H3 s3 => ?_
      exact sd_set (K := K) (d := encT ([], [], 1)) (evd_tup (eva_cons (evd_tup eva_nil) (eva_cons (evd_tup eva_nil) (eva_cons evd_int eva_nil)))) fun v4 H4 s4 h4 => fin ((s2.trans s3).trans s4) h4 rfl
    | times m c =>
      rw [stepT] at fin
      rw [okS] at hokt
      rw [depS] at hdt
      have hcc : cntSs c ≤ cntSs b := by
        have h1 := cntSs_take_le b (i + 1)
        have h2 := cnt_more ht
        rw [cntS] at h2
        omega
      refine sd_seq (sd_no (head_is (K := K) rfl hx (times_put m c)) fun H2 s2 => ?_)
      refine sd_no (head_is (K := K) rfl (hx.same s2) (times_take m c)) fun H3 s3 => ?_
      have hx3 := hx.same (s2.trans s3)
      rw [encS] at hx3
      exact sd_set (K := K) (evd_call (eva_cons (evd_call (eva_cons (evd_at 2 (evd_var rfl hx3) rfl) eva_nil) ⟨c, rfl, hokt.2, by omega, by omega, rfl⟩) (eva_cons (evd_at 1 (evd_var rfl hx3) rfl) eva_nil)) ⟨threeT c, m, putsSs c, rfl, threeGo_good c (.nothing _) (fun y hy => hy), by have := putsSs_len c; omega, hokt.1.1, rfl⟩) fun v4 H4 s4 h4 => fin ((s2.trans s3).trans s4) h4 rfl
  · rintro σ H' ⟨vf, u1, u2, rfl, s', hf⟩
    rw [encSs_len, List.take_length] at hf
    exact sd_go (sd_ret (K := K) (evd_var rfl hf) fun v3 H3 s3 h3 => q v3 H3 (s'.trans s3) h3)
end
end Lo
set_option Elab.async false
set_option linter.all false
set_option maxRecDepth 100000
set_option maxHeartbeats 4000000
/-! works, third part: done, run, came, heaps -/
namespace Lo
open PySem PySem.Spec PyProof.Rows L2
abbrev sDone : Stmt := top 38
abbrev sRun : Stmt := top 39
abbrev sCame : Stmt := top 40
abbrev sHeaps : Stmt := top 41
def doneT (t : Three) (h : Hl) : Three := behindT (h, [], 0) t
def rDone (ds : List PyData) (d : PyData) : Prop := ∃ (t : Three) (h : Hl) (S : List Int), ds = [encT t, encH h] ∧ GoodT S t ∧ Good S h ∧ S.length ≤ 2000001 ∧ d = encT (doneT t h)
def rRun (ds : List PyData) (d : PyData) : Prop := ∃ (b : Wk) (h : Hl), ds = [encW b, encH h] ∧ OkW b ∧ CanH 1000000 h ∧ d = encH (doneT (threeT b) h).1
def rCame (ds : List PyData) (d : PyData) : Prop := ∃ (b : Wk) (h : Hl), ds = [encW b, encH h] ∧ OkW b ∧ CanH 1000000 h ∧ d = .tuple [encH (doneT (threeT b) h).2.1, .int (doneT (threeT b) h).2.2]
def rHeaps (ds : List PyData) (d : PyData) : Prop := ∃ b : Wk, ds = [encW b] ∧ OkW b ∧ d = encT (threeT b)
theorem CanH.good {far : Int} {h : Hl} (c : CanH far h) : Good (h.map (·.1)) h := ⟨c.rise, fun p hp => List.mem_map.mpr ⟨p, hp, rfl⟩, fun p hp => (c.cnt p hp).1⟩
theorem threeT_good (b : Wk) : GoodT (putsSs b) (threeT b) := threeGo_good b (.nothing _) fun y hy => hy
section
variable {P : Program} {w : World} {K : PySem.W.Frag} {mg : Str → Option Value} {base : Heap} {f : Addr} {fd : FuncData}
theorem callee_three (D : Dfn K mg "three_of" sThree ["steps"]) (T : Txt K mg) (cBeh : Callee P w K mg base 2 "behind" ["one", "other"] (spD K rBehind)) (cPow : Callee P w K mg base 3 "power" ["three", "many"] (spD K rPower)) : ∀ n, Callee P w K mg base (n + 3) "three_of" ["steps"] (spD K (rThree n))
  | 0 => D.callee fun f fd F => (show FnOk P w K mg base CX0 0 f fd ["steps"] (spD K (rThree 0)) from ⟨spD_len fun ds d ⟨_, e, _⟩ => by rw [e]; rfl, fun A outer s H args us vs Q E hr he hb hv ⟨ds, d, _, ⟨_, _, _, hd, _⟩, _⟩ => absurd hd (Nat.not_lt_zero _)⟩).mono (Nat.zero_le _)
  | n + 1 => D.callee fun f fd F => ok_three F T (Nat.le_add_left 3 n) cBeh cPow (callee_three D T cBeh cPow n)
theorem scDone : FnScope ["three", "store"] ["three", "store"] (defScope sDone) := ⟨rfl, rfl, rfl, by decide +kernel, rfl, by decide +kernel, by decide +kernel⟩
theorem ok_done (F : Fun K "done" "done" sDone f fd) (cBeh : Callee P w K mg base 2 "behind" ["one", "other"] (spD K rBehind)) : FnOk P w K mg base CX0 3 f fd ["three", "store"] (spD K rDone) := by
  refine F.ok scDone (spD_len fun ds d ⟨_, _, _, e, _⟩ => by rw [e]; rfl) (fun cdv A outer s H vs Q E hr h => ?_)
  obtain ⟨ds, d, hvs, ⟨t, h, S, rfl, gt, gh, hS, rfl⟩, q⟩ := h
  obtain ⟨v1, v2, rfl, hv1, hv2⟩ := two_inv hvs
  refine ⟨_, pss_one (ps_ret (pe_cal cBeh hr (pa_cons (pe_tupP (pa_cons (pv 1) (pa_cons (pe_tupP pa_nil) (pa_cons pe_int pa_nil)))) (pa_cons (pv 0) pa_nil)))), ?_⟩
  exact sd_ret (K := K) (evd_call (eva_cons (evd_tup (eva_cons (evd_var rfl hv2) (eva_cons (evd_tup eva_nil) (eva_cons evd_int eva_nil)))) (eva_cons (evd_var rfl hv1) eva_nil)) ⟨(h, [], 0), t, S, rfl, ⟨gh, .nil S, Int.le_refl _⟩, gt, hS, rfl⟩) fun v H2 s2 h2 => q v H2 s2 h2
theorem scRun : FnScope ["work", "store"] ["work", "store"] (defScope sRun) := ⟨rfl, rfl, rfl, by decide +kernel, rfl, by decide +kernel, by decide +kernel⟩
theorem scCame : FnScope ["work", "store"] ["work", "store"] (defScope sCame) := ⟨rfl, rfl, rfl, by decide +kernel, rfl, by decide +kernel, by decide +kernel⟩
theorem scHeaps : FnScope ["work"] ["work"] (defScope sHeaps) := ⟨rfl, rfl, rfl, by decide +kernel, rfl, by decide +kernel, by decide +kernel⟩
/-- done(three_of(work), store) -/
theorem evd_done {σ : L2.St} {H : Hp} {b : Wk} {h : Hl} {v1 v2 : V} {i j : Nat} (h1 : σ[i]? = some (some v1)) (hv1 : Tp K H v1 (encW b)) (h2 : σ[j]? = some (some v2)) (hv2 : Tp K H v2 (encH h)) (ok : OkW b) (can : CanH 1000000 h) :
    EvD K (tCall (spD K rDone) [] E0 (tCons (tCall (spD K (rThree 3)) [] E0 (tCons (tVar i) tNil)) (tCons (tVar j) tNil))) σ H (encT (doneT (threeT b) h)) := by
  have hS : (putsSs b ++ h.map (·.1)).length ≤ 2000001 := by
    rw [List.length_append, List.length_map]
    have := putsSs_len b
    have := ok.cnt
    have := can.len
    omega
  exact evd_call (eva_cons (evd_call (eva_cons (evd_var h1 hv1) eva_nil) ⟨b, rfl, ok.ok, ok.dep, by have := ok.cnt; omega, rfl⟩) (eva_cons (evd_var h2 hv2) eva_nil)) ⟨threeT b, h, _, rfl, (threeT_good b).mono fun x hx => List.mem_append_left _ hx, can.good.mono fun x hx => List.mem_append_right _ hx, hS, rfl⟩
theorem ok_run (F : Fun K "run" "run" sRun f fd) (cNW : Callee P w K mg base 5 "need_work" ["work"] (spD K rNeedW)) (cNH : Callee P w K mg base 2 "need_heap" ["heap"] (spD K rNeedH)) (cDone : Callee P w K mg base 3 "done" ["three", "store"] (spD K rDone)) (cThree : Callee P w K mg base 6 "three_of" ["steps"] (spD K (rThree 3))) :
    FnOk P w K mg base CX0 7 f fd ["work", "store"] (spD K rRun) := by
  refine F.ok scRun (spD_len fun ds d ⟨_, _, e, _⟩ => by rw [e]; rfl) (fun cdv A outer s H vs Q E hr h => ?_)
  obtain ⟨ds, d, hvs, ⟨b, h, rfl, ok, can, rfl⟩, q⟩ := h
  obtain ⟨v1, v2, rfl, hv1, hv2⟩ := two_inv hvs
  refine ⟨_, pss_cons (ps_expr (pe_cal cNW hr (pa_cons (pv 0) pa_nil))) (pss_cons (ps_expr (pe_cal cNH hr (pa_cons (pv 1) pa_nil)))
    (pss_one (ps_ret (pe_ix ix_tup (pe_cal cDone hr (pa_cons (pe_cal cThree hr (pa_cons (pv 0) pa_nil)) (pa_cons (pv 1) pa_nil))) pe_int (fun _ _ => rfl))))), ?_⟩
  refine sd_seq (sd_drop (K := K) (evd_call (eva_cons (evd_var rfl hv1) eva_nil) ⟨b, rfl, ok, rfl⟩) fun _ H1 s1 _ => ?_)
  refine sd_go (sd_seq (sd_drop (K := K) (evd_call (eva_cons (evd_var rfl (hv2.same s1)) eva_nil) ⟨h, rfl, can, rfl⟩) fun _ H2 s2 _ => ?_))
  exact sd_go (sd_ret (K := K) (evd_at 0 (evd_done rfl (hv1.same (s1.trans s2)) rfl (hv2.same (s1.trans s2)) ok can) rfl) fun v H3 s3 h3 => q v H3 ((s1.trans s2).trans s3) h3)
theorem ok_came (F : Fun K "came" "came" sCame f fd) (cNW : Callee P w K mg base 5 "need_work" ["work"] (spD K rNeedW)) (cNH : Callee P w K mg base 2 "need_heap" ["heap"] (spD K rNeedH)) (cDone : Callee P w K mg base 3 "done" ["three", "store"] (spD K rDone)) (cThree : Callee P w K mg base 6 "three_of" ["steps"] (spD K (rThree 3))) :
    FnOk P w K mg base CX0 7 f fd ["work", "store"] (spD K rCame) := by
  refine F.ok scCame (spD_len fun ds d ⟨_, _, e, _⟩ => by rw [e]; rfl) (fun cdv A outer s H vs Q E hr h => ?_)
  obtain ⟨ds, d, hvs, ⟨b, h, rfl, ok, can, rfl⟩, q⟩ := h
  obtain ⟨v1, v2, rfl, hv1, hv2⟩ := two_inv hvs
  refine ⟨_, pss_cons (ps_expr (pe_cal cNW hr (pa_cons (pv 0) pa_nil))) (pss_cons (ps_expr (pe_cal cNH hr (pa_cons (pv 1) pa_nil)))
    (pss_one (ps_ret (pe_slice sl_tupP (pe_cal cDone hr (pa_cons (pe_cal cThree hr (pa_cons (pv 0) pa_nil)) (pa_cons (pv 1) pa_nil))) (po_some pe_int) po_none)))), ?_⟩
  refine sd_seq (sd_drop (K := K) (evd_call (eva_cons (evd_var rfl hv1) eva_nil) ⟨b, rfl, ok, rfl⟩) fun _ H1 s1 _ => ?_)
  refine sd_go (sd_seq (sd_drop (K := K) (evd_call (eva_cons (evd_var rfl (hv2.same s1)) eva_nil) ⟨h, rfl, can, rfl⟩) fun _ H2 s2 _ => ?_))
  exact sd_go (sd_ret (K := K) (evd_is (evd_sl (evd_done rfl (hv1.same (s1.trans s2)) rfl (hv2.same (s1.trans s2)) ok can) (evp_some (K := K) evd_int) evp_none) rfl) fun v H3 s3 h3 => q v H3 ((s1.trans s2).trans s3) h3)
theorem ok_heaps (F : Fun K "heaps" "heaps" sHeaps f fd) (cNW : Callee P w K mg base 5 "need_work" ["work"] (spD K rNeedW)) (cThree : Callee P w K mg base 6 "three_of" ["steps"] (spD K (rThree 3))) :
    FnOk P w K mg base CX0 7 f fd ["work"] (spD K rHeaps) := by
  refine F.ok scHeaps (spD_len fun ds d ⟨_, e, _⟩ => by rw [e]; rfl) (fun cdv A outer s H vs Q E hr h => ?_)
  obtain ⟨ds, d, hvs, ⟨b, rfl, ok, rfl⟩, q⟩ := h
  obtain ⟨v1, rfl, hv1⟩ := one_inv hvs
  refine ⟨_, pss_cons (ps_expr (pe_cal cNW hr (pa_cons (pv 0) pa_nil))) (pss_one (ps_ret (pe_cal cThree hr (pa_cons (pv 0) pa_nil)))), ?_⟩
  refine sd_seq (sd_drop (K := K) (evd_call (eva_cons (evd_var rfl hv1) eva_nil) ⟨b, rfl, ok, rfl⟩) fun _ H1 s1 _ => ?_)
  exact sd_go (sd_ret (K := K) (evd_call (eva_cons (evd_var rfl (hv1.same s1)) eva_nil) ⟨b, rfl, ok.ok, ok.dep, by have := ok.cnt; omega, rfl⟩) fun v H3 s3 h3 => q v H3 (s1.trans s3) h3)
end
end Lo
set_option Elab.async false
set_option linter.all false
set_option maxRecDepth 100000
set_option maxHeartbeats 4000000
/-! rows_of, written -/
namespace Lo
open PySem PySem.Spec PyProof.Rows L2
def strI (i : Int) : Str := Str.ofString (toString i)
def numsS : Stp → List Int
  | .put c => [c]
  | .take => []
  | .times n _ => [n]
def rowS (s : Stp) (deep : Int) : Str := Txt.mul (Str.ofString " ") deep ++ Txt.join (Str.ofString " ") (nameS s :: (numsS s).map strI)
mutual
def rowsS : Stp → Int → List Str
  | .put c, d => [rowS (.put c) d]
  | .take, d => [rowS .take d]
  | .times n b, d => rowS (.times n b) d :: rowsSs b (d + 1)
def rowsSs : List Stp → Int → List Str
  | [], _ => []
  | s :: r, d => rowsS s d ++ rowsSs r d
end
mutual
theorem rowsS_len : ∀ (s : Stp) (d : Int), (rowsS s d).length = cntS s
  | .put c, d => by rw [rowsS, cntS]; rfl
  | .take, d => by rw [rowsS, cntS]; rfl
  | .times n b, d => by
    rw [rowsS, cntS, List.length_cons, rowsSs_len b (d + 1)]
    omega
theorem rowsSs_len : ∀ (b : List Stp) (d : Int), (rowsSs b d).length = cntSs b
  | [], d => by rw [rowsSs, cntSs]; rfl
  | s :: r, d => by rw [rowsSs, cntSs, List.length_append, rowsS_len s d, rowsSs_len r d]
end
theorem rowsSs_append : ∀ (a b : List Stp) (d : Int), rowsSs (a ++ b) d = rowsSs a d ++ rowsSs b d
  | [], b, d => by rw [List.nil_append, rowsSs, List.nil_append]
  | s :: r, b, d => by rw [List.cons_append, rowsSs, rowsSs, rowsSs_append r b d, List.append_assoc]
theorem str_len_append (a b : Str) : (a ++ b).length = a.length + b.length := by
  show (Array.size (a.cps ++ b.cps)) = _
  rw [Array.size_append]
  rfl
theorem strI_len {i : Int} (h : i.natAbs ≤ 1000000000000000000) : (strI i).length ≤ 20 := by
  have e := int_text_length_le10 (a := i) (k := 19) (by decide) (by omega)
  unfold strI
  rw [PySem.ofString_length]
  omega
theorem mul_small {d : Int} (h0 : 0 ≤ d) (h1 : d ≤ 3) : MulOk (Str.ofString " ") d ∧ (Txt.mul (Str.ofString " ") d).length ≤ 3 := by
  have : d = 0 ∨ d = 1 ∨ d = 2 ∨ d = 3 := by omega
  rcases this with rfl | rfl | rfl | rfl <;> (unfold MulOk; decide +kernel)
theorem nameS_len (s : Stp) : (nameS s).length ≤ 5 := by
  cases s
  · show (Str.ofString "put").length ≤ 5; decide +kernel
  · show (Str.ofString "take").length ≤ 5; decide +kernel
  · show (Str.ofString "times").length ≤ 5; decide +kernel
theorem sp_len : (Str.ofString " ").length = 1 := by decide +kernel
theorem okS_nums {s : Stp} (h : okS s) : ∀ i ∈ numsS s, i.natAbs ≤ 1000000000000000000 := by
  intro i hi
  cases s with
  | put c =>
    rw [okS] at h
    rw [numsS, List.mem_singleton] at hi
    subst hi
    omega
  | take => cases hi
  | times n b =>
    rw [okS] at h
    rw [numsS, List.mem_singleton] at hi
    subst hi
    have := h.1
    omega
theorem join1 (y a : Str) : (Txt.join y [a]).length = a.length := by
  rw [TL.join_eq]
  rfl
theorem join2 (y a b : Str) : (Txt.join y [a, b]).length = a.length + y.length + b.length := by
  rw [TL.join_eq]
  show ((a ++ y) ++ b : Str).length = _
  rw [str_len_append, str_len_append]
theorem rowS_len {s : Stp} {d : Int} (h : okS s) (h0 : 0 ≤ d) (h1 : d ≤ 3) : (rowS s d).length ≤ 40 := by
  have hm := (mul_small h0 h1).2
  have hn := nameS_len s
  have hi := okS_nums h
  unfold rowS
  rw [str_len_append]
  cases s with
  | put c =>
    show _ + (Txt.join _ [nameS (.put c), strI c]).length ≤ _
    rw [join2, sp_len]
    have := strI_len (hi c (by rw [numsS]; exact List.mem_singleton.mpr rfl))
    omega
  | take =>
    show _ + (Txt.join _ [nameS .take]).length ≤ _
    rw [join1]
    omega
  | times n b =>
    show _ + (Txt.join _ [nameS (.times n b), strI n]).length ≤ _
    rw [join2, sp_len]
    have := strI_len (hi n (by rw [numsS]; exact List.mem_singleton.mpr rfl))
    omega
mutual
theorem rowsS_lens : ∀ (s : Stp) (d : Int), okS s → 0 ≤ d → d + depS s ≤ 3 → ∀ x ∈ rowsS s d, x.length ≤ 40
  | .put c, d, h, h0, h1, x, hx => by
    rw [rowsS, List.mem_singleton] at hx
    rw [hx]
    exact rowS_len h h0 (by omega)
  | .take, d, h, h0, h1, x, hx => by
    rw [rowsS, List.mem_singleton] at hx
    rw [hx]
    exact rowS_len h h0 (by omega)
  | .times n b, d, h, h0, h1, x, hx => by
    rw [rowsS] at hx
    rw [depS] at h1
    rcases List.mem_cons.mp hx with rfl | hx
    · exact rowS_len h h0 (by omega)
    · rw [okS] at h
      exact rowsSs_lens b (d + 1) h.2 (by omega) (by omega) x hx
theorem rowsSs_lens : ∀ (b : List Stp) (d : Int), okSs b → 0 ≤ d → d + depSs b ≤ 3 → ∀ x ∈ rowsSs b d, x.length ≤ 40
  | [], d, h, h0, h1, x, hx => by
    rw [rowsSs] at hx
    cases hx
  | s :: r, d, h, h0, h1, x, hx => by
    rw [rowsSs] at hx
    rw [okSs] at h
    rw [depSs] at h1
    rcases List.mem_append.mp hx with hx | hx
    · exact rowsS_lens s d h.1 h0 (by omega) x hx
    · exact rowsSs_lens r d h.2 h0 (by omega) x hx
end
theorem sum_le {α : Type} (f : α → Nat) {m : Nat} : ∀ {l : List α}, (∀ x ∈ l, f x ≤ m) → (l.map f).sum ≤ l.length * m
  | [], _ => by simp
  | x :: r, h => by
    have h1 := h x (List.mem_cons_self ..)
    have h2 := sum_le f fun y hy => h y (List.mem_cons_of_mem _ hy)
    rw [List.map_cons, List.sum_cons, List.length_cons, Nat.succ_mul]
    omega
/-! the readings -/
def rMulS : R2 := fun x y H Q => ∃ (a : Str) (n : Int), x = .str a ∧ y = .int n ∧ MulOk a n ∧ Q (.str (Txt.mul a n)) H
theorem op_mulS {X : Cx} : OpR X (binaryOp .Mult) rMulS := by
  intro pins s σ H x y v u Q I rx ry h
  obtain ⟨a, n, rfl, rfl, hok, q⟩ := h
  obtain ⟨t, rfl⟩ := rx
  obtain ⟨t', rfl⟩ := ry
  exact SB.mul hok fun t2 k => ⟨.str _, H, I.tok _, ⟨_, rfl⟩, q⟩
abbrev rAddStr : R2 := fun x y H Q => ∃ i j, x = V.str i ∧ y = V.str j ∧ i.length + j.length ≤ sizeLine ∧ Q (.str (i ++ j)) H
abbrev rJoin (K : PySem.W.Frag) : V → List V → Hp → VK → Prop := fun x xs H Q => ∃ a p, ∃ ys : List Str, x = V.str a ∧ xs = [V.ref p] ∧ (SqL K H p (ys.map V.str) ∨ SqT K H p (ys.map V.str)) ∧ (ys.map (·.length)).sum + ys.length * a.length ≤ 16777216 ∧ Q (.str (Txt.join a ys)) H
abbrev rStrI : List V → Hp → VK → Prop := fun xs H Q => ∃ i, xs = [V.int i] ∧ i.natAbs.log2 < 1920 ∧ Q (.str (toString i)) H
section
variable {K : PySem.W.Frag} {σ : L2.St} {H : Hp} {te ta tb : TE} {ds es : List PyData}
theorem opd_mulS {a : Str} {n : Int} (h : MulOk a n) : OpD K rMulS H (.str a) (.int n) (.str (Txt.mul a n)) := fun H1 s x y hx hy Q q => ⟨a, n, hx.str_inv, hy.int_inv, h, q _ H1 (Same.refl H1) (.str _)⟩
theorem opd_addStr {a b : Str} (h : a.length + b.length ≤ sizeLine) : OpD K rAddStr H (.str a) (.str b) (.str (a ++ b)) := fun H1 s x y hx hy Q q => ⟨a, b, hx.str_inv, hy.str_inv, h, q _ H1 (Same.refl H1) (.str _)⟩
theorem evd_join {sep : Str} {ys : List Str} (h : EvLs K te σ H (ys.map PyData.str)) (hz : (ys.map (·.length)).sum + ys.length * sep.length ≤ 16777216) : EvD K (tM1 (rJoin K) (tC (.str sep)) te) σ H (.str (Txt.join sep ys)) := fun H1 s Q q =>
  ⟨⟨_, rfl⟩, h H1 s _ fun l xs H2 n s2 hl hx => ⟨sep, l, ys, rfl, rfl, .inl (by rw [← hx.strs_inv]; exact .of hl), hz, q _ H2 s2 (.str _)⟩⟩
theorem evl_cat (h1 : EvLs K ta σ H ds) (h2 : EvLs K tb σ H es) (hz : ds.length + es.length ≤ sizeLine) : EvLs K (tOp rCat ta tb) σ H (ds ++ es) := fun H1 s Q q =>
  h1 H1 s _ fun l xs H2 n s2 hl hx => h2 H2 (s.trans s2) _ fun b ys H3 n3 s3 hb hy => ⟨l, b, xs, ys, rfl, rfl, s3 _ _ hl, hb, by rw [hx.length, hy.length]; exact hz, fun p hp =>
    q p _ _ (s2.free (s3.free hp)) ((s2.trans s3).trans (same_new hp _)) upd_same (((hx.same s3).append hy).same (same_new hp _))⟩
theorem log_small {i : Int} (h : i.natAbs ≤ 1000000000000000000) : i.natAbs.log2 < 1920 := by
  by_cases h0 : i.natAbs = 0
  · rw [h0]
    decide
  · rw [Nat.log2_lt h0]
    exact Nat.lt_of_le_of_lt h (by decide +kernel)
theorem cbd_strI {i : Int} (h : i.natAbs ≤ 1000000000000000000) : CbD K rStrI H [.int i] (.str (strI i)) := fun H1 _ vs hv Q q => by
  obtain ⟨v, rfl, hv2⟩ := one_inv hv
  exact ⟨i, by rw [hv2.int_inv], log_small h, q _ H1 (Same.refl H1) (.str _)⟩
end
def strD : PyData → PyData
  | .int i => .str (strI i)
  | d => d
abbrev sRows : Stmt := top 45
abbrev sWritten : Stmt := top 46
def rRows (n : Nat) (ds es : List PyData) : Prop := ∃ (b : Wk) (deep : Int), ds = [encW b, .int deep] ∧ okSs b ∧ depSs b < n ∧ 0 ≤ deep ∧ deep + n ≤ 4 ∧ cntSs b ≤ 1000 ∧ es = (rowsSs b deep).map PyData.str
def rWritten (ds : List PyData) (d : PyData) : Prop := ∃ b : Wk, ds = [encW b] ∧ OkW b ∧ d = .str (Txt.join (Str.ofString "\n") (rowsSs b 0))
section
variable {P : Program} {w : World} {K : PySem.W.Frag} {mg : Str → Option Value} {base : Heap} {f : Addr} {fd : FuncData}
theorem scRows : FnScope ["steps", "deep", "found", "step", "thing"] ["steps", "deep"] (defScope sRows) := ⟨rfl, rfl, rfl, by decide +kernel, rfl, by decide +kernel, by decide +kernel⟩
/-- the second item, as a list of texts -/
theorem mid_of {s : Stp} {σ : L2.St} {H : Hp} {i : Nat} {v : V} (hv : σ[i]? = some (some v)) (hd : Tp K H v (encS s)) : EvD K (tSl (rSlP K) (tVar i) (tPart (tC (.int 1))) (tPart (tC (.int 2)))) σ H (.tuple ((numsS s).map PyData.int)) := by
  cases s with
  | put c =>
    rw [encS] at hd
    exact evd_is (evd_sl (evd_var hv hd) (evp_some (K := K) evd_int) (evp_some (K := K) evd_int)) rfl
  | take =>
    rw [encS] at hd
    exact evd_is (evd_sl (evd_var hv hd) (evp_some (K := K) evd_int) (evp_some (K := K) evd_int)) rfl
  | times n b =>
    rw [encS] at hd
    exact evd_is (evd_sl (evd_var hv hd) (evp_some (K := K) evd_int) (evp_some (K := K) evd_int)) rfl
theorem name_of {s : Stp} {σ : L2.St} {H : Hp} {i : Nat} {v : V} (hv : σ[i]? = some (some v)) (hd : Tp K H v (encS s)) : EvD K (tOp (rIxT K) (tVar i) (tC (.int 0))) σ H (.str (nameS s)) := by
  cases s with
  | put c =>
    rw [encS] at hd
    exact evd_at 0 (evd_var hv hd) rfl
  | take =>
    rw [encS] at hd
    exact evd_at 0 (evd_var hv hd) rfl
  | times n b =>
    rw [encS] at hd
    exact evd_at 0 (evd_var hv hd) rfl
theorem numsS_len (s : Stp) : (numsS s).length ≤ 1 := by cases s <;> simp [numsS]
theorem rows_more {b : List Stp} {i : Nat} {s : Stp} {d : Int} (h : b[i]? = some s) : rowsSs (b.take (i + 1)) d = rowsSs (b.take i) d ++ rowsS s d := by
  rw [List.take_succ, h, rowsSs_append]
  show _ ++ rowsSs [s] d = _
  rw [rowsSs, rowsSs, List.append_nil]
theorem rows_le {b : List Stp} {d : Int} (i : Nat) : (rowsSs (b.take i) d).length ≤ cntSs b := by
  rw [rowsSs_len]
  exact cntSs_take_le b i
theorem ok_rows {n k : Nat} (F : Fun K "rows_of" "rows_of" sRows f fd) (T : Txt K mg) (cMe : Callee P w K mg base k "rows_of" ["steps", "deep"] (spLs K (rRows n))) : FnOk P w K mg base CX0 (k + 1) f fd ["steps", "deep"] (spLs K (rRows (n + 1))) := by
  refine F.ok scRows (spLs_len fun ds d ⟨_, _, e, _⟩ => by rw [e]; rfl) (fun cdv A outer s H vs Q E hr h => ?_)
  obtain ⟨ds, es, hvs, ⟨b, deep, rfl, ok, dep, hd0, hdn, hcnt, rfl⟩, q⟩ := h
  obtain ⟨v1, v2, rfl, hv1, hv2⟩ := two_inv hvs
  obtain rfl := hv2.int_inv
  have nd := scRows.nd
  refine ⟨_, pss_cons (ps_set (i := 2) nd rfl (Or.inl rfl) (pe_lst pa_nil))
    (pss_cons (ps_for PassesOwn.never rfl (pi_tup (pv 0)) (pg_name (i := 3) nd rfl (Or.inl rfl))
      (pss_cons (ps_expr (pe_bm PySem.F.plainAttrs_list PySem.F.slot_list_append PySem.F.type_list_append mt_append (pv 2) (pa_cons (pe_op op_add_str (pe_op op_mulS pe_str (pv 1))
        (pe_join pe_str (pe_op op_cat (pe_lst (pa_cons (pe_ix ix_tup (pv 3) pe_int (fun _ _ => rfl)) pa_nil))
          (pe_lc (own := [("thing", 4)]) (g := gName 4) (tt := tYes) rfl nd (pi_tup (pe_slice sl_tupP (pv 3) (po_some pe_int) (po_some pe_int))) (blkOk_by (N := ["steps", "deep", "found", "step", "thing"]) (sc := defScope sRows) (by decide +kernel))
            (fun _ _ _ _ _ => pg_name (i := 4) nd rfl (Or.inl rfl)) (fun _ _ _ _ _ => pts_nil) (fun _ _ _ _ _ => pe_callTy call_str_int (by rfl) T.zStr (by decide +kernel) (pa_cons (pv 4) pa_nil)))))) pa_nil)))
      (pss_one (ps_if (pt_cmpR op_eq (pe_ix ix_tup (pv 3) pe_int (fun _ _ => rfl)) (pe_gS T.cTimes) (nomark _))
        (pss_one (ps_expr (pe_bm PySem.F.plainAttrs_list PySem.F.slot_list_extend PySem.F.type_list_extend mt_extend (pv 2) (pa_cons (pe_cal cMe hr (pa_cons (pe_ix ix_tup (pv 3) pe_int (fun _ _ => rfl)) (pa_cons (pe_op op_add (pv 1) pe_int) pa_nil)) (Nat.le_refl k)) pa_nil)))) pss_nil))))
    (pss_one (ps_ret (pv 2)))), ?_⟩
  refine ⟨Nat.zero_le _, fun lo hlo => ?_⟩
  refine sd_go (sd_seq (st_for (K := K) (H := H) (i := 0) (v := v1) (ds := encSs b) rfl hv1 (.of (same_new hlo _)) (fun i σ H' => ∃ (xo : List V) (u : Option V), σ = [some v1, some (.int deep), some (.ref lo), u, none] ∧ Same H H' ∧ H' lo = some (.lst xo) ∧ TpAll K H' xo ((rowsSs (b.take i) deep).map PyData.str)) ?_ (fun _ _ _ ⟨_, _, _, s', _⟩ => .of s') ?_ ?_))
  · refine ⟨[], none, rfl, same_new hlo _, upd_same, ?_⟩
    rw [List.take_zero, rowsSs]
    exact .nil
  · rintro i d x σ H' hd hx ⟨xo, u, rfl, s', hl, hxo⟩
    obtain ⟨t, ht, rfl⟩ := encSs_at hd
    have hm := List.mem_of_getElem? ht
    have hokt := okSs_mem ok hm
    have hdt := depSs_mem hm
    have mr := rows_more (d := deep) ht
    have lr := rows_le (b := b) (d := deep) (i + 1)
    have lr0 := rows_le (b := b) (d := deep) i
    have lx := hxo.length
    rw [List.length_map] at lx
    have hok1 := okS_nums hokt
    have hnl := numsS_len t
    have ms := mul_small hd0 (by omega)
    have row : EvD K (tOp rAddStr (tOp rMulS (tC (.str (Str.ofString " "))) (tVar 1)) (tM1 (rJoin K) (tC (.str (Str.ofString " "))) (tOp rCat (tLst (tCons (tOp (rIxT K) (tVar 3) (tC (.int 0))) tNil)) (tLc (iTup K (tSl (rSlP K) (tVar 3) (tPart (tC (.int 1))) (tPart (tC (.int 2))))) (gName 4) tYes (tCB rStrI (tCons (tVar 4) tNil)) [4])))) [some v1, some (V.int deep), some (V.ref lo), some x, none] H' (.str (rowS t deep)) := by
      refine evd_op (evd_op evd_str (evd_var rfl (.int deep)) (opd_mulS ms.1)) (evd_join ?_ ?_) (opd_addStr ?_)
      · have e : ((nameS t :: (numsS t).map strI).map PyData.str) = [PyData.str (nameS t)] ++ (((numsS t).map PyData.int).filter fun _ => true).map strD := by
          rw [filter_yes, List.map_cons, List.map_map, List.map_map]
          rfl
        rw [e]
        refine evl_cat (evl_lst (eva_cons (name_of rfl hx) eva_nil)) (evl_lcT (by rw [List.length_map]; exact small_le (by omega)) (mid_of rfl hx) (fun _ => true) strD fun d hd y H2 s2 hy => ?_) ?_
        · obtain ⟨j, hj, rfl⟩ := List.mem_map.mp hd
          obtain rfl := hy.int_inv
          exact ⟨_, fun R r => r, rfl, fun H1 s1 Q q => q H1 (Same.refl H1), fun _ => evd_cb (eva_cons (evd_var rfl (.int j)) eva_nil) (cbd_strI (hok1 j hj))⟩
        · rw [filter_yes, List.length_map, List.length_map]
          exact small_le (by simp; omega)
      · have h1 := nameS_len t
        have h2 : (((numsS t).map strI).map (·.length)).sum ≤ ((numsS t).map strI).length * 20 := sum_le _ fun y hy => by
          obtain ⟨j, hj, rfl⟩ := List.mem_map.mp hy
          exact strI_len (hok1 j hj)
        rw [List.length_map] at h2
        rw [List.map_cons, List.sum_cons, List.length_cons, List.length_map, sp_len]
        omega
      · have h1 := rowS_len hokt hd0 (by omega)
        unfold rowS at h1
        rw [str_len_append] at h1
        exact small_le (by omega)
    refine sd_seq (st_app (K := K) (i := 2) (l := lo) (xs := xo) rfl hl row (small_lt (by omega)) fun v2 H2 s2 h2 => ?_)
    have sA : SameT H' (upd H2 lo (.lst (xo ++ [v2]))) := (SameT.of s2).updL (s2 _ _ hl)
    have sB : SameT H2 (upd H2 lo (.lst (xo ++ [v2]))) := SameT.updL (.refl _) (s2 _ _ hl)
    have hx2 : Tp K (upd H2 lo (.lst (xo ++ [v2]))) x (encS t) := hx.mono sA
    have sH := same_mut (s'.trans s2) hlo (.lst (xo ++ [v2]))
    have all2 := (hxo.mono sA).snoc (h2.mono sB)
    cases t with
    | put c =>
      refine sd_go (sd_no1 (head_is (K := K) rfl hx2 (put_times c)) fun H4 s4 => ⟨_, some x, rfl, sH.trans s4, s4 _ _ upd_same, ?_⟩)
      rw [mr, rowsS, List.map_append]
      exact all2.same s4
    | take =>
      refine sd_go (sd_no1 (head_is (K := K) rfl hx2 take_times) fun H4 s4 => ⟨_, some x, rfl, sH.trans s4, s4 _ _ upd_same, ?_⟩)
      rw [mr, rowsS, List.map_append]
      exact all2.same s4
    | times m c =>
      refine sd_go (sd_yes (head_is (K := K) rfl hx2 (times_times m c)) fun H4 s4 => ?_)
      have hx4 := hx2.same s4
      rw [encS] at hx4
      rw [okS] at hokt
      rw [depS] at hdt
      rw [mr, rowsS, List.length_append, List.length_cons] at lr
      have hcc : cntSs c ≤ 1000 := by
        have h1 := cntSs_take_le b (i + 1)
        have h2 := cnt_more ht
        rw [cntS] at h2
        omega
      refine st_ext (K := K) (i := 2) (l := lo) (xs := xo ++ [v2]) rfl (s4 _ _ upd_same) (evl_call (eva_cons (evd_at 2 (evd_var rfl hx4) rfl) (eva_cons (evd_op (evd_var rfl (.int deep)) evd_int (opd_I0 (.int _))) eva_nil)) ⟨c, deep + 1, rfl, hokt.2, by omega, by omega, by omega, hcc, rfl⟩) ?_ fun zs H5 s5 hz => ?_
      · rw [List.length_append, List.length_singleton, List.length_map]
        exact small_le (by omega)
      · have sC : SameT H4 (upd H5 lo (.lst (xo ++ [v2] ++ zs))) := (SameT.of s5).updL (s5 _ _ (s4 _ _ upd_same))
        refine ⟨_, some x, rfl, same_mut ((sH.trans s4).trans s5) hlo _, upd_same, ?_⟩
        rw [mr, rowsS, List.map_append, List.map_cons]
        have e : ∀ (a : List PyData) (y : PyData) (z : List PyData), a ++ y :: z = (a ++ [y]) ++ z := fun a y z => by simp
        rw [e]
        exact ((all2.same s4).mono sC).append (hz.mono (SameT.updL (.refl _) (s5 _ _ (s4 _ _ upd_same))))
  · rintro σ H' ⟨xo, u, rfl, s', hl, hxo⟩
    rw [encSs_len, List.take_length] at hxo
    exact sd_go ⟨_, rfl, q lo xo H' hlo s' hl hxo⟩
theorem callee_rows (D : Dfn K mg "rows_of" sRows ["steps", "deep"]) (T : Txt K mg) : ∀ n, Callee P w K mg base n "rows_of" ["steps", "deep"] (spLs K (rRows n))
  | 0 => D.callee fun f fd F => ⟨spLs_len fun ds d ⟨_, _, e, _⟩ => by rw [e]; rfl, fun A outer s H args us vs Q E hr he hb hv ⟨ds, d, _, ⟨_, _, _, _, hd, _⟩, _⟩ => absurd hd (Nat.not_lt_zero _)⟩
  | n + 1 => D.callee fun f fd F => ok_rows F T (callee_rows D T n)
theorem scWritten : FnScope ["work"] ["work"] (defScope sWritten) := ⟨rfl, rfl, rfl, by decide +kernel, rfl, by decide +kernel, by decide +kernel⟩
theorem ok_written (F : Fun K "written" "written" sWritten f fd) (cNW : Callee P w K mg base 5 "need_work" ["work"] (spD K rNeedW)) (cRows : Callee P w K mg base 3 "rows_of" ["steps", "deep"] (spLs K (rRows 3))) : FnOk P w K mg base CX0 6 f fd ["work"] (spD K rWritten) := by
  refine F.ok scWritten (spD_len fun ds d ⟨_, e, _⟩ => by rw [e]; rfl) (fun cdv A outer s H vs Q E hr h => ?_)
  obtain ⟨ds, d, hvs, ⟨b, rfl, ok, rfl⟩, q⟩ := h
  obtain ⟨v1, rfl, hv1⟩ := one_inv hvs
  refine ⟨_, pss_cons (ps_expr (pe_cal cNW hr (pa_cons (pv 0) pa_nil))) (pss_one (ps_ret (pe_join pe_str (pe_cal cRows hr (pa_cons (pv 0) (pa_cons pe_int pa_nil)))))), ?_⟩
  refine sd_seq (sd_drop (K := K) (evd_call (eva_cons (evd_var rfl hv1) eva_nil) ⟨b, rfl, ok, rfl⟩) fun _ H1 s1 _ => ?_)
  have hdep := ok.dep
  have hcn := ok.cnt
  refine sd_go (sd_ret (K := K) (evd_join (evl_call (eva_cons (evd_var rfl (hv1.same s1)) (eva_cons evd_int eva_nil)) ⟨b, 0, rfl, ok.ok, hdep, by decide, by decide, by omega, rfl⟩) ?_) fun v H3 s3 h3 => q v H3 (s1.trans s3) h3)
  have h1 : ((rowsSs b 0).map (·.length)).sum ≤ (rowsSs b 0).length * 40 := sum_le _ (rowsSs_lens b 0 ok.ok (by decide) (by omega))
  have h2 : (Str.ofString "\n").length = 1 := by decide +kernel
  rw [rowsSs_len] at h1 ⊢
  rw [h2]
  omega
end
end Lo
set_option linter.all false
set_option maxHeartbeats 1000000
/-! the mirror, fourth part: threes compared -/
namespace Lo
open PySem
def insU (x : Int) : List Int → List Int
  | [] => [x]
  | y :: r => if x < y then x :: y :: r else if x = y then y :: r else y :: insU x r
def sortU (l : List Int) : List Int := l.foldr insU []
theorem insU_mem (x : Int) : ∀ (l : List Int) (z : Int), z ∈ insU x l ↔ z = x ∨ z ∈ l
  | [], z => by simp [insU]
  | y :: r, z => by
    have ih := insU_mem x r z
    unfold insU
    split
    · simp
    · split
      · rename_i h1 h2
        subst h2
        simp
      · simp only [List.mem_cons, ih]
        constructor
        · rintro (h | h | h)
          · exact .inr (.inl h)
          · exact .inl h
          · exact .inr (.inr h)
        · rintro (h | h | h)
          · exact .inr (.inl h)
          · exact .inl h
          · exact .inr (.inr h)
theorem insU_rise (x : Int) : ∀ {l : List Int}, l.Pairwise (· < ·) → (insU x l).Pairwise (· < ·)
  | [], _ => List.pairwise_singleton _ _
  | y :: r, h => by
    obtain ⟨h1, h2⟩ := List.pairwise_cons.mp h
    unfold insU
    split
    · rename_i hx
      refine List.pairwise_cons.mpr ⟨fun z hz => ?_, h⟩
      rcases List.mem_cons.mp hz with rfl | hz
      · exact hx
      · have := h1 z hz
        omega
    · split
      · exact h
      · rename_i hx hne
        refine List.pairwise_cons.mpr ⟨fun z hz => ?_, insU_rise x h2⟩
        rcases (insU_mem x r z).mp hz with rfl | hz
        · omega
        · exact h1 z hz
theorem sortU_rise : ∀ l : List Int, (sortU l).Pairwise (· < ·)
  | [] => .nil
  | x :: r => insU_rise x (sortU_rise r)
theorem sortU_mem : ∀ (l : List Int) (z : Int), z ∈ sortU l ↔ z ∈ l
  | [], z => Iff.rfl
  | x :: r, z => by
    show z ∈ insU x (sortU r) ↔ _
    rw [insU_mem, sortU_mem r, List.mem_cons]
theorem rise_eq : ∀ {a b : List Int}, a.Pairwise (· < ·) → b.Pairwise (· < ·) → (∀ z, z ∈ a ↔ z ∈ b) → a = b
  | [], [], _, _, _ => rfl
  | [], y :: b, _, _, h => absurd ((h y).mpr (List.mem_cons_self ..)) (by simp)
  | x :: a, [], _, _, h => absurd ((h x).mp (List.mem_cons_self ..)) (by simp)
  | x :: a, y :: b, ha, hb, h => by
    obtain ⟨a1, a2⟩ := List.pairwise_cons.mp ha
    obtain ⟨b1, b2⟩ := List.pairwise_cons.mp hb
    have e : x = y := by
      rcases List.mem_cons.mp ((h x).mp (List.mem_cons_self ..)) with e | e
      · exact e
      · rcases List.mem_cons.mp ((h y).mpr (List.mem_cons_self ..)) with e2 | e2
        · exact e2.symm
        · have := a1 y e2
          have := b1 x e
          omega
    subst e
    rw [rise_eq a2 b2 fun z => ?_]
    constructor
    · intro hz
      rcases List.mem_cons.mp ((h z).mp (List.mem_cons_of_mem _ hz)) with e | e
      · have := a1 z hz
        omega
      · exact e
    · intro hz
      rcases List.mem_cons.mp ((h z).mpr (List.mem_cons_of_mem _ hz)) with e | e
      · have := b1 z hz
        omega
      · exact e
def minL : List Int → Int
  | [] => 0
  | x :: r => r.foldl minI x
theorem foldl_min (r : List Int) : ∀ x : Int, (r.foldl minI x ∈ x :: r) ∧ ∀ y ∈ x :: r, r.foldl minI x ≤ y := by
  induction r with
  | nil => intro x; simp
  | cons z r ih =>
    intro x
    obtain ⟨h1, h2⟩ := ih (minI x z)
    have e : minI x z = x ∨ minI x z = z := by unfold minI; split <;> simp
    have l1 := minI_le1 x z
    have l2 := minI_le2 x z
    rw [List.foldl_cons]
    have hm := h2 (minI x z) (List.mem_cons_self ..)
    refine ⟨?_, fun y hy => ?_⟩
    · rcases List.mem_cons.mp h1 with h | h
      · rcases e with e | e
        · rw [h, e]; exact List.mem_cons_self ..
        · rw [h, e]; exact List.mem_cons_of_mem _ (List.mem_cons_self ..)
      · exact List.mem_cons_of_mem _ (List.mem_cons_of_mem _ h)
    · rcases List.mem_cons.mp hy with rfl | hy
      · omega
      · rcases List.mem_cons.mp hy with rfl | hy
        · omega
        · exact h2 y (List.mem_cons_of_mem _ hy)
theorem minL_is {l : List Int} {m : Int} (h1 : m ∈ l) (h2 : ∀ y ∈ l, m ≤ y) : m = minL l := by
  cases l with
  | nil => cases h1
  | cons x r =>
    obtain ⟨a, b⟩ := foldl_min r x
    have c1 := h2 _ a
    have c2 := b _ h1
    show m = r.foldl minI x
    omega
def beyondT (t : Three) (bar : Int) : Int := t.2.2 + sizeH (t.2.1.filter fun p => decide (bar < p.1))
def barsT (a b : Three) : List Int := sortU (-1000000 :: (a.2.1 ++ b.2.1).map (·.1))
def foundT (a b : Three) : List Int := ((barsT a b).filter fun bar => !decide (beyondT a bar = beyondT b bar)).map fun bar => minI (beyondT a bar) (beyondT b bar) + 1
def partT (a b : Three) : PyData := if a.1 = b.1 then (if foundT a b = [] then .none else .tuple [.tuple [.int (-1000000), .int (minL (foundT a b))]]) else .tuple []
theorem filter_more {α β : Type} {l : List α} {i : Nat} {x : α} (h : l[i]? = some x) (f : α → Bool) (g : α → β) : ((l.take (i + 1)).filter f).map g = ((l.take i).filter f).map g ++ (if f x = true then [g x] else []) := by
  rw [List.take_succ, h, List.filter_append, List.map_append]
  cases e : f x with
  | true => simp [e]
  | false => simp [e]
end Lo
set_option Elab.async false
set_option linter.all false
set_option maxRecDepth 100000
set_option maxHeartbeats 4000000
/-! set(a list of ints) -/
namespace Lo
open PySem PySem.Spec PySem.Calls PyProof.Rows L2
/-- a set with nothing in it -/
abbrev noSet (w : World) : Obj := { cls := .type "set", dict := none, data := .set #[] 0 (.fresh 0 0 (!w.params.followText "set-order")) }
section
variable {P : Program} {w : World} {A : Around} {E : Value → Shared → Prop} {s : Shared}
set_option maxHeartbeats 3200000 in
/-- set(v): a new empty one, then its __init__ -/
theorem call_set_by {v : Value} {Q : Value → Shared → Prop}
    (hi : wpAny (model P w) A.in1.in1 (Builtin.«set.__init__» ⟨[.ref s.heap.objs.size, v], []⟩) (fun fin s2 => fin = .done (.ret .none) ∧ Q (.ref s.heap.objs.size) s2) E { s with heap := s.heap.push (noSet w) }) :
    wpAny (model P w) A (call (.type "set") [v]) Q E s := by
  obtain ⟨c, tl, hmro⟩ := F.called_set.mro
  have hmade := F.called_set.made
  have hsub := F.called_set.sub
  refine wpAny_call (codeAny_of_tree ?_)
  show wpAny _ _ (callAny (.type "set") _) _ _ _
  refine wpAny_pure ⟨Code.quiet_builtin _ (by decide +kernel), codeAny_builtin F.entry_type_call ?_⟩
  rw [Around.under_plain (weight_type_call_type "set" [v] []) rfl]
  have h1 := F.called_set.notType
  have h2 := F.called_set.canCreate
  have hct := F.typeCall_set_1 v
  repeat (any_goals (first | assumption | wp_step))
  refine codeAny_mono (code_set_led1 v (E := E) (Q₁ := fun obj s1 => obj = .ref s.heap.objs.size ∧ s1 = { s with heap := s.heap.push (noSet w) }) ⟨rfl, rfl⟩) fun r s1 hr => ?_
  cases r with
  | error e => exact hr
  | ok fl =>
    cases fl with
    | ret obj =>
      obtain ⟨rfl, rfl⟩ := hr
      have hS : (s.heap.push (noSet w)).get? s.heap.objs.size = some (noSet w) := Heap.get?_push_size _ rfl
      have hT : Shared.TypeIs { s with heap := s.heap.push (noSet w) } (.ref s.heap.objs.size) "set" := ⟨_, hS, rfl⟩
      have hli := F.called_set.init.lookup
      have hbi := F.called_set.init.bind (.ref s.heap.objs.size)
      repeat (any_goals (first | assumption | wp_step))
      refine codeAny_mono (codeAny_call_builtin (R := wants (fun r s2 => r = .none ∧ Q (.ref s.heap.objs.size) s2) E) F.called_set.init.plain F.entry_set_init (check_set_init_1 hT ?_)) fun r2 s2 hr2 => ?_
      · exact wpAny_mono hi (fun fin s2 ⟨e, q⟩ => by
          subst e
          exact ⟨rfl, q⟩) fun _ _ e => e
      · cases r2 with
        | error e => exact hr2
        | ok fl2 =>
          cases fl2 with
          | ret r =>
            obtain ⟨rfl, hq⟩ := hr2
            repeat (any_goals (first | assumption | wp_step))
          | _ => exact hr2.elim
    | _ => exact hr.elim
set_option maxHeartbeats 3200000 in
/-- set(a list): its items one by one into the new set -/
theorem call_set_lst {l : Addr} {items : Array Value} {Q : Value → Shared → Prop} (hl : s.heap.IsList l items)
    (hi : ∀ S I, S = s.heap.objs.size → I = s.heap.objs.size + 1 → ∀ h1 : Heap, h1.get? S = some (noSet w) → h1.IsListIter I l 0 → h1.IsList l items → (∀ b u, s.heap.get? b = some u → h1.get? b = some u) →
      codeAny (model P w) A.in1.in1 (.builtin "set.update.loop" ⟨[.ref S, .ref I], []⟩) (fun r s2 => r = .ok (.ret .none) ∧ Q (.ref S) s2) { s with heap := h1 }) :
    wpAny (model P w) A (call (.type "set") [.ref l]) Q E s := by
  refine call_set_by ?_
  have hS : (s.heap.push (noSet w)).get? s.heap.objs.size = some (noSet w) := Heap.get?_push_size _ rfl
  have hz1 : (s.heap.push (noSet w)).objs.size = s.heap.objs.size + 1 := Heap.size_push ..
  have hl0 := hl
  obtain ⟨ol, hol, hcl, nl, hdl⟩ := hl
  obtain ⟨ocls, odict, odata, oslots⟩ := ol
  simp only at hcl hdl
  subst hcl; subst hdl
  have hol' : (s.heap.push (noSet w)).get? l = some { cls := .type "list", dict := odict, data := .seq items nl, slots := oslots } := Heap.get?_push_of_some _ hol
  have hsls := F.sub_list_set
  have hslf := F.sub_list_frozenset
  have hne : (Value.type "list" == Value.type "dict") = false := by decide
  have hl1 : (s.heap.push (noSet w)).IsList l items := ⟨_, hol', rfl, nl, rfl⟩
  unfold Builtin.«set.__init__» noKeywords Builtin.Frozenset.updateFrom
  generalize hPI : pyIter = PI
  wp_walk
  subst hPI
  refine wpAny_pyIter_list hl1 ?_
  refine wpAny_bind (wpAny_runValue ?_)
  refine codeAny_mono (hi _ _ rfl hz1 _ (Heap.get?_push_of_some _ hS) ⟨_, Heap.get?_push_size _ rfl, rfl, rfl⟩ (hl1.push _) fun b u e => Heap.get?_push_of_some _ (Heap.get?_push_of_some _ e)) fun r s2 hr => ?_
  obtain ⟨rfl, q⟩ := hr
  exact wpAny_pure (wpAny_pure ⟨rfl, q⟩)
end
/-- set(xs) of ints, all among few -/
def rSetI (K : PySem.W.Frag) (w : World) : List V → Hp → VK → Prop := fun xs H Q => ∃ (l : Addr) (ns B : List Int), xs = [.ref l] ∧ (SqL K H l (ns.map V.int) ∨ SqT K H l (ns.map V.int)) ∧ ns.length ≤ 1000 ∧ (∀ k ∈ ns, k ∈ B) ∧ B.length < 64 ∧
  ∀ p c, H p = none → c < 64 → Q (.ref p) (upd H p (SetO w p (fun j => decide (j ∈ ns)) c))
section
variable {X : Cx}
theorem setR_few {w : World} {h : Heap} {a : Addr} {ns B : List Int} {n : Nat} (R : SetR w h a (fun j => decide (j ∈ ns)) n) (hb : ∀ k ∈ ns, k ∈ B) : n ≤ B.length := by
  obtain ⟨o, es, ep, t, _, _, _, _, nd, hm, _, _, hn, _⟩ := R
  have := nodup_len (es.toList.map keyOf) B nd fun x hx => hb x (by simpa using (hm x).mpr hx)
  rw [List.length_map, Array.length_toList, hn] at this
  exact this
theorem cr_setI (hc : X.calm = true) : CallR X (.type "set") (rSetI X.K X.w) := by
  intro pins s σ H xs us Q I r h
  obtain ⟨l, ns, B, rfl, hs, hn, hB, h64, q⟩ := h
  obtain rfl := Vals.ref1 r
  have hh : X.A.handled = none := I.ok.hd hc
  have fin : ∀ (h' : Heap) (tk c : Nat), SetR X.w h' s.heap.objs.size (fun j => decide (j ∈ ns)) c → (∀ b o, s.heap.get? b = some o → h'.get? b = some o) → EP X pins σ Q (.ref s.heap.objs.size) { s with heap := h', toks := tk } := fun h' tk c R k =>
    ⟨.ref s.heap.objs.size, _, I.laid (t' := tk) k (Nat.le_refl _) (setO_new R), rfl, q _ c (I.hok.fresh (Nat.le_refl _)) (Nat.lt_of_le_of_lt (setR_few R hB) h64)⟩
  rcases hs with hs | hs
  · obtain ⟨its, rv, pl, hz⟩ := I.list hs
    have hia : IntsAre its.toArray.toList ns := by
      rw [List.toList_toArray]
      exact Vals.ints rv
    have hisz : its.toArray.size = ns.length := by
      have e := rv.length
      rw [List.length_map] at e
      rw [List.size_toArray, e]
    have hval : ∀ (i : Nat) (v : Value), its.toArray[i]? = some v → ∃ k t, ns[i]? = some k ∧ v = .int k t := fun i v hv => by
      have hi : i < ns.length := by rw [← hisz]; exact (Array.getElem?_eq_some_iff.mp hv).1
      obtain ⟨t, e⟩ := PyProof.Rows.IntsAre.int_at hia i v (by rw [Array.getElem?_toList]; exact hv)
      refine ⟨ns[i], t, List.getElem?_eq_getElem hi, ?_⟩
      rw [e, List.getD_eq_getElem?_getD, List.getElem?_eq_getElem hi]
      rfl
    have hlS : l < s.heap.objs.size := by
      obtain ⟨o, ho, _⟩ := pl.isList
      exact Heap.lt_size ho
    refine call_set_lst pl.isList fun S J eS eJ h1 hS hit hl1 hk => ?_
    subst eS eJ
    have hneI : l ≠ s.heap.objs.size + 1 := Nat.ne_of_lt (Nat.lt_succ_of_lt hlS)
    refine set_update_ints ((Walks.list (A := X.A.in1.in1.in1) hh _ l hneI its.toArray).toS) s.heap.objs.size ?_ ns hisz (by unfold scanBound; omega) hval (its.toArray.size - 0) 0 _ (by omega) (Nat.zero_le _) ⟨hit, hl1⟩ ⟨0, Nat.le_refl 0, setR_new_at hS⟩ fun s2 c hm hc' hR => ?_
    · simp only [List.mem_cons, List.mem_singleton, List.not_mem_nil, or_false, not_or]
      exact ⟨Nat.ne_of_lt (Nat.lt_succ_self _), Nat.ne_of_gt hlS⟩
    · obtain ⟨h2, g2, d2, tk2, os2⟩ := s2
      have eg : g2 = s.gens := hm.gens
      have ed : d2 = s.drawn := hm.drawn
      have eo : os2 = s.os := hm.os
      subst eg; subst ed; subst eo
      refine ⟨rfl, fin h2 tk2 c hR fun b u e => ?_⟩
      have hb0 : b < s.heap.objs.size := Heap.lt_size e
      refine hm.heap b u ?_ (hk b u e)
      simp only [List.mem_cons, List.mem_singleton, List.not_mem_nil, or_false, not_or]
      exact ⟨Nat.ne_of_lt hb0, Nat.ne_of_lt (Nat.lt_succ_of_lt hb0)⟩
  · obtain ⟨its, rv, tp, hz⟩ := I.tuple hs
    have hia : IntsAre its.toArray.toList ns := by
      rw [List.toList_toArray]
      exact Vals.ints rv
    exact call_set_tupI ns hh tp hia (by unfold scanBound; omega) fun h' tk c R _ k => fin h' tk c R k
end
end Lo
set_option Elab.async false
set_option linter.all false
set_option maxRecDepth 100000
set_option maxHeartbeats 4000000
/-! threes -/
namespace Lo
open PySem PySem.Spec PyProof.Rows L2
/-- min(a tuple of two ints) -/
def rMinT (K : PySem.W.Frag) : List V → Hp → VK → Prop := fun xs H Q => ∃ (a : Addr) (i j : Int), xs = [.ref a] ∧ SqT K H a [.int i, .int j] ∧ Q (.int (minI i j)) H
section
variable {X : Cx}
theorem min_two (i j : Int) : PySem.W.minD (.int i) [.int j] = .int (minI i j) := by
  have e := PySem.W.minD_ints i [j]
  rw [List.map_cons, List.map_nil] at e
  rw [e]
  show PyData.int (min i j) = _
  unfold minI
  congr 1
  omega
theorem cr_minT (hc : X.calm = true) (hu : X.A.units + 64 < cLine) : CallR X (.builtin "min") (rMinT X.K) := by
  intro pins s σ H xs us Q I r h
  obtain ⟨a, i, j, rfl, hs, q⟩ := h
  obtain rfl := Vals.ref1 r
  obtain ⟨its, rv, tp, hz⟩ := I.tuple hs
  obtain ⟨u, v, rfl, ⟨t1, rfl⟩, ⟨t2, rfl⟩⟩ := vals2 rv
  have rs : ReadsAll s.heap [Value.int i t1, Value.int j t2] [.int i, .int j] [] := .cons (as := []) (bs := []) (.int i t1) (.cons (as := []) (bs := []) (.int j t2) .nil)
  refine PySem.W.min_tuple_data (I.ok.hd hc) tp (x := .int i) (xs := [.int j]) (by rw [List.toList_toArray]; exact rs) ?_ ?_ fun k v h' tk bs hv hr hk => ?_
  · refine ⟨fun x hx y hy => ?_, fun x hx => ?_⟩
    · simp at hx hy
      rcases hx with rfl | rfl <;> rcases hy with rfl | rfl <;> simp [PySem.W.alike]
    · simp at hx
      rcases hx with rfl | rfl <;> simp
  · simp [PyData.depth, PyData.depthAll]
    omega
  · rw [min_two] at hr
    cases hr
    exact ⟨.int _, H, I.kept (t' := tk) hk, ⟨_, rfl⟩, q⟩
end
section
variable {K : PySem.W.Frag} {σ : L2.St} {H : Hp} {te ta tb : TE} {D : Ends} {i : Nat} {ds : List PyData}
theorem cbd_minT {a b : Int} : CbD K (rMinT K) H [.tuple [.int a, .int b]] (.int (minI a b)) := fun H1 _ vs hv Q q => by
  obtain ⟨v, rfl, hv2⟩ := one_inv hv
  obtain ⟨p, xs, rfl, hS, hA⟩ := hv2.tup_inv
  obtain ⟨x, y, rfl, hx, hy⟩ := two_inv hA
  obtain rfl := hx.int_inv
  obtain rfl := hy.int_inv
  exact ⟨p, a, b, rfl, hS.sqt, q _ H1 (Same.refl H1) (.int _)⟩
/-- min(a list in a slot) -/
theorem evd_minL {l : Addr} {ns : List Int} (hv : σ[i]? = some (some (.ref l))) (hl : H l = some (.lst (ns.map V.int))) (hn : ns ≠ []) : EvD K (tCB (rMin K) (tCons (tVar i) tNil)) σ H (.int (minL ns)) := fun H1 s Q q =>
  ⟨_, hv, l, ns, rfl, .of (s _ _ hl), List.length_pos_iff.mpr hn, fun m h1 h2 => by
    rw [minL_is h1 h2]
    exact q _ H1 (Same.refl H1) (.int _)⟩
theorem shaped_ints (ns : List Int) : SeqAt.shaped (.list (ns.map PyData.int)) = true := by
  unfold SeqAt.shaped
  have h1 : PyData.canLay0 (.list (ns.map PyData.int)) = true := by
    rw [PyData.canLay0]
    refine simAll_lay _ (simAll_of fun d hd => ?_)
    obtain ⟨k, _, rfl⟩ := List.mem_map.mp hd
    rfl
  have h2 : (PyData.list (ns.map PyData.int)).depth ≤ 64 := by
    have := depthAll_le (n := 0) (l := ns.map PyData.int) fun d hd => by
      obtain ⟨k, _, rfl⟩ := List.mem_map.mp hd
      simp [PyData.depth]
    simp [PyData.depth]
    omega
  rw [h1, decide_eq_true h2]
  rfl
/-- xs != [], the list in a slot -/
theorem evb_some {l : Addr} {ns : List Int} (hv : σ[i]? = some (some (.ref l))) (hl : H l = some (.lst (ns.map V.int))) : EvB (tTest (tOp (rNeD K) (tVar i) (tLst tNil))) σ H (!decide (ns = [])) := fun H1 s Q q =>
  ⟨_, hv, Nat.zero_le _, fun p hp => by
    have nl : l ≠ p := ne_of_none (s _ _ hl) hp
    have e : PyData.eqv (.list (ns.map PyData.int)) (.list []) = decide (ns = []) := by
      rw [PyData.eqv]
      cases ns with
      | nil => rfl
      | cons a r =>
        rw [List.map_cons, PyData.eqvAll]
        rfl
    refine ⟨.list (ns.map PyData.int), .list [], .lst (.of (by rw [upd_ne nl]; exact s _ _ hl)) (TpAll.dp (TpAll.ints (K := K) ns)), .lst (.of upd_same) .nil, shaped_ints ns, shaped_ints [], !decide (ns = []), ?_, q _ (same_new hp _)⟩
    rw [e]⟩
/-- for x in (a new list) -/
theorem st_forL {g : TG} {tb : TS} (he : EvLs K te σ H ds) (Pv : Addr → List V → Nat → L2.St → Hp → Prop) (h0 : ∀ l xs H2, H l = none → Same H H2 → H2 l = some (.lst xs) → TpAll K H2 xs ds → Pv l xs 0 σ H2)
    (hT : ∀ l xs i σ H', Pv l xs i σ H' → H' l = some (.lst xs) ∧ TpAll K H' xs ds)
    (hs : ∀ l xs i d x σ H', H l = none → ds[i]? = some d → Tp K H' x d → Pv l xs i σ H' → g x σ H' fun σ2 H2 => tb { D with nx := Pv l xs (i + 1), ct := Pv l xs (i + 1), bk := D.nx } σ2 H2) (hd : ∀ l xs σ H', Pv l xs ds.length σ H' → D.nx σ H') :
    tFor (iList K te) g tb D σ H := he.go fun l xs H2 n s2 hl hx => by
  have hlen := hx.length
  refine ⟨l, rfl, ⟨xs, .of hl⟩, for_list (D := D) (xs := xs) (Pv l xs) (h0 l xs H2 n s2 hl hx) (fun i σ H' _ p => .of (hT l xs i σ H' p).1) ?_ fun σ H' p => hd l xs σ H' (by rw [← hlen]; exact p)⟩
  intro i x σ H' hx' p
  obtain ⟨d, hd', hxd⟩ := (hT l xs i σ H' p).2.getV hx'
  exact hs l xs i d x σ H' n hd' hxd p
/-- sorted(set(xs)), the list in a slot -/
theorem evl_sortSet {w : World} {l : Addr} {ns B : List Int} (hv : σ[i]? = some (some (.ref l))) (hl : H l = some (.lst (ns.map V.int))) (hn : ns.length ≤ 1000) (hB : ∀ k ∈ ns, k ∈ B) (h64 : B.length < 64) :
    EvLs K (tCB (rSortedSet w) (tCons (tCB (rSetI K w) (tCons (tVar i) tNil)) tNil)) σ H ((sortU ns).map PyData.int) := fun H1 s Q q =>
  ⟨_, hv, l, ns, B, rfl, .inl (.of (s _ _ hl)), hn, hB, h64, fun p c hp hc => ⟨p, _, c, rfl, upd_same, hc, fun ns' p2 h1 h2 h3 h4 => by
    have e : ns' = sortU ns := rise_eq h1 (sortU_rise ns) fun z => by rw [h2 z, sortU_mem]; simp
    have n1 : H1 p2 = none := by
      by_cases hlp : p2 = p
      · rw [hlp]; exact hp
      · rw [upd_ne hlp] at h4; exact h4
    rw [e]
    exact q p2 _ _ n1 ((same_new hp _).trans (same_new h4 _)) upd_same (TpAll.ints _)⟩⟩
end
abbrev sNeedT : Stmt := top 48
abbrev sBeyond : Stmt := top 49
abbrev sBars : Stmt := top 50
abbrev sParting : Stmt := top 51
abbrev sAlike : Stmt := top 52
abbrev sCrossed : Stmt := top 53
def rNeedT (ds : List PyData) (d : PyData) : Prop := ∃ t : Three, ds = [encT t] ∧ CanH 999 t.1 ∧ CanH 999 t.2.1 ∧ 0 ≤ t.2.2 ∧ t.2.2 ≤ 1000000000000000000 ∧ d = .none
def rBeyond (ds : List PyData) (d : PyData) : Prop := ∃ (t : Three) (bar : Int), ds = [encT t, .int bar] ∧ t.2.1.length ≤ 2000001 ∧ d = .int (beyondT t bar)
def rBars (ds es : List PyData) : Prop := ∃ (a b : Three) (S : List Int), ds = [encT a, encT b] ∧ GoodT S a ∧ GoodT S b ∧ S.length ≤ 60 ∧ es = (barsT a b).map PyData.int
def rParting (ds : List PyData) (d : PyData) : Prop := ∃ (a b : Three) (S : List Int), ds = [encT a, encT b] ∧ GoodT S a ∧ GoodT S b ∧ S.length ≤ 60 ∧ d = partT a b
def rAlike (ds : List PyData) (d : PyData) : Prop := ∃ a b : Wk, ds = [encW a, encW b] ∧ OkW a ∧ OkW b ∧ d = partT (threeT a) (threeT b)
def rCrossed (ds : List PyData) (d : PyData) : Prop := ∃ a b : Wk, ds = [encW a, encW b] ∧ OkW a ∧ OkW b ∧ d = partT (behindT (threeT a) (threeT b)) (behindT (threeT b) (threeT a))
section
variable {P : Program} {w : World} {K : PySem.W.Frag} {mg : Str → Option Value} {base : Heap} {f : Addr} {fd : FuncData}
theorem scNeedT : FnScope ["three", "left", "out", "idle", "part", "heap", "place"] ["three"] (defScope sNeedT) := ⟨rfl, rfl, rfl, by decide +kernel, rfl, by decide +kernel, by decide +kernel⟩
theorem ok_needT (F : Fun K "need_three" "need_three" sNeedT f fd) (T : Txt K mg) (cBad : Callee P w K mg base 1 "bad_place" ["heap", "far"] (spD K rBad)) : FnOk P w K mg base CX0 2 f fd ["three"] (spD K rNeedT) := by
  refine F.ok scNeedT (spD_len fun ds d ⟨_, e, _⟩ => by rw [e]; rfl) (fun cdv A outer s H vs Q E hr h => ?_)
  obtain ⟨ds, d, hvs, ⟨t, rfl, c1, c2, c3, c4, rfl⟩, q⟩ := h
  obtain ⟨v1, rfl, hv1⟩ := one_inv hvs
  have nd := scNeedT.nd
  refine ⟨_, pss_cons (ps_asg (pv 0) (pg_tup rfl (pgs_cons (pg_name (i := 1) nd rfl (Or.inl rfl)) (pgs_cons (pg_name (i := 2) nd rfl (Or.inl rfl)) (pgs_cons (pg_name (i := 3) nd rfl (Or.inl rfl)) pgs_nil)))))
    (pss_cons (ps_for PassesOwn.never rfl (pi_enumT (by rfl) T.zEnum (pa_cons (pe_tupP (pa_cons (pv 1) (pa_cons (pv 2) pa_nil))) pa_nil)) (pg_tup rfl (pgs_cons (pg_name (i := 4) nd rfl (Or.inl rfl)) (pgs_cons (pg_name (i := 5) nd rfl (Or.inl rfl)) pgs_nil)))
      (pss_cons (ps_set (i := 6) nd rfl (Or.inl rfl) (pe_cal cBad hr (pa_cons (pv 5) (pa_cons (pe_gI T.cMPut) pa_nil))))
      (pss_one (ps_if (pt_cmpR op_notN1 (pv 6) pe_non (nomark _)) (pss_one ps_never) pss_nil))))
    (pss_one (ps_if (pt_not (pt_chain op_le op_le pe_int (pv 3) (pe_gI T.cCount))) (pss_one ps_never) pss_nil))), ?_⟩
  refine sd_seq (sd_unp3 (K := K) (evd_var rfl (tp_T hv1)) fun x y z H1 s1 hx hy hz => ?_)
  obtain rfl := hz.int_inv
  refine sd_go (sd_seq (st_forE (K := K) (ds := [encH t.1, encH t.2.1]) (evd_tup (eva_cons (evd_var rfl hx) (eva_cons (evd_var rfl hy) eva_nil))) (fun H0 i σ H' => ∃ u1 u2 u3 : Option V, σ = [some v1, some x, some y, some (.int t.2.2), u1, u2, u3] ∧ Same H H' ∧ Same H0 H') (fun H2 s2 => ⟨none, none, none, rfl, s1.trans s2, Same.refl H2⟩) (fun H2 i σ H' ⟨_, _, _, _, _, s'⟩ => .of s') ?_ ?_))
  · rintro H0 i d x2 T2 o σ H' s0 hd ho nT ⟨u1, u2, u3, rfl, s', s0'⟩ hyd
    have sN : Same H' (newT T2 o [.int (i : Nat), x2] H') := same_new nT _
    have hc : ∃ h : Hl, d = encH h ∧ CanH 999 h := by
      match i, hd with
      | 0, hd =>
        simp at hd
        exact ⟨_, hd.symm, c1⟩
      | 1, hd =>
        simp at hd
        exact ⟨_, hd.symm, c2⟩
      | i + 2, hd => simp at hd
    obtain ⟨h, rfl, can⟩ := hc
    refine ⟨T2, _, rfl, (PlT.new (K := K) ho).sqt, rfl, _, _, rfl, _, _, rfl, rfl, ?_⟩
    refine sd_seq (sd_set (K := K) (evd_call (eva_cons (evd_var rfl hyd) (eva_cons evd_int eva_nil)) ⟨h, _, rfl, can, rfl⟩) fun v H2 s2 h2 => ?_)
    obtain rfl := h2.non_inv
    refine sd_go (sd_no1 (evb_test (K := K) (evd_op (evd_var (v := .non) rfl .non) evd_non opd_notN)) fun H3 s3 => ?_)
    exact ⟨_, _, _, rfl, ((s'.trans sN).trans s2).trans s3, ((s0'.trans sN).trans s2).trans s3⟩
  · rintro H0 σ H' s0 ⟨u1, u2, u3, rfl, s', s0'⟩
    refine sd_go (sd_no1 (EvB.is (evb_not (evb_test (K := K) (evd_chain evd_int (evd_var rfl (.int t.2.2)) (opd_I0 (.bl _)) (fun _ => evd_int) fun _ => opd_I0 (.bl _)))) ?_) fun H3 s3 => q .non H3 (s'.trans s3) .non)
    rw [decide_eq_true c3, decide_eq_true c4]
    rfl
theorem scBeyond : FnScope ["three", "bar", "number", "count"] ["three", "bar"] (defScope sBeyond) := ⟨rfl, rfl, rfl, by decide +kernel, rfl, by decide +kernel, by decide +kernel⟩
def overD (bar : Int) : PyData → Bool
  | .tuple [.int n, _] => decide (bar < n)
  | _ => false
theorem over_enc (bar : Int) (h : Hl) : ((h.map encP).filter (overD bar)).map snd2 = ((h.filter fun p => decide (bar < p.1)).map (·.2)).map PyData.int := by
  rw [List.filter_map, List.map_map, List.map_map]
  rfl
theorem ok_beyond (F : Fun K "beyond" "beyond" sBeyond f fd) (T : Txt K mg) : FnOk P w K mg base CX0 1 f fd ["three", "bar"] (spD K rBeyond) := by
  refine F.ok scBeyond (spD_len fun ds d ⟨_, _, e, _⟩ => by rw [e]; rfl) (fun cdv A outer s H vs Q E hr h => ?_)
  obtain ⟨ds, d, hvs, ⟨t, bar, rfl, hl, rfl⟩, q⟩ := h
  obtain ⟨v1, v2, rfl, hv1, hv2⟩ := two_inv hvs
  obtain rfl := hv2.int_inv
  have nd := scBeyond.nd
  refine ⟨_, pss_one (ps_ret (pe_op op_add (pe_ix ix_tup (pv 0) pe_int (fun _ _ => rfl)) (pe_callB (cr_sum rfl) (by rfl) T.zSum (by decide +kernel) (pa_cons (pe_lc (own := [("number", 2), ("count", 3)]) (g := gTup K 2 (gCons (gName 2) (gCons (gName 3) gNil))) rfl nd
    (pi_tup (pe_ix ix_tup (pv 0) pe_int (fun _ _ => rfl))) (blkOk_by (N := ["three", "bar", "number", "count"]) (sc := defScope sBeyond) (by decide +kernel))
    (fun _ _ _ _ _ => pg_tup rfl (pgs_cons (pg_name (i := 2) nd rfl (Or.inl rfl)) (pgs_cons (pg_name (i := 3) nd rfl (Or.inl rfl)) pgs_nil))) (fun _ _ _ _ _ => pts_one (pt_cmpR op_gt (pv 2) (pv 1) (nomark _))) (fun _ _ _ _ _ => pv 3)) pa_nil)))), ?_⟩
  have hv1' := tp_T hv1
  refine sd_ret (K := K) (d := .int (beyondT t bar)) (evd_op (evd_at 2 (evd_var rfl hv1') rfl) (evd_sumL (ns := (t.2.1.filter fun p => decide (bar < p.1)).map (·.2)) ?_) (opd_I0 (.int _))) fun v H2 s2 h2 => q v H2 s2 h2
  rw [← over_enc]
  refine evl_lcT (by rw [List.length_map]; exact small_le (by omega)) (evd_at 1 (evd_var rfl hv1') rfl) (overD bar) snd2 fun d hd x H' s' hx => ?_
  obtain ⟨p, _, rfl⟩ := List.mem_map.mp hd
  obtain ⟨a, b, ha, hb, hg⟩ := pair_names (i := 2) (j := 3) hx
  obtain rfl := ha.int_inv
  exact ⟨_, hg, rfl, evb_cmp (K := K) (evd_var (v := .int p.1) rfl (.int _)) (evd_var (v := .int bar) rfl (.int _)) rfl, fun _ => evd_var rfl hb⟩
theorem scBars : FnScope ["one", "other", "found", "number", "count"] ["one", "other"] (defScope sBars) := ⟨rfl, rfl, rfl, by decide +kernel, rfl, by decide +kernel, by decide +kernel⟩
theorem bars_in {S : List Int} {a b : Three} (ga : GoodT S a) (gb : GoodT S b) : ∀ k ∈ (-1000000 :: (a.2.1 ++ b.2.1).map (·.1) : List Int), k ∈ (-1000000 :: S : List Int) := by
  intro k hk
  rcases List.mem_cons.mp hk with rfl | hk
  · exact List.mem_cons_self ..
  · obtain ⟨p, hp, rfl⟩ := List.mem_map.mp hk
    rcases List.mem_append.mp hp with hp | hp
    · exact List.mem_cons_of_mem _ (ga.out.sub p hp)
    · exact List.mem_cons_of_mem _ (gb.out.sub p hp)
theorem ok_bars (F : Fun K "bars_of" "bars_of" sBars f fd) (T : Txt K mg) : FnOk P w K mg base CX0 1 f fd ["one", "other"] (spLs K rBars) := by
  refine F.ok scBars (spLs_len fun ds d ⟨_, _, _, e, _⟩ => by rw [e]; rfl) (fun cdv A outer s H vs Q E hr h => ?_)
  obtain ⟨ds, es, hvs, ⟨a, b, S, rfl, ga, gb, hS, rfl⟩, q⟩ := h
  obtain ⟨v1, v2, rfl, hv1, hv2⟩ := two_inv hvs
  have nd := scBars.nd
  refine ⟨_, pss_cons (ps_set (i := 2) nd rfl (Or.inl rfl) (pe_lst (pa_cons (pe_op op_sub pe_int (pe_gI T.cFar)) pa_nil)))
    (pss_cons (ps_expr (pe_bm PySem.F.plainAttrs_list PySem.F.slot_list_extend PySem.F.type_list_extend mt_extend (pv 2) (pa_cons (pe_lc (own := [("number", 3), ("count", 4)]) (g := gTup K 2 (gCons (gName 3) (gCons (gName 4) gNil))) (tt := tYes) rfl nd
      (pi_tup (pe_op op_catP (pe_ix ix_tup (pv 0) pe_int (fun _ _ => rfl)) (pe_ix ix_tup (pv 1) pe_int (fun _ _ => rfl)))) (blkOk_by (N := ["one", "other", "found", "number", "count"]) (sc := defScope sBars) (by decide +kernel))
      (fun _ _ _ _ _ => pg_tup rfl (pgs_cons (pg_name (i := 3) nd rfl (Or.inl rfl)) (pgs_cons (pg_name (i := 4) nd rfl (Or.inl rfl)) pgs_nil))) (fun _ _ _ _ _ => pts_nil) (fun _ _ _ _ _ => pv 3)) pa_nil)))
    (pss_one (ps_ret (pe_callB (cr_sortedSet rfl) (by rfl) T.zSorted (by decide +kernel) (pa_cons (pe_callTy (cr_setI rfl) (by rfl) T.zSet (by decide +kernel) (pa_cons (pv 2) pa_nil)) pa_nil))))), ?_⟩
  have la := ga.out.len
  have lb := gb.out.len
  have hin := bars_in ga gb
  refine sd_seq (sd_setL (K := K) (ds := [.int (-1000000)]) (evl_lst (eva_cons (evd_op evd_int evd_int (opd_I0 (.int _))) eva_nil)) fun l xs H1 nl s1 hl hx => ?_)
  obtain ⟨x0, rfl, hx0⟩ := one_inv hx
  obtain rfl := hx0.int_inv
  refine sd_go (sd_seq (st_ext (K := K) (i := 2) (l := l) rfl hl (es := ((a.2.1 ++ b.2.1).map (·.1)).map PyData.int) ?_ ?_ fun zs H2 s2 hz => ?_))
  · have e := fst2_encP (a.2.1 ++ b.2.1)
    rw [← filter_yes ((a.2.1 ++ b.2.1).map encP)] at e
    rw [← e]
    refine evl_lcT (by rw [List.length_map, List.length_append]; exact small_le (by omega)) ?_ (fun _ => true) fst2 fun d hd x H' s' hx => ?_
    · rw [List.map_append]
      exact evd_op (evd_at 1 (evd_var rfl (tp_T (hv1.same s1))) rfl) (evd_at 1 (evd_var rfl (tp_T (hv2.same s1))) rfl) (opd_cat (by rw [List.length_map, List.length_map]; exact small_le (by omega)))
    · obtain ⟨p, _, rfl⟩ := List.mem_map.mp hd
      obtain ⟨c, e, hc, he, hg⟩ := pair_names (i := 3) (j := 4) hx
      exact ⟨_, hg, rfl, fun H1 s1 Q q => q H1 (Same.refl H1), fun _ => evd_var rfl hc⟩
  · rw [List.length_map, List.length_map, List.length_append]
    exact small_le (by simp; omega)
  · obtain rfl := hz.ints_inv
    have sH := same_mut (s1.trans s2) nl (.lst ([V.int (-1000000)] ++ ((a.2.1 ++ b.2.1).map (·.1)).map V.int))
    exact sd_go (sd_retL (K := K) (evl_sortSet (ns := -1000000 :: (a.2.1 ++ b.2.1).map (·.1)) (B := -1000000 :: S) rfl upd_same (by rw [List.length_cons, List.length_map, List.length_append]; omega) hin (by rw [List.length_cons]; omega)) fun l2 xs2 H3 n3 s3 hl3 hx3 => q l2 xs2 H3 (sH.free n3) (sH.trans s3) hl3 hx3)
theorem scParting : FnScope ["one", "other", "found", "bar", "here"] ["one", "other"] (defScope sParting) := ⟨rfl, rfl, rfl, by decide +kernel, rfl, by decide +kernel, by decide +kernel⟩
theorem encH_inj {a b : Hl} (h : encH a = encH b) : a = b := by
  unfold encH at h
  replace h := PyData.tuple.inj h
  induction a generalizing b with
  | nil =>
    cases b with
    | nil => rfl
    | cons p b => cases h
  | cons p a ih =>
    cases b with
    | nil => cases h
    | cons p2 b =>
      rw [List.map_cons, List.map_cons] at h
      obtain ⟨h1, h2⟩ := List.cons.inj h
      have h1 := PyData.tuple.inj h1
      obtain ⟨h3, h4⟩ := List.cons.inj h1
      obtain ⟨h4, _⟩ := List.cons.inj h4
      rw [ih h2]
      have e : p = p2 := Prod.ext (PyData.int.inj h3) (PyData.int.inj h4)
      rw [e]
theorem eqv_H (a b : Hl) : PyData.eqv (encH a) (encH b) = decide (a = b) := by
  by_cases h : a = b
  · rw [h, decide_eq_true rfl]
    exact simD_refl (sim_H b)
  · rw [decide_eq_false h]
    cases e : PyData.eqv (encH a) (encH b) with
    | false => rfl
    | true => exact absurd (encH_inj (simD_eq _ _ (sim_H a) (sim_H b) e)) h
theorem ok_parting (F : Fun K "parting" "parting" sParting f fd) (T : Txt K mg) (cBars : Callee P w K mg base 1 "bars_of" ["one", "other"] (spLs K rBars)) (cBey : Callee P w K mg base 1 "beyond" ["three", "bar"] (spD K rBeyond)) : FnOk P w K mg base CX0 2 f fd ["one", "other"] (spD K rParting) := by
  refine F.ok scParting (spD_len fun ds d ⟨_, _, _, e, _⟩ => by rw [e]; rfl) (fun cdv A outer s H vs Q E hr h => ?_)
  obtain ⟨ds, d, hvs, ⟨a, b, S, rfl, ga, gb, hS, rfl⟩, q⟩ := h
  obtain ⟨v1, v2, rfl, hv1, hv2⟩ := two_inv hvs
  have nd := scParting.nd
  refine ⟨_, pss_cons (ps_if (pt_cmpR (op_neD (hu64 hr)) (pe_ix ix_tup (pv 0) pe_int (fun _ _ => rfl)) (pe_ix ix_tup (pv 1) pe_int (fun _ _ => rfl)) (nomark _)) (pss_one (ps_ret (pe_tupP pa_nil))) pss_nil)
    (pss_cons (ps_set (i := 2) nd rfl (Or.inl rfl) (pe_lst pa_nil))
    (pss_cons (ps_for PassesOwn.never rfl (pi_list (pe_cal cBars hr (pa_cons (pv 0) (pa_cons (pv 1) pa_nil)))) (pg_name (i := 3) nd rfl (Or.inl rfl))
      (pss_cons (ps_set (i := 4) nd rfl (Or.inl rfl) (pe_tupP (pa_cons (pe_cal cBey hr (pa_cons (pv 0) (pa_cons (pv 3) pa_nil))) (pa_cons (pe_cal cBey hr (pa_cons (pv 1) (pa_cons (pv 3) pa_nil))) pa_nil))))
      (pss_one (ps_if (pt_cmpR op_ne (pe_ix ix_tup (pv 4) pe_int (fun _ _ => rfl)) (pe_ix ix_tup (pv 4) pe_int (fun _ _ => rfl)) (nomark _))
        (pss_one (ps_expr (pe_bm PySem.F.plainAttrs_list PySem.F.slot_list_append PySem.F.type_list_append mt_append (pv 2) (pa_cons (pe_op op_add (pe_callB (cr_minT rfl (hu64 hr)) (by rfl) T.zMin (by decide +kernel) (pa_cons (pv 4) pa_nil)) pe_int) pa_nil)))) pss_nil))))
    (pss_one (ps_ret (pe_ifExp (pt_cmpR (op_neD (hu64 hr)) (pv 2) (pe_lst pa_nil) (nomark _)) (pe_tupP (pa_cons (pe_tupP (pa_cons (pe_op op_sub pe_int (pe_gI T.cFar)) (pa_cons (pe_callB (cr_min rfl) (by rfl) T.zMin (by decide +kernel) (pa_cons (pv 2) pa_nil)) pa_nil))) pa_nil)) pe_non))))), ?_⟩
  have la := ga.out.len
  have lb := gb.out.len
  refine sd_seq (sd_if (b := !decide (a.1 = b.1)) (EvB.is (evb_test (K := K) (evd_op (evd_at 0 (evd_var rfl (tp_T hv1)) rfl) (evd_at 0 (evd_var rfl (tp_T hv2)) rfl) (opd_neD (shaped_H _) (shaped_H _)))) (by rw [eqv_H])) (fun hne H1 s1 => ?_) fun heq H1 s1 => ?_)
  · have hne : ¬ a.1 = b.1 := by simpa using hne
    unfold partT at q
    rw [if_neg hne] at q
    exact sd_ret (K := K) (evd_tup eva_nil) fun v H2 s2 h2 => q v H2 (s1.trans s2) h2
  · have heq : a.1 = b.1 := by simpa using heq
    unfold partT at q
    rw [if_pos heq] at q
    refine sd_next (sd_go (sd_seq (sd_nil fun lf nlf => ?_)))
    have s2 := s1.trans (same_new nlf (.lst []))
    have nlf0 : H lf = none := s1.free nlf
    refine sd_go (sd_seq (st_forL (K := K) (evl_call (eva_cons (evd_var rfl (hv1.same s2)) (eva_cons (evd_var rfl (hv2.same s2)) eva_nil)) ⟨a, b, S, rfl, ga, gb, hS, rfl⟩)
      (fun l xs i σ H' => ∃ u1 u2 : Option V, σ = [some v1, some v2, some (.ref lf), u1, u2] ∧ Same H H' ∧ H' l = some (.lst xs) ∧ l ≠ lf ∧ TpAll K H' xs ((barsT a b).map PyData.int) ∧
        H' lf = some (.lst (((((barsT a b).take i).filter fun bar => !decide (beyondT a bar = beyondT b bar)).map fun bar => minI (beyondT a bar) (beyondT b bar) + 1).map V.int))) ?_ ?_ ?_ ?_))
    · intro l xs H3 n3 s3 hl hx
      refine ⟨none, none, rfl, s2.trans s3, hl, fun e => ?_, hx, s3 _ _ upd_same⟩
      rw [e, upd_same] at n3
      cases n3
    · exact fun l xs i σ H' ⟨_, _, _, _, h1, _, h2, _⟩ => ⟨h1, h2⟩
    · rintro l xs i d x σ H' nl hd hx ⟨u1, u2, rfl, s', hl, hne, hxs, hf⟩
      obtain ⟨bar, hbar, rfl⟩ := map_at hd
      obtain rfl := hx.int_inv
      have v1' := hv1.same s'
      have v2' := hv2.same s'
      have fm := filter_more hbar (fun bar => !decide (beyondT a bar = beyondT b bar)) fun bar => minI (beyondT a bar) (beyondT b bar) + 1
      refine sd_seq (sd_set (K := K) (d := .tuple [.int (beyondT a bar), .int (beyondT b bar)]) (evd_tup (eva_cons (evd_call (eva_cons (evd_var rfl v1') (eva_cons (evd_var rfl hx) eva_nil)) ⟨a, bar, rfl, by omega, rfl⟩) (eva_cons (evd_call (eva_cons (evd_var rfl v2') (eva_cons (evd_var rfl hx) eva_nil)) ⟨b, bar, rfl, by omega, rfl⟩) eva_nil))) fun v H3 s3 h3 => ?_)
      refine sd_go (sd_if (b := !decide (beyondT a bar = beyondT b bar)) (evb_test (K := K) (evd_op (evd_at 0 (evd_var rfl h3) rfl) (evd_at 1 (evd_var rfl h3) rfl) opd_neI)) (fun hk H4 s4 => ?_) fun hk H4 s4 => ?_)
      · have lb2 : ((((barsT a b).take i).filter fun bar => !decide (beyondT a bar = beyondT b bar)).map fun bar => minI (beyondT a bar) (beyondT b bar) + 1).length ≤ 1000 := by
          rw [List.length_map]
          refine Nat.le_trans (List.length_filter_le ..) (Nat.le_trans (List.length_take_le' ..) ?_)
          have := nodup_len (barsT a b) (-1000000 :: S) ((sortU_rise _).imp fun h => Int.ne_of_lt h) fun z hz => bars_in ga gb z ((sortU_mem _ z).mp hz)
          rw [List.length_cons] at this
          omega
        refine st_app (K := K) (i := 2) (l := lf) rfl (s4 _ _ (s3 _ _ hf)) (evd_op (evd_cb (eva_cons (evd_var rfl (h3.same s4)) eva_nil) cbd_minT) evd_int (opd_I0 (.int _))) (by rw [List.length_map]; exact small_lt (by omega)) fun y H5 s5 hy => ?_
        obtain rfl := hy.int_inv
        have sT : SameT H' (upd H5 lf (.lst (((((((barsT a b).take i).filter fun bar => !decide (beyondT a bar = beyondT b bar)).map fun bar => minI (beyondT a bar) (beyondT b bar) + 1).map V.int)) ++ [V.int (minI (beyondT a bar) (beyondT b bar) + 1)]))) := (((SameT.of s3).trans (SameT.of s4)).trans (SameT.of s5)).updL (s5 _ _ (s4 _ _ (s3 _ _ hf)))
        refine ⟨_, _, rfl, same_mut (((s'.trans s3).trans s4).trans s5) nlf0 _, ?_, hne, hxs.mono sT, ?_⟩
        · rw [upd_ne hne]
          exact s5 _ _ (s4 _ _ (s3 _ _ hl))
        · rw [fm, if_pos hk, List.map_append]
          exact upd_same
      · refine ⟨_, _, rfl, (s'.trans s3).trans s4, s4 _ _ (s3 _ _ hl), hne, hxs.same (s3.trans s4), ?_⟩
        rw [fm, if_neg (by rw [hk]; exact Bool.false_ne_true), List.append_nil]
        exact s4 _ _ (s3 _ _ hf)
    · rintro l xs σ H' ⟨u1, u2, rfl, s', hl, hne, hxs, hf⟩
      rw [List.length_map, List.take_length] at hf
      have hf : H' lf = some (.lst ((foundT a b).map V.int)) := hf
      refine sd_go (sd_ret (K := K) (evd_if (b := !decide (foundT a b = [])) (evb_some (K := K) rfl hf) (fun hk => ?_) fun hk => ?_) fun v H3 s3 h3 => q v H3 (s'.trans s3) h3)
      · have hk : ¬ foundT a b = [] := by simpa using hk
        rw [if_neg hk]
        exact evd_tup (eva_cons (evd_tup (eva_cons (evd_op evd_int evd_int (opd_I0 (.int _))) (eva_cons (evd_minL rfl hf hk) eva_nil))) eva_nil)
      · have hk : foundT a b = [] := by simpa using hk
        rw [if_pos hk]
        exact evd_non
theorem scAlike : FnScope ["one", "other"] ["one", "other"] (defScope sAlike) := ⟨rfl, rfl, rfl, by decide +kernel, rfl, by decide +kernel, by decide +kernel⟩
theorem scCrossed : FnScope ["one", "other", "first", "second"] ["one", "other"] (defScope sCrossed) := ⟨rfl, rfl, rfl, by decide +kernel, rfl, by decide +kernel, by decide +kernel⟩
theorem both_puts {a b : Wk} (ha : OkW a) (hb : OkW b) : (putsSs a ++ putsSs b).length ≤ 60 ∧ GoodT (putsSs a ++ putsSs b) (threeT a) ∧ GoodT (putsSs a ++ putsSs b) (threeT b) := by
  have := putsSs_len a
  have := putsSs_len b
  have := ha.cnt
  have := hb.cnt
  refine ⟨by rw [List.length_append]; omega, (threeT_good a).mono fun x hx => List.mem_append_left _ hx, (threeT_good b).mono fun x hx => List.mem_append_right _ hx⟩
theorem ok_alike (F : Fun K "alike" "alike" sAlike f fd) (cNW : Callee P w K mg base 5 "need_work" ["work"] (spD K rNeedW)) (cThree : Callee P w K mg base 6 "three_of" ["steps"] (spD K (rThree 3))) (cPart : Callee P w K mg base 2 "parting" ["one", "other"] (spD K rParting)) : FnOk P w K mg base CX0 7 f fd ["one", "other"] (spD K rAlike) := by
  refine F.ok scAlike (spD_len fun ds d ⟨_, _, e, _⟩ => by rw [e]; rfl) (fun cdv A outer s H vs Q E hr h => ?_)
  obtain ⟨ds, d, hvs, ⟨a, b, rfl, oa, ob, rfl⟩, q⟩ := h
  obtain ⟨v1, v2, rfl, hv1, hv2⟩ := two_inv hvs
  refine ⟨_, pss_cons (ps_expr (pe_cal cNW hr (pa_cons (pv 0) pa_nil))) (pss_cons (ps_expr (pe_cal cNW hr (pa_cons (pv 1) pa_nil))) (pss_one (ps_ret (pe_cal cPart hr (pa_cons (pe_cal cThree hr (pa_cons (pv 0) pa_nil)) (pa_cons (pe_cal cThree hr (pa_cons (pv 1) pa_nil)) pa_nil)))))), ?_⟩
  obtain ⟨h1, h2, h3⟩ := both_puts oa ob
  refine sd_seq (sd_drop (K := K) (evd_call (eva_cons (evd_var rfl hv1) eva_nil) ⟨a, rfl, oa, rfl⟩) fun _ H1 s1 _ => ?_)
  refine sd_go (sd_seq (sd_drop (K := K) (evd_call (eva_cons (evd_var rfl (hv2.same s1)) eva_nil) ⟨b, rfl, ob, rfl⟩) fun _ H2 s2 _ => ?_))
  refine sd_go (sd_ret (K := K) (evd_call (eva_cons (evd_call (eva_cons (evd_var rfl (hv1.same (s1.trans s2))) eva_nil) ⟨a, rfl, oa.ok, oa.dep, by have := oa.cnt; omega, rfl⟩) (eva_cons (evd_call (eva_cons (evd_var rfl (hv2.same (s1.trans s2))) eva_nil) ⟨b, rfl, ob.ok, ob.dep, by have := ob.cnt; omega, rfl⟩) eva_nil)) ⟨_, _, _, rfl, h2, h3, h1, rfl⟩) fun v H3 s3 h3 => q v H3 ((s1.trans s2).trans s3) h3)
theorem ok_crossed (F : Fun K "crossed" "crossed" sCrossed f fd) (cNW : Callee P w K mg base 5 "need_work" ["work"] (spD K rNeedW)) (cThree : Callee P w K mg base 6 "three_of" ["steps"] (spD K (rThree 3))) (cPart : Callee P w K mg base 2 "parting" ["one", "other"] (spD K rParting)) (cBeh : Callee P w K mg base 2 "behind" ["one", "other"] (spD K rBehind)) : FnOk P w K mg base CX0 7 f fd ["one", "other"] (spD K rCrossed) := by
  refine F.ok scCrossed (spD_len fun ds d ⟨_, _, e, _⟩ => by rw [e]; rfl) (fun cdv A outer s H vs Q E hr h => ?_)
  obtain ⟨ds, d, hvs, ⟨a, b, rfl, oa, ob, rfl⟩, q⟩ := h
  obtain ⟨v1, v2, rfl, hv1, hv2⟩ := two_inv hvs
  have nd := scCrossed.nd
  refine ⟨_, pss_cons (ps_expr (pe_cal cNW hr (pa_cons (pv 0) pa_nil))) (pss_cons (ps_expr (pe_cal cNW hr (pa_cons (pv 1) pa_nil)))
    (pss_cons (ps_par (i := 2) (j := 3) rfl nd rfl rfl (by decide) rfl rfl (pa_cons (pe_cal cThree hr (pa_cons (pv 0) pa_nil)) (pa_cons (pe_cal cThree hr (pa_cons (pv 1) pa_nil)) pa_nil)) (by rfl))
    (pss_one (ps_ret (pe_cal cPart hr (pa_cons (pe_cal cBeh hr (pa_cons (pv 2) (pa_cons (pv 3) pa_nil))) (pa_cons (pe_cal cBeh hr (pa_cons (pv 3) (pa_cons (pv 2) pa_nil))) pa_nil))))))), ?_⟩
  obtain ⟨h1, h2, h3⟩ := both_puts oa ob
  refine sd_seq (sd_drop (K := K) (evd_call (eva_cons (evd_var rfl hv1) eva_nil) ⟨a, rfl, oa, rfl⟩) fun _ H1 s1 _ => ?_)
  refine sd_go (sd_seq (sd_drop (K := K) (evd_call (eva_cons (evd_var rfl (hv2.same s1)) eva_nil) ⟨b, rfl, ob, rfl⟩) fun _ H2 s2 _ => ?_))
  refine sd_go (sd_seq ((eva_cons (evd_call (eva_cons (evd_var rfl (hv1.same (s1.trans s2))) eva_nil) ⟨a, rfl, oa.ok, oa.dep, by have := oa.cnt; omega, rfl⟩) (eva_cons (evd_call (eva_cons (evd_var rfl (hv2.same (s1.trans s2))) eva_nil) ⟨b, rfl, ob.ok, ob.dep, by have := ob.cnt; omega, rfl⟩) eva_nil)).go fun vs H3 s3 h3v => ?_))
  obtain ⟨x, y, rfl, hx, hy⟩ := two_inv h3v
  refine ⟨x, y, rfl, ?_⟩
  have e1 := (h2.behind h3).1
  have e2 := (h3.behind h2).1
  refine sd_go (sd_ret (K := K) (evd_call (eva_cons (evd_call (d := encT (behindT (threeT a) (threeT b))) (eva_cons (evd_var rfl hx) (eva_cons (evd_var rfl hy) eva_nil)) ⟨_, _, _, rfl, h2, h3, by omega, rfl⟩) (eva_cons (evd_call (d := encT (behindT (threeT b) (threeT a))) (eva_cons (evd_var rfl hy) (eva_cons (evd_var rfl hx) eva_nil)) ⟨_, _, _, rfl, h3, h2, by omega, rfl⟩) eva_nil)) ⟨_, _, _, rfl, e1, e2, h1, rfl⟩) fun v H4 s4 h4 => q v H4 (((s1.trans s2).trans s3).trans s4) h4)
end
end Lo
set_option linter.all false
set_option maxHeartbeats 1000000
/-! the mirror, fifth part: stores -/
namespace Lo
open PySem
/-- what source tells, from the store and the work's three: none, or nothing, or a heap -/
def sourceH (h : Hl) (t : Three) : Option Hl :=
  match withoutH h t.1 with
  | none => none
  | some [] => some []
  | some (p :: r) => match withoutH r (t.2.1.filter fun x => decide (p.1 < x.1)) with
    | none => none
    | some g => some (bothH [(p.1, p.2 + t.2.2 + sizeH (t.2.1.filter fun x => decide (p.1 < x.1)))] g)
theorem pstep_head : ∀ (l : Hl) (s : Three) (x : Int × Int), s.1.head? = some x → (l.foldl pstep s).1.head? = some x
  | [], s, x, h => h
  | p :: r, s, x, h => by
    rw [List.foldl_cons]
    refine pstep_head r (pstep s p) x ?_
    unfold pstep
    cases e : s.1 with
    | nil => rw [e] at h; cases h
    | cons y t =>
      rw [e] at h
      exact h
theorem parted_first {p : Int × Int} {r : Hl} (hp : 1 ≤ p.2) : (partedH (p :: r) p.2).1.head? = some p := by
  unfold partedH
  rw [List.foldl_cons]
  refine pstep_head r _ p ?_
  have e : minI p.2 p.2 = p.2 := by unfold minI; split <;> rfl
  show (([] : Hl) ++ (if minI p.2 p.2 > 0 then [(p.1, minI p.2 p.2)] else [])).head? = some p
  rw [e, if_pos (by omega)]
  rfl
def bstep (kept : Hl) (s : Bool × Int) (p : Int × Int) : Bool × Int :=
  (s.1 && decide ((if s.1 = true then minI p.2 ((lookI kept p.1).getD 0) else 0) = p.2), s.2 + (p.2 - (if s.1 = true then minI p.2 ((lookI kept p.1).getD 0) else 0)))
def takesH (store goal : Hl) : Int := (store.reverse.foldl (bstep goal) (true, 0)).2
def betweenH (store goal : Hl) : Int × Option Hl := (takesH store goal, withoutH goal (partedH store (takesH store goal)).2.1)
theorem bstep_pos {kept : Hl} : ∀ (l : Hl) (s : Bool × Int), (∀ p ∈ l, 1 ≤ p.2) → 0 ≤ s.2 → 0 ≤ (l.foldl (bstep kept) s).2
  | [], s, _, h => h
  | p :: r, s, hp, h => by
    rw [List.foldl_cons]
    refine bstep_pos r _ (fun q hq => hp q (List.mem_cons_of_mem _ hq)) ?_
    have h1 := hp p (List.mem_cons_self ..)
    have h2 := minI_le1 p.2 ((lookI kept p.1).getD 0)
    show 0 ≤ s.2 + (p.2 - (if s.1 = true then minI p.2 ((lookI kept p.1).getD 0) else 0))
    split <;> omega
theorem takesH_pos {store goal : Hl} (h : ∀ p ∈ store, 1 ≤ p.2) : 0 ≤ takesH store goal := bstep_pos _ _ (fun p hp => h p (List.mem_reverse.mp hp)) (Int.le_refl _)
end Lo
set_option Elab.async false
set_option linter.all false
set_option maxRecDepth 100000
set_option maxHeartbeats 2000000
/-! t[::-1] -/
namespace Lo
open PySem PySem.Spec PySem.Calls PyProof.Rows L2
section
variable {prog : Program} {w : World} {A : Around} {E : Value → Shared → Prop} {s : Shared}
theorem down_adjust (n : Nat) : Builtin.Slice.sliceAdjust none none (-1) (n : Int) = ((n : Int) - 1, -1) := by
  unfold Builtin.Slice.sliceAdjust
  rfl
theorem down_places (n : Nat) : Builtin.Slice.slicePlaces ((n : Int) - 1) (-1) (-1) = n := by
  unfold Builtin.Slice.slicePlaces
  have z1 : ¬ ((-1 : Int) > 0) := by omega
  have z2 : -(-1 : Int) = 1 := rfl
  simp only [z1, if_false, z2, Int.ediv_one]
  split <;> omega
theorem down_applied {sl : Addr} {t : Tok} {n : Nat} {Q : Int × Int × Nat → Shared → Prop} (hs : s.heap.IsSliceOf sl .none .none (.int (-1) t)) (h : Q ((n : Int) - 1, -1, n) s) : wpAny (model prog w) A (Builtin.Slice.sliceApplied (.ref sl) (pure (n : Int))) Q E s := by
  obtain ⟨os, ho1, hc1, hd1⟩ := id hs
  unfold Builtin.Slice.sliceApplied Builtin.Slice.sliceFields
  refine wpAny_bind (wpAny_bind (wpAny_field ho1 hd1 (x := .none) rfl (wpAny_bind (wpAny_field ho1 hd1 (x := .none) rfl (wpAny_bind (wpAny_field ho1 hd1 (x := .int (-1) t) rfl (wpAny_pure ?_)))))))
  refine wpAny_bind (slicePart_int ?_)
  show wpAny _ _ (if ((-1 : Int) == 0) = true then _ else _) _ _ s
  rw [if_neg (by decide)]
  refine wpAny_bind (slicePart_none (wpAny_bind (slicePart_none (wpAny_bind (wpAny_pure ?_)))))
  show wpAny _ _ (match Builtin.Slice.sliceAdjust none none (-1) (n : Int) with | (lo, hi) => pure (lo, (-1 : Int), Builtin.Slice.slicePlaces lo hi (-1))) _ _ s
  rw [down_adjust]
  show wpAny _ _ (pure ((n : Int) - 1, (-1 : Int), Builtin.Slice.slicePlaces ((n : Int) - 1) (-1) (-1))) _ _ s
  rw [down_places]
  exact wpAny_pure h
theorem down_pick (xs : Array Value) : (List.range xs.size).filterMap (fun (m : Nat) => xs[(((xs.size : Int) - 1) + (m : Int) * (-1)).toNat]?) = xs.toList.reverse := by
  have h1 : (List.range xs.size).map (fun m => xs[xs.size - 1 - m]?) = xs.toList.reverse.map some := by
    apply List.ext_getElem
    · simp
    · intro i h1 h2
      simp at h1 h2 ⊢
  have h2 : (List.range xs.size).filterMap (fun (m : Nat) => xs[(((xs.size : Int) - 1) + (m : Int) * (-1)).toNat]?) = ((List.range xs.size).map fun m => xs[xs.size - 1 - m]?).filterMap id := by
    rw [List.filterMap_map]
    congr 1
    funext m
    have : (((xs.size : Int) - 1) + (m : Int) * (-1)).toNat = xs.size - 1 - m := by omega
    show _ = xs[xs.size - 1 - m]?
    rw [this]
  rw [h2, h1, List.filterMap_map]
  simp
theorem getItem_tuple_down {t sl : Addr} {items : Array Value} {u : Tok} {Q : Value → Shared → Prop} (ht : IsTup s.heap t items) (hs : s.heap.IsSliceOf sl .none .none (.int (-1) u))
    (h : Q (.ref s.heap.objs.size) { s with heap := s.heap.push (tupO items.toList.reverse) }) (hsz : items.size ≤ sizeLine) : wpAny (model prog w) A (getItem (.ref t) (.ref sl)) Q E s := by
  have hfit : sizeOk (.seq items.toList.reverse.toArray) := by
    show items.toList.reverse.toArray.size ≤ sizeLine
    rw [List.size_toArray, List.length_reverse, Array.length_toList]
    exact hsz
  obtain ⟨os, ho1, hc1, hd1⟩ := id hs
  have hTs : s.TypeIs (.ref sl) "slice" := ⟨os, ho1, hc1⟩
  unfold getItem
  try with_reducible refine wpAny_holding ?_
  first | refine wpAny_bind (wpAny_pure ?_) | skip
  refine wpAny_bind (wpAny_sequenceKey ht.typeIs (by decide) ?_)
  refine wpAny_bind (wpAny_callSpecial?_slot (name := Str.ofString "__getitem__") ht.typeIs PyProof.Rows.slot_tuple_getitem
    (wpAny_call_entry PyProof.Rows.slot_tuple_getitem ht.typeIs entry_tuple_getitem ?_ (args_tuple_getitem _ _)))
  show wpAny _ _ (Builtin.Tuple.tupleItemsOf (.ref t) >>= _) _ _ s
  refine wpAny_bind (tupleItemsOf_ ht ?_)
  refine wpAny_bind (wpAny_typeOf hTs ?_)
  rw [if_pos (by decide)]
  refine wpAny_bind (down_applied hs ?_)
  have hno : ¬ ((((items.size : Int) - 1) == 0 && (-1 : Int) == 1 && items.size == items.size) = true) := by
    rw [show ((-1 : Int) == 1) = false from rfl]
    simp
  show wpAny _ _ (if (((items.size : Int) - 1) == 0 && (-1 : Int) == 1 && items.size == items.size) = true then _ else _) _ _ s
  rw [if_neg hno, down_pick]
  first
    | exact wpAny_bind (m := Builtin.Tuple.tupleExact _) (wpAny_newObj_type (wpAny_pure ⟨_, rfl, wpAny_pure h⟩) hfit)
    | exact wpAny_bind (m := Builtin.Tuple.tupleExact _) (wpAny_newObj_type (wpAny_bind (wpAny_pure (wpAny_pure ⟨_, rfl, wpAny_pure h⟩))) hfit)
    | exact wpAny_bind (wpAny_bind (m := Builtin.Tuple.tupleExact _) (wpAny_newObj_type (wpAny_pure (wpAny_pure ⟨_, rfl, wpAny_pure h⟩)) hfit))
    | exact wpAny_bind (wpAny_bind (m := Builtin.Tuple.tupleExact _) (wpAny_newObj_type (wpAny_pure ⟨_, rfl, wpAny_pure h⟩) hfit))
end
def tRevT (K : PySem.W.Frag) (te : TE) : TE := fun σ H Q => te σ H fun x H1 => ∃ a xs, x = .ref a ∧ SqT K H1 a xs ∧ NewT xs.reverse H1 Q
section
variable {X : Cx}
theorem pe_revT {e : Expr} {te : TE} {k : Nat} {p1 p2 p3 pos : Pos} (he : PE X e te) : PE X (.Subscript e (.Slice none none (some (.UnaryOp .USub (.Constant (.int 1) k p1) p2)) p3) pos) (tRevT X.K te) := by
  refine ⟨fun pins s σ H Q I h => Subscript_ (thn (he.run pins s σ H _ I h) fun v s1 ⟨x, H1, I1, r1, q1⟩ => ?_)⟩
  obtain ⟨a, xs, rfl, hx, q⟩ := q1
  cases r1
  have hst : PO X (some (.UnaryOp .USub (.Constant (.int 1) k p1) p2)) (tPart (tUn (rU fun i => .int (-i)) (tC (.int 1)))) := po_some (pe_un un_neg pe_int)
  refine wpAny_Slice (thn (po_none.run pins s1 σ H1 (fun o H2 => o = none ∧ H2 = H1) I1 ⟨rfl, rfl⟩) fun vl s2 ⟨l, H2, I2, pl, el, e2⟩ => ?_)
  subst el e2
  refine thn (po_none.run pins s2 σ H2 (fun o H3 => o = none ∧ H3 = H2) I2 ⟨rfl, rfl⟩) fun vu s3 ⟨u, H3, I3, pu, eu, e3⟩ => ?_
  subst eu e3
  refine thn (hst.run pins s3 σ H3 (fun o H4 => o = some (-1) ∧ H4 = H3) I3 ⟨1, rfl, -1, rfl, rfl, rfl⟩) fun vs s4 ⟨o, H4, I4, ps, eo, e4⟩ => ?_
  subst eo e4
  cases pl
  cases pu
  cases ps with
  | int i t =>
    have I5 : Inv X pins σ H4 { s4 with heap := s4.heap.push { cls := .type "slice", data := .fields #[.none, .none, .int (-1) t] } } := I4.kept (t' := s4.toks) fun b ob e => Heap.get?_push_of_some _ e
    obtain ⟨its, r, tp, hz⟩ := I5.tuple hx
    have hlen := r.length
    show wpAny (model X.prog X.w) X.A (subscriptTail e (.Slice none none (some (.UnaryOp .USub (.Constant (.int 1) k p1) p2)) p3) (.ref a) (.ref s4.heap.objs.size)) (EP X pins σ Q) X.xe { s4 with heap := s4.heap.push { cls := .type "slice", data := .fields #[.none, .none, .int (-1) t] } }
    refine tail_any (ops := [.ref a, .ref s4.heap.objs.size]) tp.typeIs (PyProof.Rows.slot_tuple_getitem.lookup) ?_ (by with_unfolding_all rfl)
    refine getItem_tuple_down tp (Heap.IsSliceOf.new _ .none .none (.int (-1) t)) ?_ (by rw [List.size_toArray]; omega)
    refine newT_ok (tk := s4.toks) r.reverse (by rw [List.length_reverse]; exact hz) I5 (fun b ob e => Heap.get?_push_of_some _ e) (Nat.le_refl _) (Heap.get?_push_size _ rfl) q
end
section
variable {K : PySem.W.Frag} {σ : L2.St} {H : Hp} {te : TE} {ds : List PyData}
theorem evd_rev (h : EvD K te σ H (.tuple ds)) : EvD K (tRevT K te) σ H (.tuple ds.reverse) := fun H1 s Q q =>
  h H1 s _ fun v H2 s2 hv => by
    obtain ⟨a, xs, rfl, hS, hA⟩ := hv.tup_inv
    exact ⟨a, xs, rfl, hS.sqt, fun p o hp ho => q _ _ (s2.trans (same_new hp _)) (.tup (.new ho) (hA.reverse.same (same_new hp _)))⟩
end
end Lo
set_option Elab.async false
set_option linter.all false
set_option maxRecDepth 100000
set_option maxHeartbeats 4000000
/-! stores -/
namespace Lo
open PySem PySem.Spec PyProof.Rows L2
abbrev sSource : Stmt := top 64
abbrev sBetween : Stmt := top 65
def rSource (ds : List PyData) (d : PyData) : Prop := ∃ (b : Wk) (h : Hl), ds = [encW b, encH h] ∧ OkW b ∧ CanH 1000000 h ∧ d = encO (sourceH h (threeT b))
def rBetween (ds : List PyData) (d : PyData) : Prop := ∃ store goal : Hl, ds = [encH store, encH goal] ∧ CanH 1000000 store ∧ CanH 1000000 goal ∧ d = .tuple [.int (betweenH store goal).1, encO (betweenH store goal).2]
section
variable {P : Program} {w : World} {K : PySem.W.Frag} {mg : Str → Option Value} {base : Heap} {f : Addr} {fd : FuncData}
theorem tail_cut {d : PyData} {es : List PyData} : ((d :: es).drop (HT.sIx (d :: es).length 0 (some 1))).take (HT.sIx (d :: es).length (d :: es).length none - HT.sIx (d :: es).length 0 (some 1)) = es := by
  have e1 : HT.sIx (d :: es).length 0 (some 1) = 1 := by
    unfold HT.sIx
    simp
  have e2 : HT.sIx (d :: es).length (d :: es).length none = es.length + 1 := rfl
  rw [e1, e2]
  simp
theorem scSource : FnScope ["work", "store", "left", "out", "idle", "rest", "least", "above", "first", "found", "number", "count"] ["work", "store"] (defScope sSource) := ⟨rfl, rfl, rfl, by decide +kernel, rfl, by decide +kernel, by decide +kernel⟩
theorem dNon_encO (o : Option Hl) : dNon (encO o) = o.isNone := by cases o <;> rfl
theorem eqv_empty (h : Hl) : PyData.eqv (encH h) (.tuple []) = decide (h = []) := eqv_H h []
theorem ok_source (F : Fun K "source" "source" sSource f fd) (T : Txt K mg) (cNW : Callee P w K mg base 5 "need_work" ["work"] (spD K rNeedW)) (cNH : Callee P w K mg base 2 "need_heap" ["heap"] (spD K rNeedH)) (cThree : Callee P w K mg base 6 "three_of" ["steps"] (spD K (rThree 3)))
    (cWithout : Callee P w K mg base 1 "without" ["one", "other"] (spD K rWithout)) (cParted : Callee P w K mg base 1 "parted" ["heap", "many"] (spD K rParted)) (cSize : Callee P w K mg base 1 "size_of" ["heap"] (spD K rSize)) (cBoth : Callee P w K mg base 1 "both" ["one", "other"] (spD K rBoth)) :
    FnOk P w K mg base CX0 7 f fd ["work", "store"] (spD K rSource) := by
  refine F.ok scSource (spD_len fun ds d ⟨_, _, e, _⟩ => by rw [e]; rfl) (fun cdv A outer s H vs Q E hr h => ?_)
  obtain ⟨ds, d, hvs, ⟨b, h, rfl, ok, can, rfl⟩, q⟩ := h
  obtain ⟨v1, v2, rfl, hv1, hv2⟩ := two_inv hvs
  have nd := scSource.nd
  refine ⟨_, pss_cons (ps_expr (pe_cal cNW hr (pa_cons (pv 0) pa_nil))) (pss_cons (ps_expr (pe_cal cNH hr (pa_cons (pv 1) pa_nil)))
    (pss_cons (ps_asg (pe_cal cThree hr (pa_cons (pv 0) pa_nil)) (pg_tup rfl (pgs_cons (pg_name (i := 2) nd rfl (Or.inl rfl)) (pgs_cons (pg_name (i := 3) nd rfl (Or.inl rfl)) (pgs_cons (pg_name (i := 4) nd rfl (Or.inl rfl)) pgs_nil)))))
    (pss_cons (ps_set (i := 5) nd rfl (Or.inl rfl) (pe_cal cWithout hr (pa_cons (pv 1) (pa_cons (pv 2) pa_nil))))
    (pss_cons (ps_if (pt_cmpR op_isN1 (pv 5) pe_non (nomark _)) (pss_one (ps_ret pe_non)) pss_nil)
    (pss_cons (ps_if (pt_cmpR (op_eqD (hu64 hr)) (pv 5) (pe_tupP pa_nil) (nomark _)) (pss_one (ps_ret (pe_tupP pa_nil))) pss_nil)
    (pss_cons (ps_set (i := 6) nd rfl (Or.inr rfl) (pe_ix ix_tup (pe_ix ix_tup (pv 5) pe_int (fun _ _ => rfl)) pe_int (fun _ _ => rfl)))
    (pss_cons (ps_set (i := 7) nd rfl (Or.inl rfl) (pe_callTy cr_tupleP (by rfl) T.zTuple (by decide +kernel) (pa_cons (pe_lc (own := [("number", 10), ("count", 11)]) (g := gTup K 2 (gCons (gName 10) (gCons (gName 11) gNil))) rfl nd (pi_tup (pv 3))
      (blkOk_by (N := ["work", "store", "left", "out", "idle", "rest", "least", "above", "first", "found", "number", "count"]) (sc := defScope sSource) (by decide +kernel))
      (fun _ _ _ _ _ => pg_tup rfl (pgs_cons (pg_name (i := 10) nd rfl (Or.inl rfl)) (pgs_cons (pg_name (i := 11) nd rfl (Or.inl rfl)) pgs_nil))) (fun _ _ _ _ _ => pts_one (pt_cmpR op_gt (pv 10) (pv 6) (nomark _))) (fun _ _ _ _ _ => pe_tupP (pa_cons (pv 10) (pa_cons (pv 11) pa_nil)))) pa_nil)))
    (pss_cons (ps_set (i := 8) nd rfl (Or.inl rfl) (pe_ix ix_tup (pe_cal cParted hr (pa_cons (pv 5) (pa_cons (pe_ix ix_tup (pe_ix ix_tup (pv 5) pe_int (fun _ _ => rfl)) pe_int (fun _ _ => rfl)) pa_nil))) pe_int (fun _ _ => rfl)))
    (pss_cons (ps_set (i := 9) nd rfl (Or.inl rfl) (pe_cal cWithout hr (pa_cons (pe_slice sl_tupP (pv 5) (po_some pe_int) po_none) (pa_cons (pv 7) pa_nil))))
    (pss_cons (ps_if (pt_cmpR op_isN1 (pv 9) pe_non (nomark _)) (pss_one (ps_ret pe_non)) pss_nil)
    (pss_one (ps_ret (pe_cal cBoth hr (pa_cons (pe_tupP (pa_cons (pe_tupP (pa_cons (pv 6) (pa_cons (pe_op op_add (pe_op op_add (pe_ix ix_tup (pe_ix ix_tup (pv 8) pe_int (fun _ _ => rfl)) pe_int (fun _ _ => rfl)) (pv 4)) (pe_cal cSize hr (pa_cons (pv 7) pa_nil))) pa_nil))) pa_nil)) (pa_cons (pv 9) pa_nil))))))))))))))), ?_⟩
  have tg := threeT_good b
  have hg := can.good
  have hlen := can.len
  have hS : (h.map (·.1)).length ≤ 2000001 := by rw [List.length_map]; omega
  have hput : (putsSs b).length ≤ 1000 := by
    have := putsSs_len b
    have := ok.cnt
    omega
  have lout := tg.out.len
  refine sd_seq (sd_drop (K := K) (evd_call (eva_cons (evd_var rfl hv1) eva_nil) ⟨b, rfl, ok, rfl⟩) fun _ H1 s1 _ => ?_)
  refine sd_go (sd_seq (sd_drop (K := K) (evd_call (eva_cons (evd_var rfl (hv2.same s1)) eva_nil) ⟨h, rfl, can, rfl⟩) fun _ H2 s2 _ => ?_))
  refine sd_go (sd_seq (sd_unp3 (K := K) (a := encH (threeT b).1) (b := encH (threeT b).2.1) (c := .int (threeT b).2.2) (evd_call (d := encT (threeT b)) (eva_cons (evd_var rfl (hv1.same (s1.trans s2))) eva_nil) ⟨b, rfl, ok.ok, ok.dep, by have := ok.cnt; omega, rfl⟩) fun x y z H3 s3 hx hy hz => ?_))
  obtain rfl := hz.int_inv
  refine sd_go (sd_seq (sd_set (K := K) (evd_call (eva_cons (evd_var rfl (hv2.same ((s1.trans s2).trans s3))) (eva_cons (evd_var rfl hx) eva_nil)) ⟨h, (threeT b).1, _, rfl, hg, tg.left.pos, hS, rfl⟩) fun r H4 s4 hr4 => ?_))
  have sA := ((s1.trans s2).trans s3).trans s4
  unfold sourceH at q
  cases er : withoutH h (threeT b).1 with
  | none =>
    rw [er] at hr4 q
    refine sd_go (sd_seq (sd_yes (EvB.is (evb_test (K := K) (evd_op (evd_var rfl hr4) evd_non opd_is)) rfl) fun H5 s5 => ?_))
    exact sd_ret (K := K) evd_non fun v H6 s6 h6 => q v H6 ((sA.trans s5).trans s6) h6
  | some rest =>
    rw [er] at hr4 q
    have rg : Good (h.map (·.1)) rest := hg.without tg.left.pos er
    have hr4 : Tp K H4 r (encH rest) := hr4
    refine sd_go (sd_seq (sd_no1 (EvB.is (evb_test (K := K) (evd_op (evd_var rfl hr4) evd_non opd_is)) (by rfl)) fun H5 s5 => ?_))
    cases rest with
    | nil =>
      refine sd_go (sd_seq (sd_yes (EvB.is (evb_test (K := K) (evd_op (evd_var rfl (hr4.same s5)) (evd_tup eva_nil) (opd_eqD (shaped_H _) (shaped_H [])))) (by rw [eqv_empty]; rfl)) fun H6 s6 => ?_))
      exact sd_ret (K := K) (evd_tup eva_nil) fun v H7 s7 h7 => q v H7 (((sA.trans s5).trans s6).trans s7) h7
    | cons p rest =>
      have hp1 : 1 ≤ p.2 := rg.pos p (List.mem_cons_self ..)
      have rl := rg.len
      have rt : Good (h.map (·.1)) rest := ⟨(List.pairwise_cons.mp rg.rise).2, fun y hy => rg.sub y (List.mem_cons_of_mem _ hy), fun y hy => rg.pos y (List.mem_cons_of_mem _ hy)⟩
      refine sd_go (sd_seq (sd_no1 (EvB.is (evb_test (K := K) (evd_op (evd_var rfl (hr4.same s5)) (evd_tup eva_nil) (opd_eqD (shaped_H _) (shaped_H [])))) (by rw [eqv_empty]; rfl)) fun H6 s6 => ?_))
      have h6 := hr4.same (s5.trans s6)
      refine sd_go (sd_seq (sd_set (K := K) (d := .int p.1) (evd_at 0 (evd_at (d := encP p) 0 (evd_var rfl h6) rfl) rfl) fun vl H7 s7 h7 => ?_))
      obtain rfl := h7.int_inv
      refine sd_go (sd_seq (sd_set (K := K) (d := encH ((threeT b).2.1.filter fun x => decide (p.1 < x.1))) (evd_tupleL ?_) fun va H8 s8 h8 => ?_))
      · have e : ((threeT b).2.1.filter fun x => decide (p.1 < x.1)).map encP = (((threeT b).2.1.map encP).filter (overD p.1)).map id := by
          rw [List.filter_map, List.map_map]
          rfl
        rw [e]
        refine evl_lcT (by rw [List.length_map]; exact small_le (by omega)) (evd_var rfl (hy.same (((s4.trans s5).trans s6).trans s7))) (overD p.1) id fun d hd x2 H' s' hx2 => ?_
        obtain ⟨p2, _, rfl⟩ := List.mem_map.mp hd
        obtain ⟨a2, b2, ha2, hb2, hg2⟩ := pair_names (i := 10) (j := 11) hx2
        obtain rfl := ha2.int_inv
        exact ⟨_, hg2, rfl, evb_cmp (K := K) (evd_var (v := .int p2.1) rfl (.int _)) (evd_var (v := .int p.1) rfl (.int _)) rfl, fun _ => evd_tup (eva_cons (evd_var rfl ha2) (eva_cons (evd_var rfl hb2) eva_nil))⟩
      have h68 := h6.same (s7.trans s8)
      have hm0 : (0 : Int) ≤ p.2 := by omega
      refine sd_go (sd_seq (sd_set (K := K) (d := encH (partedH (p :: rest) p.2).1) (evd_at 0 (evd_call (d := encT (partedH (p :: rest) p.2)) (eva_cons (evd_var rfl h68) (eva_cons (evd_at 1 (evd_at (d := encP p) 0 (evd_var rfl h68) rfl) rfl) eva_nil)) ⟨p :: rest, p.2, rfl, ⟨_, rg⟩, hm0, by omega, rfl⟩) rfl) fun vf H9 s9 h9 => ?_))
      have hA : ∀ y ∈ ((threeT b).2.1.filter fun x => decide (p.1 < x.1)), 1 ≤ y.2 := fun y hy => tg.out.pos y (List.mem_filter.mp hy).1
      refine sd_go (sd_seq (sd_set (K := K) (evd_call (eva_cons (evd_is (d' := encH rest) (evd_sl (evd_var rfl (h68.same s9)) (evp_some (K := K) evd_int) evp_none) (congrArg PyData.tuple tail_cut)) (eva_cons (evd_var rfl (h8.same s9)) eva_nil)) ⟨rest, _, _, rfl, rt, hA, hS, rfl⟩) fun vg H10 s10 h10 => ?_))
      have sB := (((((sA.trans s5).trans s6).trans s7).trans s8).trans s9).trans s10
      have q2 : ∀ v H', Same H H' → Tp K H' v (encO (match withoutH rest ((threeT b).2.1.filter fun x => decide (p.1 < x.1)) with | none => none | some g => some (bothH [(p.1, p.2 + (threeT b).2.2 + sizeH ((threeT b).2.1.filter fun x => decide (p.1 < x.1)))] g))) → Q v H' := q
      cases eg : withoutH rest ((threeT b).2.1.filter fun x => decide (p.1 < x.1)) with
      | none =>
        rw [eg] at h10 q2
        refine sd_go (sd_seq (sd_yes (EvB.is (evb_test (K := K) (evd_op (evd_var rfl h10) evd_non opd_is)) rfl) fun H11 s11 => ?_))
        exact sd_ret (K := K) evd_non fun v H12 s12 h12 => q2 v H12 ((sB.trans s11).trans s12) h12
      | some g =>
        rw [eg] at h10 q2
        have gg : Good (h.map (·.1)) g := rt.without hA eg
        refine sd_go (sd_seq (sd_no1 (EvB.is (evb_test (K := K) (evd_op (evd_var rfl h10) evd_non opd_is)) (by rfl)) fun H11 s11 => ?_))
        have hf := parted_first (r := rest) hp1
        have hfe : ∃ t2, (partedH (p :: rest) p.2).1 = p :: t2 := by
          cases e : (partedH (p :: rest) p.2).1 with
          | nil => rw [e] at hf; cases hf
          | cons x t2 =>
            rw [e] at hf
            exact ⟨t2, by rw [Option.some.inj hf]⟩
        obtain ⟨t2, et2⟩ := hfe
        rw [et2] at h9
        have oneg : Good (h.map (·.1)) [(p.1, p.2 + (threeT b).2.2 + sizeH ((threeT b).2.1.filter fun x => decide (p.1 < x.1)))] := by
          have hs0 : 0 ≤ sizeH ((threeT b).2.1.filter fun x => decide (p.1 < x.1)) := Good.size_nonneg (S := putsSs b) ⟨tg.out.rise.sublist List.filter_sublist, fun y hy => tg.out.sub y (List.mem_filter.mp hy).1, hA⟩
          have hi := tg.idle
          refine ⟨List.pairwise_singleton _ _, fun y hy => ?_, fun y hy => ?_⟩
          · rw [List.mem_singleton] at hy
            subst hy
            exact rg.sub p (List.mem_cons_self ..)
          · rw [List.mem_singleton] at hy
            subst hy
            show 1 ≤ p.2 + (threeT b).2.2 + sizeH _
            omega
        have h9' := h9.same (s10.trans s11)
        refine sd_go (sd_ret (K := K) (evd_call (eva_cons (d := encH [(p.1, p.2 + (threeT b).2.2 + sizeH ((threeT b).2.1.filter fun x => decide (p.1 < x.1)))]) (evd_tup (eva_cons (evd_tup (eva_cons (evd_var rfl (.int p.1)) (eva_cons
          (evd_op (evd_op (evd_at 1 (evd_at (d := encP p) 0 (evd_var rfl h9') rfl) rfl) (evd_var rfl (.int (threeT b).2.2)) (opd_I0 (.int _))) (evd_call (eva_cons (evd_var rfl (h8.same ((s9.trans s10).trans s11))) eva_nil) ⟨_, rfl, small_le (Nat.le_trans (List.length_filter_le ..) (by omega)), rfl⟩) (opd_I0 (.int _))) eva_nil))) eva_nil)) (eva_cons (evd_var rfl (h10.same s11)) eva_nil)) ⟨_, _, _, rfl, oneg, gg, hS, rfl⟩) fun v H12 s12 h12 => q2 v H12 ((sB.trans s11).trans s12) h12)
theorem scBetween : FnScope ["store", "goal", "kept", "takes", "is_kept", "number", "count", "here"] ["store", "goal"] (defScope sBetween) := ⟨rfl, rfl, rfl, by decide +kernel, rfl, by decide +kernel, by decide +kernel⟩
theorem ok_between (F : Fun K "between" "between" sBetween f fd) (T : Txt K mg) (cNH : Callee P w K mg base 2 "need_heap" ["heap"] (spD K rNeedH))
    (cWithout : Callee P w K mg base 1 "without" ["one", "other"] (spD K rWithout)) (cParted : Callee P w K mg base 1 "parted" ["heap", "many"] (spD K rParted)) :
    FnOk P w K mg base CX0 3 f fd ["store", "goal"] (spD K rBetween) := by
  refine F.ok scBetween (spD_len fun ds d ⟨_, _, e, _⟩ => by rw [e]; rfl) (fun cdv A outer s H vs Q E hr h => ?_)
  obtain ⟨ds, d, hvs, ⟨store, goal, rfl, can, cang, rfl⟩, q⟩ := h
  obtain ⟨v1, v2, rfl, hv1, hv2⟩ := two_inv hvs
  have nd := scBetween.nd
  have hu := hu_of hr
  refine ⟨_, pss_cons (ps_expr (pe_cal cNH hr (pa_cons (pv 0) pa_nil))) (pss_cons (ps_expr (pe_cal cNH hr (pa_cons (pv 1) pa_nil)))
    (pss_cons (ps_set (i := 2) nd rfl (Or.inl rfl) (pe_callTy (cr_dictP rfl) (by rfl) T.zDict (by decide +kernel) (pa_cons (pv 1) pa_nil)))
    (pss_cons (ps_set (i := 3) nd rfl (Or.inl rfl) pe_int) (pss_cons (ps_set (i := 4) nd rfl (Or.inl rfl) pe_bl)
    (pss_cons (ps_for PassesOwn.never rfl (pi_tup (pe_revT (pv 0))) (pg_tup rfl (pgs_cons (pg_name (i := 5) nd rfl (Or.inl rfl)) (pgs_cons (pg_name (i := 6) nd rfl (Or.inl rfl)) pgs_nil)))
      (pss_cons (ps_set (i := 7) nd rfl (Or.inl rfl) (pe_ifExp (pt_val (pv 4)) (pe_callB (call_min2 rfl) (by rfl) T.zMin (by decide +kernel) (pa_cons (pv 6) (pa_cons (pe_dget2 hu (pv 2) (pv 5) pe_int ⟨rfl, rfl, rfl, rfl⟩) pa_nil))) pe_int))
      (pss_cons (ps_set (i := 4) nd rfl (Or.inl rfl) (pe_and (pv 4) (pe_one (pe_cmpR op_eq (pv 7) (pv 6) (nomark _)))))
      (pss_one (ps_aug (i := 3) nd rfl (Or.inl rfl) (pe_op op_sub (pv 6) (pv 7)) ip_add)))))
    (pss_one (ps_ret (pe_tupP (pa_cons (pv 3) (pa_cons (pe_cal cWithout hr (pa_cons (pv 1) (pa_cons (pe_ix ix_tup (pe_cal cParted hr (pa_cons (pv 0) (pa_cons (pv 3) pa_nil))) pe_int (fun _ _ => rfl)) pa_nil))) pa_nil)))))))))), ?_⟩
  have hg := can.good
  have gg := cang.good
  have hlen := can.len
  have glen := cang.len
  refine sd_seq (sd_drop (K := K) (evd_call (eva_cons (evd_var rfl hv1) eva_nil) ⟨store, rfl, can, rfl⟩) fun _ H1 s1 _ => ?_)
  refine sd_go (sd_seq (sd_drop (K := K) (evd_call (eva_cons (evd_var rfl (hv2.same s1)) eva_nil) ⟨goal, rfl, cang, rfl⟩) fun _ H2 s2 _ => ?_))
  refine sd_go (sd_seq (sd_dict (K := K) (i := 2) (evd_var rfl (hv2.same (s1.trans s2))) gg.nodup fun p H3 np s3 hp => ?_))
  refine sd_go (sd_seq (sd_set (K := K) evd_int fun v4 H4 s4 h4 => ?_))
  obtain rfl := h4.int_inv
  refine sd_go (sd_seq (sd_set (K := K) evd_bl fun v5 H5 s5 h5 => ?_))
  obtain rfl := h5.bl_inv
  have sA := (((s1.trans s2).trans s3).trans s4).trans s5
  have hp5 := s5 _ _ (s4 _ _ hp)
  have hrev := hv1.same sA
  refine sd_go (sd_seq ((evd_rev (evd_var (σ := [some v1, some v2, some (V.ref p), some (V.int 0), some (V.bl true), none, none, none]) (i := 0) rfl hrev)).go fun vr H6 s6 h6 => ?_))
  obtain ⟨a, ys, rfl, hSy, hAy⟩ := h6.tup_inv
  refine ⟨a, rfl, ⟨ys, hSy.sqt⟩, for_data (D := _) hAy hSy.sqt (fun i σ H' => ∃ u1 u2 u3 : Option V, σ = [some v1, some v2, some (.ref p), some (.int ((store.reverse.take i).foldl (bstep goal) (true, 0)).2), some (.bl ((store.reverse.take i).foldl (bstep goal) (true, 0)).1), u1, u2, u3] ∧ Same H H' ∧ Same H6 H' ∧ H' p = some (.dK (kvI goal))) ?_ (fun _ _ _ ⟨_, _, _, _, _, s', _⟩ => .of s') ?_ ?_⟩
  · exact ⟨none, none, none, rfl, sA.trans s6, Same.refl H6, s6 _ _ hp5⟩
  · rintro i d x σ H' hd hx ⟨u1, u2, u3, rfl, s', s6', hpd⟩
    rw [← List.map_reverse] at hd
    obtain ⟨r, hr', rfl⟩ := map_at hd
    obtain ⟨b, c, hb, hc, hgo⟩ := pair_names (i := 5) (j := 6) hx
    obtain rfl := hb.int_inv
    obtain rfl := hc.int_inv
    refine hgo _ ?_
    have fm := fold_more (bstep goal) (true, 0) hr'
    generalize ((store.reverse.take i).foldl (bstep goal) (true, 0)) = st at fm
    obtain ⟨k, t⟩ := st
    refine sd_seq (sd_set (K := K) (d := .int (if k = true then minI r.2 ((lookI goal r.1).getD 0) else 0)) (evd_if (b := k) (evb_B (K := K) (evd_var rfl (.bl k))) (fun hk => ?_) fun hk => ?_) fun v7 H7 s7 h7 => ?_)
    · rw [if_pos hk]
      exact evd_cb (eva_cons (evd_var rfl (.int r.2)) (eva_cons (evd_dget rfl hpd (evd_var rfl (.int r.1))) eva_nil)) cbd_min2
    · rw [if_neg (by rw [hk]; exact Bool.false_ne_true)]
      exact evd_int
    · obtain rfl := h7.int_inv
      refine sd_go (sd_seq (sd_set (K := K) (evd_andV (evd_var rfl (.bl k)) fun _ => evd_op (evd_var rfl h7) (evd_var rfl (.int r.2)) opd_eqI) fun v8 H8 s8 h8 => ?_))
      obtain rfl := h8.bl_inv
      refine sd_go (sd_aug (K := K) (j := t) rfl (evd_op (evd_var rfl (.int r.2)) (evd_var rfl (.int (if k = true then minI r.2 ((lookI goal r.1).getD 0) else 0))) (opd_I0 (.int _))) fun H9 s9 => ?_)
      refine ⟨some (.int r.1), some (.int r.2), some (.int (if k = true then minI r.2 ((lookI goal r.1).getD 0) else 0)), ?_, ((s'.trans s7).trans s8).trans s9, ((s6'.trans s7).trans s8).trans s9, s9 _ _ (s8 _ _ (s7 _ _ hpd))⟩
      rw [fm]
      rfl
  · rintro σ H' ⟨u1, u2, u3, rfl, s', s6', hpd⟩
    have el : (store.map encP).reverse.length = store.reverse.length := by simp
    rw [el, List.take_length]
    have t0 := takesH_pos (goal := goal) hg.pos
    have pg := hg.parted t0
    refine sd_go (sd_ret (K := K) (evd_tup (eva_cons (evd_var rfl (.int _)) (eva_cons (evd_call (eva_cons (evd_var rfl (hv2.same s')) (eva_cons (evd_at 1 (evd_call (d := encT (partedH store (takesH store goal))) (eva_cons (evd_var rfl (hv1.same s')) (eva_cons (evd_var rfl (.int (takesH store goal))) eva_nil)) ⟨store, _, rfl, ⟨_, hg⟩, t0, by omega, rfl⟩) rfl) eva_nil)) ⟨goal, _, _, rfl, gg, pg.2.1.pos, by rw [List.length_map]; omega, rfl⟩) eva_nil))) fun v H10 s10 h10 => q v H10 (s'.trans s10) h10)
end
end Lo
set_option Elab.async false
set_option linter.all false
set_option maxRecDepth 100000
set_option maxHeartbeats 4000000
/-! dicts whose keys are nested tuples, whose values are ints -/
namespace Lo
open PySem PySem.Spec PySem.Calls PyProof.Rows L2
mutual
def keyD : PyData → NestedKey
  | .int i => .num i
  | .str x => .text x
  | .tuple xs => .tup (keyAll xs)
  | _ => .none
def keyAll : List PyData → List NestedKey
  | [] => []
  | x :: xs => keyD x :: keyAll xs
end
mutual
theorem keyD_inj : ∀ d e : PyData, simD d = true → simD e = true → keyD d = keyD e → d = e
  | .int i, .int j, _, _, h => by
    simp [keyD] at h
    rw [h]
  | .str x, .str y, _, _, h => by
    simp [keyD] at h
    rw [h]
  | .tuple xs, .tuple ys, h1, h2, h => by
    rw [simD] at h1 h2
    simp only [keyD, NestedKey.tup.injEq] at h
    rw [keyAll_inj xs ys h1 h2 h]
  | .int _, .str _, _, _, h => by simp [keyD] at h
  | .int _, .tuple _, _, _, h => by simp [keyD] at h
  | .str _, .int _, _, _, h => by simp [keyD] at h
  | .str _, .tuple _, _, _, h => by simp [keyD] at h
  | .tuple _, .int _, _, _, h => by simp [keyD] at h
  | .tuple _, .str _, _, _, h => by simp [keyD] at h
  | .none, _, h, _, _ => by simp [simD] at h
  | .bool _, _, h, _, _ => by simp [simD] at h
  | .list _, _, h, _, _ => by simp [simD] at h
  | .dict _, _, h, _, _ => by simp [simD] at h
  | _, .none, _, h, _ => by simp [simD] at h
  | _, .bool _, _, h, _ => by simp [simD] at h
  | _, .list _, _, h, _ => by simp [simD] at h
  | _, .dict _, _, h, _ => by simp [simD] at h
theorem keyAll_inj : ∀ xs ys : List PyData, simAll xs = true → simAll ys = true → keyAll xs = keyAll ys → xs = ys
  | [], [], _, _, _ => rfl
  | [], _ :: _, _, _, h => by simp [keyAll] at h
  | _ :: _, [], _, _, h => by simp [keyAll] at h
  | x :: xs, y :: ys, h1, h2, h => by
    rw [simAll, Bool.and_eq_true] at h1 h2
    simp only [keyAll, List.cons.injEq] at h
    rw [keyD_inj x y h1.1 h2.1 h.1, keyAll_inj xs ys h1.2 h2.2 h.2]
end
mutual
theorem keyD_depth : ∀ d : PyData, (keyD d).depth ≤ d.depth
  | .int i => by simp [keyD, NestedKey.depth]
  | .str x => by simp [keyD, NestedKey.depth]
  | .tuple xs => by
    have := keyAll_depth xs
    simp only [keyD, NestedKey.depth, PyData.depth]
    omega
  | .none => by simp [keyD, NestedKey.depth]
  | .bool _ => by simp [keyD, NestedKey.depth]
  | .list _ => by simp [keyD, NestedKey.depth]
  | .dict _ => by simp [keyD, NestedKey.depth]
theorem keyAll_depth : ∀ xs : List PyData, NestedKey.depthAll (keyAll xs) ≤ PyData.depthAll xs
  | [] => by simp [keyAll, NestedKey.depthAll]
  | x :: xs => by
    have h1 := keyD_depth x
    have h2 := keyAll_depth xs
    simp only [keyAll, NestedKey.depthAll, PyData.depthAll]
    omega
end
section
variable {X : Cx} {pins : List (Addr × Obj)} {σ : L2.St} {H : Hp} {s : Shared}
mutual
theorem Tp.nested (I : Inv X pins σ H s) : ∀ {d : PyData} {v : V} {u : Value}, Tp X.K H v d → simD d = true → RelV v u → NestedIs s.heap (keyD d) u
  | _, _, _, .non, h, r => by simp [simD] at h
  | _, _, _, .bl b, h, r => by simp [simD] at h
  | _, _, _, .int i, _, r => by
    obtain ⟨t, rfl⟩ := r
    exact .int i t
  | _, _, _, .str x, _, r => by
    obtain ⟨t, rfl⟩ := r
    exact .text x t
  | _, _, _, .tup hs ha, h, r => by
    obtain rfl := r
    obtain ⟨its, rv, ⟨o, n, ho, hc, _, hd⟩, _⟩ := hs.raw I
    rw [simD] at h
    exact .tup ho hc hd (TpAll.nested I ha h rv)
theorem TpAll.nested (I : Inv X pins σ H s) : ∀ {ds : List PyData} {vs : List V} {us : List Value}, TpAll X.K H vs ds → simAll ds = true → Vals vs us → NestedAll s.heap (keyAll ds) us
  | _, _, _, .nil, _, .nil => .nil
  | _, _, _, .cons h1 h2, h, .cons r1 r2 => by
    rw [simAll, Bool.and_eq_true] at h
    exact .cons (Tp.nested I h1 h.1 r1) (TpAll.nested I h2 h.2 r2)
end
end
/-- keys, where they lie, values -/
abbrev Row3 := PyData × Addr × Int
abbrev RelE : List Row3 → List (NestedKey × Addr × Value) → Prop := Paired fun x r => r.1 = keyD x.1 ∧ r.2.1 = x.2.1 ∧ ∃ t, r.2.2 = Value.int x.2.2 t
structure DkS (P : Program) (w : World) (h : Heap) (a : Addr) (xs : List Row3) : Prop where
  ex : ∃ o es ep rs, h.get? a = some o ∧ o.ExactDict ∧ o.data = .dict es ep ∧ es.toList = rs.map (entryOfKey (nestedKind P w)) ∧ RelE xs rs
  ns : (a == sysModules) = false
def DkO (P : Program) (w : World) (a : Addr) (xs : List Row3) : HO := .ext fun h => DkS P w h a xs
theorem DkS.ok {P : Program} {w : World} {H : Hp} {h : Heap} {a : Addr} {xs : List Row3} (d : DkS P w h a xs) : ObjOk P w H h a (DkO P w a xs) := by
  have ⟨o, es, ep, rs, ho, r⟩ := d.ex
  exact ⟨d, ⟨o, ho⟩, fun h1 h2 p k => ⟨let ⟨o, es, ep, rs, ho, r⟩ := p.ex; ⟨o, es, ep, rs, k o ho, r⟩, p.ns⟩⟩
/-- the dict at a holds kvs -/
structure Dk (K : PySem.W.Frag) (P : Program) (w : World) (H : Hp) (a : Addr) (kvs : List (NestedKey × Int)) : Prop where
  ex : ∃ xs : List Row3, H a = some (DkO P w a xs) ∧ xs.map (fun x => (keyD x.1, x.2.2)) = kvs ∧ ∀ x ∈ xs, Tp K H (.ref x.2.1) x.1 ∧ simD x.1 = true ∧ x.1.depth ≤ 8
  nd : (kvs.map (·.1)).Nodup
  len : kvs.length ≤ 1000000
def lookN (kvs : List (NestedKey × Int)) (k : NestedKey) : Option Int := (kvs.find? fun p => decide (p.1 = k)).map (·.2)
def putN (kvs : List (NestedKey × Int)) (k : NestedKey) (v : Int) : List (NestedKey × Int) := if (lookN kvs k).isSome then kvs.map fun p => if p.1 = k then (p.1, v) else p else kvs ++ [(k, v)]
theorem Dk.mono {K : PySem.W.Frag} {P : Program} {w : World} {H H' : Hp} {a : Addr} {kvs : List (NestedKey × Int)} (d : Dk K P w H a kvs) (e : SameT H H') (ha : H' a = H a) : Dk K P w H' a kvs := by
  obtain ⟨xs, h1, h2, h3⟩ := d.ex
  exact ⟨⟨xs, by rw [ha]; exact h1, h2, fun x hx => ⟨(h3 x hx).1.mono e, (h3 x hx).2⟩⟩, d.nd, d.len⟩
theorem Dk.same {K : PySem.W.Frag} {P : Program} {w : World} {H H' : Hp} {a : Addr} {kvs : List (NestedKey × Int)} (d : Dk K P w H a kvs) (e : Same H H') : Dk K P w H' a kvs := by
  obtain ⟨xs, h1, h2, h3⟩ := d.ex
  exact d.mono (.of e) (by rw [h1]; exact e _ _ h1)
theorem rel_look : ∀ {xs : List Row3} {rs : List (NestedKey × Addr × Value)}, RelE xs rs → ∀ k, (lookN (xs.map fun x => (keyD x.1, x.2.2)) k = none → atKey rs k = none) ∧ ∀ v, lookN (xs.map fun x => (keyD x.1, x.2.2)) k = some v → ∃ b t, atKey rs k = some (b, Value.int v t)
  | _, _, .nil, k => ⟨fun _ => rfl, fun v h => by simp [lookN] at h⟩
  | _, _, .cons (a := x) (b := r) h t, k => by
    obtain ⟨i1, i2⟩ := rel_look t k
    obtain ⟨e1, e2, tk, e3⟩ := h
    unfold lookN at i1 i2 ⊢
    unfold atKey at i1 i2 ⊢
    rw [List.map_cons, List.find?_cons, List.find?_cons, e1]
    by_cases hk : keyD x.1 = k
    · rw [decide_eq_true hk]
      exact ⟨fun z => by simp at z, fun v hv => by
        simp at hv
        exact ⟨r.2.1, tk, by simp [← hv, ← e3]⟩⟩
    · rw [decide_eq_false hk]
      exact ⟨i1, i2⟩
def putX (xs : List Row3) (d : PyData) (b : Addr) (v : Int) : List Row3 := if (lookN (xs.map fun x => (keyD x.1, x.2.2)) (keyD d)).isSome then xs.map fun x => if keyD x.1 = keyD d then (x.1, x.2.1, v) else x else xs ++ [(d, b, v)]
theorem putX_map (xs : List Row3) (d : PyData) (b : Addr) (v : Int) : (putX xs d b v).map (fun x => (keyD x.1, x.2.2)) = putN (xs.map fun x => (keyD x.1, x.2.2)) (keyD d) v := by
  unfold putX putN
  split
  · rw [List.map_map, List.map_map]
    refine List.map_congr_left fun x _ => ?_
    show (keyD (if keyD x.1 = keyD d then (x.1, x.2.1, v) else x).1, (if keyD x.1 = keyD d then (x.1, x.2.1, v) else x).2.2) = if keyD x.1 = keyD d then (keyD x.1, v) else (keyD x.1, x.2.2)
    split <;> rfl
  · rw [List.map_append]
    rfl
theorem rel_map {d : PyData} {v : Int} {t : Tok} : ∀ {xs : List Row3} {rs : List (NestedKey × Addr × Value)}, RelE xs rs → RelE (xs.map fun x => if keyD x.1 = keyD d then (x.1, x.2.1, v) else x) (rs.map (putAt (keyD d) (Value.int v t)))
  | _, _, .nil => .nil
  | _, _, .cons (a := x) (b := r) h tl => by
    refine .cons ?_ (rel_map tl)
    obtain ⟨e1, e2, tk, e3⟩ := h
    unfold putAt
    dsimp only
    by_cases hk : keyD x.1 = keyD d
    · rw [if_pos hk, if_pos (by rw [e1]; exact hk)]
      exact ⟨e1, e2, t, rfl⟩
    · rw [if_neg hk, if_neg (by rw [e1]; exact hk)]
      exact ⟨e1, e2, tk, e3⟩
theorem rel_append : ∀ {xs ys : List Row3} {rs qs : List (NestedKey × Addr × Value)}, RelE xs rs → RelE ys qs → RelE (xs ++ ys) (rs ++ qs)
  | _, _, _, _, .nil, h => h
  | _, _, _, _, .cons h t, h2 => .cons h (rel_append t h2)
theorem rel_put {xs : List Row3} {rs : List (NestedKey × Addr × Value)} (h : RelE xs rs) (d : PyData) (b : Addr) (v : Int) (t : Tok) : RelE (putX xs d b v) (storedH rs (keyD d) b (Value.int v t)) := by
  obtain ⟨l1, l2⟩ := rel_look h (keyD d)
  unfold putX storedH
  cases e : lookN (xs.map fun x => (keyD x.1, x.2.2)) (keyD d) with
  | none =>
    rw [l1 e]
    simp only [Option.isSome_none, Bool.false_eq_true, if_false]
    exact rel_append h (.cons ⟨rfl, rfl, t, rfl⟩ .nil)
  | some v0 =>
    obtain ⟨b0, t0, e0⟩ := l2 v0 e
    rw [e0]
    simp only [Option.isSome_some, if_true]
    exact rel_map h
theorem putN_keys (kvs : List (NestedKey × Int)) (k : NestedKey) (v : Int) : (putN kvs k v).map (·.1) = if (lookN kvs k).isSome then kvs.map (·.1) else kvs.map (·.1) ++ [k] := by
  unfold putN
  split
  · rw [List.map_map]
    refine List.map_congr_left fun p _ => ?_
    show (if p.1 = k then (p.1, v) else p).1 = p.1
    split <;> rfl
  · rw [List.map_append]
    rfl
theorem lookN_none {kvs : List (NestedKey × Int)} {k : NestedKey} (h : lookN kvs k = none) : k ∉ kvs.map (·.1) := by
  unfold lookN at h
  rw [Option.map_eq_none_iff, List.find?_eq_none] at h
  intro hk
  obtain ⟨p, hp, rfl⟩ := List.mem_map.mp hk
  exact h p hp (by simp)
theorem putN_nodup {kvs : List (NestedKey × Int)} (nd : (kvs.map (·.1)).Nodup) (k : NestedKey) (v : Int) : ((putN kvs k v).map (·.1)).Nodup := by
  rw [putN_keys]
  cases e : lookN kvs k with
  | some x => exact nd
  | none =>
    simp only [Option.isSome_none, Bool.false_eq_true, if_false]
    rw [List.nodup_append]
    refine ⟨nd, by simp, fun a ha b hb => ?_⟩
    rw [List.mem_singleton] at hb
    intro q
    exact lookN_none e (by rw [← hb, ← q]; exact ha)
theorem putN_len (kvs : List (NestedKey × Int)) (k : NestedKey) (v : Int) : (putN kvs k v).length ≤ kvs.length + 1 := by
  unfold putN
  split
  · rw [List.length_map]; omega
  · rw [List.length_append]; exact Nat.le_refl _
section
variable {X : Cx} {pins : List (Addr × Obj)} {σ : L2.St} {H : Hp} {s : Shared}
theorem Dk.full {a : Addr} {kvs : List (NestedKey × Int)} (I : Inv X pins σ H s) (d : Dk X.K X.prog X.w H a kvs) : ∃ xs rs, H a = some (DkO X.prog X.w a xs) ∧ xs.map (fun x => (keyD x.1, x.2.2)) = kvs ∧ (∀ x ∈ xs, Tp X.K H (.ref x.2.1) x.1 ∧ simD x.1 = true ∧ x.1.depth ≤ 8) ∧
    s.heap.DictOfH (nestedKind X.prog X.w) a rs ∧ RelE xs rs ∧ (a == sysModules) = false := by
  obtain ⟨xs, h1, h2, h3⟩ := d.ex
  have D : DkS X.prog X.w s.heap a xs := (I.hok a _ h1).1
  obtain ⟨o, es, ep, rs, ho, hc, hd, he, hr⟩ := D.ex
  have keys : ∀ {xs : List Row3} {rs : List (NestedKey × Addr × Value)}, RelE xs rs → rs.map (·.1) = (xs.map fun x => (keyD x.1, x.2.2)).map (·.1) := fun h => by
    induction h with
    | nil => rfl
    | cons h _ ih => rw [List.map_cons, List.map_cons, List.map_cons, ih, h.1]
  have all : ∀ {xs : List Row3} {rs : List (NestedKey × Addr × Value)}, RelE xs rs → (∀ x ∈ xs, Tp X.K H (.ref x.2.1) x.1 ∧ simD x.1 = true ∧ x.1.depth ≤ 8) → ∀ r ∈ rs, (nestedKind X.prog X.w).is s.heap r.1 r.2.1 := fun h => by
    induction h with
    | nil => exact fun _ r hr => nomatch hr
    | cons h _ ih =>
      intro hx r hr
      rcases List.mem_cons.mp hr with rfl | hr
      · obtain ⟨e1, e2, _⟩ := h
        obtain ⟨t1, t2, t3⟩ := hx _ (List.mem_cons_self ..)
        rw [e1, e2]
        exact ⟨t1.nested I t2 rfl, Nat.le_trans (keyD_depth _) t3⟩
      · exact ih (fun x hx2 => hx x (List.mem_cons_of_mem _ hx2)) r hr
  exact ⟨xs, rs, h1, h2, h3, ⟨o, es, ep, ho, hc, hd, he, all hr h3, by rw [keys hr, h2]; exact d.nd⟩, hr, D.ns⟩
theorem Dk.noDict {a : Addr} {kvs : List (NestedKey × Int)} (I : Inv X pins σ H s) (d : Dk X.K X.prog X.w H a kvs) : ∀ b, Value.ref a = .ref b → ∃ ob, s.heap.get? b = some ob ∧ ob.dict = none := fun b q => by
  cases q
  obtain ⟨xs, h1, _, _⟩ := d.ex
  have D : DkS X.prog X.w s.heap a xs := (I.hok a _ h1).1
  obtain ⟨o, es, ep, rs, ho, hc, _⟩ := D.ex
  exact ⟨o, ho, hc.2.1⟩
end
/-! the rules -/
def rInD (K : PySem.W.Frag) (P : Program) (w : World) (no : Bool) : R2 := fun x y H Q => ∃ b a d kvs, x = .ref b ∧ y = .ref a ∧ Tp K H (.ref b) d ∧ simD d = true ∧ d.depth ≤ 8 ∧ Dk K P w H a kvs ∧ Q (.bl (no != (lookN kvs (keyD d)).isSome)) H
def tGetD (K : PySem.W.Frag) (P : Program) (w : World) (td ty : TE) : TE := fun σ H Q => td σ H fun x H1 => ty σ H1 fun y H2 => ∃ a b d kvs v, x = .ref a ∧ y = .ref b ∧ Tp K H2 (.ref b) d ∧ simD d = true ∧ d.depth ≤ 8 ∧ Dk K P w H2 a kvs ∧ lookN kvs (keyD d) = some v ∧ Q (.int v) H2
def sPutD (K : PySem.W.Frag) (P : Program) (w : World) (td ty tv : TE) : TS := fun D σ H => tv σ H fun u H1 => td σ H1 fun x H2 => ty σ H2 fun y H3 => ∃ a b d kvs v, u = .int v ∧ x = .ref a ∧ y = .ref b ∧ Tp K H3 (.ref b) d ∧ simD d = true ∧ d.depth ≤ 8 ∧ Dk K P w H3 a kvs ∧ kvs.length < 1000000 ∧
  ∀ xs, Dk K P w (upd H3 a (DkO P w a xs)) a (putN kvs (keyD d) v) → D.nx σ (upd H3 a (DkO P w a xs))
def tNewD (K : PySem.W.Frag) (P : Program) (w : World) : TE := fun _ H Q => ∀ p, H p = none → Dk K P w (upd H p (DkO P w p [])) p [] → Q (.ref p) (upd H p (DkO P w p []))
section
variable {X : Cx} {o i e value : Expr} {pos pos' tpos : Pos} {td ty tv : TE}
theorem op_inD (hu : X.A.units + 64 < cLine) : OpR X (compareOp .In) (rInD X.K X.prog X.w false) := by
  intro pins s σ H x y v u Q I rx ry h
  obtain ⟨b, a, d, kvs, rfl, rfl, tb, sd, dd, D, q⟩ := h
  obtain rfl := rx
  obtain rfl := ry
  obtain ⟨xs, rs, h1, h2, h3, hm, hr, hs⟩ := D.full I
  obtain ⟨l1, l2⟩ := rel_look hr (keyD d)
  rw [h2] at l1 l2
  refine wpAny_in_heap (by show X.A.units + 1 + 8 < cLine; omega) (show (nestedKind X.prog X.w).is s.heap (keyD d) b from ⟨tb.nested I sd rfl, Nat.le_trans (keyD_depth d) dd⟩) hs hm ⟨.bl _, H, I.tok _, ?_, q⟩
  cases e : lookN kvs (keyD d) with
  | none => rw [l1 e]; rfl
  | some v =>
    obtain ⟨b0, t0, e0⟩ := l2 v e
    rw [e0]
    rfl
theorem op_notInD (hu : X.A.units + 64 < cLine) : OpR X (compareOp .NotIn) (rInD X.K X.prog X.w true) := by
  intro pins s σ H x y v u Q I rx ry h
  obtain ⟨b, a, d, kvs, rfl, rfl, tb, sd, dd, D, q⟩ := h
  obtain rfl := rx
  obtain rfl := ry
  obtain ⟨xs, rs, h1, h2, h3, hm, hr, hs⟩ := D.full I
  obtain ⟨l1, l2⟩ := rel_look hr (keyD d)
  rw [h2] at l1 l2
  show wpAny _ _ (do return Value.bool (!(← contains (.ref a) (.ref b)))) _ _ s
  refine wpAny_bind (wpAny_contains_heap (by show X.A.units + 1 + 8 < cLine; omega) (show (nestedKind X.prog X.w).is s.heap (keyD d) b from ⟨tb.nested I sd rfl, Nat.le_trans (keyD_depth d) dd⟩) hs hm (wpAny_pure ⟨.bl _, H, I.tok _, ?_, q⟩))
  cases e : lookN kvs (keyD d) with
  | none => rw [l1 e]; rfl
  | some v =>
    obtain ⟨b0, t0, e0⟩ := l2 v e
    rw [e0]
    rfl
theorem pe_getD (hu : X.A.units + 64 < cLine) (ho : PE X o td) (hi : PE X i ty) (hs : NoSl i) : PE X (.Subscript o i pos) (tGetD X.K X.prog X.w td ty) := by
  refine ⟨fun pins s σ H Q I h => ?_⟩
  refine subD_of PySem.F.slot_dict_getitem.lookup hs (thn (ho.run pins s σ H _ I h) fun u s1 ⟨x, H1, I1, rx, q1⟩ => thn (hi.run pins s1 σ H1 _ I1 q1) fun iv s2 ⟨y, H2, I2, ry, a, b, d, kvs, v, ex, ey, tb, sd, dd, D, hv, q⟩ => ?_)
  subst ex ey
  obtain rfl : u = Value.ref a := rx
  obtain rfl : iv = Value.ref b := ry
  obtain ⟨xs, rs, h1, h2, h3, hm, hr, hsm⟩ := D.full I2
  obtain ⟨l1, l2⟩ := rel_look hr (keyD d)
  rw [h2] at l2
  obtain ⟨b0, t0, e0⟩ := l2 v hv
  exact ⟨hm.typeIs, wpAny_getItem_heap (by show X.A.units + 1 + 8 < cLine; omega) (show (nestedKind X.prog X.w).is s2.heap (keyD d) b from ⟨tb.nested I2 sd rfl, Nat.le_trans (keyD_depth d) dd⟩) hm e0 ⟨.int v, H2, I2.tok _, ⟨t0, rfl⟩, q⟩⟩
theorem ps_putD (hu : X.A.units + 64 < cLine) (ho : PE X o td) (hi : PE X i ty) (hv : PE X value tv) (hs : swapsWith value (some (.Subscript o i pos')) pos.line X.env = pure false) :
    PS X (.Assign [.Subscript o i pos'] value pos) (sPutD X.K X.prog X.w td ty tv) := by
  refine ⟨fun pins s σ H D I h => ?_⟩
  refine wpAny_Assign_Subscript (thn (hv.run pins s σ H _ I h) fun r s1 ⟨u, H1, I1, rv, q1⟩ => thn (ho.run pins s1 σ H1 _ I1 q1) fun u1 s2 ⟨x, H2, I2, rx, q2⟩ => thn (hi.run pins s2 σ H2 _ I2 q2) fun iv s3 ⟨y, H3, I3, ry, a, b, d, kvs, v, eu, ex, ey, tb, sd, dd, Dd, hl, q⟩ => ?_) hs
  subst ex ey eu
  obtain rfl : u1 = Value.ref a := rx
  obtain rfl : iv = Value.ref b := ry
  obtain ⟨t, rfl⟩ := rv
  obtain ⟨xs, rs, h1, h2, h3, hm, hr, hsm⟩ := Dd.full I3
  have lr : rs.length ≤ sizeLine := by
    rw [← Paired.length hr]
    have e : xs.length = kvs.length := by rw [← h2, List.length_map]
    rw [e]
    exact small_le (by omega)
  refine wpAny_setItem_heap (hsz := lr) (by show X.A.units + 1 + 8 < cLine; omega) (show (nestedKind X.prog X.w).is s3.heap (keyD d) b from ⟨tb.nested I3 sd rfl, Nat.le_trans (keyD_depth d) dd⟩) hm fun h' hm' hsb => ?_
  obtain ⟨ob, es, ep, hob, hc, hd, he, _, _⟩ := hm'
  have S : DkS X.prog X.w h' a (putX xs d b v) := ⟨⟨ob, es, ep, _, hob, hc, hd, he, rel_put hr d b v t⟩, hsm⟩
  have I4 : Inv X pins σ (upd H3 a (DkO X.prog X.w a (putX xs d b v))) { s3 with heap := h', toks := s3.toks + (nestedKind X.prog X.w).draws (keyD d) } := d_write I3 (by rw [h1]; exact True.intro) hsb ⟨ob, hob⟩ S.ok
  refine ⟨σ, _, I4, q _ ⟨⟨_, upd_same, by rw [putX_map, h2], fun x hx => ?_⟩, putN_nodup Dd.nd _ _, Nat.le_trans (putN_len ..) hl⟩⟩
  have sT : SameT H3 (upd H3 a (DkO X.prog X.w a (putX xs d b v))) := SameT.upd (.refl _) fun u e => by
    rw [h1] at e
    cases e
    rfl
  unfold putX at hx
  split at hx
  · obtain ⟨z, hz, rfl⟩ := List.mem_map.mp hx
    obtain ⟨t1, t2⟩ := h3 z hz
    split
    · exact ⟨t1.mono sT, t2⟩
    · exact ⟨t1.mono sT, t2⟩
  · rcases List.mem_append.mp hx with hx | hx
    · obtain ⟨t1, t2⟩ := h3 x hx
      exact ⟨t1.mono sT, t2⟩
    · rw [List.mem_singleton] at hx
      subst hx
      exact ⟨tb.mono sT, sd, dd⟩
theorem pe_newD : PE X (.Dict [] [] pos) (tNewD X.K X.prog X.w) := ⟨fun pins s σ H Q I h => by
  have S : DkS X.prog X.w (s.heap.push { cls := .type "dict", data := .dict #[] }) s.heap.objs.size [] := ⟨⟨_, #[], 0, [], Heap.get?_push_size _ rfl, ⟨rfl, rfl, rfl⟩, rfl, rfl, .nil⟩, beq_eq_false_iff_ne.mpr (Ne.symm (Nat.ne_of_lt I.big))⟩
  exact wpAny_Dict_empty ⟨.ref s.heap.objs.size, _, I.laid (a := s.heap.objs.size) (t' := s.toks) (fun _ _ e => Heap.get?_push_of_some _ e) (Nat.le_refl _) S.ok, rfl, h _ (I.hok.fresh (Nat.le_refl _)) ⟨⟨[], upd_same, rfl, fun x hx => nomatch hx⟩, .nil, Nat.zero_le _⟩⟩⟩
/-- {k: n} -/
def tDispD (K : PySem.W.Frag) (P : Program) (w : World) (tk tv : TE) : TE := fun σ H Q => ∀ p, H p = none → tk σ (upd H p (DkO P w p [])) fun y H1 => tv σ H1 fun u H2 => ∃ b d v, y = .ref b ∧ u = .int v ∧ Tp K H2 (.ref b) d ∧ simD d = true ∧ d.depth ≤ 8 ∧ H2 p = some (DkO P w p []) ∧
  ∀ xs, Dk K P w (upd H2 p (DkO P w p xs)) p [(keyD d, v)] → Q (.ref p) (upd H2 p (DkO P w p xs))
theorem pe_dispD {k v : Expr} {tk : TE} (hu : X.A.units + 64 < cLine) (hk : PE X k tk) (hv : PE X v tv) : PE X (.Dict [some k] [v] pos) (tDispD X.K X.prog X.w tk tv) := by
  refine ⟨fun pins s σ H Q I h => ?_⟩
  have hf := I.hok.fresh (Nat.le_refl s.heap.objs.size)
  have hsm : (s.heap.objs.size == sysModules) = false := beq_eq_false_iff_ne.mpr (Ne.symm (Nat.ne_of_lt I.big))
  have S0 : DkS X.prog X.w (s.heap.push { cls := .type "dict", data := .dict #[] }) s.heap.objs.size [] := ⟨⟨_, #[], 0, [], Heap.get?_push_size _ rfl, ⟨rfl, rfl, rfl⟩, rfl, rfl, .nil⟩, hsm⟩
  have I1 : Inv X pins σ (upd H s.heap.objs.size (DkO X.prog X.w s.heap.objs.size [])) { s with heap := s.heap.push { cls := .type "dict", data := .dict #[] } } := I.laid (a := s.heap.objs.size) (t' := s.toks) (fun _ _ e => Heap.get?_push_of_some _ e) (Nat.le_refl _) S0.ok
  rw [arm_eval_Dict, zip_pairTrees [some k] [v] X.env pos rfl rfl, dictDisplay_pairs (pairTrees [some k] [v] X.env pos) (by simp [pairTrees]) (by simp [pairTrees])]
  refine wpAny_bind (wpAny_standAt (wpAny_bind (wpAny_subDictH (knd := nestedKind X.prog X.w) (Q := fun d s' => wpAny (model X.prog X.w) X.A (pure (Value.ref d)) (EP X pins σ Q) X.xe s') (by show X.A.units + 8 < cLine; omega) (by simp [pairTrees]) ?_)))
  refine pairTrees_cons_walk (thn (hk.run pins _ σ _ _ I1 (h _ hf)) fun kv s2 ⟨y, H2, I2, ry, q2⟩ => thn (hv.run pins s2 σ H2 _ I2 q2) fun vv s3 ⟨u, H3, I3, ru, b, d, n, ey, eu, tb, sd, dd, hp, q⟩ => pairTrees_nil_walk ?_)
  subst ey eu
  obtain rfl : kv = Value.ref b := ry
  obtain ⟨t, rfl⟩ := ru
  have D0 : Dk X.K X.prog X.w H3 s.heap.objs.size [] := ⟨⟨[], hp, rfl, fun x hx => nomatch hx⟩, .nil, Nat.zero_le _⟩
  obtain ⟨xs, rs, h1, h2, h3, hm, hr, _⟩ := D0.full I3
  have exs : xs = [] := List.map_eq_nil_iff.mp h2
  subst exs
  cases hr
  refine ⟨[(keyD d, b, Value.int n t)], ⟨rfl, rfl, ⟨tb.nested I3 sd rfl, Nat.le_trans (keyD_depth d) dd⟩, True.intro⟩, hm, fun h' tk2 hm' hsb => wpAny_pure ?_⟩
  obtain ⟨ob, es, ep, hob, hc, hd, he, _, _⟩ := hm'
  have S : DkS X.prog X.w h' s.heap.objs.size [(d, b, n)] := ⟨⟨ob, es, ep, _, hob, hc, hd, he, .cons ⟨rfl, rfl, t, rfl⟩ .nil⟩, hsm⟩
  have I4 : Inv X pins σ (upd H3 s.heap.objs.size (DkO X.prog X.w s.heap.objs.size [(d, b, n)])) { s3 with heap := h', toks := tk2 } := d_write I3 (by rw [h1]; exact True.intro) hsb ⟨ob, hob⟩ S.ok
  have sT : SameT H3 (upd H3 s.heap.objs.size (DkO X.prog X.w s.heap.objs.size [(d, b, n)])) := SameT.upd (.refl _) fun u e => by
    rw [h1] at e
    cases e
    rfl
  refine ⟨.ref s.heap.objs.size, _, I4, rfl, q _ ⟨⟨_, upd_same, rfl, fun x hx => ?_⟩, by simp, by show 1 ≤ 1000000; decide⟩⟩
  rw [List.mem_singleton] at hx
  subst hx
  exact ⟨tb.mono sT, sd, dd⟩
end
end Lo
set_option Elab.async false
set_option linter.all false
set_option maxRecDepth 100000
set_option maxHeartbeats 4000000
/-! sets of nested tuples, four of them at most -/
namespace Lo
open PySem PySem.Spec PySem.Calls PyProof.Rows L2
/-- the tuple at b is the key k -/
abbrev NIs (P : Program) (w : World) (h : Heap) (k : NestedKey) (b : Addr) : Prop := (nestedKind P w).is h k b
abbrev nhash (w : World) (k : NestedKey) : Int := k.hash w
abbrev NRow := Addr × NestedKey
section
variable {P : Program} {w : World} {A : Around} {E : Value → Shared → Prop} {s : Shared}
/-! what is asked of a key -/
def NoCls (P : Program) (w : World) (n : Nat) (s : Shared) (v : Value) : Prop := ∀ (A : Around) (E : Value → Shared → Prop) (Q : Bool → Shared → Prop), Q false s → wpAny (model P w) A (ofAClassStatement n v) Q E s
def HashV (P : Program) (w : World) (n : Nat) (s : Shared) (v : Value) : Prop := ∀ (A : Around) (E : Value → Shared → Prop) (Q : Bool → Shared → Prop), (∀ b, Q b s) → wpAny (model P w) A (hashByValue n v) Q E s
theorem NoCls.tuple {n : Nat} {a : Addr} {o : Obj} {vs : Array Value} {m : Nat} (g : s.heap.get? a = some o) (gc : o.cls = .type "tuple") (gd : o.data = .seq vs m) (all : ∀ v ∈ vs.toList, NoCls P w n s v) : NoCls P w (n + 1) s (.ref a) := fun A E Q h => by
  unfold ofAClassStatement
  refine wpAny_bind (wpAny_typeOf (⟨o, g, gc⟩ : s.TypeIs (.ref a) "tuple") ?_)
  dsimp only
  have e : (("tuple" : String) == "tuple") = true := by decide
  simp only [e, if_true, Bool.not_true, Bool.false_eq_true, if_false]
  try refine wpAny_bind (wpAny_pure ?_)
  try simp only [Bool.not_true, Bool.false_eq_true, if_false]
  show wpAny _ _ (seqItems? (.ref a) >>= _) _ _ s
  refine wpAny_bind (wpAny_seqItems g gd ?_)
  dsimp only
  refine wpAny_bind ?_
  show wpAny _ _ (forIn vs _ _) _ _ s
  rw [← Array.forIn_toList]
  refine wpAny_forIn_list _ (fun rest r s' => r.1 = none ∧ s' = s ∧ ∀ v ∈ rest, NoCls P w n s v) _ ?_ ?_ _ _ ⟨rfl, rfl, all⟩
  · rintro v rest r s2 ⟨er, rfl, ha⟩
    refine wpAny_bind (ha v List.mem_cons_self _ _ _ ?_)
    simp only [Bool.false_eq_true, if_false]
    exact wpAny_pure ⟨rfl, rfl, fun u m => ha u (List.mem_cons_of_mem _ m)⟩
  · rintro ⟨r1, r2⟩ s2 ⟨er, rfl, _⟩
    simp only at er
    subst er
    exact wpAny_pure h
theorem HashV.tuple {n : Nat} {a : Addr} {o : Obj} {vs : Array Value} {m : Nat} (g : s.heap.get? a = some o) (gc : o.cls = .type "tuple") (gd : o.data = .seq vs m) (all : ∀ v ∈ vs.toList, HashV P w n s v) : HashV P w (n + 1) s (.ref a) := fun A E Q h => by
  unfold hashByValue
  refine wpAny_bind (wpAny_specialOf (⟨o, g, gc⟩ : s.TypeIs (.ref a) "tuple") F.slot_tuple_hash.lookup ?_)
  show wpAny _ _ (seqItems? (.ref a) >>= _) _ _ s
  refine wpAny_bind (wpAny_seqItems g gd ?_)
  refine wpAny_bind ?_
  show wpAny _ _ (forIn vs _ _) _ _ s
  rw [← Array.forIn_toList]
  refine wpAny_forIn_list _ (fun rest r s' => (r.1 = none ∨ r.1 = some false) ∧ s' = s ∧ ∀ v ∈ rest, HashV P w n s v) _ ?_ ?_ _ _ ⟨.inl rfl, rfl, all⟩
  · rintro v rest r s2 ⟨er, rfl, ha⟩
    refine wpAny_bind (ha v List.mem_cons_self _ _ _ fun b => ?_)
    cases b with
    | true =>
      simp only [Bool.not_true, Bool.false_eq_true, if_false]
      exact wpAny_pure ⟨.inl rfl, rfl, fun u m => ha u (List.mem_cons_of_mem _ m)⟩
    | false =>
      simp only [Bool.not_false, if_true]
      exact wpAny_pure (wpAny_pure (h false))
  · rintro ⟨r1, r2⟩ s2 ⟨er, rfl, _⟩
    simp only at er
    rcases er with rfl | rfl
    · exact wpAny_pure (h true)
    · exact wpAny_pure (h false)
theorem noCls_pure {n : Nat} {v : Value} (h : ofAClassStatement n v = pure false) : NoCls P w n s v := fun A E Q q => by
  rw [h]
  exact wpAny_pure q
theorem hashV_pure {n : Nat} {v : Value} {b : Bool} (h : hashByValue n v = pure b) : HashV P w n s v := fun A E Q q => by
  rw [h]
  exact wpAny_pure (q b)
mutual
theorem noCls_key : ∀ (k : NestedKey) (v : Value) (n : Nat) (s : Shared), NestedIs s.heap k v → k.depth ≤ n → NoCls P w n s v
  | .none, _, n, s, x, _ => by cases x; exact noCls_pure (by cases n <;> rfl)
  | .num i, _, n, s, x, _ => by cases x <;> exact noCls_pure (by cases n <;> rfl)
  | .text y, _, n, s, x, _ => by cases x; exact noCls_pure (by cases n <;> rfl)
  | .tup ks, _, n, s, x, hn => by
    cases x with
    | tup hg hc hd hk =>
      simp only [NestedKey.depth] at hn
      cases n with
      | zero => omega
      | succ n => exact .tuple hg hc hd (noCls_keys ks _ n s hk (by omega))
theorem noCls_keys : ∀ (ks : List NestedKey) (vs : List Value) (n : Nat) (s : Shared), NestedAll s.heap ks vs → NestedKey.depthAll ks ≤ n → ∀ v ∈ vs, NoCls P w n s v
  | [], _, n, s, x, _, v, hv => by cases x; cases hv
  | k :: ks, _, n, s, x, hn, v, hv => by
    cases x with
    | cons x1 x2 =>
      simp only [NestedKey.depthAll] at hn
      rcases List.mem_cons.mp hv with e | hv
      · exact e ▸ noCls_key k _ n s x1 (by omega)
      · exact noCls_keys ks _ n s x2 (by omega) v hv
end
mutual
theorem hashV_key : ∀ (k : NestedKey) (v : Value) (n : Nat) (s : Shared), NestedIs s.heap k v → k.depth ≤ n → HashV P w n s v
  | .none, _, n, s, x, _ => by cases x; exact hashV_pure (b := true) (by cases n <;> rfl)
  | .num i, _, n, s, x, _ => by cases x <;> exact hashV_pure (b := true) (by cases n <;> rfl)
  | .text y, _, n, s, x, _ => by cases x; exact hashV_pure (b := false) (by cases n <;> rfl)
  | .tup ks, _, n, s, x, hn => by
    cases x with
    | tup hg hc hd hk =>
      simp only [NestedKey.depth] at hn
      cases n with
      | zero => omega
      | succ n => exact .tuple hg hc hd (hashV_keys ks _ n s hk (by omega))
theorem hashV_keys : ∀ (ks : List NestedKey) (vs : List Value) (n : Nat) (s : Shared), NestedAll s.heap ks vs → NestedKey.depthAll ks ≤ n → ∀ v ∈ vs, HashV P w n s v
  | [], _, n, s, x, _, v, hv => by cases x; cases hv
  | k :: ks, _, n, s, x, hn, v, hv => by
    cases x with
    | cons x1 x2 =>
      simp only [NestedKey.depthAll] at hn
      rcases List.mem_cons.mp hv with e | hv
      · exact e ▸ hashV_key k _ n s x1 (by omega)
      · exact hashV_keys ks _ n s x2 (by omega) v hv
end
/-- a search among such keys shows nothing -/
theorem seen_none {k : NestedKey} {b : Addr} {Q : Bool → Shared → Prop} (hk : NIs P w s.heap k b) {ys : List Value} (hy : ∀ y ∈ ys, ∃ k' c, y = Value.ref c ∧ NIs P w s.heap k' c) (h : Q false s) :
    wpAny (model P w) A (searchCouldBeSeen (.ref b) ys) Q E s := by
  unfold searchCouldBeSeen
  refine wpAny_bind ?_
  refine wpAny_forIn_list _ (fun rest r s' => r.1 = none ∧ s' = s ∧ ∀ y ∈ rest, ∃ k' c, y = Value.ref c ∧ NIs P w s.heap k' c) _ ?_ ?_ _ _ ⟨rfl, rfl, hy⟩
  · rintro v rest r s2 ⟨er, rfl, ha⟩
    obtain ⟨k2, c, rfl, hc⟩ := ha v List.mem_cons_self
    have more : ∀ y ∈ rest, ∃ k' c, y = Value.ref c ∧ NIs P w s2.heap k' c := fun u m => ha u (List.mem_cons_of_mem _ m)
    dsimp only
    by_cases same : (b == c || (carriedByValue (.ref b) && carriedByValue (.ref c))) = true
    · exact wp_if_pos same (wpAny_pure ⟨rfl, rfl, more⟩)
    · refine wp_if_neg same (wpAny_bind ((nestedKind P w).quiet hk ?_))
      simp only [Bool.not_true, Bool.false_eq_true, if_false]
      refine wpAny_bind ((nestedKind P w).quiet hc ?_)
      simp only [Bool.not_true, Bool.false_eq_true, if_false]
      refine wpAny_bind (noCls_key k (.ref b) 8 _ hk.1 hk.2 _ _ _ ?_)
      simp only [Bool.false_eq_true, if_false]
      refine wpAny_bind (noCls_key k2 (.ref c) 8 _ hc.1 hc.2 _ _ _ ?_)
      simp only [Bool.false_eq_true, if_false]
      exact wpAny_pure ⟨rfl, rfl, more⟩
  · rintro ⟨r1, r2⟩ s2 ⟨er, rfl, _⟩
    simp only at er
    subst er
    exact wpAny_pure h
/-! the set -/
def rowsN (w : World) (L : List NRow) : List (Int × Value) := L.map fun p => (nhash w p.2, Value.ref p.1)
structure SetN (P : Program) (w : World) (h : Heap) (a : Addr) (L : List NRow) (es : Array (Int × Value)) (ep : Nat) (t : SetTable) : Prop where
  obj : ∃ o, h.get? a = some o ∧ o.ExactSet ∧ o.data = .set es ep t
  rows : es.toList = rowsN w L
  tab : TabOk t (L.map fun p => nhash w p.2)
  nodup : (L.map (·.2)).Nodup
  keys : ∀ p ∈ L, NIs P w h p.2 p.1
  led : w.params.followText "set-order" = true ∨ t.led = true
  seven : t.mask = 7
  four : L.length ≤ 4
variable {a : Addr} {L : List NRow} {es : Array (Int × Value)} {ep : Nat} {t : SetTable}
theorem SetN.size (R : SetN P w s.heap a L es ep t) : es.size = L.length := by
  have e := congrArg List.length R.rows
  unfold rowsN at e
  rwa [Array.length_toList, List.length_map] at e
theorem SetN.places (R : SetN P w s.heap a L es ep t) : t.place.toList.length = L.length := by
  have e := R.tab.sz
  rwa [List.length_map, ← Array.length_toList] at e
theorem SetN.fit (R : SetN P w s.heap a L es ep t) : t.fits es.size = true := by
  have e1 := R.places
  have e2 := R.size
  have e3 := R.four
  have e4 := R.seven
  rw [Array.length_toList] at e1
  unfold SetTable.fits SetTable.fill
  rw [R.tab.dm, Bool.and_eq_true, beq_iff_eq, decide_eq_true_eq]
  refine ⟨by omega, ?_⟩
  show t.place.size + 0 ≤ t.mask
  omega
theorem SetN.row (R : SetN P w s.heap a L es ep t) {i : Nat} {p : NRow} (h : L[i]? = some p) : es[i]? = some (nhash w p.2, Value.ref p.1) := by
  rw [← Array.getElem?_toList, R.rows]
  unfold rowsN
  rw [List.getElem?_map, h]
  rfl
theorem SetN.kept (R : SetN P w s.heap a L es ep t) : ¬ t.gaveWay = true := by
  unfold SetTable.gaveWay
  rw [R.seven]
  decide
theorem no_dummy (m : Nat) : ∀ (n : Nat) (p : SetTable.Probe), p.dummy = none → (nth m p n).dummy = none
  | 0, _, h => h
  | n + 1, p, h => no_dummy m n (adv m p) (by
    unfold adv
    split <;> exact h)
/-- where the search for the hash h stands at its c-th step -/
abbrev stepN (t : SetTable) (h : Int) (c : Nat) : SetTable.Probe := nth t.mask (runAt t.mask (SetTable.bits h % (t.mask + 1)) (SetTable.bits h)) c
/-- from the c-th step on -/
theorem seek_from (R : SetN P w s.heap a L es ep t) {x : Addr} {k : NestedKey} (hx : NIs P w s.heap k x) (hu : A.units + 8 < cLine) {K : Nat} (kLt : K < 10 * SetTable.turns t.mask)
    (kFree : way t.mask (nhash w k) K ∉ t.place.toList) (kBef : ∀ c, c < K → way t.mask (nhash w k) c ∈ t.place.toList) {Q : SetFound → Shared → Prop}
    (qIn : k ∈ L.map (·.2) → Q (.there none) s) (qOut : k ∉ L.map (·.2) → Q (.free (way t.mask (nhash w k) K) false) s) :
    ∀ (f c : Nat) (st : Option SetTable.Probe), st.getD (t.probeStart (nhash w k)) = stepN t (nhash w k) c → c ≤ K → K - c < f →
      (∀ (i : Nat) p, L[i]? = some p → p.2 = k → ∃ c', c ≤ c' ∧ c' < K ∧ t.place.toList[i]? = some (way t.mask (nhash w k) c')) →
      wpAny (model P w) A (setSearchFrom a (.ref x) (nhash w k) true f st) Q E s
  | 0, c, st, _, _, lt, _ => absurd lt (Nat.not_lt_zero _)
  | f + 1, c, st, est, cle, lt, lies => by
    obtain ⟨o, g, gx, gd⟩ := R.obj
    rw [setSearchFrom_succ]
    refine wpAny_bind (wpAny_setState_of g gd R.fit ?_)
    dsimp only
    refine wp_if_neg R.kept ?_
    try refine wpAny_bind (wpAny_pure ?_)
    have nodum : (stepN t (nhash w k) c).dummy = none := no_dummy _ c _ rfl
    have shift : ∀ q, nth t.mask (stepN t (nhash w k) c) q = stepN t (nhash w k) (c + q) := fun q => (nth_add t.mask c _ q).symm
    have at_j : ∀ q, (nth t.mask (stepN t (nhash w k) c) q).j = way t.mask (nhash w k) (c + q) := fun q => congrArg SetTable.Probe.j (shift q)
    have eK : c + (K - c) = K := by omega
    have hashOf : ∀ (i : Nat) p, L[i]? = some p → (fun i => (es[i]?.map (·.1)).getD 0) i = nhash w p.2 := fun i p hp => by
      show (es[i]?.map (·.1)).getD 0 = _
      rw [R.row hp]
      rfl
    rcases go_spec t R.tab.ris R.tab.dm (fun i => (es[i]?.map (·.1)).getD 0) (nhash w k) (10 * SetTable.turns t.mask) (K - c) _ nodum (by omega) (fun q hq => by rw [at_j]; exact kBef (c + q) (by omega)) (by rw [at_j, eK]; exact kFree) with ⟨q, i, hq, hi, _, hno, hpr⟩ | ⟨hno, hpr⟩
    · have pr : t.probe (fun i => (es[i]?.map (·.1)).getD 0) (nhash w k) (st.getD (t.probeStart (nhash w k))) = some (.candidate (way t.mask (nhash w k) (c + q)) i (stepN t (nhash w k) (c + (q + 1)))) := by
        rw [est, ← at_j, ← shift]
        exact hpr
      rw [pr]
      dsimp only
      rw [at_j] at hi
      have hil : i < L.length := by
        rw [← R.places]
        exact (List.getElem?_eq_some_iff.mp hi).1
      have hp : L[i]? = some L[i] := List.getElem?_eq_getElem hil
      generalize L[i] = p at hp
      have hm : p ∈ L := List.mem_of_getElem? hp
      have hpk := R.keys p hm
      have rest : wpAny (model P w) A (searchRest a (.ref x) (nhash w k) true f es t (way t.mask (nhash w k) (c + q)) i (stepN t (nhash w k) (c + (q + 1)))) Q E s := by
        unfold searchRest
        rw [R.row hp]
        dsimp only
        refine wpAny_bind (wpAny_holding ((nestedKind P w).eqBool hu hpk hx ?_))
        refine wpAny_bind (wpAny_setState_of g gd R.fit ?_)
        dsimp only
        by_cases hkk : p.2 = k
        · exact wp_if_pos (by simp [hkk]) (wpAny_pure (qIn (List.mem_map.mpr ⟨p, hm, hkk⟩)))
        · refine wp_if_neg (by simp [hkk]) ?_
          try refine wpAny_bind (wpAny_pure ?_)
          rw [sameMem]
          dsimp only
          have live : t.slot (way t.mask (nhash w k) (c + q)) = .live i := slot_live R.tab.ris hi
          simp only [if_true, live, R.row hp]
          refine wpAny_bind (wpAny_isSame_ref_self (wpAny_bind (wpAny_pure ?_)))
          simp only [if_true]
          refine wp_if_neg (by simp [hkk]) (seek_from R hx hu kLt kFree kBef qIn qOut f (c + (q + 1)) _ rfl (by omega) (by omega) fun i0 p0 h0 k0 => ?_)
          obtain ⟨c', b1, b2, b3⟩ := lies i0 p0 h0 k0
          refine ⟨c', ?_, b2, b3⟩
          rcases Nat.lt_trichotomy c' (c + q) with z | z | z
          · exact absurd ((hashOf i0 p0 h0).trans (congrArg (nhash w) k0)) (hno (c' - c) i0 (by omega) (by rw [at_j, show c + (c' - c) = c' by omega]; exact b3))
          · rw [z] at b3
            have l2 := slot_live R.tab.ris b3
            rw [live] at l2
            injection l2 with l2
            rw [← l2, hp] at h0
            exact absurd ((congrArg Prod.snd (Option.some.inj h0)).trans k0) hkk
          · omega
      by_cases hl : t.led = true
      · refine wp_if_neg (by simp [hl]) ?_
        try refine wpAny_bind (wpAny_pure ?_)
        exact rest
      · refine wp_if_pos (by simp [hl]) (wpAny_bind (seen_none hx (fun y hy => ?_) ?_))
        · obtain ⟨e, he, ee⟩ := List.mem_map.mp hy
          have he1 : e ∈ es ∧ e.1 = nhash w k := by simpa using he
          have he2 : e ∈ es.toList := by simpa using he1.1
          rw [R.rows] at he2
          obtain ⟨p2, m2, e2⟩ := List.mem_map.mp he2
          exact ⟨p2.2, p2.1, by rw [← ee, ← e2], R.keys p2 m2⟩
        · refine wp_if_neg (by decide) ?_
          try refine wpAny_bind (wpAny_pure ?_)
          exact rest
    · have pr : t.probe (fun i => (es[i]?.map (·.1)).getD 0) (nhash w k) (st.getD (t.probeStart (nhash w k))) = some (.empty (way t.mask (nhash w k) K) none) := by
        have e2 : way t.mask (nhash w k) K = (nth t.mask (stepN t (nhash w k) c) (K - c)).j := by rw [at_j, eK]
        rw [est, e2]
        exact hpr
      rw [pr]
      dsimp only
      refine wpAny_pure (qOut fun hm => ?_)
      obtain ⟨p0, m0, k0⟩ := List.mem_map.mp hm
      obtain ⟨i0, h0⟩ := List.mem_iff_getElem?.mp m0
      obtain ⟨c', b1, b2, b3⟩ := lies i0 p0 h0 k0
      exact hno (c' - c) i0 (by omega) (by rw [at_j, show c + (c' - c) = c' by omega]; exact b3) ((hashOf i0 p0 h0).trans (congrArg (nhash w) k0))
/-- the search of adding -/
theorem seek_at (R : SetN P w s.heap a L es ep t) {x : Addr} {k : NestedKey} (hx : NIs P w s.heap k x) (hu : A.units + 8 < cLine) {Q : SetFound → Shared → Prop}
    (qIn : k ∈ L.map (·.2) → Q (.there none) s)
    (qOut : ∀ K, k ∉ L.map (·.2) → way t.mask (nhash w k) K ∉ t.place.toList → (∀ c, c < K → way t.mask (nhash w k) c ∈ t.place.toList) → Q (.free (way t.mask (nhash w k) K) false) s) :
    wpAny (model P w) A (setSearch a (.ref x) (nhash w k) true) Q E s := by
  have h4 := R.four
  have h7 := R.seven
  obtain ⟨K, kLt, kFree, kBef⟩ := R.tab.first (by rw [List.length_map]; omega) (nhash w k)
  have small : K < 100000 := by
    have e : 10 * SetTable.turns t.mask ≤ 1420 := by
      unfold SetTable.turns
      omega
    omega
  unfold setSearch
  refine seek_from R hx hu kLt kFree kBef qIn (fun hn => qOut K hn kFree kBef) 100000 0 none rfl (Nat.zero_le _) (by omega) fun i p hp hk => ?_
  have hi : (L.map fun p => nhash w p.2)[i]? = some (nhash w k) := by
    rw [List.getElem?_map, hp, ← hk]
    rfl
  have hil : i < t.place.toList.length := by
    rw [R.places]
    exact (List.getElem?_eq_some_iff.mp hp).1
  have hj := List.getElem?_eq_getElem hil
  obtain ⟨c, hc, e⟩ := R.tab.before kFree hi hj
  exact ⟨c, Nat.zero_le _, hc, by rw [hj, e]⟩
theorem NIs.but {h h' : Heap} {k : NestedKey} {a b : Addr} {o : Obj} {es : Array (Int × Value)} {ep : Nat} {t : SetTable} (x : NIs P w h k b) (g : h.get? a = some o) (gd : o.data = .set es ep t) (sb : Heap.SameBut a h h') : NIs P w h' k b :=
  nestedKind_stays.stays (fun c u vs n e d => by
    refine (sb.2 c fun z => ?_).trans e
    subst z
    rw [g] at e
    cases e
    rw [gd] at d
    cases d) x
theorem NIs.keep {h h' : Heap} {k : NestedKey} {b : Addr} (x : NIs P w h k b) (hk : ∀ c o, h.get? c = some o → h'.get? c = some o) : NIs P w h' k b := nestedKind_stays.stays (fun c u _ _ e _ => hk c u e) x
theorem rowsN_put (L : List NRow) (p : Nat) (x : Addr) (k : NestedKey) : rowsN w (L.take p ++ (x, k) :: L.drop p) = (rowsN w L).take p ++ (nhash w k, Value.ref x) :: (rowsN w L).drop p := by
  unfold rowsN
  rw [List.map_append, List.map_cons, List.map_take, List.map_drop]
/-- a key more -/
theorem grow_at (R : SetN P w s.heap a L es ep t) {x : Addr} {k : NestedKey} (hx : NIs P w s.heap k x) (hu : A.units + 8 < cLine) (room : L.length + 1 ≤ 4) {Q : Bool → Shared → Prop}
    (hQ : ∀ b h' L' es' ep' t', Heap.SameBut a s.heap h' → SetN P w h' a L' es' ep' t' → (k ∈ L.map (·.2) → L' = L) → (k ∉ L.map (·.2) → L'.Perm ((x, k) :: L)) → Q b { s with heap := h' }) :
    wpAny (model P w) A (setAddHashed a (.ref x) (nhash w k)) Q E s := by
  obtain ⟨o, g, gx, gd⟩ := R.obj
  have sz := R.size
  unfold setAddHashed
  refine wpAny_holding ?_
  rw [show (100000 : Nat) = 99999 + 1 from rfl, setAddHashedIn_succ]
  refine wpAny_bind (wpAny_setState_of g gd R.fit ?_)
  dsimp only
  refine wp_if_neg (by simp [byScan, Value.scannable]) ?_
  try refine wpAny_bind (wpAny_pure ?_)
  refine wpAny_bind (seek_at R hx hu (fun hm => ?_) fun K hm kFree kBef => ?_)
  · dsimp only
    exact wpAny_pure (hQ false s.heap L es ep t (Heap.SameBut.refl a s.heap) R (fun _ => rfl) fun z => absurd hm z)
  · dsimp only
    refine wpAny_bind (wpAny_setState_of g gd R.fit ?_)
    dsimp only
    obtain ⟨q1, q2, q3, q4, q5, q6, q7, q8, q9⟩ := R.tab.put kFree kBef
    have in1 : (SetTable.insertAt es (SetTable.below t.place (way t.mask (nhash w k) K)) (nhash w k, Value.ref x)).toList = rowsN w (L.take (SetTable.below t.place (way t.mask (nhash w k) K)) ++ (x, k) :: L.drop (SetTable.below t.place (way t.mask (nhash w k) K))) := by
      rw [SetTable.toList_insertAt, rowsN_put, R.rows]
    generalize hpt : t.put (way t.mask (nhash w k) K) = pt at q1 q3 q4 q5 q6 q7 q8 q9 ⊢
    obtain ⟨t1, p⟩ := pt
    dsimp only at q1 q3 q4 q5 q6 q7 q8 q9 ⊢
    subst q1
    generalize SetTable.below t.place (way t.mask (nhash w k) K) = p at q2 q3 in1 ⊢
    have pm := put_perm L p (x, k)
    have len1 : (L.take p ++ (x, k) :: L.drop p).length = L.length + 1 := pm.length_eq
    have hs1 : (L.take p ++ (x, k) :: L.drop p).map (fun p => nhash w p.2) = (L.map fun p => nhash w p.2).take p ++ nhash w k :: (L.map fun p => nhash w p.2).drop p := by
      rw [List.map_append, List.map_cons, List.map_take, List.map_drop]
    rw [← hs1] at q3
    have nd1 : ((L.take p ++ (x, k) :: L.drop p).map (·.2)).Nodup := by
      refine (pm.map (·.2)).nodup_iff.mpr ?_
      rw [List.map_cons]
      exact List.nodup_cons.mpr ⟨hm, R.nodup⟩
    have sz1 : (SetTable.insertAt es p (nhash w k, Value.ref x)).size = L.length + 1 := by
      have e := congrArg List.length in1
      unfold rowsN at e
      rwa [Array.length_toList, List.length_map, len1] at e
    generalize SetTable.insertAt es p (nhash w k, Value.ref x) = es1 at in1 sz1 ⊢
    generalize L.take p ++ (x, k) :: L.drop p = L1 at pm len1 q3 nd1 in1
    have fin : ∀ t2 : SetTable, t2.place = t1.place → t2.dummies = t1.dummies → t2.mask = t1.mask → t2.led = t1.led → TabOk t2 (L1.map fun p => nhash w p.2) → t2.tooFull = false →
        wpAny (model P w) A (do
          storeSet a es1 t2
          if !false && t2.tooFull then setRelay a (SetTable.grown (es.size + 1))
          return true) Q E s := fun t2 e1 e2 e3 e4 tab2 nf => by
      refine wpAny_bind (wpAny_storeSet_of g gd ?_ (by rw [sz1, sizeLine_eq]; omega))
      have sb : Heap.SameBut a s.heap (s.heap.update a (Obj.putSet es1 t2)) := Heap.SameBut.update ..
      have g1 := store_at (es' := es1) (t' := t2) g gd
      generalize s.heap.update a (Obj.putSet es1 t2) = h1 at sb g1 ⊢
      rw [nf]
      simp only [Bool.and_false, Bool.false_eq_true, if_false]
      first
        | refine wpAny_pure ?_
        | refine wpAny_bind (wpAny_pure (wpAny_pure ?_))
      refine (hQ true h1 L1 es1 (ep + 1) t2 sb ⟨⟨_, g1, ⟨gx.1, gx.2.1, gx.2.2⟩, rfl⟩, in1, tab2, nd1, fun p hp => ?_, ?_, by rw [e3, q4]; exact R.seven, by rw [len1]; exact room⟩ (fun z => absurd z hm) fun _ => pm)
      · rcases List.mem_cons.mp (pm.mem_iff.mp hp) with e | hp
        · rw [e]
          exact hx.but g gd sb
        · exact (R.keys p hp).but g gd sb
      · rw [e4, q5]
        exact R.led
    have nf : t1.tooFull = false := by
      unfold SetTable.tooFull
      rw [q9, List.length_map, q4, R.seven]
      exact decide_eq_false (by omega)
    by_cases hp : t1.plain = true
    · refine wp_if_pos hp (wpAny_bind (hashV_key k (.ref x) 8 s hx.1 hx.2 _ _ _ fun b => ?_))
      cases b with
      | true => exact fin t1 rfl rfl rfl rfl q3 nf
      | false => exact fin { t1 with plain := false } rfl rfl rfl rfl ⟨q3.ris, q3.dm, q3.sz, q3.mok, q3.bd, q3.reach⟩ nf
    · exact wp_if_neg hp (wpAny_bind (wpAny_pure (fin t1 rfl rfl rfl rfl q3 nf)))
theorem SetN.stay {h h' : Heap} {a : Addr} {L : List NRow} {es : Array (Int × Value)} {ep : Nat} {t : SetTable} (R : SetN P w h a L es ep t) (ha : ∀ o, h.get? a = some o → h'.get? a = some o) (ht : ∀ p ∈ L, NIs P w h' p.2 p.1) : SetN P w h' a L es ep t := by
  obtain ⟨o, g, r⟩ := R.obj
  exact ⟨⟨o, ha o g, r⟩, R.rows, R.tab, R.nodup, ht, R.led, R.seven, R.four⟩
theorem setN_none {h : Heap} {a : Addr} (g : h.get? a = some (noSet w)) : SetN P w h a [] #[] 0 (.fresh 0 0 (!w.params.followText "set-order")) where
  obj := ⟨_, g, ⟨rfl, rfl, rfl⟩, rfl⟩
  rows := rfl
  tab := ⟨List.Pairwise.nil, rfl, rfl, .inl rfl, fun x hx => (by cases hx), fun i h j hi => (by simp at hi)⟩
  nodup := List.nodup_nil
  keys := fun p hp => nomatch hp
  led := by
    show _ ∨ (!w.params.followText "set-order") = true
    cases w.params.followText "set-order"
    · exact .inr rfl
    · exact .inl rfl
  seven := rfl
  four := Nat.zero_le 4
/-- what has come of the first i -/
structure GotN (ks : List NRow) (i : Nat) (L : List NRow) : Prop where
  sub : ∀ p ∈ L, p ∈ ks.take i
  all : ∀ p ∈ ks.take i, p.2 ∈ L.map (·.2)
  len : L.length ≤ i
theorem GotN.old {ks L : List NRow} {i : Nat} {x : NRow} (g : GotN ks i L) (h : ks[i]? = some x) (hm : x.2 ∈ L.map (·.2)) : GotN ks (i + 1) L := by
  refine ⟨fun p hp => ?_, fun p hp => ?_, Nat.le_succ_of_le g.len⟩
  · rw [L2.take_next h]
    exact List.mem_append_left _ (g.sub p hp)
  · rw [L2.take_next h] at hp
    rcases List.mem_append.mp hp with z | z
    · exact g.all p z
    · rw [List.mem_singleton.mp z]; exact hm
theorem GotN.new {ks L L' : List NRow} {i : Nat} {x : NRow} (g : GotN ks i L) (h : ks[i]? = some x) (pm : L'.Perm (x :: L)) : GotN ks (i + 1) L' := by
  refine ⟨fun p hp => ?_, fun p hp => ?_, ?_⟩
  · rw [L2.take_next h]
    rcases List.mem_cons.mp (pm.mem_iff.mp hp) with e | z
    · exact List.mem_append_right _ (List.mem_singleton.mpr e)
    · exact List.mem_append_left _ (g.sub p z)
  · rw [(pm.map (·.2)).mem_iff, List.map_cons]
    rw [L2.take_next h] at hp
    rcases List.mem_append.mp hp with z | z
    · exact List.mem_cons_of_mem _ (g.all p z)
    · rw [List.mem_singleton.mp z]; exact List.mem_cons_self
  · rw [pm.length_eq, List.length_cons]
    exact Nat.succ_le_succ g.len
/-- the loop of set.__init__ -/
theorem fill_from {I : Addr} {fp wr : List Addr} {G : Array GenState → Array GenState → Prop} {n : Nat} {Pv : Nat → Value → Prop} {St : Nat → Shared → Prop} {R : Result → Shared → Prop}
    (W : WalksS P w A.in1 I fp wr G n Pv St) (S : Addr) (nS : S ∉ fp) (ks : List NRow) (en : n = ks.length) (four : ks.length ≤ 4) (vals : ∀ i v, Pv i v → ∃ p, ks[i]? = some p ∧ v = .ref p.1)
    (h0 : Heap) (hk : ∀ p ∈ ks, NIs P w h0 p.2 p.1) (S0 : h0.get? S = none) (w0 : ∀ b ∈ wr, h0.get? b = none) (hu : A.in1.units + 8 < cLine) :
    ∀ (k i : Nat) (s : Shared), n - i = k → i ≤ n → St i s → (∀ b o, h0.get? b = some o → s.heap.get? b = some o) → (∃ L es ep t, SetN P w s.heap S L es ep t ∧ GotN ks i L) →
      (∀ s' L es ep t, Moved (S :: wr) G s s' → SetN P w s'.heap S L es ep t → GotN ks n L → (∀ b o, h0.get? b = some o → s'.heap.get? b = some o) → R (.ok (.ret .none)) s') →
      codeAny (model P w) A (.builtin "set.update.loop" ⟨[.ref S, .ref I], []⟩) R s := by
  have nSw : S ∉ wr := fun z => nS (W.sub _ z)
  have up : ∀ b ∈ wr, b ∈ S :: wr := fun b z => List.mem_cons_of_mem _ z
  have keepM : ∀ {s s' : Shared}, Moved wr G s s' → (∀ b o, h0.get? b = some o → s.heap.get? b = some o) → ∀ b o, h0.get? b = some o → s'.heap.get? b = some o := fun m kp b o e =>
    m.heap b o (fun z => by rw [w0 b z] at e; cases e) (kp b o e)
  intro k
  induction k with
  | zero =>
    intro i s ek li st kp ⟨L, es, ep, t, hS, g⟩ fin
    have e : i = n := by omega
    subst e
    refine codeAny_builtin F.entry_set_update_loop ?_
    rw [Around.under_plainId F.plain_set_update_loop _]
    show wpAny _ A.in1 (pyNext (.ref I) >>= _) _ _ s
    refine wpAny_bind (W.done s _ _ st fun s2 m => ?_)
    have kp2 := keepM m kp
    exact wpAny_pure (fin s2 L es ep t (m.mono up) (hS.stay (fun o e => m.heap S o nSw e) fun p hp => (hk p (List.mem_of_mem_take (g.sub p hp))).keep kp2) g kp2)
  | succ k ih =>
    intro i s ek li st kp ⟨L, es, ep, t, hS, g⟩ fin
    have lt : i < n := by omega
    refine codeAny_builtin F.entry_set_update_loop ?_
    rw [Around.under_plainId F.plain_set_update_loop _]
    show wpAny _ A.in1 (pyNext (.ref I) >>= _) _ _ s
    refine wpAny_bind (W.item i s _ _ lt st fun v s2 hP st2 m => ?_)
    obtain ⟨p, hp, rfl⟩ := vals i v hP
    have kp2 := keepM m kp
    have hS2 : SetN P w s2.heap S L es ep t := hS.stay (fun o e => m.heap S o nSw e) fun q hq => (hk q (List.mem_of_mem_take (g.sub q hq))).keep kp2
    have hx : NIs P w s2.heap p.2 p.1 := (hk p (List.mem_of_getElem? hp)).keep kp2
    show wpAny _ A.in1 (holding [Value.ref p.1] (setAdd S (.ref p.1)) >>= _) _ _ s2
    refine wpAny_bind (wpAny_holding ?_)
    unfold setAdd
    refine wpAny_holding (wpAny_bind ((nestedKind P w).pyHash hu hx ?_))
    refine grow_at (s := { s2 with toks := s2.toks + (nestedKind P w).draws p.2 }) hS2 hx hu (by have := g.len; omega) fun b h3 L3 es3 ep3 t3 sb hS3 c1 c2 => ?_
    have g3 : GotN ks (i + 1) L3 := by
      rcases Classical.em (p.2 ∈ L.map (·.2)) with c | c
      · rw [c1 c]; exact g.old hp c
      · exact g.new hp (c2 c)
    have kp3 : ∀ b o, h0.get? b = some o → h3.get? b = some o := fun b o e => (sb.2 b (fun z => by rw [z, S0] at e; cases e)).trans (kp2 b o e)
    refine wpAny_pure ⟨plainId_quiet F.plain_set_update_loop _, ih (i + 1) _ (by omega) lt (W.frame _ s2 _ _ st2 (Nat.le_add_right _ _) fun b hb o e => ?_) kp3 ⟨L3, es3, ep3, t3, hS3, g3⟩ fun s4 L4 es4 ep4 t4 m4 hS4 g4 kp4 => ?_⟩
    · rw [sb.2 b (fun z : b = S => nS (by rw [← z]; exact hb))]; exact e
    · refine fin s4 L4 es4 ep4 t4 (Moved.trans W.gtrans ((m.mono up).then_heap (Nat.le_add_right _ _) fun b o hb e => ?_) m4) hS4 g4 kp4
      rw [sb.2 b (fun z : b = S => hb (by rw [z]; exact List.mem_cons_self))]; exact e
end
/-! as tracked -/
structure SetS (P : Program) (w : World) (h : Heap) (a : Addr) (L : List NRow) : Prop where
  ex : ∃ (es : Array (Int × Value)) (ep : Nat) (t : SetTable), (∃ o, h.get? a = some o ∧ o.ExactSet ∧ o.data = .set es ep t) ∧ es.toList = rowsN w L ∧ TabOk t (L.map fun p => nhash w p.2) ∧ (w.params.followText "set-order" = true ∨ t.led = true) ∧ t.mask = 7
  nodup : (L.map (·.2)).Nodup
  four : L.length ≤ 4
def SetNO (P : Program) (w : World) (a : Addr) (L : List NRow) : HO := .ext fun h => SetS P w h a L
theorem SetN.s {P : Program} {w : World} {h : Heap} {a : Addr} {L : List NRow} {es : Array (Int × Value)} {ep : Nat} {t : SetTable} (R : SetN P w h a L es ep t) : SetS P w h a L := ⟨⟨es, ep, t, R.obj, R.rows, R.tab, R.led, R.seven⟩, R.nodup, R.four⟩
theorem SetS.ok {P : Program} {w : World} {H : Hp} {h : Heap} {a : Addr} {L : List NRow} (d : SetS P w h a L) : ObjOk P w H h a (SetNO P w a L) := by
  have ⟨es, ep, t, ⟨o, ho, r⟩, _⟩ := d.ex
  exact ⟨d, ⟨o, ho⟩, fun h1 h2 p k => ⟨let ⟨es, ep, t, ⟨o, ho, r⟩, r2⟩ := p.ex; ⟨es, ep, t, ⟨o, k o ho, r⟩, r2⟩, p.nodup, p.four⟩⟩
/-- set(a list of such tuples) -/
def rSetN (K : PySem.W.Frag) (P : Program) (w : World) : List V → Hp → VK → Prop := fun xs H Q => ∃ (l : Addr) (ks : List (Addr × PyData)), xs = [.ref l] ∧ SqL K H l (ks.map fun p => V.ref p.1) ∧ (∀ p ∈ ks, Tp K H (.ref p.1) p.2 ∧ simD p.2 = true ∧ p.2.depth ≤ 8) ∧ ks.length ≤ 4 ∧
  ∀ (p : Addr) (L : List NRow), H p = none → (L.map (·.2)).Nodup → (∀ q ∈ L, ∃ r ∈ ks, q = (r.1, keyD r.2)) → (∀ r ∈ ks, keyD r.2 ∈ L.map (·.2)) → Q (.ref p) (upd H p (SetNO P w p L))
theorem refsN : ∀ {ks : List (Addr × PyData)} {us : List Value}, Vals (ks.map fun p => V.ref p.1) us → us = ks.map fun p => Value.ref p.1
  | [], _, r => by cases r; rfl
  | p :: ks, us, r => by
    rw [List.map_cons] at r
    cases r with
    | cons r1 r2 =>
      rw [refsN r2, List.map_cons]
      obtain rfl := r1
      rfl
theorem GotN.zero (ks : List NRow) : GotN ks 0 [] := ⟨fun p h => (by cases h), fun p h => (by simp at h), Nat.le_refl _⟩
section
variable {X : Cx}
theorem cr_setN (hc : X.calm = true) (hu : X.A.units + 64 < cLine) : CallR X (.type "set") (rSetN X.K X.prog X.w) := by
  intro pins s σ H xs us Q I r h
  obtain ⟨l, ks, rfl, hs, hk, h4, q⟩ := h
  obtain rfl := Vals.ref1 r
  have hh : X.A.handled = none := I.ok.hd hc
  obtain ⟨its, rv, pl, hz⟩ := I.list hs
  obtain rfl := refsN rv
  have hlS : l < s.heap.objs.size := by
    obtain ⟨o, ho, _⟩ := pl.isList
    exact Heap.lt_size ho
  refine call_set_lst pl.isList fun S J eS eJ h1 hS hit hl1 hkeep => ?_
  subst eS eJ
  have hneI : l ≠ s.heap.objs.size + 1 := Nat.ne_of_lt (Nat.lt_succ_of_lt hlS)
  have hsz : ((ks.map fun p => Value.ref p.1).toArray).size = (ks.map fun p => (p.1, keyD p.2)).length := by simp
  refine fill_from (A := X.A.in1.in1) ((Walks.list (A := X.A.in1.in1.in1) hh _ l hneI _).toS) s.heap.objs.size ?_ (ks.map fun p => (p.1, keyD p.2)) hsz (by rw [List.length_map]; exact h4) ?_ s.heap ?_ ?_ ?_ (by show X.A.units + 1 + 1 + 1 + 8 < cLine; omega) _ 0 _ rfl (Nat.zero_le _) ⟨hit, hl1⟩ hkeep ⟨[], _, _, _, setN_none hS, GotN.zero _⟩ ?_
  · simp only [List.mem_cons, List.mem_singleton, List.not_mem_nil, or_false, not_or]
    exact ⟨Nat.ne_of_lt (Nat.lt_succ_self _), Nat.ne_of_gt hlS⟩
  · intro i v hv
    rw [List.getElem?_toArray, List.getElem?_map] at hv
    cases e : ks[i]? with
    | none => rw [e] at hv; cases hv
    | some p =>
      rw [e] at hv
      exact ⟨(p.1, keyD p.2), by rw [List.getElem?_map, e]; rfl, (Option.some.inj hv).symm⟩
  · intro p hp
    obtain ⟨z, hz2, rfl⟩ := List.mem_map.mp hp
    obtain ⟨t1, t2, t3⟩ := hk z hz2
    exact ⟨t1.nested I t2 rfl, Nat.le_trans (keyD_depth _) t3⟩
  · exact Heap.get?_none_of_le (Nat.le_refl _)
  · intro b hb
    rw [List.mem_singleton] at hb
    subst hb
    exact Heap.get?_none_of_le (Nat.le_succ _)
  · intro s2 L es ep t m R g kp
    obtain ⟨h2, g2, d2, tk2, os2⟩ := s2
    have eg : g2 = s.gens := m.gens
    have ed : d2 = s.drawn := m.drawn
    have eo : os2 = s.os := m.os
    subst eg; subst ed; subst eo
    refine ⟨rfl, .ref s.heap.objs.size, _, I.laid (t' := tk2) kp (Nat.le_refl _) R.s.ok, rfl, q _ L (I.hok.fresh (Nat.le_refl _)) R.nodup (fun p hp => ?_) fun r2 hr2 => ?_⟩
    · have hm := List.mem_of_mem_take (g.sub p hp)
      obtain ⟨z, hz2, e⟩ := List.mem_map.mp hm
      exact ⟨z, hz2, e.symm⟩
    · refine g.all (r2.1, keyD r2.2) ?_
      rw [hsz, List.take_length]
      exact List.mem_map.mpr ⟨r2, hr2, rfl⟩
end
end Lo
set_option Elab.async false
set_option linter.all false
set_option maxRecDepth 100000
set_option maxHeartbeats 4000000
/-! sorted(set(..)) of nested tuples -/
namespace Lo
open PySem PySem.Spec PySem.Calls PyProof.Rows L2
/-! the order of data is one -/
theorem toks_ne {a b : PyData} (h : PySem.W.alike a b = true) (e : PyData.eqv a b = false) : PySem.W.keyToks a ≠ PySem.W.keyToks b := fun z => by
  have t := (PySem.W.toks_eqv a b h).2 e [.inl 0] [.inl 1]
  rw [z, PySem.W.lex_pre, PyProof.Rows.lex_irrefl] at t
  exact absurd t (by decide)
theorem lt_total {a b : PyData} (h : PySem.W.alike a b = true) (sa : simD a = true) (sb : simD b = true) (h1 : PySem.W.dataLt a b = false) (h2 : PySem.W.dataLt b a = false) : a = b := by
  have e := PyProof.Rows.lex_total (O := PyProof.Rows.itemOrd) _ _ h1 h2
  cases q : PyData.eqv a b with
  | true => exact simD_eq a b sa sb q
  | false => exact absurd e (toks_ne h q)
theorem le_trans (a b c : PyData) (h1 : PySem.W.dataLe false id a b = true) (h2 : PySem.W.dataLe false id b c = true) : PySem.W.dataLe false id a c = true := by
  rw [PySem.W.dataLe_eq] at h1 h2 ⊢
  simp only [cond_false, id] at h1 h2 ⊢
  cases q : PySem.W.dataLt c a with
  | false => rfl
  | true =>
    rcases PyProof.Rows.lex_negTrans (O := PyProof.Rows.itemOrd) _ (PySem.W.keyToks b) _ q with z | z
    · have z : PySem.W.dataLt c b = true := z
      rw [z] at h2
      exact h2
    · have z : PySem.W.dataLt b a = true := z
      rw [z] at h1
      exact h1
theorem le_total (a b : PyData) : (PySem.W.dataLe false id a b || PySem.W.dataLe false id b a) = true := by
  rw [PySem.W.dataLe_eq]
  simp only [cond_false, id]
  cases q1 : PySem.W.dataLt b a with
  | false => rfl
  | true =>
    cases q2 : PySem.W.dataLt a b with
    | false => rfl
    | true =>
      have t := PyProof.Rows.lex_trans (O := PyProof.Rows.itemOrd) _ _ _ q1 q2
      rw [PyProof.Rows.lex_irrefl] at t
      cases t
theorem sorted_eq {le : PyData → PyData → Bool} : ∀ {l1 l2 : List PyData}, (∀ a ∈ l1, ∀ b ∈ l1, le a b = true → le b a = true → a = b) → l1.Pairwise (fun a b => le a b = true) → l2.Pairwise (fun a b => le a b = true) → l1.Perm l2 → l1 = l2
  | [], l2, _, _, _, pm => (List.Perm.eq_nil pm.symm).symm
  | a :: l1, [], _, _, _, pm => absurd pm.length_eq (by simp)
  | a :: l1, b :: l2, anti, p1, p2, pm => by
    obtain ⟨a1, a2⟩ := List.pairwise_cons.mp p1
    obtain ⟨b1, b2⟩ := List.pairwise_cons.mp p2
    have e : a = b := by
      rcases List.mem_cons.mp (pm.mem_iff.mp (List.mem_cons_self ..)) with e | hm
      · exact e
      · have hb : b ∈ a :: l1 := pm.mem_iff.mpr (List.mem_cons_self ..)
        rcases List.mem_cons.mp hb with e | hm2
        · exact e.symm
        · exact anti a (List.mem_cons_self ..) b hb (a1 b hm2) (b1 a hm)
    subst e
    rw [sorted_eq (fun x hx y hy => anti x (List.mem_cons_of_mem _ hx) y (List.mem_cons_of_mem _ hy)) a2 b2 (List.Perm.cons_inv pm)]
theorem sortD_perm {l1 l2 : List PyData} (al : PySem.W.AllAlike l1) (sm : ∀ d ∈ l1, simD d = true) (pm : l1.Perm l2) : sortD l1 = sortD l2 := by
  unfold sortD
  have m1 := List.mergeSort_perm l1 (PySem.W.dataLe false id)
  have m2 := List.mergeSort_perm l2 (PySem.W.dataLe false id)
  refine sorted_eq (le := PySem.W.dataLe false id) (fun a ha b hb h1 h2 => ?_) (List.pairwise_mergeSort le_trans le_total l1) (List.pairwise_mergeSort le_trans le_total l2) ((m1.trans pm).trans m2.symm)
  have ha := m1.mem_iff.mp ha
  have hb := m1.mem_iff.mp hb
  rw [PySem.W.dataLe_eq] at h1 h2
  simp only [cond_false, id, Bool.not_eq_true'] at h1 h2
  exact lt_total (al a ha b hb) (sm a ha) (sm b hb) h2 h1
theorem perm_map {α β : Type} (f : α → β) : ∀ {l : List α} {out : List β}, out.Perm (l.map f) → ∃ l2 : List α, l2.Perm l ∧ out = l2.map f := by
  intro l out h
  generalize e : l.map f = m at h
  induction h generalizing l with
  | nil => exact ⟨[], by rw [List.map_eq_nil_iff.mp e], rfl⟩
  | cons x p ih =>
    cases l with
    | nil => cases e
    | cons a l =>
      rw [List.map_cons] at e
      obtain ⟨e1, e2⟩ := List.cons.inj e
      obtain ⟨l2, p2, e3⟩ := ih e2
      exact ⟨a :: l2, p2.cons a, by rw [List.map_cons, e3, e1]⟩
  | swap x y r =>
    cases l with
    | nil => cases e
    | cons a l =>
      cases l with
      | nil => cases e
      | cons b l =>
        rw [List.map_cons, List.map_cons] at e
        obtain ⟨e1, e2⟩ := List.cons.inj e
        obtain ⟨e2, e3⟩ := List.cons.inj e2
        exact ⟨b :: a :: l, .swap a b l, by rw [List.map_cons, List.map_cons, e1, e2, e3]⟩
  | trans _ _ i1 i2 =>
    obtain ⟨l2, p2, e2⟩ := i2 e
    obtain ⟨l3, p3, e3⟩ := i1 e2.symm
    exact ⟨l3, p3.trans p2, e3⟩
/-- sorted(such a set) -/
def rSortN (K : PySem.W.Frag) (P : Program) (w : World) : List V → Hp → VK → Prop := fun xs H Q => ∃ (p : Addr) (ks : List (Addr × PyData)), xs = [.ref p] ∧ H p = some (SetNO P w p (ks.map fun r => (r.1, keyD r.2))) ∧ (∀ r ∈ ks, Tp K H (.ref r.1) r.2 ∧ simD r.2 = true ∧ r.2.depth ≤ 8) ∧ SortOk (ks.map (·.2)) ∧
  ∀ l zs, H l = none → TpAll K H zs (sortD (ks.map (·.2))) → Q (.ref l) (upd H l (.lst zs))
section
variable {X : Cx}
theorem cr_sortN (hc : X.calm = true) (hu : X.A.units + 64 < cLine) : CallR X (.builtin "sorted") (rSortN X.K X.prog X.w) := by
  intro pins s σ H xs us Q I r h
  obtain ⟨p, ks, rfl, hp, hk, ok, q⟩ := h
  obtain rfl := Vals.ref1 r
  have hh : X.A.handled = none := I.ok.hd hc
  have S : SetS X.prog X.w s.heap p (ks.map fun r => (r.1, keyD r.2)) := (I.hok p _ hp).1
  obtain ⟨es, ep, t, ⟨o, ho, hex, hd⟩, rows, tab, led, seven⟩ := S.ex
  have four := S.four
  rw [List.length_map] at four
  have R : SetN X.prog X.w s.heap p (ks.map fun r => (r.1, keyD r.2)) es ep t := ⟨⟨o, ho, hex, hd⟩, rows, tab, S.nodup, fun z hz => by
    obtain ⟨y, hy, rfl⟩ := List.mem_map.mp hz
    obtain ⟨t1, t2, t3⟩ := hk y hy
    exact ⟨t1.nested I t2 rfl, Nat.le_trans (keyD_depth _) t3⟩, led, seven, S.four⟩
  refine call_function_entry kind_sorted plain_sorted entry_sorted (args_sorted1 _) ?_
  unfold Builtin.«sorted»
  refine wpAny_bind (m := checkCount "sorted" 1 1 _) (wpAny_pure ?_)
  have hsz := R.size
  rw [List.length_map] at hsz
  refine wpAny_bind (collect_set (A := X.A.in1) hh ⟨o, ho, hex.1, hd⟩ R.fit (by unfold scanBound; omega) tab.ris led fun s1 out k1 hz g1 o1 pm => ?_)
  have hes : es.toList.map (·.2) = ks.map fun r => Value.ref r.1 := by
    rw [rows]
    unfold rowsN
    rw [List.map_map, List.map_map]
    rfl
  rw [hes] at pm
  obtain ⟨ks2, pm2, rfl⟩ := perm_map (fun r : Addr × PyData => Value.ref r.1) pm
  have I1 : Inv X pins σ H s1 := I.call' (ch := []) o1 (Un.kept k1) (I.hok.kept k1) (by rw [g1]; exact I.bare) (fun _ z => nomatch z)
  have len2 := pm2.length_eq
  refine wpAny_bind (wpAny_newList ?_ (by rw [List.length_map, sizeLine_eq]; omega))
  have al2 : PySem.W.AllAlike (ks2.map (·.2)) := fun a ha b hb => ok.alike a ((pm2.map (·.2)).mem_iff.mp ha) b ((pm2.map (·.2)).mem_iff.mp hb)
  have so2 : PySem.W.Sortable (ks2.map (·.2)) := by
    rcases ok.kind with z | z
    · exact .inl fun d hd => z d ((pm2.map (·.2)).mem_iff.mp hd)
    · exact .inr fun d hd => z d ((pm2.map (·.2)).mem_iff.mp hd)
  refine wpAny_bind (wpAny_holding (wpAny_mono (sort_new (A := X.A) (Q := fun u s' => EP X pins σ Q u s') (s := s1) (tk := s1.toks) (bs := ks2) (fun b : Addr × PyData => Value.ref b.1) (fun b : Addr × PyData => b.2) (fun b hm => ?_) al2 so2 ?_ (fun b hm => ?_) fun h3 e keep hD => ?_) (fun _ s' x => wpAny_pure ⟨_, rfl, x⟩) fun _ _ e => e))
  · exact (hk b (pm2.mem_iff.mp hm)).1.reads0 I1 rfl
  · exact small_le (by omega)
  · have := ok.deep b.2 (List.mem_map.mpr ⟨b, pm2.mem_iff.mp hm, rfl⟩)
    omega
  · obtain ⟨hD0, hfp⟩ := past_free I1 (fun _ _ e => e) (Nat.le_refl s1.heap.objs.size)
    have I2 : Inv X pins σ H { s1 with heap := h3, toks := s1.toks } := I1.kept (t' := s1.toks) keep
    have pm3 : (ks2.mergeSort (PySem.W.dataLe false fun b : Addr × PyData => b.2)).Perm ks2 := List.mergeSort_perm _ _
    have ms := PySem.W.sort_maps (r := PySem.W.dataLe false fun b : Addr × PyData => b.2) (s := PySem.W.dataLe false id) (fun b : Addr × PyData => b.2) (l := ks2) (fun _ _ _ _ => rfl)
    generalize ks2.mergeSort (PySem.W.dataLe false fun b : Addr × PyData => b.2) = cs at pm3 hD ms
    have hcs : ∀ b ∈ cs, Tp X.K H (.ref b.1) b.2 := fun b hb => (hk b (pm2.mem_iff.mp (pm3.mem_iff.mp hb))).1
    have rv : Vals (cs.map fun b => V.ref b.1) (cs.map fun b => Value.ref b.1) := by
      clear hD ms pm3 hcs
      induction cs with
      | nil => exact .nil
      | cons b cs ih => exact .cons rfl ih
    have tv : TpAll X.K H (cs.map fun b => V.ref b.1) (cs.map (·.2)) := by
      clear hD ms pm3 rv
      induction cs with
      | nil => exact .nil
      | cons b cs ih => exact .cons (hcs b (List.mem_cons_self ..)) (ih fun c hc => hcs c (List.mem_cons_of_mem _ hc))
    have hlen : (cs.map fun b => V.ref b.1).length ≤ sizeLine := by
      rw [List.length_map, pm3.length_eq]
      exact small_le (by omega)
    have I3 : Inv X pins σ (upd H s1.heap.objs.size (.lst (cs.map fun b => V.ref b.1))) { s1 with heap := h3, toks := s1.toks } :=
      I2.take (h' := h3) (t' := s1.toks) (fun b ob _ e => e) hfp ⟨hlen, _, e, rv, hD⟩
    refine ⟨.ref s1.heap.objs.size, _, I3, rfl, q _ _ hD0 ?_⟩
    have e2 : sortD (ks2.map (·.2)) = sortD (ks.map (·.2)) := sortD_perm al2 (fun d hd => by
      obtain ⟨b, hb, rfl⟩ := List.mem_map.mp hd
      exact (hk b (pm2.mem_iff.mp hb)).2.1) (pm2.map (·.2))
    rw [← e2, ← show sortD (ks2.map (·.2)) = (ks2.map (·.2)).mergeSort (PySem.W.dataLe false id) from rfl] at *
    rw [ms] at tv
    exact tv
end
/-- one of each -/
def dedupD (ds : List PyData) : List PyData := ds.foldr (fun d acc => if keyD d ∈ acc.map keyD then acc else d :: acc) []
theorem dedupD_sub : ∀ (ds : List PyData) (d : PyData), d ∈ dedupD ds → d ∈ ds
  | [], d, h => by cases h
  | x :: ds, d, h => by
    unfold dedupD at h
    rw [List.foldr_cons] at h
    split at h
    · exact List.mem_cons_of_mem _ (dedupD_sub ds d h)
    · rcases List.mem_cons.mp h with e | h
      · rw [e]; exact List.mem_cons_self ..
      · exact List.mem_cons_of_mem _ (dedupD_sub ds d h)
theorem dedupD_all : ∀ (ds : List PyData) (d : PyData), d ∈ ds → keyD d ∈ (dedupD ds).map keyD
  | x :: ds, d, h => by
    unfold dedupD
    rw [List.foldr_cons]
    have ih := dedupD_all ds
    unfold dedupD at ih
    split
    · rename_i hx
      rcases List.mem_cons.mp h with e | h
      · rw [e]; exact hx
      · exact ih d h
    · rw [List.map_cons]
      rcases List.mem_cons.mp h with e | h
      · rw [e]; exact List.mem_cons_self ..
      · exact List.mem_cons_of_mem _ (ih d h)
theorem dedupD_nd : ∀ ds : List PyData, ((dedupD ds).map keyD).Nodup
  | [] => .nil
  | x :: ds => by
    have ih := dedupD_nd ds
    unfold dedupD at ih ⊢
    rw [List.foldr_cons]
    split
    · exact ih
    · rename_i hx
      rw [List.map_cons]
      exact List.nodup_cons.mpr ⟨hx, ih⟩
theorem nd_of_map {α β : Type} {f : α → β} : ∀ {l : List α}, (l.map f).Nodup → l.Nodup
  | [], _ => .nil
  | x :: l, h => by
    rw [List.map_cons] at h
    obtain ⟨h1, h2⟩ := List.nodup_cons.mp h
    exact List.nodup_cons.mpr ⟨fun z => h1 (List.mem_map.mpr ⟨x, z, rfl⟩), nd_of_map h2⟩
section
variable {K : PySem.W.Frag} {σ : L2.St} {H : Hp} {P : Program} {w : World} {i : Nat}
theorem refs_of {H : Hp} : ∀ {xs : List V} {ds : List PyData}, TpAll K H xs ds → (∀ d ∈ ds, ∃ es, d = .tuple es) → ∃ ks : List (Addr × PyData), xs = ks.map (fun p => V.ref p.1) ∧ ds = ks.map (·.2) ∧ ∀ p ∈ ks, Tp K H (.ref p.1) p.2
  | _, _, .nil, _ => ⟨[], rfl, rfl, fun p h => nomatch h⟩
  | _, _, .cons (v := v) (d := d) h t, ht => by
    obtain ⟨ks, e1, e2, hk⟩ := refs_of t fun z hz => ht z (List.mem_cons_of_mem _ hz)
    obtain ⟨es, rfl⟩ := ht d (List.mem_cons_self ..)
    obtain ⟨a, ys, rfl, _, _⟩ := h.tup_inv
    exact ⟨(a, _) :: ks, by rw [e1]; rfl, by rw [e2]; rfl, fun p hp => by
      rcases List.mem_cons.mp hp with rfl | hp
      · exact h
      · exact hk p hp⟩
/-- sorted(set(xs)), xs a list of nested tuples in a slot -/
theorem evl_sortSetN {l : Addr} {xs : List V} {ds : List PyData} (hv : σ[i]? = some (some (.ref l))) (hl : H l = some (.lst xs)) (hT : TpAll K H xs ds) (ht : ∀ d ∈ ds, (∃ es, d = .tuple es) ∧ simD d = true ∧ d.depth ≤ 8) (h4 : ds.length ≤ 4) (ok : SortOk ds) :
    EvLs K (tCB (rSortN K P w) (tCons (tCB (rSetN K P w) (tCons (tVar i) tNil)) tNil)) σ H (sortD (dedupD ds)) := fun H1 s Q q => by
  obtain ⟨ks, rfl, rfl, hk⟩ := refs_of hT fun d hd => (ht d hd).1
  refine ⟨_, hv, l, ks, rfl, .of (s _ _ hl), fun p hp => ⟨(hk p hp).same s, (ht p.2 (List.mem_map.mpr ⟨p, hp, rfl⟩)).2⟩, by rw [List.length_map] at h4; exact h4, fun p L np nd sub all => ?_⟩
  have back : ∀ L : List NRow, (∀ q ∈ L, ∃ r ∈ ks, q = (r.1, keyD r.2)) → ∃ ks2 : List (Addr × PyData), L = ks2.map (fun r => (r.1, keyD r.2)) ∧ ∀ r ∈ ks2, r ∈ ks := by
    intro L
    induction L with
    | nil => exact fun _ => ⟨[], rfl, fun r h => nomatch h⟩
    | cons z L ih =>
      intro hz
      obtain ⟨r, hr, e⟩ := hz z (List.mem_cons_self ..)
      obtain ⟨ks2, e2, h2⟩ := ih fun y hy => hz y (List.mem_cons_of_mem _ hy)
      exact ⟨r :: ks2, by rw [e, e2]; rfl, fun y hy => by
        rcases List.mem_cons.mp hy with rfl | hy
        · exact hr
        · exact h2 y hy⟩
  obtain ⟨ks2, rfl, hs2⟩ := back L sub
  have sN := same_new np (SetNO P w p (ks2.map fun r => (r.1, keyD r.2)))
  have nd2 : ((ks2.map (·.2)).map keyD).Nodup := by
    rw [List.map_map] at nd ⊢
    exact nd
  have sd : ∀ d ∈ ks.map (·.2), simD d = true := fun d hd => (ht d hd).2.1
  have sub2 : ∀ d ∈ ks2.map (·.2), d ∈ ks.map (·.2) := fun d hd => by
    obtain ⟨r, hr, rfl⟩ := List.mem_map.mp hd
    exact List.mem_map.mpr ⟨r, hs2 r hr, rfl⟩
  have pm : (ks2.map (·.2)).Perm (dedupD (ks.map (·.2))) := by
    refine (List.perm_ext_iff_of_nodup (nd_of_map nd2) (nd_of_map (dedupD_nd _))).mpr fun d => ⟨fun hd => ?_, fun hd => ?_⟩
    · have hm := sub2 d hd
      obtain ⟨e, he, ee⟩ := List.mem_map.mp (dedupD_all _ d hm)
      have e2 := keyD_inj e d (sd e (dedupD_sub _ e he)) (sd d hm) ee
      rw [← e2]
      exact he
    · have hm := dedupD_sub _ d hd
      obtain ⟨r, hr, rfl⟩ := List.mem_map.mp hm
      have ha := all r hr
      rw [List.map_map] at ha
      obtain ⟨r2, hr2, e⟩ := List.mem_map.mp ha
      have e2 := keyD_inj r2.2 r.2 (sd _ (List.mem_map.mpr ⟨r2, hs2 r2 hr2, rfl⟩)) (sd _ hm) e
      rw [← e2]
      exact List.mem_map.mpr ⟨r2, hr2, rfl⟩
  have al2 : PySem.W.AllAlike (ks2.map (·.2)) := fun a ha b hb => ok.alike a (sub2 a ha) b (sub2 b hb)
  have len2 : ks2.length ≤ ks.length := by
    have := pm.length_eq
    have h3 : (dedupD (ks.map (·.2))).length ≤ (ks.map (·.2)).length := by
      have : ∀ ds : List PyData, (dedupD ds).length ≤ ds.length := by
        intro ds
        induction ds with
        | nil => exact Nat.le_refl _
        | cons x ds ih =>
          unfold dedupD at ih ⊢
          rw [List.foldr_cons]
          split
          · rw [List.length_cons]; omega
          · rw [List.length_cons, List.length_cons]; omega
      exact this _
    rw [List.length_map] at this h3
    omega
  refine ⟨p, ks2, rfl, upd_same, fun r hr => ⟨((hk r (hs2 r hr)).same s).same sN, (ht r.2 (List.mem_map.mpr ⟨r, hs2 r hr, rfl⟩)).2⟩, ⟨al2, ?_, ?_, fun d hd => ok.deep d (sub2 d hd)⟩, fun l2 zs n2 hz => ?_⟩
  · rcases ok.kind with z | z
    · exact .inl fun d hd => z d (sub2 d hd)
    · exact .inr fun d hd => z d (sub2 d hd)
  · rw [List.length_map]
    rw [List.length_map] at h4
    exact small_le (by omega)
  · rw [sortD_perm al2 (fun d hd => sd d (sub2 d hd)) pm] at hz
    have n1 : H1 l2 = none := by
      by_cases e : l2 = p
      · rw [e]; exact np
      · rw [upd_ne e] at n2; exact n2
    exact q l2 zs _ n1 (sN.trans (same_new n2 _)) upd_same (hz.same (same_new n2 _))
end
end Lo
set_option linter.all false
set_option maxHeartbeats 1000000
/-! the mirror, sixth part: single works counted -/
namespace Lo
open PySem
def singS : Stp → Bool
  | .times _ _ => false
  | _ => true
def SingW (b : Wk) : Prop := ∀ s ∈ b, singS s = true
structure Stt where
  store : List Int
  puts : List Int
  outs : List Int
  takes : Int
def cutI (l : List Int) (i : Nat) : List Int := l.take i ++ l.drop (i + 1)
def putNx (st : Stt) (n : Int) : Stp × Stt := (.put n, ⟨sortI (st.store ++ [n]), cutI st.puts (st.puts.idxOf n), st.outs, st.takes⟩)
def emptyNx (st : Stt) : List (Stp × Stt) := if (st.outs.length : Int) < st.takes ∧ st.store = [] then [(.take, ⟨st.store, st.puts, st.outs, st.takes - 1⟩)] else []
def takeNx (st : Stt) : List (Stp × Stt) := match st.store with
  | [] => []
  | x :: r => if 0 < st.takes ∧ x ∈ st.outs then [(.take, ⟨r, st.puts, cutI st.outs (st.outs.idxOf x), st.takes - 1⟩)] else []
def nextsM (st : Stt) : List (Stp × Stt) := ((sortU st.puts).map (putNx st) ++ emptyNx st) ++ takeNx st
def measS (st : Stt) : Nat := st.puts.length + st.takes.toNat
structure OkSt (st : Stt) : Prop where
  len : st.store.length + st.puts.length ≤ 20
  outs : st.outs.length ≤ 20
  takes : 0 ≤ st.takes
theorem cutI_len {l : List Int} {x : Int} (h : x ∈ l) : (cutI l (l.idxOf x)).length + 1 = l.length := by
  have := List.idxOf_lt_length_of_mem h
  unfold cutI
  rw [List.length_append, List.length_take, List.length_drop]
  omega
theorem sortI_len (l : List Int) : (sortI l).length = l.length := (List.mergeSort_perm l _).length_eq
theorem nexts_ok {st : Stt} (h : OkSt st) : ∀ p ∈ nextsM st, OkSt p.2 ∧ measS p.2 + 1 = measS st ∧ okS p.1 ∨ ∃ n, p.1 = .put n ∧ OkSt p.2 ∧ measS p.2 + 1 = measS st := by
  intro p hp
  unfold nextsM at hp
  rcases List.mem_append.mp hp with hp | hp
  · rcases List.mem_append.mp hp with hp | hp
    · obtain ⟨n, hn, rfl⟩ := List.mem_map.mp hp
      have hn := (sortU_mem _ _).mp hn
      have e := cutI_len hn
      refine .inr ⟨n, rfl, ⟨?_, h.outs, h.takes⟩, ?_⟩
      · show (sortI (st.store ++ [n])).length + (cutI st.puts (st.puts.idxOf n)).length ≤ 20
        have := h.len
        rw [sortI_len, List.length_append, List.length_singleton]
        omega
      · show (cutI st.puts (st.puts.idxOf n)).length + st.takes.toNat + 1 = st.puts.length + st.takes.toNat
        omega
    · unfold emptyNx at hp
      split at hp
      · rename_i hc
        rw [List.mem_singleton] at hp
        subst hp
        refine .inl ⟨⟨h.len, h.outs, by show 0 ≤ st.takes - 1; omega⟩, ?_, by rw [okS]; trivial⟩
        show st.puts.length + (st.takes - 1).toNat + 1 = st.puts.length + st.takes.toNat
        omega
      · cases hp
  · unfold takeNx at hp
    split at hp
    · cases hp
    · rename_i x r es
      split at hp
      · rename_i hc
        rw [List.mem_singleton] at hp
        subst hp
        have e := cutI_len hc.2
        have hl := h.len
        rw [es, List.length_cons] at hl
        refine .inl ⟨⟨by show r.length + st.puts.length ≤ 20; omega, by show (cutI st.outs (st.outs.idxOf x)).length ≤ 20; have := h.outs; omega, by show 0 ≤ st.takes - 1; omega⟩, ?_, by rw [okS]; trivial⟩
        show st.puts.length + (st.takes - 1).toNat + 1 = st.puts.length + st.takes.toNat
        omega
      · cases hp
theorem nexts_st {st : Stt} (h : OkSt st) {p : Stp × Stt} (hp : p ∈ nextsM st) : OkSt p.2 ∧ measS p.2 + 1 = measS st := by
  rcases nexts_ok h p hp with ⟨a, b, _⟩ | ⟨_, _, a, b⟩
  · exact ⟨a, b⟩
  · exact ⟨a, b⟩
theorem nexts_len (st : Stt) : (nextsM st).length ≤ measS st := by
  have h1 : (sortU st.puts).length ≤ st.puts.length := nodup_len _ _ ((sortU_rise _).imp fun h => Int.ne_of_lt h) fun x hx => (sortU_mem _ x).mp hx
  have h2 : (emptyNx st).length + (takeNx st).length ≤ st.takes.toNat := by
    unfold emptyNx takeNx
    split
    · rename_i hc
      rw [hc.2]
      simp
      omega
    · split
      · simp
      · split
        · rename_i hc
          simp
          omega
        · simp
  unfold nextsM measS
  rw [List.length_append, List.length_append, List.length_map]
  omega
theorem nexts_sing (st : Stt) : ∀ p ∈ nextsM st, singS p.1 = true := by
  intro p hp
  unfold nextsM at hp
  rcases List.mem_append.mp hp with hp | hp
  · rcases List.mem_append.mp hp with hp | hp
    · obtain ⟨n, _, rfl⟩ := List.mem_map.mp hp
      rfl
    · unfold emptyNx at hp
      split at hp
      · rw [List.mem_singleton] at hp
        subst hp
        rfl
      · cases hp
  · unfold takeNx at hp
    split at hp
    · cases hp
    · split at hp
      · rw [List.mem_singleton] at hp
        subst hp
        rfl
      · cases hp
/-- ways, by fuel -/
def waysF : Nat → Stt → Int
  | 0, st => if st.puts = [] ∧ st.takes = 0 then (if st.outs = [] then 1 else 0) else 0
  | n + 1, st => if st.puts = [] ∧ st.takes = 0 then (if st.outs = [] then 1 else 0) else ((nextsM st).map fun p => waysF n p.2).sum
def waysT (st : Stt) : Int := waysF (measS st) st
theorem waysF_eq : ∀ (n m : Nat) (st : Stt), OkSt st → measS st ≤ n → measS st ≤ m → waysF n st = waysF m st
  | 0, 0, _, _, _, _ => rfl
  | 0, m + 1, st, h, h1, _ => by
    have e1 : st.puts = [] := List.eq_nil_of_length_eq_zero (by unfold measS at h1; omega)
    have e2 : st.takes = 0 := by
      have := h.takes
      unfold measS at h1
      omega
    have hb : st.puts = [] ∧ st.takes = 0 := ⟨e1, e2⟩
    show (if st.puts = [] ∧ st.takes = 0 then (if st.outs = [] then (1 : Int) else 0) else 0) = (if st.puts = [] ∧ st.takes = 0 then (if st.outs = [] then 1 else 0) else ((nextsM st).map fun p => waysF m p.2).sum)
    rw [if_pos hb, if_pos hb]
  | n + 1, 0, st, h, _, h1 => by
    have e1 : st.puts = [] := List.eq_nil_of_length_eq_zero (by unfold measS at h1; omega)
    have e2 : st.takes = 0 := by
      have := h.takes
      unfold measS at h1
      omega
    have hb : st.puts = [] ∧ st.takes = 0 := ⟨e1, e2⟩
    show (if st.puts = [] ∧ st.takes = 0 then (if st.outs = [] then (1 : Int) else 0) else ((nextsM st).map fun p => waysF n p.2).sum) = (if st.puts = [] ∧ st.takes = 0 then (if st.outs = [] then 1 else 0) else 0)
    rw [if_pos hb, if_pos hb]
  | n + 1, m + 1, st, h, h1, h2 => by
    unfold waysF
    split
    · rfl
    · congr 1
      refine List.map_congr_left fun p hp => ?_
      obtain ⟨a, b⟩ := nexts_st h hp
      exact waysF_eq n m p.2 a (by omega) (by omega)
theorem waysT_base {st : Stt} (h : st.puts = [] ∧ st.takes = 0) : waysT st = if st.outs = [] then 1 else 0 := by
  unfold waysT
  cases measS st with
  | zero => unfold waysF; rw [if_pos h]
  | succ n => unfold waysF; rw [if_pos h]
theorem waysT_sum {st : Stt} (h : OkSt st) (hb : ¬ (st.puts = [] ∧ st.takes = 0)) : waysT st = ((nextsM st).map fun p => waysT p.2).sum := by
  have hm : ∃ n, measS st = n + 1 := by
    cases e : measS st with
    | zero =>
      exfalso
      refine hb ⟨List.eq_nil_of_length_eq_zero (by unfold measS at e; omega), ?_⟩
      have := h.takes
      unfold measS at e
      omega
    | succ n => exact ⟨n, rfl⟩
  obtain ⟨n, en⟩ := hm
  unfold waysT
  rw [en]
  show (if st.puts = [] ∧ st.takes = 0 then (if st.outs = [] then 1 else 0) else ((nextsM st).map fun p => waysF n p.2).sum) = _
  rw [if_neg hb]
  congr 1
  refine List.map_congr_left fun p hp => ?_
  obtain ⟨a, b⟩ := nexts_st h hp
  exact waysF_eq n (measS p.2) p.2 a (by omega) (Nat.le_refl _)
/-- how many places may come into the memory -/
def costN : Nat → Nat
  | 0 => 1
  | n + 1 => 1 + (n + 1) * costN n
def decS (a b : Stp) : Bool := PyData.eqv (encS a) (encS b)
def scanM : List (Stp × Stt) → Stp → Stt → Int × Stt
  | [], _, st => (0, st)
  | p :: r, m, st => if decS p.1 m = true then (0, p.2) else (waysT p.2 + (scanM r m st).1, (scanM r m st).2)
def rankM : Stt → Wk → Int
  | _, [] => 0
  | st, m :: r => (scanM (nextsM st) m st).1 + rankM (scanM (nextsM st) m st).2 r
def beginT (t : Three) : Stt := ⟨[], numsH (bothH t.1 t.2.1), numsH t.2.1, sizeH t.2.1 + t.2.2⟩
end Lo
set_option Elab.async false
set_option linter.all false
set_option maxRecDepth 100000
set_option maxHeartbeats 4000000
/-! single works: need_few, need_single, t.index -/
namespace Lo
open PySem PySem.Spec PyProof.Rows L2
def tTIndex (K : PySem.W.Frag) (to : TE) (t : TA) : TE := fun σ H Q => to σ H fun x H1 => ∃ (a : Addr) (ns : List Int), x = .ref a ∧ PlT K H1 a (ns.map V.int) ∧ t σ H1 fun vs H2 => ∃ k, vs = [.int k] ∧ PlT K H2 a (ns.map V.int) ∧ k ∈ ns ∧ Q (.int (ns.idxOf k : Nat)) H2
section
variable {X : Cx} {o e : Expr} {es : List Expr} {to : TE} {t : TA} {apos cpos : Pos}
theorem pe_tupIndex (ho : PE X o to) (ha : PA X (e :: es) t) (hbase : attributeBase o "index" X.env (eval o X.env) = eval o X.env := by rfl)
    (hfew : ((backTo cpos (starEach (e :: es) X.env)).all (fun x => !x.1) && (backToKw cpos (keywordEach [] X.env)).all (fun x => x.1.isSome)
      && decide ((e :: es).length + ([] : List Keyword).length + (if ([] : List Keyword).isEmpty then 0 else 1) < 30)) = true := by rfl)
    (hline : (apos.endLine == cpos.line) = true := by rfl) (hs : starEach (e :: es) X.env = (false, eval e X.env) :: starEach es X.env := by rfl) (hplain : (backTo cpos (starEach es X.env)).any (·.1) = false := by rfl) :
    PE X (.Call (.Attribute o "index" apos) (e :: es) [] cpos) (tTIndex X.K to t) := by
  refine ⟨fun pins s σ H Q I h => ?_⟩
  refine wpAny_Call_method_late hbase hfew hline rfl (thn (ho.run pins s σ H _ I h) fun v s1 ⟨x, H1, I1, r1, a, ns, ex, hP, q1⟩ => ?_)
  subst ex
  cases r1
  obtain ⟨its, rv, ⟨ob, n, hob, hc, hdn, hdat⟩, _⟩ := hP.raw I1
  refine ⟨"tuple", "tuple.index", F.plainAttrs_tuple, F.slot_tuple_index, F.type_tuple_index, ⟨ob, hob, hc⟩, fun b z => ?_, ?_⟩
  · cases z
    exact ⟨ob, hob, hdn⟩
  · have hA := ha.run cpos pins s1 σ H1 _ I1 q1
    rw [hs] at hA ⊢
    refine Calls.callWith_builtin (by show (false || (backTo cpos (starEach es X.env)).any (·.1)) = false; rw [hplain]; rfl) (Calls.evalArgs_plain ?_)
    refine thn hA fun us s2 ⟨vs, H2, I2, r2, k, ev, hP2, hk, q2⟩ => ?_
    subst ev
    obtain ⟨u, rfl, t, rfl⟩ := vals1 r2
    obtain ⟨its2, rv2, ⟨ob2, n2, hob2, hc2, _, hdat2⟩, _⟩ := hP2.raw I2
    exact PySem.SeqAt.tuple_index_ints (vs := its2) ⟨ob2, hob2, hc2, n2, hdat2⟩ (Vals.ints rv2) hk ⟨.int _, H2, I2.tok _, ⟨_, rfl⟩, q2⟩
end
section
variable {K : PySem.W.Frag} {σ : L2.St} {H : Hp} {te : TE} {i : Nat}
theorem evd_tindex {ns : List Int} {k : Int} {v : V} (hv : σ[i]? = some (some v)) (hd : Tp K H v (.tuple (ns.map PyData.int))) (he : EvD K te σ H (.int k)) (hk : k ∈ ns) : EvD K (tTIndex K (tVar i) (tCons te tNil)) σ H (.int (ns.idxOf k : Nat)) := fun H1 s Q q => by
  obtain ⟨a, xs, rfl, hS, hA⟩ := hd.tup_inv
  obtain rfl := hA.ints_inv
  refine ⟨_, hv, a, ns, rfl, (SameT.of s).plt hS, he H1 s _ fun y H2 s2 hy => ?_⟩
  exact ⟨k, by rw [hy.int_inv], (SameT.of (s.trans s2)).plt hS, hk, q _ H2 s2 (.int _)⟩
end
abbrev sNeedFew : Stmt := top 56
abbrev sNeedSing : Stmt := top 59
def rNeedFew (ds : List PyData) (d : PyData) : Prop := ∃ t : Three, ds = [encT t] ∧ t.1.length ≤ 2000001 ∧ t.2.1.length ≤ 2000001 ∧ stepsT t ≤ 9 ∧ d = .none
def rNeedSing (ds : List PyData) (d : PyData) : Prop := ∃ b : Wk, ds = [encW b] ∧ SingW b ∧ b.length ≤ 1000 ∧ d = .none
section
variable {P : Program} {w : World} {K : PySem.W.Frag} {mg : Str → Option Value} {base : Heap} {f : Addr} {fd : FuncData}
theorem scNeedFew : FnScope ["three"] ["three"] (defScope sNeedFew) := ⟨rfl, rfl, rfl, by decide +kernel, rfl, by decide +kernel, by decide +kernel⟩
theorem ok_needFew (F : Fun K "need_few" "need_few" sNeedFew f fd) (T : Txt K mg) (cSize : Callee P w K mg base 1 "size_of" ["heap"] (spD K rSize)) : FnOk P w K mg base CX0 2 f fd ["three"] (spD K rNeedFew) := by
  refine F.ok scNeedFew (spD_len fun ds d ⟨_, e, _⟩ => by rw [e]; rfl) (fun cdv A outer s H vs Q E hr h => ?_)
  obtain ⟨ds, d, hvs, ⟨t, rfl, l1, l2, h9, rfl⟩, q⟩ := h
  obtain ⟨v1, rfl, hv1⟩ := one_inv hvs
  refine ⟨_, pss_one (ps_if (pt_cmpR op_gt (pe_op op_add (pe_op op_add (pe_cal cSize hr (pa_cons (pe_ix ix_tup (pv 0) pe_int (fun _ _ => rfl)) pa_nil)) (pe_op op_mul pe_int (pe_cal cSize hr (pa_cons (pe_ix ix_tup (pv 0) pe_int (fun _ _ => rfl)) pa_nil)))) (pe_ix ix_tup (pv 0) pe_int (fun _ _ => rfl))) (pe_gI T.cSingle) (nomark _)) (pss_one ps_never) pss_nil), ?_⟩
  have h1 := tp_T hv1
  refine sd_no1 (EvB.is (evb_cmp (K := K) (evd_op (evd_op (evd_call (d := .int (sizeH t.1)) (eva_cons (evd_at 0 (evd_var rfl h1) rfl) eva_nil) ⟨t.1, rfl, small_le (by omega), rfl⟩) (evd_op evd_int (evd_call (d := .int (sizeH t.2.1)) (eva_cons (evd_at 1 (evd_var rfl h1) rfl) eva_nil) ⟨t.2.1, rfl, small_le (by omega), rfl⟩) (opd_I (.inl ⟨by decide, by decide⟩) (.int _))) (opd_I0 (.int _))) (evd_at 2 (evd_var rfl h1) rfl) (opd_I0 (.int _))) evd_int rfl) ?_) fun H2 s2 => q .non H2 s2 .non
  unfold stepsT at h9
  rw [decide_eq_false]
  omega
theorem scNeedSing : FnScope ["work", "step"] ["work"] (defScope sNeedSing) := ⟨rfl, rfl, rfl, by decide +kernel, rfl, by decide +kernel, by decide +kernel⟩
def nameD : PyData → PyData
  | .tuple (x :: _) => x
  | d => d
theorem nameD_enc (s : Stp) : nameD (encS s) = .str (nameS s) := by cases s <;> rw [encS] <;> rfl
theorem names_enc (b : Wk) : (encSs b).map nameD = (b.map nameS).map PyData.str := by
  rw [encSs_map, List.map_map, List.map_map]
  refine List.map_congr_left fun s _ => ?_
  exact nameD_enc s
theorem all_flat_strs (ns : List Str) : (ns.map V.str).all flatV = true := by
  rw [List.all_map, List.all_eq_true]
  intro x _
  rfl
theorem all_flat_ints (ns : List Int) : (ns.map V.int).all flatV = true := by
  rw [List.all_map, List.all_eq_true]
  intro x _
  rfl
theorem evb_inStrs {σ : L2.St} {H : Hp} {ta tb : TE} {x : Str} {ys : List Str} {b : Bool} (ha : EvD K ta σ H (.str x)) (hb : EvLs K tb σ H (ys.map PyData.str)) (e : inV (.str x) (ys.map V.str) = b) : EvB (tTest (tOp (rIn K false) ta tb)) σ H b := fun H1 s Q q =>
  ha H1 s _ fun v H2 s2 hv => hb H2 (s.trans s2) _ fun l xs H3 n s3 hl hx => by
    obtain rfl := hv.str_inv
    obtain rfl := hx.strs_inv
    exact ⟨l, _, rfl, .inl (.of hl), rfl, all_flat_strs _, b, by rw [← e]; rfl, q H3 (s2.trans s3)⟩
theorem inV_ints (x : Int) (ys : List Int) : inV (.int x) (ys.map V.int) = decide (x ∈ ys) := by
  unfold inV
  rw [List.any_map]
  by_cases h : x ∈ ys
  · rw [decide_eq_true h, List.any_eq_true]
    exact ⟨x, h, by show (x == x) = true; simp⟩
  · rw [decide_eq_false h, List.any_eq_false]
    intro y hy
    show ¬ (y == x) = true
    intro z
    exact h (by rw [← eq_of_beq z]; exact hy)
theorem evb_inInts {σ : L2.St} {H : Hp} {ta tb : TE} {x : Int} {ys : List Int} (ha : EvD K ta σ H (.int x)) (hb : EvD K tb σ H (.tuple (ys.map PyData.int))) : EvB (tTest (tOp (rIn K false) ta tb)) σ H (decide (x ∈ ys)) := fun H1 s Q q =>
  ha H1 s _ fun v H2 s2 hv => hb H2 (s.trans s2) _ fun u H3 s3 hu => by
    obtain rfl := hv.int_inv
    obtain ⟨a, xs, rfl, hS, hA⟩ := hu.tup_inv
    obtain rfl := hA.ints_inv
    exact ⟨a, _, rfl, .inr hS.sqt, rfl, all_flat_ints _, decide (x ∈ ys), by rw [inV_ints]; rfl, q H3 (s2.trans s3)⟩
theorem names_no {b : Wk} (h : SingW b) : inV (.str (Str.ofString "times")) ((b.map nameS).map V.str) = false := by
  unfold inV
  rw [List.any_eq_false]
  intro x hx
  obtain ⟨y, hy, rfl⟩ := List.mem_map.mp hx
  obtain ⟨s, hs, rfl⟩ := List.mem_map.mp hy
  have h1 := h s hs
  cases s with
  | put c =>
    show ¬ eqV (.str (Str.ofString "put")) (.str (Str.ofString "times")) = true
    decide +kernel
  | take =>
    show ¬ eqV (.str (Str.ofString "take")) (.str (Str.ofString "times")) = true
    decide +kernel
  | times n c => simp [singS] at h1
theorem ok_needSing (F : Fun K "need_single" "need_single" sNeedSing f fd) (T : Txt K mg) : FnOk P w K mg base CX0 1 f fd ["work"] (spD K rNeedSing) := by
  refine F.ok scNeedSing (spD_len fun ds d ⟨_, e, _⟩ => by rw [e]; rfl) (fun cdv A outer s H vs Q E hr h => ?_)
  obtain ⟨ds, d, hvs, ⟨b, rfl, hs, hl, rfl⟩, q⟩ := h
  obtain ⟨v1, rfl, hv1⟩ := one_inv hvs
  refine ⟨_, pss_one (ps_if (pt_cmpR op_in_seq (pe_gS T.cTimes) (pe_lc (own := [("step", 1)]) (g := gName 1) (tt := tYes) (te := tOp (rIxT K) (tVar 1) (tC (.int 0))) rfl scNeedSing.nd (pi_tup (pv 0)) (blkOk_by (N := ["work", "step"]) (sc := defScope sNeedSing) (by decide +kernel))
    (fun _ _ _ _ _ => pg_name (i := 1) scNeedSing.nd rfl (Or.inl rfl)) (fun _ _ _ _ _ => pts_nil) (fun _ _ _ _ _ => pe_ix ix_tup (pv 1) pe_int (fun _ _ => rfl))) (by rfl)) (pss_one ps_never) pss_nil), ?_⟩
  have lc : EvLs K (tLc (iTup K (tVar 0)) (gName 1) tYes (tOp (rIxT K) (tVar 1) (tC (.int 0))) [1]) [some v1, none] H (((encSs b).filter fun _ => true).map nameD) :=
    evl_lcT (by rw [encSs_len]; exact small_le (by omega)) (evd_var rfl hv1) (fun _ => true) nameD fun d hd x H' s' hx => by
      rw [encSs_map] at hd
      obtain ⟨t, _, rfl⟩ := List.mem_map.mp hd
      refine ⟨_, fun R r => r, rfl, fun H1 s1 Q q => q H1 (Same.refl H1), fun _ => ?_⟩
      rw [nameD_enc]
      exact name_of rfl hx
  rw [filter_yes, names_enc] at lc
  exact sd_no1 (evb_inStrs evd_str lc (names_no hs)) fun H2 s2 => q .non H2 s2 .non
end
end Lo
set_option Elab.async false
set_option linter.all false
set_option maxRecDepth 100000
set_option maxHeartbeats 8000000
/-! the class Counter -/
namespace Lo
open PySem PySem.Spec PyProof.Rows L2
abbrev sCInit : Stmt := inClass (top 57) 0
abbrev sCNexts : Stmt := inClass (top 57) 1
abbrev sCWays : Stmt := inClass (top 57) 2
abbrev sCRank : Stmt := inClass (top 57) 4
def encI (l : List Int) : PyData := .tuple (l.map .int)
def encSt (st : Stt) : PyData := .tuple [encI st.store, encI st.puts, encI st.outs, .int st.takes]
theorem cut_to {ds : List PyData} {i : Nat} (h : i ≤ ds.length) : (ds.drop (HT.sIx ds.length 0 none)).take (HT.sIx ds.length ds.length (some (i : Int)) - HT.sIx ds.length 0 none) = ds.take i := by
  rw [HT.sIx_none, HT.sIx_nat, Nat.min_eq_left h]
  rfl
theorem cut_from {ds : List PyData} {i : Nat} (h : i ≤ ds.length) : (ds.drop (HT.sIx ds.length 0 (some (i : Int)))).take (HT.sIx ds.length ds.length none - HT.sIx ds.length 0 (some (i : Int))) = ds.drop i := by
  rw [HT.sIx_none, HT.sIx_nat, Nat.min_eq_left h]
  exact List.take_of_length_le (by rw [List.length_drop]; exact Nat.le_refl _)
/-- what the top has of the class -/
structure CTxt (K : PySem.W.Frag) (mg : Str → Option Value) (C : Addr) : Prop where
  cl : Cls K C
  nB : NoAttr K C "begin"
  nK : NoAttr K C "known"
  mgC : mg "Counter" = some (.ref C)
def cFlds (v : V) (kd : Addr) : List (Str × V) := putF "known" (.ref kd) (putF "begin" v [])
theorem bk : ¬ (("begin" : Str) = "known") := by decide +kernel
theorem cFlds_begin (v : V) (kd : Addr) : (cFlds v kd).lookup ("begin" : Str) = some v := by
  unfold cFlds
  rw [lookup_putF, if_neg bk, lookup_putF, if_pos rfl]
theorem cFlds_known (v : V) (kd : Addr) : (cFlds v kd).lookup ("known" : Str) = some (.ref kd) := by
  unfold cFlds
  rw [lookup_putF, if_pos rfl]
theorem cFlds_no (v : V) (kd : Addr) {m : Str} (h1 : ¬ m = "begin") (h2 : ¬ m = "known") : (cFlds v kd).lookup m = none := by
  unfold cFlds
  rw [lookup_putF, if_neg h2, lookup_putF, if_neg h1]
  rfl
def rNexts (ds es : List PyData) : Prop := False
/-- nexts(state): a new list -/
def spNexts (K : PySem.W.Frag) : Sp := fun vs H Q _ => ∃ (x v : V) (st : Stt), vs = [x, v] ∧ Tp K H v (encSt st) ∧ OkSt st ∧
  ∀ l xs H', H l = none → Same H H' → H' l = some (.lst xs) → TpAll K H' xs ((nextsM st).map fun p => .tuple [encS p.1, encSt p.2]) → Q (.ref l) H'
section
variable {P : Program} {w : World} {K : PySem.W.Frag} {mg : Str → Option Value} {base : Heap} {f : Addr} {fd : FuncData}
theorem scCNexts : FnScope ["self", "state", "store", "puts", "outs", "takes", "found", "number", "at"] ["self", "state"] (defScope sCNexts) := ⟨rfl, rfl, rfl, by decide +kernel, rfl, by decide +kernel, by decide +kernel⟩
theorem four_inv {H : Hp} {vs : List V} {a b c d : PyData} (h : TpAll K H vs [a, b, c, d]) : ∃ x y z u, vs = [x, y, z, u] ∧ Tp K H x a ∧ Tp K H y b ∧ Tp K H z c ∧ Tp K H u d := by
  cases h with
  | cons h t =>
    obtain ⟨y, z, u, rfl, h1, h2, h3⟩ := three_inv t
    exact ⟨_, _, _, _, rfl, h, h1, h2, h3⟩
theorem sd_unp4 {σ : L2.St} {H : Hp} {te : TE} {D : Ends} {i j k l : Nat} {a b c d : PyData} (h : EvD K te σ H (.tuple [a, b, c, d])) (q : ∀ x y z u H2, Same H H2 → Tp K H2 x a → Tp K H2 y b → Tp K H2 z c → Tp K H2 u d → D.nx ((((σ.set i (some x)).set j (some y)).set k (some z)).set l (some u)) H2) :
    tAsg te (gTup K 4 (gCons (gName i) (gCons (gName j) (gCons (gName k) (gCons (gName l) gNil))))) D σ H := h.go fun v H2 s2 hv => by
  obtain ⟨p, xs, rfl, hS, hA⟩ := hv.tup_inv
  obtain ⟨x, y, z, u, rfl, hx, hy, hz, hu⟩ := four_inv hA
  exact ⟨p, _, rfl, hS.sqt, rfl, x, _, rfl, y, _, rfl, z, _, rfl, u, _, rfl, rfl, q x y z u H2 s2 hx hy hz hu⟩
theorem evl_sortSetT {σ : L2.St} {H : Hp} {w : World} {te : TE} {ns : List Int} (he : EvD K te σ H (encI ns)) (hn : ns.length ≤ 60) :
    EvLs K (tCB (rSortedSet w) (tCons (tCB (rSetI K w) (tCons te tNil)) tNil)) σ H ((sortU ns).map PyData.int) := fun H1 s Q q =>
  he H1 s _ fun v H2 s2 hv => by
    obtain ⟨a, xs, rfl, hS, hA⟩ := hv.tup_inv
    obtain rfl := hA.ints_inv
    refine ⟨a, ns, ns, rfl, .inr hS.sqt, by omega, fun k hk => hk, by omega, fun p c hp hc => ⟨p, _, c, rfl, upd_same, hc, fun ns' p2 h1 h2 h3 h4 => ?_⟩⟩
    have e : ns' = sortU ns := rise_eq h1 (sortU_rise ns) fun z => by rw [h2 z, sortU_mem]; simp
    have n1 : H2 p2 = none := by
      by_cases hlp : p2 = p
      · rw [hlp]; exact hp
      · rw [upd_ne hlp] at h4; exact h4
    rw [e]
    exact q p2 _ _ (s2.free n1) (s2.trans ((same_new hp _).trans (same_new h4 _))) upd_same (TpAll.ints _)
/-- tuple(sorted(t)) of ints -/
theorem evd_sortT {σ : L2.St} {H : Hp} {te : TE} {ns : List Int} (he : EvD K te σ H (encI ns)) (hn : ns.length ≤ 1000) : EvD K (tCB (rTupleP K) (tCons (tCB (rSortD K) (tCons te tNil)) tNil)) σ H (encI (sortI ns)) := by
  have e := sortD_ints ns
  unfold encI at he ⊢
  rw [← e]
  exact evd_tupleL (evl_sortD he (sortOk_ints (small_le (by omega))))
/-- t[:i] + t[i + 1:] -/
theorem evd_cut {σ : L2.St} {H : Hp} {te tf ti tj : TE} {ns : List Int} {i : Nat} (h1 : EvD K te σ H (encI ns)) (h2 : EvD K tf σ H (encI ns)) (hi : EvD K ti σ H (.int (i : Int))) (hj : EvD K tj σ H (.int ((i : Int) + 1))) (hl : i + 1 ≤ ns.length) (hz : ns.length ≤ 1000) :
    EvD K (tOp (rCatP K) (tSl (rSlP K) te tNoPart (tPart ti)) (tSl (rSlP K) tf (tPart tj) tNoPart)) σ H (encI (cutI ns i)) := by
  have e1 := cut_to (ds := ns.map PyData.int) (i := i) (by rw [List.length_map]; omega)
  have e2 := cut_from (ds := ns.map PyData.int) (i := i + 1) (by rw [List.length_map]; omega)
  have a1 := evd_sl h1 evp_none (evp_some hi)
  have a2 := evd_sl h2 (evp_some hj) evp_none
  rw [e1] at a1
  have ej : ((i : Int) + 1) = ((i + 1 : Nat) : Int) := by omega
  rw [ej, e2] at a2
  have e3 : encI (cutI ns i) = .tuple ((ns.map PyData.int).take i ++ (ns.map PyData.int).drop (i + 1)) := by
    unfold encI cutI
    rw [List.map_append, List.map_take, List.map_drop]
  rw [e3]
  exact evd_op a1 a2 (opd_cat (by rw [List.length_take, List.length_drop, List.length_map]; exact small_le (by omega)))
theorem sim_I (l : List Int) : simD (encI l) = true := by
  unfold encI
  rw [simD]
  refine simAll_of fun d hd => ?_
  obtain ⟨k, _, rfl⟩ := List.mem_map.mp hd
  rfl
theorem dep_I (l : List Int) : (encI l).depth ≤ 1 := depth_tup (n := 0) fun d hd => by
  obtain ⟨k, _, rfl⟩ := List.mem_map.mp hd
  simp [PyData.depth]
theorem shaped_I (l : List Int) : SeqAt.shaped (encI l) = true := shaped_of (sim_I l) (Nat.le_trans (dep_I l) (by decide))
theorem encI_nil {l : List Int} : encI l = .tuple [] ↔ l = [] := by
  unfold encI
  constructor
  · intro h
    exact List.map_eq_nil_iff.mp (PyData.tuple.inj h)
  · rintro rfl
    rfl
theorem eqv_I0 (l : List Int) : PyData.eqv (encI l) (.tuple []) = decide (l = []) := by
  by_cases h : l = []
  · subst h
    rfl
  · rw [decide_eq_false h]
    cases e : PyData.eqv (encI l) (.tuple []) with
    | false => rfl
    | true => exact absurd (encI_nil.mp (simD_eq _ _ (sim_I l) rfl e)) h
theorem evb_nil {σ : L2.St} {H : Hp} {te : TE} {l : List Int} (h : EvD K te σ H (encI l)) : EvB (tTest (tOp (rEqD K) te (tTupP tNil))) σ H (decide (l = [])) :=
  EvB.is (evb_test (K := K) (evd_op h (evd_tup eva_nil) (opd_eqD (shaped_I _) (shaped_I [])))) (eqv_I0 l)
theorem evb_notnil {σ : L2.St} {H : Hp} {te : TE} {l : List Int} (h : EvD K te σ H (encI l)) : EvB (tTest (tOp (rNeD K) te (tTupP tNil))) σ H (!decide (l = [])) :=
  EvB.is (evb_test (K := K) (evd_op h (evd_tup eva_nil) (opd_neD (shaped_I _) (shaped_I [])))) (by rw [eqv_I0])
def encN (p : Stp × Stt) : PyData := .tuple [encS p.1, encSt p.2]
theorem map_more {α β : Type} {l : List α} {i : Nat} {x : α} (h : l[i]? = some x) (g : α → β) : (l.take (i + 1)).map g = (l.take i).map g ++ [g x] := by
  rw [List.take_succ, h, List.map_append]
  rfl
theorem ok_nexts (F : Fun K "nexts" "Counter.nexts" sCNexts f fd) (T : Txt K mg) : FnOk P w K mg base CX0 1 f fd ["self", "state"] (spNexts K) := by
  refine F.ok scCNexts (fun vs H Q E ⟨x, v, st, e, _⟩ => by rw [e]; rfl) (fun cdv A outer s H vs Q E hr h => ?_)
  obtain ⟨x, v, st, rfl, hv, ok, q⟩ := h
  have nd := scCNexts.nd
  have hS := ok.len
  have hO := ok.outs
  refine ⟨_, pss_cons (ps_asg (pv 1) (pg_tup rfl (pgs_cons (pg_name (i := 2) nd rfl (Or.inl rfl)) (pgs_cons (pg_name (i := 3) nd rfl (Or.inl rfl)) (pgs_cons (pg_name (i := 4) nd rfl (Or.inl rfl)) (pgs_cons (pg_name (i := 5) nd rfl (Or.inl rfl)) pgs_nil))))))
    (pss_cons (ps_set (i := 6) nd rfl (Or.inl rfl) (pe_lst pa_nil))
    (pss_cons (ps_for PassesOwn.never rfl (pi_list (pe_callB (cr_sortedSet rfl) (by rfl) T.zSorted (by decide +kernel) (pa_cons (pe_callTy (cr_setI rfl) (by rfl) T.zSet (by decide +kernel) (pa_cons (pv 3) pa_nil)) pa_nil))) (pg_name (i := 7) nd rfl (Or.inl rfl))
      (pss_cons (ps_set (i := 8) nd rfl (Or.inl rfl) (pe_tupIndex (pv 3) (pa_cons (pv 7) pa_nil)))
      (pss_one (ps_expr (pe_bm PySem.F.plainAttrs_list PySem.F.slot_list_append PySem.F.type_list_append mt_append (pv 6) (pa_cons (pe_tupP (pa_cons (pe_tupP (pa_cons (pe_gS T.cPut) (pa_cons (pv 7) pa_nil))) (pa_cons (pe_tupP
        (pa_cons (pe_callTy cr_tupleP (by rfl) T.zTuple (by decide +kernel) (pa_cons (pe_callB (cr_sortD (hu64 hr)) (by rfl) T.zSorted (by decide +kernel) (pa_cons (pe_op op_catP (pv 2) (pe_tupP (pa_cons (pv 7) pa_nil))) pa_nil)) pa_nil))
        (pa_cons (pe_op op_catP (pe_slice sl_tupP (pv 3) po_none (po_some (pv 8))) (pe_slice sl_tupP (pv 3) (po_some (pe_op op_add (pv 8) pe_int)) po_none)) (pa_cons (pv 4) (pa_cons (pv 5) pa_nil))))) pa_nil))) pa_nil))))))
    (pss_cons (ps_if (PW.pt (pw_and (pt_cmpR op_gt (pv 5) (pe_callB call_len_seq (by rfl) T.zLen (by decide +kernel) (pa_cons (pv 4) pa_nil)) (nomark _)) (pw_and1 (pt_cmpR (op_eqD (hu64 hr)) (pv 2) (pe_tupP pa_nil) (nomark _)))))
      (pss_one (ps_expr (pe_bm PySem.F.plainAttrs_list PySem.F.slot_list_append PySem.F.type_list_append mt_append (pv 6) (pa_cons (pe_tupP (pa_cons (pe_tupP (pa_cons (pe_gS T.cTake) pa_nil)) (pa_cons (pe_tupP (pa_cons (pv 2) (pa_cons (pv 3) (pa_cons (pv 4) (pa_cons (pe_op op_sub (pv 5) pe_int) pa_nil))))) pa_nil))) pa_nil)))) pss_nil)
    (pss_cons (ps_if (PW.pt (pw_and (pt_cmpR op_gt (pv 5) pe_int (nomark _)) (pw_and (pt_cmpR (op_neD (hu64 hr)) (pv 2) (pe_tupP pa_nil) (nomark _)) (pw_and1 (pt_cmpR op_in_seq (pe_ix ix_tup (pv 2) pe_int (fun _ _ => rfl)) (pv 4) (by rfl))))))
      (pss_cons (ps_set (i := 8) nd rfl (Or.inl rfl) (pe_tupIndex (pv 4) (pa_cons (pe_ix ix_tup (pv 2) pe_int (fun _ _ => rfl)) pa_nil)))
      (pss_one (ps_expr (pe_bm PySem.F.plainAttrs_list PySem.F.slot_list_append PySem.F.type_list_append mt_append (pv 6) (pa_cons (pe_tupP (pa_cons (pe_tupP (pa_cons (pe_gS T.cTake) pa_nil)) (pa_cons (pe_tupP (pa_cons (pe_slice sl_tupP (pv 2) (po_some pe_int) po_none) (pa_cons (pv 3)
        (pa_cons (pe_op op_catP (pe_slice sl_tupP (pv 4) po_none (po_some (pv 8))) (pe_slice sl_tupP (pv 4) (po_some (pe_op op_add (pv 8) pe_int)) po_none)) (pa_cons (pe_op op_sub (pv 5) pe_int) pa_nil))))) pa_nil))) pa_nil))))) pss_nil)
    (pss_one (ps_ret (pv 6))))))), ?_⟩
  have mPut : ∀ {H3 : Hp}, Tp K H3 v (encSt st) → Tp K H3 v (.tuple [encI st.store, encI st.puts, encI st.outs, .int st.takes]) := fun h => h
  refine sd_seq (sd_unp4 (K := K) (evd_var rfl (mPut hv)) fun vs vp vo vt H1 s1 hs hp ho ht => ?_)
  obtain rfl := ht.int_inv
  refine sd_go (sd_seq (sd_nil fun lf nlf => ?_))
  have s2 := s1.trans (same_new nlf (.lst []))
  have nlf0 : H lf = none := s1.free nlf
  have sF := same_new nlf (.lst [])
  refine sd_go (sd_seq (st_forL (K := K) (evl_sortSetT (w := w) (evd_var rfl (hp.same sF)) (by omega))
    (fun l xs i σ H' => ∃ (u1 u2 : Option V) (xo : List V), σ = [some x, some v, some vs, some vp, some vo, some (.int st.takes), some (.ref lf), u1, u2] ∧ Same H H' ∧ Same H1 H' ∧ H' l = some (.lst xs) ∧ l ≠ lf ∧ TpAll K H' xs ((sortU st.puts).map PyData.int) ∧
      H' lf = some (.lst xo) ∧ TpAll K H' xo (((sortU st.puts).take i).map fun n => encN (putNx st n))) ?_ ?_ ?_ ?_))
  · intro l xs H3 n3 s3 hl hx
    refine ⟨none, none, [], rfl, s2.trans s3, sF.trans s3, hl, fun e => ?_, hx, s3 _ _ upd_same, .nil⟩
    rw [e, upd_same] at n3
    cases n3
  · exact fun l xs i σ H' ⟨_, _, _, _, _, _, h1, _, h2, _⟩ => ⟨h1, h2⟩
  · rintro l xs i d y σ H' nl hd hy ⟨u1, u2, xo, rfl, s', s1', hl, hne, hxs, hf, hxo⟩
    obtain ⟨n, hn, rfl⟩ := map_at hd
    obtain rfl := hy.int_inv
    have hm : n ∈ st.puts := (sortU_mem _ _).mp (List.mem_of_getElem? hn)
    have hix := List.idxOf_lt_length_of_mem hm
    have sl : (sortU st.puts).length ≤ 20 := by
      have := nodup_len _ _ ((sortU_rise st.puts).imp fun h => Int.ne_of_lt h) fun x hx => (sortU_mem _ x).mp hx
      omega
    have hxl := hxo.length
    rw [List.length_map] at hxl
    have htk : ((sortU st.puts).take i).length ≤ (sortU st.puts).length := List.length_take_le' ..
    have hp' := hp.same s1'
    refine sd_seq (sd_set (K := K) (evd_tindex rfl hp' (evd_var rfl (.int n)) hm) fun vi H3 s3 h3 => ?_)
    obtain rfl := h3.int_inv
    have hp3 := hp'.same s3
    have hs3 := hs.same (s1'.trans s3)
    have ho3 := ho.same (s1'.trans s3)
    refine sd_go (st_app (K := K) (i := 6) (l := lf) (d := encN (putNx st n)) rfl (s3 _ _ hf) ?_ (small_lt (by omega)) fun z H4 s4 h4 => ?_)
    · refine evd_tup (eva_cons (d := encS (.put n)) (evd_is (evd_tup (eva_cons evd_str (eva_cons (evd_var rfl (.int n)) eva_nil))) (by rw [encS])) (eva_cons (d := encSt (putNx st n).2) (evd_tup (eva_cons (evd_sortT (ns := st.store ++ [n]) ?_ ?_) (eva_cons ?_ (eva_cons (evd_var rfl ho3) (eva_cons (evd_var rfl (.int st.takes)) eva_nil))))) eva_nil))
      · unfold encI
        rw [List.map_append]
        exact evd_op (evd_var rfl hs3) (evd_tup (eva_cons (evd_var rfl (.int n)) eva_nil)) (opd_cat (by rw [List.length_map]; exact small_le (by simp; omega)))
      · rw [List.length_append, List.length_singleton]
        omega
      · exact evd_cut (evd_var rfl hp3) (evd_var rfl hp3) (evd_var rfl (.int _)) (evd_op (evd_var rfl (.int _)) evd_int (opd_I0 (.int _))) (by omega) (by omega)
    · have sT : SameT H' (upd H4 lf (.lst (xo ++ [z]))) := ((SameT.of s3).trans (SameT.of s4)).updL (s4 _ _ (s3 _ _ hf))
      refine ⟨_, _, _, rfl, same_mut ((s'.trans s3).trans s4) nlf0 _, same_mut ((s1'.trans s3).trans s4) nlf _, ?_, hne, hxs.mono sT, upd_same, ?_⟩
      · rw [upd_ne hne]
        exact s4 _ _ (s3 _ _ hl)
      · rw [map_more hn]
        exact (hxo.mono sT).snoc (h4.mono (SameT.updL (.refl _) (s4 _ _ (s3 _ _ hf))))
  · rintro l xs σ H' ⟨u1, u2, xo, rfl, s', s1', hl, hne, hxs, hf, hxo⟩
    rw [List.length_map, List.take_length] at hxo
    have sl : (sortU st.puts).length ≤ 20 := by
      have := nodup_len _ _ ((sortU_rise st.puts).imp fun h => Int.ne_of_lt h) fun x hx => (sortU_mem _ x).mp hx
      omega
    have hxl := hxo.length
    rw [List.length_map] at hxl
    -- the last part, from whatever the middle left
    have last : ∀ {H2 : Hp} {x2 : List V}, Same H H2 → Same H1 H2 → H2 lf = some (.lst x2) → TpAll K H2 x2 (((sortU st.puts).map (putNx st) ++ emptyNx st).map encN) → ∀ (D : Ends), (∀ σ H', (∃ x3 u, σ = [some x, some v, some vs, some vp, some vo, some (.int st.takes), some (.ref lf), u1, u] ∧ Same H H' ∧ H' lf = some (.lst x3) ∧ TpAll K H' x3 ((nextsM st).map encN)) → D.nx σ H') →
        tIfS (tAnd (tTest (tOp (rI0 fun i j => V.bl (decide (j < i))) (tVar 5) (tC (V.int 0)))) (tAnd (tTest (tOp (rNeD K) (tVar 2) (tTupP tNil))) (tTest (tOp (rIn K false) (tOp (rIxT K) (tVar 2) (tC (V.int 0))) (tVar 4)))))
          (tSeq (tAsg (tTIndex K (tVar 4) (tCons (tOp (rIxT K) (tVar 2) (tC (V.int 0))) tNil)) (gName 8)) (tDrop (tBM K "list" rAppend (tVar 6) (tCons (tTupP (tCons (tTupP (tCons (tC (V.str (Str.ofString "take"))) tNil)) (tCons (tTupP (tCons (tSl (rSlP K) (tVar 2) (tPart (tC (V.int 1))) tNoPart) (tCons (tVar 3)
            (tCons (tOp (rCatP K) (tSl (rSlP K) (tVar 4) tNoPart (tPart (tVar 8))) (tSl (rSlP K) (tVar 4) (tPart (tOp (rI0 fun i j => V.int (i + j)) (tVar 8) (tC (V.int 1)))) tNoPart)) (tCons (tOp (rI0 fun i j => V.int (i - j)) (tVar 5) (tC (V.int 1))) tNil))))) tNil))) tNil)))) tNext D [some x, some v, some vs, some vp, some vo, some (.int st.takes), some (.ref lf), u1, u2] H2 := by
      intro H2 x2 sH sH1 hf2 hx2 D eD
      have lx2 := hx2.length
      have le1 : (emptyNx st).length ≤ 1 := by
        unfold emptyNx
        split <;> simp
      rw [List.length_map, List.length_append, List.length_map] at lx2
      have hs2 := hs.same sH1
      have hp2 := hp.same sH1
      have ho2 := ho.same sH1
      have enx : nextsM st = ((sortU st.puts).map (putNx st) ++ emptyNx st) ++ takeNx st := rfl
      cases est : st.store with
      | nil =>
        refine sd_no1 (EvB.is (b := decide (0 < st.takes) && false) (evb_and (evb_cmp (K := K) (evd_var (v := .int st.takes) rfl (.int _)) evd_int rfl) fun _ => EvB.is (b := false && false) (evb_and (EvB.is (evb_notnil (evd_var rfl hs2)) (by rw [est]; rfl)) fun z => nomatch z) rfl) (by simp)) fun H3 s3 => ?_
        refine eD _ _ ⟨x2, u2, rfl, sH.trans s3, s3 _ _ hf2, ?_⟩
        have e : takeNx st = [] := by unfold takeNx; rw [est]
        rw [enx, e, List.append_nil]
        exact hx2.same s3
      | cons a r =>
        have hs2' : Tp K H2 vs (.tuple (.int a :: r.map PyData.int)) := by
          rw [est] at hs2
          exact hs2
        have etk : takeNx st = if 0 < st.takes ∧ a ∈ st.outs then [(.take, ⟨r, st.puts, cutI st.outs (st.outs.idxOf a), st.takes - 1⟩)] else [] := by unfold takeNx; rw [est]
        refine sd_if (b := decide (0 < st.takes) && (true && decide (a ∈ st.outs))) (evb_and (evb_cmp (K := K) (evd_var (v := .int st.takes) rfl (.int _)) evd_int rfl) fun _ => evb_and (EvB.is (evb_notnil (evd_var rfl hs2)) (by rw [est]; rfl)) fun _ => evb_inInts (evd_at 0 (evd_var rfl hs2') rfl) (evd_var rfl ho2)) (fun hb H3 s3 => ?_) fun hb H3 s3 => ?_
        · have hb : 0 < st.takes ∧ a ∈ st.outs := by simpa using hb
          have hix := List.idxOf_lt_length_of_mem hb.2
          rw [if_pos hb] at etk
          refine sd_seq (sd_set (K := K) (evd_tindex rfl (ho2.same s3) (evd_at 0 (evd_var rfl (hs2'.same s3)) rfl) hb.2) fun vi H4 s4 h4 => ?_)
          obtain rfl := h4.int_inv
          have s34 := s3.trans s4
          refine sd_go (st_app (K := K) (i := 6) (l := lf) (d := encN (.take, ⟨r, st.puts, cutI st.outs (st.outs.idxOf a), st.takes - 1⟩)) rfl (s34 _ _ hf2) ?_ (small_lt (by omega)) fun z H5 s5 h5 => ?_)
          · refine evd_tup (eva_cons (d := encS .take) (evd_is (evd_tup (eva_cons evd_str eva_nil)) (by rw [encS])) (eva_cons (d := encSt ⟨r, st.puts, cutI st.outs (st.outs.idxOf a), st.takes - 1⟩) (evd_tup (eva_cons (d := encI r) (evd_is (evd_sl (evd_var rfl (hs2'.same s34)) (evp_some (K := K) evd_int) evp_none) (congrArg PyData.tuple tail_cut)) (eva_cons (evd_var rfl (hp2.same s34)) (eva_cons ?_ (eva_cons (evd_op (evd_var rfl (.int st.takes)) evd_int (opd_I0 (.int _))) eva_nil))))) eva_nil))
            exact evd_cut (evd_var rfl (ho2.same s34)) (evd_var rfl (ho2.same s34)) (evd_var rfl (.int _)) (evd_op (evd_var rfl (.int _)) evd_int (opd_I0 (.int _))) (by omega) (by omega)
          · have sT : SameT H2 (upd H5 lf (.lst (x2 ++ [z]))) := ((SameT.of s34).trans (SameT.of s5)).updL (s5 _ _ (s34 _ _ hf2))
            refine eD _ _ ⟨_, _, rfl, same_mut ((sH.trans s34).trans s5) nlf0 _, upd_same, ?_⟩
            rw [enx, etk, List.map_append (l₁ := (sortU st.puts).map (putNx st) ++ emptyNx st)]
            exact (hx2.mono sT).append (.cons (h5.mono (SameT.updL (.refl _) (s5 _ _ (s34 _ _ hf2)))) .nil)
        · have hb : ¬ (0 < st.takes ∧ a ∈ st.outs) := by simpa using hb
          rw [if_neg hb] at etk
          refine sd_next (eD _ _ ⟨x2, u2, rfl, sH.trans s3, s3 _ _ hf2, ?_⟩)
          rw [enx, etk, List.append_nil]
          exact hx2.same s3
    have fin : ∀ {σ : L2.St} {H3 : Hp}, (∃ x3 u, σ = [some x, some v, some vs, some vp, some vo, some (.int st.takes), some (.ref lf), u1, u] ∧ Same H H3 ∧ H3 lf = some (.lst x3) ∧ TpAll K H3 x3 ((nextsM st).map encN)) → tRet (tVar 6) { nx := fun _ H' => Q .non H', rt := Q } σ H3 := by
      rintro σ H3 ⟨x3, u, rfl, s3, h3, hx3⟩
      exact ⟨_, rfl, q lf x3 H3 nlf0 s3 h3 hx3⟩
    refine sd_go (sd_seq (sd_if (b := decide ((st.outs.length : Int) < st.takes) && decide (st.store = [])) (evb_and (EvB.is (evb_cmp (K := K) (evd_var (v := .int st.takes) rfl (.int _)) (evd_len (evd_var rfl (ho.same s1'))) rfl) (by rw [List.length_map])) fun _ => evb_nil (evd_var rfl (hs.same s1'))) (fun hb H2 s2 => ?_) fun hb H2 s2 => ?_))
    · have hb : (st.outs.length : Int) < st.takes ∧ st.store = [] := by simpa using hb
      have ee : emptyNx st = [(.take, ⟨st.store, st.puts, st.outs, st.takes - 1⟩)] := by unfold emptyNx; rw [if_pos hb]
      refine st_app (K := K) (i := 6) (l := lf) (d := encN (.take, ⟨st.store, st.puts, st.outs, st.takes - 1⟩)) rfl (s2 _ _ hf) (evd_tup (eva_cons (d := encS .take) (evd_is (evd_tup (eva_cons evd_str eva_nil)) (by rw [encS])) (eva_cons (d := encSt ⟨st.store, st.puts, st.outs, st.takes - 1⟩) (evd_tup (eva_cons (evd_var rfl (hs.same (s1'.trans s2))) (eva_cons (evd_var rfl (hp.same (s1'.trans s2))) (eva_cons (evd_var rfl (ho.same (s1'.trans s2))) (eva_cons (evd_op (evd_var rfl (.int st.takes)) evd_int (opd_I0 (.int _))) eva_nil))))) eva_nil))) (small_lt (by omega)) fun z H5 s5 h5 => ?_
      have sT : SameT H' (upd H5 lf (.lst (xo ++ [z]))) := ((SameT.of s2).trans (SameT.of s5)).updL (s5 _ _ (s2 _ _ hf))
      refine sd_go (sd_seq (last (same_mut ((s'.trans s2).trans s5) nlf0 _) (same_mut ((s1'.trans s2).trans s5) nlf _) upd_same ?_ _ ?_))
      · rw [ee, List.map_append, List.map_map]
        exact (hxo.mono sT).append (.cons (h5.mono (SameT.updL (.refl _) (s5 _ _ (s2 _ _ hf)))) .nil)
      · exact fun σ H3 h3 => fin h3
    · have hb : ¬ ((st.outs.length : Int) < st.takes ∧ st.store = []) := by simpa using hb
      have ee : emptyNx st = [] := by unfold emptyNx; rw [if_neg hb]
      refine sd_next (sd_go (sd_seq (last (s'.trans s2) (s1'.trans s2) (s2 _ _ hf) ?_ _ fun σ H3 h3 => fin h3)))
      rw [ee, List.append_nil, List.map_map]
      exact hxo.same s2
end
end Lo
set_option Elab.async false
set_option linter.all false
set_option maxRecDepth 100000
set_option maxHeartbeats 8000000
/-! Counter: __init__, ways, rank -/
namespace Lo
open PySem PySem.Spec PyProof.Rows L2
/-- all but kd stays -/
def But (kd : Addr) (H H' : Hp) : Prop := ∀ b o, b ≠ kd → H b = some o → H' b = some o
theorem But.refl (kd : Addr) (H : Hp) : But kd H H := fun _ _ _ h => h
theorem But.trans {kd : Addr} {H H1 H2 : Hp} (a : But kd H H1) (b : But kd H1 H2) : But kd H H2 := fun c o n h => b c o n (a c o n h)
theorem But.of {kd : Addr} {H H' : Hp} (s : Same H H') : But kd H H' := fun b o _ h => s b o h
theorem Dk.lives {K : PySem.W.Frag} {P : Program} {w : World} {H : Hp} {a : Addr} {kvs : List (NestedKey × Int)} (d : Dk K P w H a kvs) : ∃ xs, H a = some (DkO P w a xs) := let ⟨xs, h, _⟩ := d.ex; ⟨xs, h⟩
theorem But.sameT {K : PySem.W.Frag} {P : Program} {w : World} {kd : Addr} {H H' : Hp} {kvs : List (NestedKey × Int)} (b : But kd H H') (d : Dk K P w H kd kvs) : SameT H H' := fun c o h i => by
  refine b c o (fun e => ?_) h
  obtain ⟨xs, hx⟩ := d.lives
  rw [e, hx] at h
  cases h
  cases i
def Memo (kvs : List (NestedKey × Int)) : Prop := ∀ p ∈ kvs, ∃ st, OkSt st ∧ p.1 = keyD (encSt st) ∧ p.2 = waysT st
theorem sim_St (st : Stt) : simD (encSt st) = true := by
  unfold encSt
  rw [simD, simAll, simAll, simAll, simAll, simAll, sim_I, sim_I, sim_I]
  rfl
theorem dep_St (st : Stt) : (encSt st).depth ≤ 2 := depth_tup (n := 1) fun d hd => by
  simp at hd
  rcases hd with rfl | rfl | rfl | rfl
  · exact dep_I _
  · exact dep_I _
  · exact dep_I _
  · simp [PyData.depth]
theorem encI_inj {a b : List Int} (h : encI a = encI b) : a = b := by
  unfold encI at h
  replace h := PyData.tuple.inj h
  induction a generalizing b with
  | nil =>
    cases b with
    | nil => rfl
    | cons x b => cases h
  | cons x a ih =>
    cases b with
    | nil => cases h
    | cons y b =>
      rw [List.map_cons, List.map_cons] at h
      obtain ⟨h1, h2⟩ := List.cons.inj h
      rw [ih h2, PyData.int.inj h1]
theorem encSt_inj {a b : Stt} (h : encSt a = encSt b) : a = b := by
  unfold encSt at h
  have h := PyData.tuple.inj h
  obtain ⟨h1, h⟩ := List.cons.inj h
  obtain ⟨h2, h⟩ := List.cons.inj h
  obtain ⟨h3, h⟩ := List.cons.inj h
  obtain ⟨h4, _⟩ := List.cons.inj h
  cases a
  cases b
  rw [Stt.mk.injEq]
  exact ⟨encI_inj h1, encI_inj h2, encI_inj h3, PyData.int.inj h4⟩
theorem Memo.look {kvs : List (NestedKey × Int)} (m : Memo kvs) {st : Stt} {v : Int} (h : lookN kvs (keyD (encSt st)) = some v) : v = waysT st := by
  unfold lookN at h
  obtain ⟨p, hp, rfl⟩ := Option.map_eq_some_iff.mp h
  have h1 := List.mem_of_find?_eq_some hp
  have h2 : p.1 = keyD (encSt st) := by simpa using List.find?_some hp
  obtain ⟨st2, _, e1, e2⟩ := m p h1
  rw [h2] at e1
  rw [encSt_inj (keyD_inj _ _ (sim_St st) (sim_St st2) e1)]
  exact e2
theorem Memo.put {kvs : List (NestedKey × Int)} (m : Memo kvs) {st : Stt} (ok : OkSt st) : Memo (putN kvs (keyD (encSt st)) (waysT st)) := by
  intro p hp
  unfold putN at hp
  split at hp
  · obtain ⟨z, hz, rfl⟩ := List.mem_map.mp hp
    split
    · rename_i e
      exact ⟨st, ok, e, rfl⟩
    · exact m z hz
  · rcases List.mem_append.mp hp with hp | hp
    · exact m p hp
    · rw [List.mem_singleton] at hp
      subst hp
      exact ⟨st, ok, rfl, rfl⟩
theorem putN_look (kvs : List (NestedKey × Int)) (k : NestedKey) (v : Int) (h : lookN kvs k = none) : lookN (putN kvs k v) k = some v := by
  unfold putN
  rw [h]
  simp only [Option.isSome_none, Bool.false_eq_true, if_false]
  unfold lookN at h ⊢
  rw [Option.map_eq_none_iff] at h
  rw [List.find?_append, h]
  simp
theorem costN_pos : ∀ n, 1 ≤ costN n
  | 0 => Nat.le_refl 1
  | n + 1 => Nat.le_add_right 1 _
theorem costN_ge : ∀ n, n ≤ costN n
  | 0 => Nat.zero_le _
  | n + 1 => by
    have h1 := Nat.mul_le_mul_left (n + 1) (costN_pos n)
    show n + 1 ≤ 1 + (n + 1) * costN n
    omega
def spCInit (K : PySem.W.Frag) (P : Program) (w : World) (C : Addr) : Sp := fun vs H Q _ => ∃ (p dx : Addr) (v : V) (t : Three) (S : List Int), vs = [.ref p, v] ∧ H p = some (.ins C dx []) ∧ Tp K H v (encT t) ∧ GoodT S t ∧ S.length ≤ 1000 ∧ stepsT t ≤ 9 ∧
  ∀ (kd : Addr) (vb : V) (H' : Hp), H kd = none → But p H H' → H' p = some (.ins C dx (cFlds vb kd)) → Tp K H' vb (encSt (beginT t)) → Dk K P w H' kd [] → Q .non H'
def spWays (K : PySem.W.Frag) (P : Program) (w : World) (C : Addr) (n : Nat) : Sp := fun vs H Q _ => ∃ (p dx kd : Addr) (vb v : V) (st : Stt) (kvs : List (NestedKey × Int)), vs = [.ref p, v] ∧ H p = some (.ins C dx (cFlds vb kd)) ∧ Tp K H v (encSt st) ∧ OkSt st ∧ measS st < n ∧
  Dk K P w H kd kvs ∧ Memo kvs ∧ kvs.length + costN (measS st) ≤ 1000000 ∧ ∀ H' kvs', But kd H H' → Dk K P w H' kd kvs' → Memo kvs' → kvs'.length ≤ kvs.length + costN (measS st) → Q (.int (waysT st)) H'
section
variable {P : Program} {w : World} {K : PySem.W.Frag} {mg : Str → Option Value} {base : Heap} {f C : Addr} {fd : FuncData}
theorem scCInit : FnScope ["self", "three", "left", "out", "idle"] ["self", "three"] (defScope sCInit) := ⟨rfl, rfl, rfl, by decide +kernel, rfl, by decide +kernel, by decide +kernel⟩
theorem ok_cinit (F : Fun K "__init__" "Counter.__init__" sCInit f fd) (T : Txt K mg) (CT : CTxt K mg C) (cSize : Callee P w K mg base 1 "size_of" ["heap"] (spD K rSize)) (cBoth : Callee P w K mg base 1 "both" ["one", "other"] (spD K rBoth)) (cNums : Callee P w K mg base 1 "numbers_of" ["heap"] (spLs K rNums)) :
    FnOk P w K mg base CX0 2 f fd ["self", "three"] (spCInit K P w C) := by
  refine F.ok scCInit (fun vs H Q E ⟨p, dx, v, t, S, e, _⟩ => by rw [e]; rfl) (fun cdv A outer s H vs Q E hr h => ?_)
  obtain ⟨p, dx, v, t, S, rfl, hp, hv, gt, hS, h9, q⟩ := h
  have nd := scCInit.nd
  refine ⟨_, pss_cons (ps_asg (pv 1) (pg_tup rfl (pgs_cons (pg_name (i := 2) nd rfl (Or.inl rfl)) (pgs_cons (pg_name (i := 3) nd rfl (Or.inl rfl)) (pgs_cons (pg_name (i := 4) nd rfl (Or.inl rfl)) pgs_nil)))))
    (pss_cons (ps_fld (pv 0) (pe_tupP (pa_cons (pe_tupP pa_nil) (pa_cons (pe_callTy cr_tupleP (by rfl) T.zTuple (by decide +kernel) (pa_cons (pe_cal cNums hr (pa_cons (pe_cal cBoth hr (pa_cons (pv 2) (pa_cons (pv 3) pa_nil))) pa_nil)) pa_nil))
      (pa_cons (pe_callTy cr_tupleP (by rfl) T.zTuple (by decide +kernel) (pa_cons (pe_cal cNums hr (pa_cons (pv 3) pa_nil)) pa_nil)) (pa_cons (pe_op op_add (pe_cal cSize hr (pa_cons (pv 3) pa_nil)) (pv 4)) pa_nil))))) rfl)
    (pss_one (ps_fld (pv 0) pe_newD rfl))), ?_⟩
  have h1 := gt.left.size_nonneg
  have h2 := gt.out.size_nonneg
  have h3 := gt.idle
  unfold stepsT at h9
  obtain ⟨gb, eb⟩ := gt.left.both gt.out
  have lo := gt.out.len
  refine sd_seq (sd_unp3 (K := K) (evd_var rfl (tp_T hv)) fun x y z H1 s1 hx hy hz => ?_)
  obtain rfl := hz.int_inv
  have ev : EvD K (tTupP (tCons (tTupP tNil) (tCons (tCB (rTupleP K) (tCons (tCall (spLs K rNums) [] E0 (tCons (tCall (spD K rBoth) [] E0 (tCons (tVar 2) (tCons (tVar 3) tNil))) tNil)) tNil)) (tCons (tCB (rTupleP K) (tCons (tCall (spLs K rNums) [] E0 (tCons (tVar 3) tNil)) tNil)) (tCons (tOp (rI0 fun i j => V.int (i + j)) (tCall (spD K rSize) [] E0 (tCons (tVar 3) tNil)) (tVar 4)) tNil)))))
      [some (.ref p), some v, some x, some y, some (.int t.2.2)] H1 (encSt (beginT t)) :=
    evd_tup (eva_cons (d := encI []) (evd_is (d := .tuple []) (evd_tup eva_nil) rfl) (eva_cons (evd_tupleL (evl_call (eva_cons (evd_call (d := encH (bothH t.1 t.2.1)) (eva_cons (evd_var rfl hx) (eva_cons (evd_var rfl hy) eva_nil)) ⟨_, _, S, rfl, gt.left, gt.out, by omega, rfl⟩) eva_nil) ⟨_, rfl, fun p hp => by have := gb.pos p hp; omega, by omega, rfl⟩))
      (eva_cons (evd_tupleL (evl_call (eva_cons (evd_var rfl hy) eva_nil) ⟨_, rfl, fun p hp => by have := gt.out.pos p hp; omega, by omega, rfl⟩)) (eva_cons (evd_op (evd_call (d := .int (sizeH t.2.1)) (eva_cons (evd_var rfl hy) eva_nil) ⟨_, rfl, small_le (by omega), rfl⟩) (evd_var rfl (.int t.2.2)) (opd_I0 (.int _))) eva_nil))))
  refine sd_go (sd_seq (ev.go fun vb H2 s2 hvb => ?_))
  have s12 := s1.trans s2
  refine ⟨_, rfl, p, C, dx, [], rfl, s12 _ _ hp, CT.cl, CT.nB, by decide, ?_⟩
  refine sd_go (fun kd nkd dk => ?_)
  have npk : kd ≠ p := fun e => by
    rw [e, upd_same] at nkd
    cases nkd
  have nkd2 : H2 kd = none := by
    rw [upd_ne npk] at nkd
    exact nkd
  refine ⟨_, rfl, p, C, dx, _, rfl, (by rw [upd_ne npk.symm]; exact upd_same), CT.cl, CT.nK, by show 1 < 1000; decide, ?_⟩
  have sT1 : SameT H2 (upd H2 p (.ins C dx (putF "begin" vb []))) := SameT.upd (.refl _) fun u e => by
    rw [s12 _ _ hp] at e
    cases e
    rfl
  have sT2 := SameT.of (same_new nkd (DkO P w kd []))
  have sT3 : SameT (upd (upd H2 p (.ins C dx (putF "begin" vb []))) kd (DkO P w kd [])) (upd (upd (upd H2 p (.ins C dx (putF "begin" vb []))) kd (DkO P w kd [])) p (.ins C dx (cFlds vb kd))) := SameT.upd (.refl _) fun u e => by
    rw [upd_ne npk.symm, upd_same] at e
    cases e
    rfl
  refine q kd vb _ (s12.free nkd2) (fun b o nb e => ?_) upd_same (((hvb.mono sT1).mono sT2).mono sT3) (dk.mono sT3 (upd_ne npk))
  have nbk : b ≠ kd := fun z => by
    rw [z] at e
    rw [s12 _ _ e] at nkd2
    cases nkd2
  rw [upd_ne nb, upd_ne nbk, upd_ne nb]
  exact s12 _ _ e
theorem scCWays : FnScope ["self", "state", "step", "behind"] ["self", "state"] (defScope sCWays) := ⟨rfl, rfl, rfl, by decide +kernel, rfl, by decide +kernel, by decide +kernel⟩
/-- self.known -/
theorem evk {σ : L2.St} {H : Hp} {i : Nat} {p dx kd : Addr} {vb : V} (CT : CTxt K mg C) (hv : σ[i]? = some (some (.ref p))) (hp : H p = some (.ins C dx (cFlds vb kd))) {Q : VK} (q : Q (.ref kd) H) : tFld K (tVar i) "known" σ H Q :=
  ⟨_, hv, p, C, dx, _, _, rfl, hp, CT.cl, CT.nK, cFlds_known _ _, q⟩
theorem waysN {n : Nat} : ¬ (("ways" : Str) = "begin") ∧ ¬ (("ways" : Str) = "known") ∧ ¬ (("nexts" : Str) = "begin") ∧ ¬ (("nexts" : Str) = "known") ∧ ¬ (("rank" : Str) = "begin") ∧ ¬ (("rank" : Str) = "known") := by decide +kernel
theorem ok_ways {n k : Nat} {fN fM : Addr} {fdN fdM : FuncData} (F : Fun K "ways" "Counter.ways" sCWays f fd) (T : Txt K mg) (CT : CTxt K mg C) (hk : 1 ≤ k)
    (GN : FnOk P w K mg base CX0 1 fN fdN ["self", "state"] (spNexts K)) (bN : Binds K fdN ["self", "state"] []) (mN : Meth K C "nexts" fN)
    (GM : FnOk P w K mg base CX0 k fM fdM ["self", "state"] (spWays K P w C n)) (bM : Binds K fdM ["self", "state"] []) (mM : Meth K C "ways" fM) :
    FnOk P w K mg base CX0 (k + 1) f fd ["self", "state"] (spWays K P w C (n + 1)) := by
  refine F.ok scCWays (fun vs H Q E ⟨p, dx, kd, vb, v, st, kvs, e, _⟩ => by rw [e]; rfl) (fun cdv A outer s H vs Q E hr h => ?_)
  obtain ⟨p, dx, kd, vb, v, st, kvs, rfl, hp, hv, ok, hm, D, M, hsz, q⟩ := h
  have nd := scCWays.nd
  refine ⟨_, pss_cons (ps_if (PW.pt (pw_and (pt_cmpR (op_eqD (hu64 hr)) (pe_ix ix_tup (pv 1) pe_int (fun _ _ => rfl)) (pe_tupP pa_nil) (nomark _)) (pw_and1 (pt_cmpR op_eq (pe_ix ix_tup (pv 1) pe_int (fun _ _ => rfl)) pe_int (nomark _)))))
      (pss_one (ps_ret (pe_callTy call_int1 (by rfl) T.zInt (by decide +kernel) (pa_cons (pe_cmpR (op_eqD (hu64 hr)) (pe_ix ix_tup (pv 1) pe_int (fun _ _ => rfl)) (pe_tupP pa_nil) (nomark _)) pa_nil)))) pss_nil)
    (pss_cons (ps_if (pt_cmpR (op_notInD (hu64 hr)) (pv 1) (pe_fld (pv 0) rfl) (by rfl))
      (pss_one (ps_putD (hu64 hr) (pe_fld (pv 0) rfl) (pv 1) (pe_callB (cr_sum rfl) (by rfl) T.zSum (by decide +kernel) (pa_cons (pe_lc (own := [("step", 2), ("behind", 3)]) (g := gTup K 2 (gCons (gName 2) (gCons (gName 3) gNil))) (tt := tYes) (te := tMeth C "ways" (spWays K P w C n) [] E0 (tVar 0) (tCons (tVar 3) tNil)) rfl nd
        (pi_list (pe_meth (pv 0) CT.cl mN GN (hr.mono hk) bN .nil pass0 (pa_cons (pv 1) pa_nil))) (blkOk_by (N := ["self", "state", "step", "behind"]) (sc := defScope sCWays) (by decide +kernel))
        (fun _ _ _ _ _ => pg_tup rfl (pgs_cons (pg_name (i := 2) nd rfl (Or.inl rfl)) (pgs_cons (pg_name (i := 3) nd rfl (Or.inl rfl)) pgs_nil))) (fun _ _ _ _ _ => pts_nil) (fun _ _ _ _ _ => pe_meth (pv 0) CT.cl mM GM hr bM .nil pass0 (pa_cons (pv 3) pa_nil))) pa_nil)) rfl)) pss_nil)
    (pss_one (ps_ret (pe_getD (hu64 hr) (pe_fld (pv 0) rfl) (pv 1) (fun _ _ => rfl))))), ?_⟩
  have mSt : ∀ {H3 : Hp}, Tp K H3 v (encSt st) → Tp K H3 v (.tuple [encI st.store, encI st.puts, encI st.outs, .int st.takes]) := fun h => h
  have ow := ok.outs
  refine sd_seq (sd_if (b := decide (st.puts = []) && decide (st.takes = 0)) (evb_and (evb_nil (evd_at 1 (evd_var rfl (mSt hv)) rfl)) fun _ => evb_test (K := K) (evd_op (evd_at 3 (evd_var rfl (mSt hv)) rfl) evd_int opd_eqI)) (fun hb H1 s1 => ?_) fun hb H1 s1 => ?_)
  · have hb : st.puts = [] ∧ st.takes = 0 := by simpa using hb
    refine sd_ret (K := K) (d := .int (waysT st)) (evd_is (evd_cb (eva_cons (evd_op (evd_at 2 (evd_var rfl (mSt (hv.same s1))) rfl) (evd_tup eva_nil) (opd_eqD (shaped_I _) (shaped_I []))) eva_nil) cbd_intB) ?_) fun u H2 s2 h2 => ?_
    · rw [eqv_I0, waysT_base hb]
      congr 1
      by_cases e : st.outs = [] <;> simp [e]
    · obtain rfl := h2.int_inv
      exact q H2 kvs (But.of (s1.trans s2)) (D.same (s1.trans s2)) M (Nat.le_add_right _ _)
  · have hb : ¬ (st.puts = [] ∧ st.takes = 0) := by simpa using hb
    obtain ⟨b, ys, rfl, hSy, hAy⟩ := hv.tup_inv
    have hp1 := s1 _ _ hp
    have hv1 := hv.same s1
    have D1 := D.same s1
    have sdep : (encSt st).depth ≤ 8 := Nat.le_trans (dep_St st) (by decide)
    have fin : ∀ {H5 : Hp} {kvs5 : List (NestedKey × Int)}, But kd H H5 → Dk K P w H5 kd kvs5 → Memo kvs5 → kvs5.length ≤ kvs.length + costN (measS st) → (lookN kvs5 (keyD (encSt st))).isSome = true → ∀ {u1 u2 : Option V},
        tRet (tGetD K P w (tFld K (tVar 0) "known") (tVar 1)) { nx := fun _ H' => Q .non H', rt := Q } [some (.ref p), some (.ref b), u1, u2] H5 := by
      intro H5 kvs5 bt D5 M5 l5 is5 u1 u2
      have npk : p ≠ kd := fun e => by
        obtain ⟨xs, hx⟩ := D.lives
        rw [e, hx] at hp
        cases hp
      obtain ⟨z, ez⟩ := Option.isSome_iff_exists.mp is5
      show tGetD K P w (tFld K (tVar 0) "known") (tVar 1) [some (.ref p), some (.ref b), u1, u2] H5 Q
      unfold tGetD
      refine evk CT rfl (bt _ _ npk hp) ?_
      refine ⟨_, rfl, kd, b, _, kvs5, z, rfl, rfl, hv.mono (bt.sameT D), sim_St st, sdep, D5, ez, ?_⟩
      rw [M5.look ez]
      exact q H5 kvs5 bt D5 M5 l5
    refine sd_next (sd_go (sd_seq (sd_if (b := (true != (lookN kvs (keyD (encSt st))).isSome)) (fun H2 s2 Q2 q2 => ⟨_, rfl, evk CT rfl (s2 _ _ hp1) ⟨b, kd, _, kvs, rfl, rfl, hv1.same s2, sim_St st, sdep, D1.same s2, _, rfl, q2 H2 (Same.refl H2)⟩⟩) (fun hi H2 s2 => ?_) fun hi H2 s2 => ?_)))
    · have hn : lookN kvs (keyD (encSt st)) = none := by
        cases e : lookN kvs (keyD (encSt st)) with
        | none => rfl
        | some z => rw [e] at hi; cases hi
      have npk : p ≠ kd := fun e => by
        obtain ⟨xs, hx⟩ := D.lives
        rw [e, hx] at hp
        cases hp
      have s12 := s1.trans s2
      obtain ⟨m, em⟩ : ∃ m, measS st = m + 1 := by
        cases e : measS st with
        | zero =>
          exfalso
          refine hb ⟨List.eq_nil_of_length_eq_zero (by unfold measS at e; omega), ?_⟩
          have := ok.takes
          unfold measS at e
          omega
        | succ m => exact ⟨m, rfl⟩
      have ec : costN (measS st) = 1 + (m + 1) * costN m := by rw [em]; rfl
      have nl := nexts_len st
      rw [em] at nl
      have hm1 : m < n := by omega
      refine ⟨_, rfl, p, dx, _, rfl, s12 _ _ hp, cFlds_no _ _ (by decide +kernel) (by decide +kernel), ⟨_, rfl, ?_⟩⟩
      refine ⟨_, .ref b, st, rfl, hv.same s12, ok, fun l xs H3 nl3 s3 hl hx => ?_⟩
      refine ⟨l, rfl, ⟨xs, .of hl⟩, fun Dd hD => ?_⟩
      have s13 := s12.trans s3
      have lk : l ≠ kd := fun e => by
        obtain ⟨zs, hz⟩ := (D.same s12).lives
        rw [e, hz] at nl3
        cases nl3
      have dk : Dd ≠ kd := fun e => by
        obtain ⟨zs, hz⟩ := (D.same s13).lives
        rw [e, hz] at hD
        cases hD
      have dl : Dd ≠ l := fun e => by
        rw [e, hl] at hD
        cases hD
      have sD := same_new hD (.lst [])
      have hxl := hx.length
      rw [List.length_map] at hxl
      refine lc_list (K := K) (a := l) (xs := xs) (fun i Hc => But kd H Hc ∧ SameT H3 Hc ∧ Hc l = some (.lst xs) ∧ (∃ kvi, Dk K P w Hc kd kvi ∧ Memo kvi ∧ kvi.length ≤ kvs.length + i * costN m) ∧ Hc Dd = some (.lst (((nextsM st).take i).map fun z => V.int (waysT z.2))))
        ⟨But.of (s13.trans sD), SameT.of sD, sD _ _ hl, ⟨kvs, (D.same s13).same sD, M, by simp⟩, upd_same⟩ (fun i Hc _ z => .of z.2.2.1) ?_ ?_
      · rintro i x Hc hxi ⟨bt, sT, hlc, ⟨kvi, Di, Mi, li⟩, hDc⟩
        obtain ⟨d, hd, hxd⟩ := hx.getV hxi
        obtain ⟨z, hz, rfl⟩ := map_at hd
        obtain ⟨okz, mz⟩ := nexts_st ok (List.mem_of_getElem? hz)
        have hil : i < (nextsM st).length := (List.getElem?_eq_some_iff.mp hz).1
        obtain ⟨vs, vb2, hvs, hvb2, hgo⟩ := pair_names (i := 2) (j := 3) (hxd.mono sT)
        have emz : measS z.2 = m := by omega
        have hle : (i + 1) * costN m ≤ (m + 1) * costN m := Nat.mul_le_mul_right _ (by omega)
        have hs1 : (i + 1) * costN m = i * costN m + costN m := Nat.succ_mul _ _
        refine hgo _ ⟨rfl, tyes_go (iteT ?_)⟩
        refine ⟨_, rfl, p, dx, _, rfl, bt _ _ npk hp, cFlds_no _ _ (by decide +kernel) (by decide +kernel), ⟨_, rfl, ?_⟩⟩
        refine ⟨p, dx, kd, vb, vb2, z.2, kvi, rfl, bt _ _ npk hp, hvb2, okz, by omega, Di, Mi, by rw [emz]; omega, fun H5 kv5 bt5 D5 M5 l5 => ?_⟩
        rw [emz] at l5
        have hD5 : H5 Dd = some (.lst (((nextsM st).take i).map fun z => V.int (waysT z.2))) := bt5 _ _ dk hDc
        have sU : SameT H5 (upd H5 Dd (.lst ((((nextsM st).take i).map fun z => V.int (waysT z.2)) ++ [V.int (waysT z.2)]))) := SameT.updL (.refl _) hD5
        refine ⟨_, hD5, small_lt (by rw [List.length_map]; have h1 : ((nextsM st).take i).length ≤ (nextsM st).length := List.length_take_le' ..; have h2 := nexts_len st; have h3 := costN_ge (measS st); omega), ?_, (sT.trans (bt5.sameT Di)).trans sU, ?_, ⟨kv5, D5.mono sU (upd_ne dk.symm), M5, by omega⟩, ?_⟩
        · intro c o nc e
          rw [upd_ne (fun y => by rw [y] at e; have e2 := s13.free hD; rw [e] at e2; cases e2)]
          exact bt5 _ _ nc (bt _ _ nc e)
        · rw [upd_ne dl.symm]
          exact bt5 _ _ lk hlc
        · rw [upd_same, map_more hz]
      · rintro Hc ⟨bt, sT, hlc, ⟨kvi, Di, Mi, li⟩, hDc⟩
        rw [hxl, List.take_length] at hDc
        rw [hxl] at li
        have hle : (nextsM st).length * costN m ≤ (m + 1) * costN m := Nat.mul_le_mul_right _ nl
        refine ⟨Dd, (nextsM st).map fun z => waysT z.2, rfl, .of (by rw [List.map_map]; exact hDc), ?_⟩
        refine evk CT rfl (bt _ _ npk hp) ⟨_, rfl, kd, b, _, kvi, _, rfl, rfl, rfl, hv.mono (bt.sameT D), sim_St st, sdep, Di, by omega, fun xs2 D6 => ?_⟩
        rw [← waysT_sum ok hb] at D6
        have bt6 : But kd H (upd Hc kd (DkO P w kd xs2)) := fun c o nc e => by
          rw [upd_ne nc]
          exact bt c o nc e
        refine sd_go (fin bt6 D6 (Mi.put ok) ?_ ?_)
        · have := putN_len kvi (keyD (encSt st)) (waysT st)
          omega
        · cases e : lookN kvi (keyD (encSt st)) with
          | none => rw [putN_look _ _ _ e]; rfl
          | some z0 =>
            have : lookN (putN kvi (keyD (encSt st)) (waysT st)) (keyD (encSt st)) ≠ none := fun e2 => by
              have h1 := lookN_none e2
              rw [putN_keys, e] at h1
              simp only [Option.isSome_some, if_true] at h1
              unfold lookN at e
              obtain ⟨y, hy, _⟩ := Option.map_eq_some_iff.mp e
              have hy1 := List.mem_of_find?_eq_some hy
              have hy2 : y.1 = keyD (encSt st) := by simpa using List.find?_some hy
              exact h1 (List.mem_map.mpr ⟨y, hy1, hy2⟩)
            exact Option.isSome_iff_ne_none.mpr this
    · have hs : (lookN kvs (keyD (encSt st))).isSome = true := by
        cases e : lookN kvs (keyD (encSt st)) with
        | none => rw [e] at hi; cases hi
        | some z => rfl
      exact sd_next (sd_go (fin (But.of (s1.trans s2)) (D.same (s1.trans s2)) M (Nat.le_add_right _ _) hs))
end
end Lo
set_option Elab.async false
set_option linter.all false
set_option maxRecDepth 100000
set_option maxHeartbeats 8000000
/-! Counter.rank; how_many, number_of -/
namespace Lo
open PySem PySem.Spec PyProof.Rows L2
theorem costN_mono : ∀ {a b : Nat}, a ≤ b → costN a ≤ costN b
  | a, 0, h => by
    have : a = 0 := by omega
    subst this
    exact Nat.le_refl _
  | a, b + 1, h => by
    rcases Nat.lt_or_ge a (b + 1) with l | l
    · have h1 := costN_mono (show a ≤ b by omega)
      have h2 := Nat.mul_le_mul_right (costN b) (show 1 ≤ b + 1 by omega)
      show costN a ≤ 1 + (b + 1) * costN b
      omega
    · have : a = b + 1 := by omega
      subst this
      exact Nat.le_refl _
def spRank (K : PySem.W.Frag) (P : Program) (w : World) (C : Addr) (n : Nat) : Sp := fun vs H Q _ => ∃ (p dx kd : Addr) (vb v : V) (st : Stt) (b : Wk), vs = [.ref p, v] ∧ H p = some (.ins C dx (cFlds vb kd)) ∧ Tp K H vb (encSt st) ∧ Tp K H v (encW b) ∧ SingW b ∧ b.length ≤ 20 ∧ OkSt st ∧ measS st < n ∧
  Dk K P w H kd [] ∧ b.length * (measS st * costN (measS st)) ≤ 900000 ∧ costN (measS st) ≤ 100000 ∧ ∀ H', But kd H H' → Q (.int (rankM st b)) H'
theorem sing_dep {s : Stp} (h : singS s = true) : depS s = 0 := by
  cases s with
  | put c => rw [depS]
  | take => rw [depS]
  | times n b => simp [singS] at h
theorem scan_drop {st : Stt} {m : Stp} {l : List (Stp × Stt)} {i : Nat} {p : Stp × Stt} (h : l[i]? = some p) : scanM (l.drop i) m st = if decS p.1 m = true then (0, p.2) else (waysT p.2 + (scanM (l.drop (i + 1)) m st).1, (scanM (l.drop (i + 1)) m st).2) := by
  rw [take_all h, scanM]
section
variable {P : Program} {w : World} {K : PySem.W.Frag} {mg : Str → Option Value} {base : Heap} {f C : Addr} {fd : FuncData}
theorem scCRank : FnScope ["self", "work", "found", "state", "mine", "step", "later"] ["self", "work"] (defScope sCRank) := ⟨rfl, rfl, rfl, by decide +kernel, rfl, by decide +kernel, by decide +kernel⟩
theorem ok_rank {n k : Nat} {fN fM : Addr} {fdN fdM : FuncData} (F : Fun K "rank" "Counter.rank" sCRank f fd) (T : Txt K mg) (CT : CTxt K mg C) (hk : 1 ≤ k)
    (GN : FnOk P w K mg base CX0 1 fN fdN ["self", "state"] (spNexts K)) (bN : Binds K fdN ["self", "state"] []) (mN : Meth K C "nexts" fN)
    (GM : FnOk P w K mg base CX0 k fM fdM ["self", "state"] (spWays K P w C n)) (bM : Binds K fdM ["self", "state"] []) (mM : Meth K C "ways" fM) :
    FnOk P w K mg base CX0 (k + 1) f fd ["self", "work"] (spRank K P w C n) := by
  refine F.ok scCRank (fun vs H Q E ⟨p, dx, kd, vb, v, st, b, e, _⟩ => by rw [e]; rfl) (fun cdv A outer s H vs Q E hr h => ?_)
  obtain ⟨p, dx, kd, vb, v, bst, b, rfl, hp, hvb, hv, sg, hlen, okb, hm, D, hsz, hc1, q⟩ := h
  have nd := scCRank.nd
  refine ⟨_, pss_cons (ps_set (i := 2) nd rfl (Or.inl rfl) pe_int) (pss_cons (ps_set (i := 3) nd rfl (Or.inl rfl) (pe_fld (pv 0) rfl))
    (pss_cons (ps_for PassesOwn.never rfl (pi_tup (pv 1)) (pg_name (i := 4) nd rfl (Or.inl rfl))
      (pss_one (ps_for PassesOwn.never rfl (pi_list (pe_meth (pv 0) CT.cl mN GN (hr.mono hk) bN .nil pass0 (pa_cons (pv 3) pa_nil))) (pg_tup rfl (pgs_cons (pg_name (i := 5) nd rfl (Or.inl rfl)) (pgs_cons (pg_name (i := 6) nd rfl (Or.inl rfl)) pgs_nil)))
        (pss_cons (ps_if (pt_cmpR (op_eqD (hu64 hr)) (pv 5) (pv 4) (nomark _)) (pss_cons (ps_set (i := 3) nd rfl (Or.inl rfl) (pv 6)) (pss_one ps_break)) pss_nil)
        (pss_one (ps_aug (i := 2) nd rfl (Or.inl rfl) (pe_meth (pv 0) CT.cl mM GM hr bM .nil pass0 (pa_cons (pv 6) pa_nil)) ip_add))))))
    (pss_one (ps_ret (pv 2))))), ?_⟩
  have npk : p ≠ kd := fun e => by
    obtain ⟨xs, hx⟩ := D.lives
    rw [e, hx] at hp
    cases hp
  refine sd_seq (sd_set (K := K) evd_int fun v2 H1 s1 h1 => ?_)
  obtain rfl := h1.int_inv
  refine sd_go (sd_seq ⟨_, rfl, p, C, dx, _, _, rfl, s1 _ _ hp, CT.cl, CT.nB, cFlds_begin _ _, ?_⟩)
  have hsT1 := hvb.same s1
  refine sd_go (sd_seq (st_for (K := K) (H := H) (i := 1) (v := v) (ds := encSs b) rfl hv (.of s1) (fun j σ H' => ∃ (fnd : Int) (vs : V) (u1 u2 u3 : Option V) (st : Stt) (kvs : List (NestedKey × Int)), σ = [some (.ref p), some v, some (.int fnd), some vs, u1, u2, u3] ∧ Tp K H' vs (encSt st) ∧ OkSt st ∧ measS st ≤ measS bst ∧ fnd + rankM st (b.drop j) = rankM bst b ∧
      But kd H H' ∧ Dk K P w H' kd kvs ∧ Memo kvs ∧ kvs.length ≤ j * (measS bst * costN (measS bst))) ?_ (fun _ _ _ ⟨_, _, _, _, _, _, _, _, _, _, _, _, bt, _⟩ => bt.sameT D) ?_ ?_))
  · exact ⟨0, vb, none, none, none, bst, [], rfl, hsT1, okb, Nat.le_refl _, by simp, But.of s1, D.same s1, fun p h => (by cases h), Nat.zero_le _⟩
  · rintro j d x σ H' hd hx ⟨fnd, vs, u1, u2, u3, st, kvs, rfl, hs, ok, hms, er, bt, Dj, Mj, lj⟩
    obtain ⟨m, hmj, rfl⟩ := encSs_at hd
    have hjl : j < b.length := (List.getElem?_eq_some_iff.mp hmj).1
    have sgm := sg m (List.mem_of_getElem? hmj)
    rw [take_all hmj, rankM] at er
    have nl := nexts_len st
    have cm := costN_mono hms
    have hj1 : (j + 1) * (measS bst * costN (measS bst)) ≤ b.length * (measS bst * costN (measS bst)) := Nat.mul_le_mul_right _ hjl
    have hj2 : (j + 1) * (measS bst * costN (measS bst)) = j * (measS bst * costN (measS bst)) + measS bst * costN (measS bst) := Nat.succ_mul _ _
    refine ⟨_, rfl, p, dx, _, rfl, bt _ _ npk hp, cFlds_no _ _ (by decide +kernel) (by decide +kernel), ⟨_, rfl, ?_⟩⟩
    refine ⟨_, vs, st, rfl, hs, ok, fun l xs H3 nl3 s3 hl hx3 => ?_⟩
    have hxl := hx3.length
    rw [List.length_map] at hxl
    have lk : l ≠ kd := fun e => by
      obtain ⟨zs, hz⟩ := Dj.lives
      rw [e, hz] at nl3
      cases nl3
    refine ⟨l, rfl, ⟨xs, .of hl⟩, for_list (D := _) (xs := xs) (fun i σ Hc => ∃ (fi : Int) (w1 w2 : Option V) (kvi : List (NestedKey × Int)), σ = [some (.ref p), some v, some (.int fi), some vs, some x, w1, w2] ∧ SameT H3 Hc ∧ Hc l = some (.lst xs) ∧ But kd H Hc ∧ Dk K P w Hc kd kvi ∧ Memo kvi ∧ kvi.length ≤ kvs.length + i * costN (measS bst) ∧
        fi + (scanM ((nextsM st).drop i) m st).1 = fnd + (scanM (nextsM st) m st).1 ∧ (scanM ((nextsM st).drop i) m st).2 = (scanM (nextsM st) m st).2) ?_ (fun i σ Hc _ ⟨_, _, _, _, _, _, h, _⟩ => .of h) ?_ ?_⟩
    · exact ⟨fnd, u2, u3, kvs, rfl, .refl _, hl, bt.trans (But.of s3), Dj.same s3, Mj, Nat.le_add_right _ _, rfl, rfl⟩
    · rintro i y σ Hc hy ⟨fi, w1, w2, kvi, rfl, sTc, hlc, btc, Di, Mi, li, e1, e2⟩
      obtain ⟨d, hd2, hyd⟩ := hx3.getV hy
      obtain ⟨z, hz, rfl⟩ := map_at hd2
      have hzm := List.mem_of_getElem? hz
      have hil : i < (nextsM st).length := (List.getElem?_eq_some_iff.mp hz).1
      obtain ⟨okz, mz⟩ := nexts_st ok hzm
      have sgz := nexts_sing st z hzm
      have sd := scan_drop (st := st) (m := m) hz
      have sT0 : SameT H' Hc := (SameT.of s3).trans sTc
      have hyd2 := hyd.mono sTc
      obtain ⟨vs5, vs6, h5, h6, hgo⟩ := pair_names (i := 5) (j := 6) hyd2
      have hle1 : (i + 1) * costN (measS bst) ≤ measS bst * costN (measS bst) := Nat.mul_le_mul_right _ (by omega)
      have hle2 : (i + 1) * costN (measS bst) = i * costN (measS bst) + costN (measS bst) := Nat.succ_mul _ _
      have xm := hx.mono sT0
      refine hgo _ ?_
      refine sd_seq (sd_if (b := decS z.1 m) (evb_test (K := K) (evd_op (evd_var rfl h5) (evd_var rfl xm) (opd_eqD (shaped_S (by rw [sing_dep sgz]; decide)) (shaped_S (by rw [sing_dep sgm]; decide))))) (fun hb H4 s4 => ?_) fun hb H4 s4 => ?_)
      · rw [sd, if_pos hb] at e1 e2
        refine sd_seq (sd_set (K := K) (evd_var rfl (h6.same s4)) fun v3 H5 s5 h7 => ?_)
        have s45 := s4.trans s5
        have e1 : fi + 0 = fnd + (scanM (nextsM st) m st).1 := e1
        have e2 : z.2 = (scanM (nextsM st) m st).2 := e2
        refine ⟨fi, v3, some x, some vs5, some vs6, z.2, kvi, rfl, h7, okz, by omega, ?_, btc.trans (But.of s45), Di.same s45, Mi, ?_⟩
        · rw [e2]
          omega
        · rw [hj2]
          omega
      · have hnb : ¬ decS z.1 m = true := by rw [hb]; exact Bool.false_ne_true
        rw [sd, if_neg hnb] at e1 e2
        have e1 : fi + (waysT z.2 + (scanM ((nextsM st).drop (i + 1)) m st).1) = fnd + (scanM (nextsM st) m st).1 := e1
        have e2 : (scanM ((nextsM st).drop (i + 1)) m st).2 = (scanM (nextsM st) m st).2 := e2
        have cz : costN (measS z.2) ≤ costN (measS bst) := costN_mono (by omega)
        refine sd_next (sd_go ⟨_, rfl, _, rfl, p, dx, _, rfl, s4 _ _ (btc _ _ npk hp), cFlds_no _ _ (by decide +kernel) (by decide +kernel), ⟨_, rfl, ?_⟩⟩)
        refine ⟨p, dx, kd, vb, vs6, z.2, kvi, rfl, s4 _ _ (btc _ _ npk hp), h6.same s4, okz, by omega, Di.same s4, Mi, by omega, fun H5 kv5 bt5 D5 M5 l5 => ?_⟩
        refine ⟨_, _, rfl, rfl, ?_⟩
        refine ⟨fi + waysT z.2, some vs5, some vs6, kv5, rfl, (sTc.trans (SameT.of s4)).trans (bt5.sameT (Di.same s4)), bt5 _ _ lk (s4 _ _ hlc), (btc.trans (But.of s4)).trans bt5, D5, M5, by omega, by omega, e2⟩
    · rintro σ Hc ⟨fi, w1, w2, kvi, rfl, sTc, hlc, btc, Di, Mi, li, e1, e2⟩
      rw [hxl] at li e1 e2
      rw [List.drop_length, scanM] at e1 e2
      have e1 : fi + 0 = fnd + (scanM (nextsM st) m st).1 := e1
      have e2 : st = (scanM (nextsM st) m st).2 := e2
      have hle1 : (nextsM st).length * costN (measS bst) ≤ measS bst * costN (measS bst) := Nat.mul_le_mul_right _ (by omega)
      refine ⟨fi, vs, some x, w1, w2, st, kvi, rfl, (hs.same s3).mono sTc, ok, hms, ?_, btc, Di, Mi, ?_⟩
      · rw [← e2] at er
        omega
      · rw [hj2]
        omega
  · rintro σ H' ⟨fnd, vs, u1, u2, u3, st, kvs, rfl, hs, ok, hms, er, bt, Dj, Mj, lj⟩
    rw [encSs_len, List.drop_length, rankM] at er
    have er : fnd = rankM bst b := by omega
    subst er
    exact sd_go ⟨_, rfl, q H' bt⟩
theorem no_ways : FnOk P w K mg base CX0 0 f fd ["self", "state"] (spWays K P w C 0) :=
  ⟨fun vs H Q E ⟨p, dx, kd, vb, v, st, kvs, e, _⟩ => by rw [e]; rfl, fun A outer s H args us vs Q E hr he hb hv ⟨_, _, _, _, _, _, _, _, _, _, _, hd, _⟩ => absurd hd (Nat.not_lt_zero _)⟩
theorem all_ways {fN fM : Addr} {fdN fdM : FuncData} (F : Fun K "ways" "Counter.ways" sCWays fM fdM) (T : Txt K mg) (CT : CTxt K mg C)
    (GN : FnOk P w K mg base CX0 1 fN fdN ["self", "state"] (spNexts K)) (bN : Binds K fdN ["self", "state"] []) (mN : Meth K C "nexts" fN) (bM : Binds K fdM ["self", "state"] []) (mM : Meth K C "ways" fM) :
    ∀ n, FnOk P w K mg base CX0 (n + 1) fM fdM ["self", "state"] (spWays K P w C n)
  | 0 => no_ways.mono (Nat.zero_le _)
  | n + 1 => ok_ways F T CT (Nat.le_add_left 1 n) GN bN mN (all_ways F T CT GN bN mN bM mM n) bM mM
/-- the class, as its users see it -/
structure Ctr (P : Program) (w : World) (K : PySem.W.Frag) (mg : Str → Option Value) (base : Heap) (C : Addr) : Prop where
  ct : CTxt K mg C
  ex : ∃ fI fdI fM fdM fR fdR, Mk K C fI ∧ FnOk P w K mg base CX0 2 fI fdI ["self", "three"] (spCInit K P w C) ∧ Binds K fdI ["self", "three"] [] ∧
    FnOk P w K mg base CX0 7 fM fdM ["self", "state"] (spWays K P w C 6) ∧ Binds K fdM ["self", "state"] [] ∧ Meth K C "ways" fM ∧
    FnOk P w K mg base CX0 8 fR fdR ["self", "work"] (spRank K P w C 6) ∧ Binds K fdR ["self", "work"] [] ∧ Meth K C "rank" fR
abbrev sHowMany : Stmt := top 58
abbrev sNumberOf : Stmt := top 60
def rHowMany (ds : List PyData) (d : PyData) : Prop := ∃ (t : Three) (S : List Int), ds = [encT t] ∧ GoodT S t ∧ S.length ≤ 1000 ∧ stepsT t ≤ 5 ∧ CanH 999 t.1 ∧ CanH 999 t.2.1 ∧ d = .int (waysT (beginT t))
def rNumberOf (ds : List PyData) (d : PyData) : Prop := ∃ b : Wk, ds = [encW b] ∧ OkW b ∧ SingW b ∧ b.length ≤ 5 ∧ d = .int (rankM (beginT (threeT b)) b)
theorem begin_ok {S : List Int} {t : Three} (g : GoodT S t) (h : stepsT t ≤ 5) : OkSt (beginT t) ∧ measS (beginT t) ≤ 5 := by
  have h1 := g.left.size_nonneg
  have h2 := g.out.size_nonneg
  have h3 := g.idle
  obtain ⟨gb, eb⟩ := g.left.both g.out
  have n1 := numsH_len fun p hp => (show (0 : Int) ≤ p.2 by have := gb.pos p hp; omega)
  have n2 := numsH_len fun p hp => (show (0 : Int) ≤ p.2 by have := g.out.pos p hp; omega)
  unfold stepsT at h
  refine ⟨⟨?_, ?_, ?_⟩, ?_⟩
  · show 0 + (numsH (bothH t.1 t.2.1)).length ≤ 20
    omega
  · show (numsH t.2.1).length ≤ 20
    omega
  · show 0 ≤ sizeH t.2.1 + t.2.2
    omega
  · show (numsH (bothH t.1 t.2.1)).length + (sizeH t.2.1 + t.2.2).toNat ≤ 5
    omega
theorem scHowMany : FnScope ["three", "counter"] ["three"] (defScope sHowMany) := ⟨rfl, rfl, rfl, by decide +kernel, rfl, by decide +kernel, by decide +kernel⟩
theorem scNumberOf : FnScope ["work"] ["work"] (defScope sNumberOf) := ⟨rfl, rfl, rfl, by decide +kernel, rfl, by decide +kernel, by decide +kernel⟩
theorem cost5 {n : Nat} (h : n ≤ 5) : costN n ≤ 326 := Nat.le_trans (costN_mono h) (by decide)
/-- behind Counter(three) -/
theorem made_ctr {H1 : Hp} {x dx : Addr} (nx : H1 x = none) (ndx : H1 dx = none) (ne : dx ≠ x) : (upd (upd H1 dx (.own x)) x (.ins C dx [])) x = some (.ins C dx []) ∧ Same H1 (upd (upd H1 dx (.own x)) x (.ins C dx [])) := by
  refine ⟨upd_same, fun b o e => ?_⟩
  rw [upd_ne (ne_of_none e nx), upd_ne (ne_of_none e ndx)]
  exact e
theorem ok_howMany (F : Fun K "how_many" "how_many" sHowMany f fd) (CC : Ctr P w K mg base C) (cNT : Callee P w K mg base 2 "need_three" ["three"] (spD K rNeedT)) (cNF : Callee P w K mg base 2 "need_few" ["three"] (spD K rNeedFew)) : FnOk P w K mg base CX0 8 f fd ["three"] (spD K rHowMany) := by
  refine F.ok scHowMany (spD_len fun ds d ⟨_, _, e, _⟩ => by rw [e]; rfl) (fun cdv A outer s H vs Q E hr h => ?_)
  obtain ⟨ds, d, hvs, ⟨t, S, rfl, gt, hS, h5, c1, c2, rfl⟩, q⟩ := h
  obtain ⟨v1, rfl, hv1⟩ := one_inv hvs
  have nd := scHowMany.nd
  have CT := CC.ct
  obtain ⟨fI, fdI, fM, fdM, fR, fdR, mk, GI, bI, GM, bM, mM, GR, bR, mR⟩ := CC.ex
  refine ⟨_, pss_cons (ps_expr (pe_cal cNT hr (pa_cons (pv 0) pa_nil))) (pss_cons (ps_expr (pe_cal cNF hr (pa_cons (pv 0) pa_nil)))
    (pss_cons (ps_set (i := 1) nd rfl (Or.inl rfl) (pe_make mk GI (hr.mono (by decide)) rfl CT.mgC bI .nil pass0 (pa_cons (pv 0) pa_nil)))
    (pss_one (ps_ret (pe_meth (pv 1) CT.cl mM GM hr bM .nil pass0 (pa_cons (pe_fld (pv 1) rfl) pa_nil)))))), ?_⟩
  have h1 := gt.left.size_nonneg
  have h2 := gt.out.size_nonneg
  have h3 := gt.idle
  have l1 := gt.left.len
  have l2 := gt.out.len
  have h9 := h5
  unfold stepsT at h9
  obtain ⟨okb, mb⟩ := begin_ok gt h5
  refine sd_seq (sd_drop (K := K) (evd_call (eva_cons (evd_var rfl hv1) eva_nil) ⟨t, rfl, c1, c2, h3, by omega, rfl⟩) fun _ H1 s1 _ => ?_)
  refine sd_go (sd_seq (sd_drop (K := K) (evd_call (eva_cons (evd_var rfl (hv1.same s1)) eva_nil) ⟨t, rfl, by omega, by omega, by omega, rfl⟩) fun _ H2 s2 _ => ?_))
  have s12 := s1.trans s2
  refine sd_go (sd_seq ⟨_, rfl, fun x dx nx ndx ne => ?_⟩)
  obtain ⟨m1, m2⟩ := made_ctr (C := C) nx ndx ne
  refine ⟨x, dx, v1, t, S, rfl, m1, hv1.same (s12.trans m2), gt, hS, by omega, fun kd vb H3 nkd bt h6 h7 h8 => ⟨rfl, ?_⟩⟩
  have s3 : Same H2 H3 := fun b o e => bt b o (ne_of_none e nx) (m2 b o e)
  refine sd_go ⟨_, rfl, x, dx, _, rfl, h6, cFlds_no _ _ (by decide +kernel) (by decide +kernel), ⟨_, rfl, x, C, dx, _, _, rfl, h6, CT.cl, CT.nB, cFlds_begin _ _, ?_⟩⟩
  refine ⟨x, dx, kd, vb, vb, beginT t, [], rfl, h6, h7, okb, by omega, h8, fun p h => (by cases h), by have := cost5 mb; show 0 + _ ≤ _; omega, fun H4 kv4 bt4 D4 M4 l4 => ?_⟩
  have nkd2 : H2 kd = none := m2.free nkd
  refine q _ H4 (fun b o e => ?_) (.int _)
  have e2 := s12 b o e
  exact bt4 b o (ne_of_none e2 nkd2) (s3 b o e2)
theorem sing_steps {S : List Int} : ∀ (b : Wk) {t : Three}, GoodT S t → (∀ x ∈ putsSs b, x ∈ S) → SingW b → stepsT (threeGo t b) = stepsT t + b.length
  | [], t, g, _, _ => by rw [threeGo]; simp
  | s :: r, t, g, h, sg => by
    rw [threeGo]
    rw [putsSs] at h
    have gs : GoodT S (stepT s) := stepT_good s fun x hx => h x (List.mem_append_left _ hx)
    have gb := g.behind gs
    have e1 : stepsT (stepT s) = 1 := by
      have := sg s (List.mem_cons_self ..)
      cases s with
      | put c => rw [stepT]; rfl
      | take => rw [stepT]; rfl
      | times n c => simp [singS] at this
    rw [sing_steps r gb.1 (fun x hx => h x (List.mem_append_right _ hx)) (fun z hz => sg z (List.mem_cons_of_mem _ hz)), gb.2, e1, List.length_cons]
    omega
theorem sing_three {b : Wk} (sg : SingW b) : stepsT (threeT b) = b.length := by
  have := sing_steps (S := putsSs b) b (.nothing _) (fun x hx => hx) sg
  unfold threeT noT
  rw [this]
  show 0 + 2 * 0 + 0 + (b.length : Int) = _
  omega
theorem ok_numberOf (F : Fun K "number_of" "number_of" sNumberOf f fd) (CC : Ctr P w K mg base C) (cNW : Callee P w K mg base 5 "need_work" ["work"] (spD K rNeedW)) (cNS : Callee P w K mg base 1 "need_single" ["work"] (spD K rNeedSing)) (cNF : Callee P w K mg base 2 "need_few" ["three"] (spD K rNeedFew))
    (cThree : Callee P w K mg base 6 "three_of" ["steps"] (spD K (rThree 3))) : FnOk P w K mg base CX0 9 f fd ["work"] (spD K rNumberOf) := by
  refine F.ok scNumberOf (spD_len fun ds d ⟨_, e, _⟩ => by rw [e]; rfl) (fun cdv A outer s H vs Q E hr h => ?_)
  obtain ⟨ds, d, hvs, ⟨b, rfl, ok, sg, h5, rfl⟩, q⟩ := h
  obtain ⟨v1, rfl, hv1⟩ := one_inv hvs
  have CT := CC.ct
  obtain ⟨fI, fdI, fM, fdM, fR, fdR, mk, GI, bI, GM, bM, mM, GR, bR, mR⟩ := CC.ex
  refine ⟨_, pss_cons (ps_expr (pe_cal cNW hr (pa_cons (pv 0) pa_nil))) (pss_cons (ps_expr (pe_cal cNS hr (pa_cons (pv 0) pa_nil)))
    (pss_cons (ps_expr (pe_cal cNF hr (pa_cons (pe_cal cThree hr (pa_cons (pv 0) pa_nil)) pa_nil)))
    (pss_one (ps_ret (pe_meth (pe_make mk GI (hr.mono (by decide)) rfl CT.mgC bI .nil pass0 (pa_cons (pe_cal cThree hr (pa_cons (pv 0) pa_nil)) pa_nil)) CT.cl mR GR hr bR .nil pass0 (pa_cons (pv 0) pa_nil)))))), ?_⟩
  have gt := threeT_good b
  have es := sing_three sg
  have h5' : stepsT (threeT b) ≤ 5 := by omega
  have h1 := gt.left.size_nonneg
  have h2 := gt.out.size_nonneg
  have h3 := gt.idle
  have l1 := gt.left.len
  have l2 := gt.out.len
  have lp := putsSs_len b
  have cn := ok.cnt
  obtain ⟨okb, mb⟩ := begin_ok gt h5'
  have tq : ∀ {H3 : Hp}, Tp K H3 v1 (encW b) → EvD K (tCall (spD K (rThree 3)) [] E0 (tCons (tVar 0) tNil)) [some v1] H3 (encT (threeT b)) := fun h => evd_call (eva_cons (evd_var rfl h) eva_nil) ⟨b, rfl, ok.ok, ok.dep, by omega, rfl⟩
  refine sd_seq (sd_drop (K := K) (evd_call (eva_cons (evd_var rfl hv1) eva_nil) ⟨b, rfl, ok, rfl⟩) fun _ H1 s1 _ => ?_)
  refine sd_go (sd_seq (sd_drop (K := K) (evd_call (eva_cons (evd_var rfl (hv1.same s1)) eva_nil) ⟨b, rfl, sg, by omega, rfl⟩) fun _ H2 s2 _ => ?_))
  refine sd_go (sd_seq (sd_drop (K := K) (evd_call (eva_cons (tq (hv1.same (s1.trans s2))) eva_nil) ⟨threeT b, rfl, by omega, by omega, by omega, rfl⟩) fun _ H3 s3 _ => ?_))
  have s13 := (s1.trans s2).trans s3
  refine sd_go ?_
  refine (tq (hv1.same s13)).go fun vt H4 s4 ht => fun x dx nx ndx ne => ?_
  have s14 := s13.trans s4
  obtain ⟨m1, m2⟩ := made_ctr (C := C) nx ndx ne
  refine ⟨x, dx, vt, threeT b, putsSs b, rfl, m1, ht.same m2, gt, by omega, by omega, fun kd vb H5 nkd bt h6 h7 h8 => ⟨rfl, ?_⟩⟩
  have s5 : Same H4 H5 := fun b o e => bt b o (ne_of_none e nx) (m2 b o e)
  refine ⟨x, dx, _, rfl, h6, cFlds_no _ _ (by decide +kernel) (by decide +kernel), ⟨_, rfl, ?_⟩⟩
  have c5 := cost5 mb
  refine ⟨x, dx, kd, vb, v1, beginT (threeT b), b, rfl, h6, h7, hv1.same (s14.trans s5), sg, by omega, okb, by omega, h8, ?_, by omega, fun H6 bt6 => ?_⟩
  · have a1 : measS (beginT (threeT b)) * costN (measS (beginT (threeT b))) ≤ 5 * 326 := Nat.mul_le_mul mb c5
    have a2 : b.length * (measS (beginT (threeT b)) * costN (measS (beginT (threeT b)))) ≤ 5 * (5 * 326) := Nat.mul_le_mul h5 a1
    omega
  · have nkd4 : H4 kd = none := m2.free nkd
    refine q _ H6 (fun c o e => ?_) (.int _)
    have e2 := s14 c o e
    exact bt6 c o (ne_of_none e2 nkd4) (s5 c o e2)
end
end Lo
set_option linter.all false
set_option maxHeartbeats 2000000
/-! the mirror, seventh part: neighbours and the shortest lead -/
namespace Lo
open PySem
abbrev kW (b : Wk) : NestedKey := keyD (encW b)
mutual
theorem encS_inj : ∀ a b : Stp, encS a = encS b → a = b
  | .put c, .put d, h => by
    rw [encS, encS] at h
    simp at h
    rw [h]
  | .take, .take, _ => rfl
  | .times n b, .times m c, h => by
    rw [encS, encS] at h
    simp at h
    rw [h.1, encSs_inj b c h.2]
  | .put c, .take, h => by rw [encS, encS] at h; simp at h
  | .put c, .times _ _, h => by rw [encS, encS] at h; simp at h
  | .take, .put c, h => by rw [encS, encS] at h; simp at h
  | .take, .times _ _, h => by rw [encS, encS] at h; simp at h
  | .times _ _, .put c, h => by rw [encS, encS] at h; simp at h
  | .times _ _, .take, h => by rw [encS, encS] at h; simp at h
theorem encSs_inj : ∀ a b : List Stp, encSs a = encSs b → a = b
  | [], [], _ => rfl
  | [], _ :: _, h => by rw [encSs, encSs] at h; cases h
  | _ :: _, [], h => by rw [encSs, encSs] at h; cases h
  | x :: a, y :: b, h => by
    rw [encSs, encSs] at h
    obtain ⟨h1, h2⟩ := List.cons.inj h
    rw [encS_inj x y h1, encSs_inj a b h2]
end
theorem encW_inj {a b : Wk} (h : encW a = encW b) : a = b := encSs_inj a b (PyData.tuple.inj h)
theorem kW_inj {a b : Wk} (h : kW a = kW b) : a = b := encW_inj (keyD_inj _ _ (sim_W a) (sim_W b) h)
theorem eqv_W (a b : Wk) : PyData.eqv (encW a) (encW b) = true ↔ a = b := ⟨fun h => encW_inj (simD_eq _ _ (sim_W a) (sim_W b) h), fun h => h ▸ simD_refl (sim_W a)⟩
theorem encT_inj {a b : Three} (h : encT a = encT b) : a = b := by
  unfold encT at h
  have h := PyData.tuple.inj h
  obtain ⟨h1, h⟩ := List.cons.inj h
  obtain ⟨h2, h⟩ := List.cons.inj h
  obtain ⟨h3, _⟩ := List.cons.inj h
  exact Prod.ext (encH_inj h1) (Prod.ext (encH_inj h2) (PyData.int.inj h3))
theorem eqv_T (a b : Three) : PyData.eqv (encT a) (encT b) = true ↔ a = b := ⟨fun h => encT_inj (simD_eq _ _ (sim_T a) (sim_T b) h), fun h => h ▸ simD_refl (sim_T a)⟩
def swapW (b : Wk) (i : Nat) : Wk := b.take i ++ ((b.drop i).take 2).reverse ++ b.drop (i + 2)
def candsW (b : Wk) (t : Three) : List Wk := ((List.range (b.length - 1)).map (swapW b)).filter fun o => !PyData.eqv (encW o) (encW b) && PyData.eqv (encT (threeT o)) (encT t)
def dedupW (l : List Wk) : List Wk := l.foldr (fun b acc => if kW b ∈ acc.map kW then acc else b :: acc) []
noncomputable def sortW (l : List Wk) : List Wk := l.mergeSort (PySem.W.dataLe false encW)
noncomputable def neighW (b : Wk) (t : Three) : List Wk := sortW (dedupW (candsW b t))
theorem dedupW_map : ∀ l : List Wk, (dedupW l).map encW = dedupD (l.map encW)
  | [] => rfl
  | b :: l => by
    have ih := dedupW_map l
    unfold dedupW dedupD at ih ⊢
    rw [List.map_cons, List.foldr_cons, List.foldr_cons, ← ih]
    have e : (List.foldr (fun b acc => if kW b ∈ acc.map kW then acc else b :: acc) [] l).map kW = ((List.foldr (fun b acc => if kW b ∈ acc.map kW then acc else b :: acc) [] l).map encW).map keyD := by
      rw [List.map_map]
      rfl
    rw [e]
    split
    · rfl
    · rfl
theorem neighW_map (b : Wk) (t : Three) : (neighW b t).map encW = sortD (dedupD ((candsW b t).map encW)) := by
  unfold neighW sortW sortD
  rw [← dedupW_map]
  exact PySem.W.sort_maps (r := PySem.W.dataLe false encW) (s := PySem.W.dataLe false id) encW fun _ _ _ _ => rfl
theorem mem_neigh {b l : Wk} {t : Three} : l ∈ neighW b t ↔ l ∈ candsW b t := by
  have pm : (neighW b t).Perm (dedupW (candsW b t)) := List.mergeSort_perm _ _
  rw [pm.mem_iff]
  constructor
  · intro h
    have h1 : encW l ∈ dedupD ((candsW b t).map encW) := by
      rw [← dedupW_map]
      exact List.mem_map.mpr ⟨l, h, rfl⟩
    obtain ⟨y, hy, e⟩ := List.mem_map.mp (dedupD_sub _ _ h1)
    rw [← encW_inj e]
    exact hy
  · intro h
    have h1 := dedupD_all ((candsW b t).map encW) (encW l) (List.mem_map.mpr ⟨l, h, rfl⟩)
    rw [← dedupW_map, List.map_map] at h1
    obtain ⟨y, hy, e⟩ := List.mem_map.mp h1
    rw [← kW_inj e]
    exact hy
theorem mem_cands {b l : Wk} {t : Three} : l ∈ candsW b t ↔ (∃ i, i + 1 < b.length ∧ l = swapW b i) ∧ l ≠ b ∧ threeT l = t := by
  unfold candsW
  rw [List.mem_filter, Bool.and_eq_true, eqv_T, Bool.not_eq_true', List.mem_map]
  constructor
  · rintro ⟨⟨i, hi, rfl⟩, h2, h3⟩
    rw [List.mem_range] at hi
    exact ⟨⟨i, by omega, rfl⟩, fun e => (by rw [(eqv_W _ _).mpr e] at h2; exact nomatch h2), h3⟩
  · rintro ⟨⟨i, hi, rfl⟩, h2, h3⟩
    refine ⟨⟨i, List.mem_range.mpr (by omega), rfl⟩, ?_, h3⟩
    cases e : PyData.eqv (encW (swapW b i)) (encW b) with
    | false => rfl
    | true => exact absurd ((eqv_W _ _).mp e) h2
theorem split_two {b : Wk} {i : Nat} (h : i + 1 < b.length) : ∃ x y, b = b.take i ++ x :: y :: b.drop (i + 2) ∧ (b.drop i).take 2 = [x, y] := by
  have h1 : b.drop i = b[i] :: b.drop (i + 1) := List.drop_eq_getElem_cons (by omega)
  have h2 : b.drop (i + 1) = b[i + 1] :: b.drop (i + 2) := List.drop_eq_getElem_cons h
  refine ⟨b[i], b[i + 1], ?_, ?_⟩
  · conv => lhs; rw [← List.take_append_drop i b, h1, h2]
  · rw [h1, h2]
    rfl
theorem swapW_eq {b : Wk} {i : Nat} (h : i + 1 < b.length) : ∃ x y, b = b.take i ++ x :: y :: b.drop (i + 2) ∧ swapW b i = b.take i ++ y :: x :: b.drop (i + 2) := by
  obtain ⟨x, y, e1, e2⟩ := split_two h
  refine ⟨x, y, e1, ?_⟩
  unfold swapW
  rw [e2]
  simp
theorem swapW_perm {b : Wk} {i : Nat} (h : i + 1 < b.length) : (swapW b i).Perm b := by
  obtain ⟨x, y, e1, e2⟩ := swapW_eq h
  rw [e2]
  conv => rhs; rw [e1]
  exact List.Perm.append_left _ (List.Perm.swap x y _)
theorem swapW_twice {b : Wk} {i : Nat} (h : i + 1 < b.length) : swapW (swapW b i) i = b := by
  obtain ⟨x, y, e1, e2⟩ := swapW_eq h
  have hl := (swapW_perm h).length_eq
  obtain ⟨x2, y2, e3, e4⟩ := swapW_eq (b := swapW b i) (i := i) (by omega)
  have ht : (b.take i).length = i := by rw [List.length_take]; omega
  have t1 : (swapW b i).take i = b.take i := by
    rw [e2, List.take_append_of_le_length (by omega), List.take_of_length_le (by omega)]
  have d1 : (swapW b i).drop (i + 2) = b.drop (i + 2) := by
    conv => lhs; rw [e2]
    rw [List.drop_append, ht, List.drop_of_length_le (by omega)]
    have : i + 2 - i = 2 := by omega
    rw [this]
    rfl
  rw [t1, d1] at e3 e4
  rw [e2] at e3
  have e5 := List.append_cancel_left e3
  simp at e5
  rw [e4, ← e5.1, ← e5.2]
  exact e1.symm
theorem neigh_symm {a b : Wk} {t : Three} (ht : threeT a = t) (h : b ∈ neighW a t) : a ∈ neighW b t := by
  rw [mem_neigh, mem_cands] at h ⊢
  obtain ⟨⟨i, hi, rfl⟩, h2, h3⟩ := h
  have hl := (swapW_perm hi).length_eq
  exact ⟨⟨i, by omega, (swapW_twice hi).symm⟩, fun e => h2 e.symm, ht⟩
theorem neigh_perm {a b : Wk} {t : Three} (h : b ∈ neighW a t) : b.Perm a ∧ threeT b = t ∧ 2 ≤ a.length := by
  rw [mem_neigh, mem_cands] at h
  obtain ⟨⟨i, hi, rfl⟩, h2, h3⟩ := h
  exact ⟨swapW_perm hi, h3, by omega⟩
theorem cands_len (b : Wk) (t : Three) : (candsW b t).length ≤ b.length - 1 := by
  unfold candsW
  refine Nat.le_trans (List.length_filter_le ..) ?_
  rw [List.length_map, List.length_range]
  exact Nat.le_refl _
end Lo
set_option linter.all false
set_option maxHeartbeats 2000000
/-! the mirror, eighth part: the search and the way back -/
namespace Lo
open PySem
abbrev Dl := List (Wk × Int)
def distW (dk : Dl) (b : Wk) : Option Int := (dk.find? fun p => decide (kW p.1 = kW b)).map (·.2)
def growOne (d : Int) (dk : Dl) (x : Wk) : Dl := if (distW dk x).isSome then dk else dk ++ [(x, d)]
def growW (d : Int) (dk : Dl) (l : List Wk) : Dl := l.foldl (growOne d) dk
noncomputable def bfsGo (t : Three) : Nat → Nat → Dl → Dl
  | 0, _, dk => dk
  | f + 1, i, dk => match dk[i]? with
    | none => dk
    | some (b, d) => bfsGo t f (i + 1) (growW (d + 1) dk (neighW b t))
/-! facts -/
theorem dist_append {dk e : Dl} {b : Wk} {d : Int} (h : distW dk b = some d) : distW (dk ++ e) b = some d := by
  unfold distW at h ⊢
  obtain ⟨p, hp, rfl⟩ := Option.map_eq_some_iff.mp h
  rw [List.find?_append, hp]
  rfl
theorem dist_mem {dk : Dl} {b : Wk} {d : Int} (h : distW dk b = some d) : (b, d) ∈ dk := by
  unfold distW at h
  obtain ⟨p, hp, rfl⟩ := Option.map_eq_some_iff.mp h
  have h1 := List.mem_of_find?_eq_some hp
  have h2 : kW p.1 = kW b := by simpa using List.find?_some hp
  rw [← kW_inj h2]
  exact h1
theorem dist_of_mem {dk : Dl} (nd : (dk.map fun p => kW p.1).Nodup) {b : Wk} {d : Int} (h : (b, d) ∈ dk) : distW dk b = some d := by
  unfold distW
  induction dk with
  | nil => cases h
  | cons p dk ih =>
    rw [List.map_cons, List.nodup_cons] at nd
    rw [List.find?_cons]
    rcases List.mem_cons.mp h with e | h
    · subst e
      simp
    · by_cases e : kW p.1 = kW b
      · exact absurd (List.mem_map.mpr ⟨(b, d), h, e.symm⟩) nd.1
      · rw [decide_eq_false e]
        exact ih nd.2 h
theorem dist_none {dk : Dl} {b : Wk} (h : distW dk b = none) : kW b ∉ dk.map fun p => kW p.1 := by
  unfold distW at h
  rw [Option.map_eq_none_iff, List.find?_eq_none] at h
  intro hb
  obtain ⟨p, hp, e⟩ := List.mem_map.mp hb
  exact h p hp (by simpa using e)
/-- lists of length n over al -/
def wordsW (al : Wk) : Nat → List Wk
  | 0 => [[]]
  | n + 1 => (wordsW al n).flatMap fun r => al.map fun s => s :: r
theorem mem_words (al : Wk) : ∀ (b : Wk), (∀ s ∈ b, s ∈ al) → b ∈ wordsW al b.length
  | [], _ => List.mem_singleton.mpr rfl
  | s :: r, h => by
    have ih := mem_words al r fun x hx => h x (List.mem_cons_of_mem _ hx)
    show s :: r ∈ (wordsW al r.length).flatMap fun r => al.map fun s => s :: r
    rw [List.mem_flatMap]
    exact ⟨r, ih, List.mem_map.mpr ⟨s, h s (List.mem_cons_self ..), rfl⟩⟩
theorem words_len (al : Wk) : ∀ n, (wordsW al n).length = al.length ^ n
  | 0 => rfl
  | n + 1 => by
    show ((wordsW al n).flatMap fun r => al.map fun s => s :: r).length = _
    have e : ∀ l : List Wk, (l.flatMap fun r => al.map fun s => s :: r).length = l.length * al.length := by
      intro l
      induction l with
      | nil => simp
      | cons x l ih => rw [List.flatMap_cons, List.length_append, ih, List.length_map, List.length_cons, Nat.succ_mul]; omega
    rw [e, words_len al n, Nat.pow_succ]
theorem nodup_len' {α : Type} [DecidableEq α] : ∀ (l S : List α), l.Nodup → (∀ x ∈ l, x ∈ S) → l.length ≤ S.length
  | [], _, _, _ => Nat.zero_le _
  | x :: l, S, nd, h => by
    have hx : x ∈ S := h x (List.mem_cons_self ..)
    have nd' := List.nodup_cons.mp nd
    have ih := nodup_len' l (S.erase x) nd'.2 fun y hy => by
      have hne : y ≠ x := fun e => nd'.1 (e ▸ hy)
      exact (List.mem_erase_of_ne hne).mpr (h y (List.mem_cons_of_mem _ hy))
    rw [List.length_erase_of_mem hx] at ih
    have : 0 < S.length := List.length_pos_of_mem hx
    show l.length + 1 ≤ S.length
    omega
/-- what holds while the line is walked -/
structure Bfs (other : Wk) (t : Three) (i : Nat) (dk : Dl) : Prop where
  nd : (dk.map fun p => kW p.1).Nodup
  head : dk[0]? = some (other, 0)
  perm : ∀ p ∈ dk, p.1.Perm other ∧ threeT p.1 = t
  back : ∀ p ∈ dk, 0 ≤ p.2 ∧ (p.1 = other → p.2 = 0) ∧ (p.1 ≠ other → 1 ≤ p.2 ∧ ∃ q, (q, p.2 - 1) ∈ dk ∧ p.1 ∈ neighW q t)
  done : ∀ j, j < i → ∀ p, dk[j]? = some p → ∀ l ∈ neighW p.1 t, (distW dk l).isSome = true
  le : i ≤ dk.length
theorem Bfs.size {other : Wk} {t : Three} {i : Nat} {dk : Dl} (h : Bfs other t i dk) : dk.length ≤ other.length ^ other.length := by
  have := nodup_len' (dk.map fun p => kW p.1) ((wordsW other other.length).map kW) h.nd fun x hx => by
    obtain ⟨p, hp, rfl⟩ := List.mem_map.mp hx
    have pm := (h.perm p hp).1
    refine List.mem_map.mpr ⟨p.1, ?_, rfl⟩
    rw [← pm.length_eq]
    exact mem_words other p.1 fun s hs => pm.mem_iff.mp hs
  rw [List.length_map, List.length_map, words_len] at this
  exact this
theorem Bfs.start (other : Wk) : Bfs other (threeT other) 0 [(other, 0)] where
  nd := by simp
  head := rfl
  perm := fun p hp => by
    rw [List.mem_singleton] at hp
    subst hp
    exact ⟨List.Perm.refl _, rfl⟩
  back := fun p hp => by
    rw [List.mem_singleton] at hp
    subst hp
    exact ⟨Int.le_refl _, fun _ => rfl, fun e => absurd rfl e⟩
  done := fun j hj => absurd hj (Nat.not_lt_zero _)
  le := Nat.zero_le _
/-- one neighbour more -/
theorem Bfs.one {other : Wk} {t : Three} {i : Nat} {dk : Dl} (h : Bfs other t i dk) {b x : Wk} {d : Int} (hb : (b, d) ∈ dk) (hx : x ∈ neighW b t) : Bfs other t i (growOne (d + 1) dk x) ∧ (distW (growOne (d + 1) dk x) x).isSome = true ∧ ∃ e, growOne (d + 1) dk x = dk ++ e := by
  unfold growOne
  cases e : distW dk x with
  | some d0 =>
    simp only [Option.isSome_some, if_true]
    exact ⟨h, by rw [e]; rfl, [], by simp⟩
  | none =>
    simp only [Option.isSome_none, Bool.false_eq_true, if_false]
    have hn := dist_none e
    have pb := h.perm _ hb
    obtain ⟨n1, n2, n3⟩ := neigh_perm hx
    have xo : x ≠ other := fun z => hn (by
      rw [z]
      exact List.mem_map.mpr ⟨(other, 0), List.mem_of_getElem? h.head, rfl⟩)
    have hd := (h.back _ hb).1
    refine ⟨⟨?_, ?_, fun p hp => ?_, fun p hp => ?_, fun j hj p hp l hl => ?_, ?_⟩, ?_, [(x, d + 1)], rfl⟩
    · rw [List.map_append, List.nodup_append]
      refine ⟨h.nd, by simp, fun a ha c hc => ?_⟩
      simp at hc
      subst hc
      intro z
      exact hn (z ▸ ha)
    · rw [List.getElem?_append_left (by have := (List.getElem?_eq_some_iff.mp h.head).1; exact this)]
      exact h.head
    · rcases List.mem_append.mp hp with hp | hp
      · exact h.perm p hp
      · rw [List.mem_singleton] at hp
        subst hp
        exact ⟨n1.trans pb.1, n2⟩
    · rcases List.mem_append.mp hp with hp | hp
      · obtain ⟨b1, b2, b3⟩ := h.back p hp
        exact ⟨b1, b2, fun z => let ⟨c1, q, c2, c3⟩ := b3 z; ⟨c1, q, List.mem_append_left _ c2, c3⟩⟩
      · rw [List.mem_singleton] at hp
        subst hp
        refine ⟨by show 0 ≤ d + 1; omega, fun z => absurd z xo, fun _ => ⟨by show 1 ≤ d + 1; omega, b, List.mem_append_left _ ?_, hx⟩⟩
        have e2 : d + 1 - 1 = d := by omega
        show (b, d + 1 - 1) ∈ dk
        rw [e2]
        exact hb
    · have hl0 := h.le
      rw [List.getElem?_append_left (by omega)] at hp
      obtain ⟨d1, e1⟩ := Option.isSome_iff_exists.mp (h.done j hj p hp l hl)
      rw [dist_append e1]
      rfl
    · rw [List.length_append]
      exact Nat.le_trans h.le (Nat.le_add_right _ _)
    · unfold distW at e ⊢
      rw [Option.map_eq_none_iff] at e
      rw [List.find?_append, e]
      simp
theorem Bfs.all {other : Wk} {t : Three} {i : Nat} {b : Wk} {d : Int} : ∀ {l : List Wk} {dk : Dl}, Bfs other t i dk → (b, d) ∈ dk → (∀ x ∈ l, x ∈ neighW b t) → Bfs other t i (growW (d + 1) dk l) ∧ (∀ x ∈ l, (distW (growW (d + 1) dk l) x).isSome = true) ∧ ∃ e, growW (d + 1) dk l = dk ++ e
  | [], dk, h, _, _ => ⟨h, fun x hx => (by cases hx), [], (List.append_nil dk).symm⟩
  | x :: l, dk, h, hb, hl => by
    obtain ⟨h1, h2, e1, h3⟩ := h.one hb (hl x (List.mem_cons_self ..))
    have hb1 : (b, d) ∈ growOne (d + 1) dk x := by
      rw [h3]
      exact List.mem_append_left _ hb
    obtain ⟨g1, g2, e2, g3⟩ := Bfs.all h1 hb1 fun y hy => hl y (List.mem_cons_of_mem _ hy)
    have eg : growW (d + 1) dk (x :: l) = growW (d + 1) (growOne (d + 1) dk x) l := rfl
    rw [eg]
    refine ⟨g1, fun y hy => ?_, e1 ++ e2, by rw [g3, h3, List.append_assoc]⟩
    rcases List.mem_cons.mp hy with rfl | hy
    · obtain ⟨d1, q1⟩ := Option.isSome_iff_exists.mp h2
      rw [g3, dist_append q1]
      rfl
    · exact g2 y hy
/-- a whole place of the line -/
theorem Bfs.next {other : Wk} {t : Three} {i : Nat} {dk : Dl} (h : Bfs other t i dk) {b : Wk} {d : Int} (hi : dk[i]? = some (b, d)) : Bfs other t (i + 1) (growW (d + 1) dk (neighW b t)) := by
  obtain ⟨g1, g2, e, g3⟩ := h.all (List.mem_of_getElem? hi) (l := neighW b t) fun x hx => hx
  have hil := (List.getElem?_eq_some_iff.mp hi).1
  refine ⟨g1.nd, g1.head, g1.perm, g1.back, fun j hj p hp l hl => ?_, ?_⟩
  · rcases Nat.lt_or_ge j i with z | z
    · exact g1.done j z p hp l hl
    · have ej : j = i := by omega
      subst ej
      rw [g3, List.getElem?_append_left hil, hi] at hp
      cases hp
      exact g2 l hl
  · rw [g3, List.length_append]
    omega
theorem bfs_end {other : Wk} {t : Three} : ∀ (f i : Nat) (dk : Dl), Bfs other t i dk → other.length ^ other.length < i + f → Bfs other t (bfsGo t f i dk).length (bfsGo t f i dk)
  | 0, i, dk, h, hf => by
    have h1 := h.size
    have h2 := h.le
    omega
  | f + 1, i, dk, h, hf => by
    rw [bfsGo]
    cases e : dk[i]? with
    | none =>
      have hl := List.getElem?_eq_none_iff.mp e
      have : i = dk.length := by have := h.le; omega
      subst this
      exact h
    | some p =>
      obtain ⟨b, d⟩ := p
      exact bfs_end f (i + 1) _ (h.next e) (by omega)
/-- the way back -/
noncomputable def nextB (t : Three) (dk : Dl) (b : Wk) : Wk := ((neighW b t).filter fun l => decide ((distW dk l).getD 0 = (distW dk b).getD 0 - 1)).headD []
noncomputable def backGo (t : Three) (other : Wk) (dk : Dl) : Nat → Wk → List Wk
  | 0, _ => []
  | f + 1, b => if kW b = kW other then [] else nextB t dk b :: backGo t other dk f (nextB t dk b)
/-- what led tells where the two are alike -/
noncomputable def ledM (one other : Wk) : Option (List Wk) :=
  let dk := bfsGo (threeT one) (other.length ^ other.length + 1) 0 [(other, 0)]
  match distW dk one with
  | none => none
  | some d => some (backGo (threeT one) other dk (d.toNat + 1) one)
theorem next_ok {other : Wk} {t : Three} {dk : Dl} (h : Bfs other t dk.length dk) {b : Wk} {d : Int} (hb : distW dk b = some d) (ne : b ≠ other) : nextB t dk b ∈ neighW b t ∧ distW dk (nextB t dk b) = some (d - 1) ∧ 1 ≤ d ∧ ∃ r, ((neighW b t).filter fun l => decide ((distW dk l).getD 0 = d - 1)) = nextB t dk b :: r := by
  have hm := dist_mem hb
  obtain ⟨b1, b2, b3⟩ := h.back _ hm
  obtain ⟨c1, q, c2, c3⟩ := b3 ne
  have hq := (h.perm _ c2).2
  have sy := neigh_symm hq c3
  have dq := dist_of_mem h.nd c2
  have fm : q ∈ (neighW b t).filter fun l => decide ((distW dk l).getD 0 = (distW dk b).getD 0 - 1) := by
    rw [List.mem_filter, dq, hb]
    exact ⟨sy, by simp⟩
  have hx : ∃ x r, ((neighW b t).filter fun l => decide ((distW dk l).getD 0 = (distW dk b).getD 0 - 1)) = x :: r := by
    cases e : ((neighW b t).filter fun l => decide ((distW dk l).getD 0 = (distW dk b).getD 0 - 1)) with
    | nil => rw [e] at fm; cases fm
    | cons x r => exact ⟨x, r, rfl⟩
  obtain ⟨x, r, e⟩ := hx
  have ex : nextB t dk b = x := by unfold nextB; rw [e]; rfl
  have xm : x ∈ (neighW b t).filter fun l => decide ((distW dk l).getD 0 = (distW dk b).getD 0 - 1) := by rw [e]; exact List.mem_cons_self ..
  rw [List.mem_filter] at xm
  obtain ⟨j, hj⟩ := List.mem_iff_getElem?.mp hm
  have hjl := (List.getElem?_eq_some_iff.mp hj).1
  obtain ⟨dx, edx⟩ := Option.isSome_iff_exists.mp (h.done j hjl _ hj x xm.1)
  have e3 := xm.2
  rw [edx, hb] at e3
  simp at e3
  refine ⟨by rw [ex]; exact xm.1, by rw [ex, edx, e3], c1, r, ?_⟩
  rw [ex, ← e, hb]
  rfl
end Lo
set_option Elab.async false
set_option linter.all false
set_option maxRecDepth 100000
set_option maxHeartbeats 8000000
/-! neighbours -/
namespace Lo
open PySem PySem.Spec PyProof.Rows L2
abbrev sNeigh : Stmt := top 61
/-- a single work that can be, five steps at most -/
structure Five (b : Wk) : Prop where
  sing : SingW b
  ok : okSs b
  len : b.length ≤ 5
theorem okSs_of : ∀ {b : Wk}, (∀ s ∈ b, okS s) → okSs b
  | [], _ => by rw [okSs]; trivial
  | s :: r, h => by
    rw [okSs]
    exact ⟨h s (List.mem_cons_self ..), okSs_of fun x hx => h x (List.mem_cons_of_mem _ hx)⟩
theorem sing_depW : ∀ {b : Wk}, SingW b → depSs b = 0
  | [], _ => by rw [depSs]
  | s :: r, h => by
    rw [depSs, sing_dep (h s (List.mem_cons_self ..)), sing_depW fun x hx => h x (List.mem_cons_of_mem _ hx)]
    rfl
theorem sing_cnt : ∀ {b : Wk}, SingW b → cntSs b = b.length
  | [], _ => by rw [cntSs]; rfl
  | s :: r, h => by
    have h1 := h s (List.mem_cons_self ..)
    rw [cntSs, sing_cnt fun x hx => h x (List.mem_cons_of_mem _ hx), List.length_cons]
    cases s with
    | put c => rw [cntS]; omega
    | take => rw [cntS]; omega
    | times n b => simp [singS] at h1
theorem Five.perm {a b : Wk} (h : Five a) (p : b.Perm a) : Five b :=
  ⟨fun s hs => h.sing s (p.mem_iff.mp hs), okSs_of fun s hs => okSs_mem h.ok (p.mem_iff.mp hs), by rw [p.length_eq]; exact h.len⟩
theorem Five.okW {b : Wk} (h : Five b) : OkW b := ⟨h.ok, by rw [sing_depW h.sing]; decide, by rw [sing_cnt h.sing]; have := h.len; omega⟩
theorem alike_S {a b : Stp} (ha : singS a = true) (hb : singS b = true) : PySem.W.alike (encS a) (encS b) = true := by
  cases a with
  | put c =>
    cases b with
    | put d => rw [encS, encS]; rfl
    | take => rw [encS, encS]; rfl
    | times n b => simp [singS] at hb
  | take =>
    cases b with
    | put d => rw [encS, encS]; rfl
    | take => rw [encS]; rfl
    | times n b => simp [singS] at hb
  | times n b => simp [singS] at ha
theorem alike_Ss : ∀ {a b : List Stp}, SingW a → SingW b → PySem.W.alikeAll (encSs a) (encSs b) = true
  | [], b, _, _ => by rw [encSs]; cases b <;> rfl
  | x :: a, [], _, _ => by rw [encSs, encSs]; rfl
  | x :: a, y :: b, ha, hb => by
    rw [encSs, encSs, PySem.W.alikeAll, alike_S (ha x (List.mem_cons_self ..)) (hb y (List.mem_cons_self ..)), alike_Ss (fun z hz => ha z (List.mem_cons_of_mem _ hz)) fun z hz => hb z (List.mem_cons_of_mem _ hz)]
    rfl
theorem alike_W {a b : Wk} (ha : SingW a) (hb : SingW b) : PySem.W.alike (encW a) (encW b) = true := by
  unfold encW
  rw [PySem.W.alike]
  exact alike_Ss ha hb
theorem sing_depth {b : Wk} (h : SingW b) : (encW b).depth ≤ 2 := by
  have := dep_W b
  rw [sing_depW h] at this
  omega
theorem cands_sort {b : Wk} (h : Five b) (t : Three) : SortOk ((candsW b t).map encW) := by
  have hb : ∀ l ∈ candsW b t, Five l ∧ 2 ≤ l.length := fun l hl => by
    obtain ⟨p1, p2, p3⟩ := neigh_perm (mem_neigh.mpr hl)
    exact ⟨h.perm p1, by rw [p1.length_eq]; exact p3⟩
  refine ⟨fun x hx y hy => ?_, .inl fun d hd => ?_, ?_, fun d hd => ?_⟩
  · obtain ⟨l, hl, rfl⟩ := List.mem_map.mp hx
    obtain ⟨m, hm, rfl⟩ := List.mem_map.mp hy
    exact alike_W (hb l hl).1.sing (hb m hm).1.sing
  · obtain ⟨l, hl, rfl⟩ := List.mem_map.mp hd
    cases l with
    | nil => exact absurd (hb _ hl).2 (by decide)
    | cons s r =>
      unfold encW
      rw [encSs]
      exact ⟨_, _, rfl⟩
  · rw [List.length_map]
    have := cands_len b t
    have := h.len
    exact small_le (by omega)
  · obtain ⟨l, hl, rfl⟩ := List.mem_map.mp hd
    exact Nat.le_trans (sing_depth (hb l hl).1.sing) (by decide)
def rNeigh (ds es : List PyData) : Prop := ∃ (b : Wk) (t : Three), ds = [encW b, encT t] ∧ Five b ∧ es = (neighW b t).map encW
section
variable {P : Program} {w : World} {K : PySem.W.Frag} {mg : Str → Option Value} {base : Heap} {f : Addr} {fd : FuncData}
theorem scNeigh : FnScope ["work", "three", "found", "at", "other"] ["work", "three"] (defScope sNeigh) := ⟨rfl, rfl, rfl, by decide +kernel, rfl, by decide +kernel, by decide +kernel⟩
theorem swap_enc {b : Wk} {i : Nat} (h : i + 1 < b.length) : ∃ x y, (encSs b)[i]? = some (encS x) ∧ (encSs b)[i + 1]? = some (encS y) ∧ encSs (swapW b i) = ((encSs b).take i ++ [encS y, encS x]) ++ (encSs b).drop (i + 2) := by
  obtain ⟨x, y, e1, e2⟩ := swapW_eq h
  have hx : b[i]? = some x := by
    have h0 : b[i]? = some b[i] := List.getElem?_eq_getElem (by omega)
    rw [h0]
    have ht : (b.take i).length = i := by rw [List.length_take]; omega
    have : b[i]? = (b.take i ++ x :: y :: b.drop (i + 2))[i]? := by rw [← e1]
    rw [List.getElem?_append_right (by omega), ht, Nat.sub_self] at this
    rw [← h0, this]
    rfl
  have hy : b[i + 1]? = some y := by
    have ht : (b.take i).length = i := by rw [List.length_take]; omega
    have : b[i + 1]? = (b.take i ++ x :: y :: b.drop (i + 2))[i + 1]? := by rw [← e1]
    rw [List.getElem?_append_right (by omega), ht] at this
    have e3 : i + 1 - i = 1 := by omega
    rw [e3] at this
    rw [this]
    rfl
  refine ⟨x, y, by rw [encSs_map, List.getElem?_map, hx]; rfl, by rw [encSs_map, List.getElem?_map, hy]; rfl, ?_⟩
  rw [e2, encSs_map, encSs_map, List.map_append, List.map_cons, List.map_cons, List.map_take, List.map_drop]
  simp
theorem range_more {α : Type} {f : Nat → α} {p : α → Bool} {i n : Nat} (h : i < n) : ((((List.range n).map f).take (i + 1)).filter p) = ((((List.range n).map f).take i).filter p) ++ (if p (f i) = true then [f i] else []) := by
  have hi : ((List.range n).map f)[i]? = some (f i) := by
    rw [List.getElem?_map, List.getElem?_range h]
    rfl
  rw [List.take_succ, hi, List.filter_append]
  cases e : p (f i) with
  | true => simp [e]
  | false => simp [e]
theorem ok_neigh (F : Fun K "neighbours" "neighbours" sNeigh f fd) (T : Txt K mg) (cThree : Callee P w K mg base 6 "three_of" ["steps"] (spD K (rThree 3))) : FnOk P w K mg base CX0 7 f fd ["work", "three"] (spLs K rNeigh) := by
  refine F.ok scNeigh (spLs_len fun ds d ⟨_, _, e, _⟩ => by rw [e]; rfl) (fun cdv A outer s H vs Q E hr h => ?_)
  obtain ⟨ds, es, hvs, ⟨b, t, rfl, fv, rfl⟩, q⟩ := h
  obtain ⟨v1, v2, rfl, hv1, hv2⟩ := two_inv hvs
  have nd := scNeigh.nd
  refine ⟨_, pss_cons (ps_set (i := 2) nd rfl (Or.inl rfl) (pe_lst pa_nil))
    (pss_cons (ps_for PassesOwn.never rfl (pi_range1 rfl T.zRange (pa_cons (pe_op op_sub (pe_callB call_len_seq (by rfl) T.zLen (by decide +kernel) (pa_cons (pv 0) pa_nil)) pe_int) pa_nil)) (pg_name (i := 3) nd rfl (Or.inl rfl))
      (pss_cons (ps_set (i := 4) nd rfl (Or.inl rfl) (pe_op op_catP (pe_op op_catP (pe_slice sl_tupP (pv 0) po_none (po_some (pv 3))) (pe_tupP (pa_cons (pe_ix ix_tup (pv 0) (pe_op op_add (pv 3) pe_int) (fun _ _ => rfl)) (pa_cons (pe_ix ix_tup (pv 0) (pv 3) (fun _ _ => rfl)) pa_nil)))) (pe_slice sl_tupP (pv 0) (po_some (pe_op op_add (pv 3) pe_int)) po_none)))
      (pss_one (ps_if (PW.pt (pw_and (pt_cmpR (op_neD (hu64 hr)) (pv 4) (pv 0) (nomark _)) (pw_and1 (pt_cmpR (op_eqD (hu64 hr)) (pe_cal cThree hr (pa_cons (pv 4) pa_nil)) (pv 1) (nomark _)))))
        (pss_one (ps_expr (pe_bm PySem.F.plainAttrs_list PySem.F.slot_list_append PySem.F.type_list_append mt_append (pv 2) (pa_cons (pv 4) pa_nil)))) pss_nil))))
    (pss_one (ps_ret (pe_callB (cr_sortN rfl (hu64 hr)) (by rfl) T.zSorted (by decide +kernel) (pa_cons (pe_callTy (cr_setN rfl (hu64 hr)) (by rfl) T.zSet (by decide +kernel) (pa_cons (pv 2) pa_nil)) pa_nil))))), ?_⟩
  have hl := fv.len
  refine sd_seq (sd_nil fun lf nlf => ?_)
  have s0 := same_new nlf (.lst [])
  refine sd_go (sd_seq ((evd_op (evd_len (evd_var (σ := [some v1, some v2, some (V.ref lf), none, none]) (i := 0) rfl (hv1.same s0))) evd_int (opd_I0 (.int _))).go fun vn H1 s1 hn => ?_))
  obtain rfl := hn.int_inv
  rw [encSs_len]
  refine ⟨_, rfl, by omega, by omega, ?_⟩
  have en : ((b.length : Int) - 1).toNat = b.length - 1 := by omega
  rw [en]
  have s01 := s0.trans s1
  have pb := fun o => (!PyData.eqv (encW o) (encW b) && PyData.eqv (encT (threeT o)) (encT t))
  refine for_range (D := _) (lo := 0) (n := b.length - 1) (fun i σ H' => ∃ (u1 u2 : Option V) (xo : List V), σ = [some v1, some v2, some (.ref lf), u1, u2] ∧ Same H H' ∧ H' lf = some (.lst xo) ∧
    TpAll K H' xo (((((List.range (b.length - 1)).map (swapW b)).take i).filter fun o => !PyData.eqv (encW o) (encW b) && PyData.eqv (encT (threeT o)) (encT t)).map encW)) ⟨none, none, [], rfl, s01, s1 _ _ upd_same, .nil⟩ ?_ ?_
  · rintro i σ H' hi ⟨u1, u2, xo, rfl, s', hf, hxo⟩
    have hib : i + 1 < b.length := by omega
    obtain ⟨x, y, ex, ey, esw⟩ := swap_enc hib
    have pm := swapW_perm hib
    have fs := fv.perm pm
    have hv := hv1.same s'
    have hvt := hv2.same s'
    have e0 : (0 : Int) + (i : Int) = (i : Int) := by omega
    rw [e0]
    have lc : ((((List.range (b.length - 1)).map (swapW b)).take i).filter fun o => !PyData.eqv (encW o) (encW b) && PyData.eqv (encT (threeT o)) (encT t)).length ≤ 4 := by
      refine Nat.le_trans (List.length_filter_le ..) (Nat.le_trans (List.length_take_le' ..) ?_)
      rw [List.length_map, List.length_range]
      omega
    have lx := hxo.length
    rw [List.length_map] at lx
    have hli : i ≤ (encSs b).length := by rw [encSs_len]; omega
    have hli2 : i + 2 ≤ (encSs b).length := by rw [encSs_len]; omega
    have other : EvD K (tOp (rCatP K) (tOp (rCatP K) (tSl (rSlP K) (tVar 0) tNoPart (tPart (tVar 3))) (tTupP (tCons (tOp (rIxT K) (tVar 0) (tOp (rI0 fun i j => V.int (i + j)) (tVar 3) (tC (.int 1)))) (tCons (tOp (rIxT K) (tVar 0) (tVar 3)) tNil)))) (tSl (rSlP K) (tVar 0) (tPart (tOp (rI0 fun i j => V.int (i + j)) (tVar 3) (tC (.int 2)))) tNoPart))
        [some v1, some v2, some (.ref lf), some (.int (i : Int)), u2] H' (encW (swapW b i)) := by
      have a1 := evd_sl (σ := [some v1, some v2, some (V.ref lf), some (V.int (i : Int)), u2]) (te := tVar 0) (evd_var rfl hv) evp_none (evp_some (K := K) (evd_var (i := 3) (v := .int (i : Int)) rfl (.int _)))
      rw [cut_to hli] at a1
      have i2 : EvD K (tOp (rI0 fun i j => V.int (i + j)) (tVar 3) (tC (.int 2))) [some v1, some v2, some (.ref lf), some (.int (i : Int)), u2] H' (.int ((i + 2 : Nat) : Int)) := evd_is (evd_op (evd_var rfl (.int (i : Int))) evd_int (opd_I0 (.int _))) (by congr 1)
      have i1 : EvD K (tOp (rI0 fun i j => V.int (i + j)) (tVar 3) (tC (.int 1))) [some v1, some v2, some (.ref lf), some (.int (i : Int)), u2] H' (.int ((i + 1 : Nat) : Int)) := evd_is (evd_op (evd_var rfl (.int (i : Int))) evd_int (opd_I0 (.int _))) (by congr 1)
      have a2 := evd_sl (σ := [some v1, some v2, some (V.ref lf), some (V.int (i : Int)), u2]) (te := tVar 0) (evd_var rfl hv) (evp_some i2) evp_none
      rw [cut_from hli2] at a2
      have l1 : ((encSs b).take i).length ≤ 5 := by rw [List.length_take, encSs_len]; omega
      have l2 : ((encSs b).drop (i + 2)).length ≤ 5 := by rw [List.length_drop, encSs_len]; omega
      unfold encW
      rw [esw]
      exact evd_op (evd_op a1 (evd_tup (eva_cons (evd_op (evd_var rfl hv) i1 (opd_ixT ey)) (eva_cons (evd_op (evd_var rfl hv) (evd_var rfl (.int (i : Int))) (opd_ixT ex)) eva_nil))) (opd_cat (small_le (by simp only [List.length_cons, List.length_nil]; omega)))) a2 (opd_cat (small_le (by rw [List.length_append]; simp only [List.length_cons, List.length_nil]; omega)))
    refine sd_seq (sd_set (K := K) other fun vo H2 s2 ho => ?_)
    have rm := range_more (f := swapW b) (p := fun o => !PyData.eqv (encW o) (encW b) && PyData.eqv (encT (threeT o)) (encT t)) hi
    have okw := fs.okW
    refine sd_go (sd_if (b := (!PyData.eqv (encW (swapW b i)) (encW b) && PyData.eqv (encT (threeT (swapW b i))) (encT t))) (evb_and (evb_test (K := K) (evd_op (evd_var rfl ho) (evd_var rfl (hv.same s2)) (opd_neD (shaped_W (by rw [sing_depW fs.sing]; decide)) (shaped_W (by rw [sing_depW fv.sing]; decide))))) fun _ =>
      evb_test (K := K) (evd_op (evd_call (eva_cons (evd_var rfl ho) eva_nil) ⟨swapW b i, rfl, okw.ok, okw.dep, by have := okw.cnt; omega, rfl⟩) (evd_var rfl (hvt.same s2)) (opd_eqD (shaped_T _) (shaped_T _)))) (fun hk H3 s3 => ?_) fun hk H3 s3 => ?_)
    · refine st_app (K := K) (i := 2) (l := lf) rfl (s3 _ _ (s2 _ _ hf)) (evd_var rfl (ho.same s3)) (small_lt (by omega)) fun z H4 s4 hz => ?_
      have sT : SameT H' (upd H4 lf (.lst (xo ++ [z]))) := (((SameT.of s2).trans (SameT.of s3)).trans (SameT.of s4)).updL (s4 _ _ (s3 _ _ (s2 _ _ hf)))
      refine ⟨_, _, _, rfl, same_mut (((s'.trans s2).trans s3).trans s4) nlf _, upd_same, ?_⟩
      rw [rm, if_pos hk, List.map_append]
      exact (hxo.mono sT).snoc (hz.mono (SameT.updL (.refl _) (s4 _ _ (s3 _ _ (s2 _ _ hf)))))
    · refine ⟨_, _, _, rfl, (s'.trans s2).trans s3, s3 _ _ (s2 _ _ hf), ?_⟩
      rw [rm, if_neg (by rw [hk]; exact Bool.false_ne_true), List.append_nil]
      exact hxo.same (s2.trans s3)
  · rintro σ H' ⟨u1, u2, xo, rfl, s', hf, hxo⟩
    rw [List.take_of_length_le (by rw [List.length_map, List.length_range]; exact Nat.le_refl _)] at hxo
    have hxo : TpAll K H' xo ((candsW b t).map encW) := hxo
    have cl := cands_len b t
    rw [neighW_map] at q
    refine sd_go (sd_retL (K := K) (evl_sortSetN rfl hf hxo (fun d hd => ?_) (by rw [List.length_map]; omega) (cands_sort fv t)) fun l xs H3 n3 s3 hl3 hx3 => q l xs H3 (s'.free n3) (s'.trans s3) hl3 hx3)
    obtain ⟨z, hz, rfl⟩ := List.mem_map.mp hd
    obtain ⟨p1, p2, p3⟩ := neigh_perm (mem_neigh.mpr hz)
    exact ⟨⟨_, rfl⟩, sim_W z, Nat.le_trans (sing_depth (fv.perm p1).sing) (by decide)⟩
end
end Lo
set_option Elab.async false
set_option linter.all false
set_option maxRecDepth 100000
set_option maxHeartbeats 8000000
/-! led -/
namespace Lo
open PySem PySem.Spec PyProof.Rows L2
abbrev sLed : Stmt := top 62
/-- what the top has of the class Unlike -/
structure UTxt (K : PySem.W.Frag) (mg : Str → Option Value) (C : Addr) : Prop where
  gC : mg "Unlike" = some (.ref C)
  xP : PySem.W.excIn K C [.type "ValueError", .type "Exception", .type "BaseException", .type "object"] "ValueError.__new__" = true
  kP : PySem.W.keepIn K (.ref C) = true
  bP : PySem.W.subIn K (.ref C) (.type "BaseException") = some true
  tP : PySem.W.typeIn K (.ref C) = some (.type "type")
noncomputable def spLed (K : PySem.W.Frag) (C : Addr) : Sp := fun vs H Q E => ∃ a b : Wk, TpAll K H vs [encW a, encW b] ∧ Five a ∧ Five b ∧ (threeT a ≠ threeT b → ∀ H', Same H H' → E (.ref C) none H') ∧
  (threeT a = threeT b → (ledM a b = none → ∀ H', Same H H' → Q .non H') ∧ ∀ ws, ledM a b = some ws → ∀ l xs H', H l = none → Same H H' → H' l = some (.lst xs) → TpAll K H' xs (ws.map encW) → Q (.ref l) H')
section
variable {P : Program} {w : World} {K : PySem.W.Frag} {mg : Str → Option Value} {base : Heap} {f C : Addr} {fd : FuncData}
theorem look_dist (dk : Dl) (b : Wk) : lookN (dk.map fun p => (kW p.1, p.2)) (kW b) = distW dk b := by
  unfold lookN distW
  induction dk with
  | nil => rfl
  | cons p dk ih =>
    rw [List.map_cons, List.find?_cons, List.find?_cons]
    by_cases h : kW p.1 = kW b
    · simp [h]
    · rw [decide_eq_false h]
      exact ih
theorem put_dist {dk : Dl} {b : Wk} {d : Int} (h : distW dk b = none) : putN (dk.map fun p => (kW p.1, p.2)) (kW b) d = (dk ++ [(b, d)]).map fun p => (kW p.1, p.2) := by
  unfold putN
  rw [look_dist, h, List.map_append]
  rfl
theorem evd_getD {σ : L2.St} {H : Hp} {ty : TE} {i : Nat} {a : Addr} {kvs : List (NestedKey × Int)} {b : Wk} {v : Int} (hv : σ[i]? = some (some (.ref a))) (D : Dk K P w H a kvs) (hy : EvD K ty σ H (encW b)) (fb : SingW b) (hl : lookN kvs (kW b) = some v) : EvD K (tGetD K P w (tVar i) ty) σ H (.int v) := fun H1 s Q q =>
  ⟨_, hv, hy H1 s _ fun y H2 s2 h2 => by
    obtain ⟨c, xs, rfl, hS, hA⟩ := Tp.tup_inv h2
    exact ⟨a, c, encW b, kvs, v, rfl, rfl, h2, sim_W b, Nat.le_trans (sing_depth fb) (by decide), D.same (s.trans s2), hl, q _ H2 s2 (.int _)⟩⟩
theorem evb_notIn {σ : L2.St} {H : Hp} {i j : Nat} {a : Addr} {kvs : List (NestedKey × Int)} {b : Wk} {v : V} (hj : σ[j]? = some (some v)) (hb : Tp K H v (encW b)) (fb : SingW b) (hv : σ[i]? = some (some (.ref a))) (D : Dk K P w H a kvs) : EvB (tTest (tOp (rInD K P w true) (tVar j) (tVar i))) σ H (true != (lookN kvs (kW b)).isSome) := fun H1 s Q q => by
  obtain ⟨c, xs, rfl, hS, hA⟩ := Tp.tup_inv hb
  exact ⟨_, hj, _, hv, c, a, encW b, kvs, rfl, rfl, hb.same s, sim_W b, Nat.le_trans (sing_depth fb) (by decide), D.same s, _, rfl, q H1 (Same.refl H1)⟩
theorem evd_ixL {σ : L2.St} {H : Hp} {ti : TE} {i n : Nat} {l : Addr} {xs : List V} {ds : List PyData} {d : PyData} (hv : σ[i]? = some (some (.ref l))) (hl : H l = some (.lst xs)) (hx : TpAll K H xs ds) (hi : EvD K ti σ H (.int (n : Int))) (hd : ds[n]? = some d) : EvD K (tOp (rIxL K) (tVar i) ti) σ H d := fun H1 s Q q =>
  ⟨_, hv, hi H1 s _ fun y H2 s2 hy => by
    obtain ⟨v, hv2, hvd⟩ := hx.get hd
    exact ⟨l, xs, n, v, rfl, hy.int_inv, .of (s2 _ _ (s _ _ hl)), atI_nat hv2, q v H2 s2 (hvd.same (s.trans s2))⟩⟩
theorem evd_ixL0 {σ : L2.St} {H : Hp} {te : TE} {ds : List PyData} {d : PyData} (h : EvLs K te σ H (d :: ds)) : EvD K (tOp (rIxL K) te (tC (.int 0))) σ H d := fun H1 s Q q =>
  h H1 s _ fun l xs H2 n s2 hl hx => by
    obtain ⟨v, hv2, hvd⟩ := hx.get (i := 0) (d := d) rfl
    exact ⟨l, xs, 0, v, rfl, rfl, .of hl, atI_nat hv2, q v H2 s2 hvd⟩
theorem evd_lenL {σ : L2.St} {H : Hp} {i : Nat} {l : Addr} {xs : List V} (hv : σ[i]? = some (some (.ref l))) (hl : H l = some (.lst xs)) : EvD K (tCB (rLenQ K) (tCons (tVar i) tNil)) σ H (.int xs.length) := fun H1 s Q q =>
  ⟨_, hv, l, xs, rfl, .inl (.of (s _ _ hl)), q _ H1 (Same.refl H1) (.int _)⟩
/-- a comprehension over a new list of data -/
theorem evl_lcL {σ : L2.St} {H : Hp} {ts te : TE} {tt : TT} {g : TG} {vs : List Nat} {ds : List PyData} (hl : ds.length ≤ sizeLine) (h : EvLs K ts σ H ds) (keep : PyData → Bool) (elt : PyData → PyData)
    (hs : ∀ d ∈ ds, ∀ x H', Same H H' → Tp K H' x d → ∃ σ2, (∀ R : L2.St → Hp → Prop, R σ2 H' → g x (wipe σ vs) H' R) ∧ wipe σ2 vs = wipe σ vs ∧ EvB tt σ2 H' (keep d) ∧ (keep d = true → EvD K te σ2 H' (elt d))) :
    EvLs K (tLc (iList K ts) g tt te vs) σ H ((ds.filter keep).map elt) := by
  intro H1 s1 Q q
  refine h H1 s1 _ fun a xs H2 na s2 ha hA => ?_
  refine ⟨a, rfl, ⟨_, .of ha⟩, fun D hD => ?_⟩
  refine lc_list (K := K) (a := a) (xs := xs) (fun i Hc => Same H2 Hc ∧ ∃ acc, Hc D = some (.lst acc) ∧ TpAll K Hc acc (((ds.take i).filter keep).map elt) ∧ acc.length ≤ i) ⟨same_new hD _, [], upd_same, .nil, Nat.le_refl _⟩
    (fun i Hc _ p => .of (p.1 _ _ ha)) ?_ ?_
  · rintro i x Hc hx ⟨sc, acc, hacc, hT, hlen⟩
    obtain ⟨d, hd, hxd⟩ := hA.getV hx
    have hi : i < ds.length := (List.getElem?_eq_some_iff.mp hd).1
    obtain ⟨σ2, hg, hw, ht, he⟩ := hs d (List.mem_of_getElem? hd) x Hc ((s1.trans s2).trans sc) (hxd.same sc)
    refine hg _ ⟨hw, ht.go fun H3 s3 => ?_⟩
    have more := ds_more hd keep elt
    cases e : keep d with
    | true =>
      refine iteT ((he e).mono s3 |>.go fun y H4 s4 hy => ?_)
      refine ⟨acc, s4 _ _ (s3 _ _ hacc), Nat.lt_of_le_of_lt hlen (Nat.lt_of_lt_of_le hi hl), same_mut ((sc.trans s3).trans s4) hD _, _, upd_same, ?_, by rw [List.length_append, List.length_singleton]; omega⟩
      rw [more, if_pos e]
      exact (hT.mono (((SameT.of s3).trans (SameT.of s4)).updL (s4 _ _ (s3 _ _ hacc)))).snoc (hy.mono (SameT.updL (.refl _) (s4 _ _ (s3 _ _ hacc))))
    | false =>
      rw [if_neg Bool.false_ne_true]
      refine ⟨sc.trans s3, acc, s3 _ _ hacc, ?_, by omega⟩
      rw [more, if_neg (by rw [e]; exact Bool.false_ne_true), List.append_nil]
      exact hT.same s3
  · rintro Hc ⟨sc, acc, hacc, hT, _⟩
    rw [hA.length, List.take_length] at hT
    exact q D acc Hc (s2.free hD) (s2.trans sc) hacc hT
theorem neigh_len (b : Wk) (t : Three) : (neighW b t).length ≤ b.length := by
  have h1 : ∀ l : List Wk, (dedupW l).length ≤ l.length := by
    intro l
    induction l with
    | nil => exact Nat.le_refl _
    | cons x l ih =>
      show (if kW x ∈ (dedupW l).map kW then dedupW l else x :: dedupW l).length ≤ _
      split
      · exact Nat.le_succ_of_le ih
      · exact Nat.succ_le_succ ih
  show (List.mergeSort _ _).length ≤ _
  rw [List.length_mergeSort]
  exact Nat.le_trans (h1 _) (Nat.le_trans (cands_len b t) (Nat.sub_le _ _))
theorem Bfs.near {other : Wk} {t : Three} {i : Nat} {dk : Dl} (h : Bfs other t i dk) : ∀ (n : Nat) (p : Wk), (p, (n : Int)) ∈ dk → ∀ k, k ≤ n → ∃ q, (q, (k : Int)) ∈ dk
  | 0, p, hp, k, hk => ⟨p, by rw [Nat.le_zero.mp hk]; exact hp⟩
  | n + 1, p, hp, k, hk => by
    rcases Nat.lt_or_ge k (n + 1) with z | z
    · obtain ⟨b1, b2, b3⟩ := h.back _ hp
      by_cases e : p = other
      · have := b2 e
        have : ((n + 1 : Nat) : Int) = 0 := this
        omega
      · obtain ⟨_, q, c2, _⟩ := b3 e
        have e2 : ((n + 1 : Nat) : Int) - 1 = (n : Int) := by omega
        rw [show (q, ((n + 1 : Nat) : Int) - 1) = (q, (n : Int)) by rw [e2]] at c2
        exact h.near n q c2 k (by omega)
    · have : k = n + 1 := by omega
      exact ⟨p, this ▸ hp⟩
theorem Bfs.far {other : Wk} {t : Three} {i : Nat} {dk : Dl} (h : Bfs other t i dk) {p : Wk} {d : Int} (hp : distW dk p = some d) : d.toNat < dk.length := by
  have hm := dist_mem hp
  have h0 := (h.back _ hm).1
  obtain ⟨n, rfl⟩ := Int.eq_ofNat_of_zero_le h0
  have := nodup_len' (List.range (n + 1)) (dk.map fun p => p.2.toNat) List.nodup_range fun k hk => by
    obtain ⟨q, hq⟩ := h.near n p hm k (by have := List.mem_range.mp hk; omega)
    exact List.mem_map.mpr ⟨_, hq, rfl⟩
  rw [List.length_range, List.length_map] at this
  show n < _
  omega
theorem scLed : FnScope ["one", "other", "three", "steps", "line", "at", "later", "found"] ["one", "other"] (defScope sLed) := ⟨rfl, rfl, rfl, by decide +kernel, rfl, by decide +kernel, by decide +kernel⟩
theorem ok_led (F : Fun K "led" "led" sLed f fd) (T : Txt K mg) (U : UTxt K mg C) (cNW : Callee P w K mg base 5 "need_work" ["work"] (spD K rNeedW)) (cNS : Callee P w K mg base 1 "need_single" ["work"] (spD K rNeedSing)) (cNF : Callee P w K mg base 2 "need_few" ["three"] (spD K rNeedFew))
    (cThree : Callee P w K mg base 6 "three_of" ["steps"] (spD K (rThree 3))) (cNb : Callee P w K mg base 7 "neighbours" ["work", "three"] (spLs K rNeigh)) : FnOk P w K mg base (L2.CX P w) 8 f fd ["one", "other"] (spLed K C) := by
  refine F.okX scLed (fun vs H Q E ⟨a, b, hv, _⟩ => hv.length) (fun cdv A outer s H vs Q E hr h => ?_)
  obtain ⟨a, b, hvs, fa, fb, qE, qQ⟩ := h
  obtain ⟨v1, v2, rfl, hv1, hv2⟩ := two_inv hvs
  have nd := scLed.nd
  refine ⟨_, pss_cons (ps_expr (pe_cal cNW hr (pa_cons (pv 0) pa_nil))) (pss_cons (ps_expr (pe_cal cNS hr (pa_cons (pv 0) pa_nil)))
    (pss_cons (ps_expr (pe_cal cNW hr (pa_cons (pv 1) pa_nil))) (pss_cons (ps_expr (pe_cal cNS hr (pa_cons (pv 1) pa_nil)))
    (pss_cons (ps_set (i := 2) nd rfl (Or.inl rfl) (pe_cal cThree hr (pa_cons (pv 0) pa_nil)))
    (pss_cons (ps_if (pt_cmpR (op_neD (hu64 hr)) (pv 2) (pe_cal cThree hr (pa_cons (pv 1) pa_nil)) (nomark _)) (pss_one (ps_raise rfl (takes_of rfl rfl rfl rfl) (pmk_own PySem.F.excBase_ValueError U.xP U.gC U.kP (raises_own U.bP U.tP) rfl))) pss_nil)
    (pss_cons (ps_expr (pe_cal cNF hr (pa_cons (pv 2) pa_nil)))
    (pss_cons (ps_set (i := 3) nd rfl (Or.inr rfl) (pe_dispD (hu64 hr) (pv 1) pe_int))
    (pss_cons (ps_set (i := 4) nd rfl (Or.inl rfl) (pe_lst (pa_cons (pv 1) pa_nil)))
    (pss_cons (ps_set (i := 5) nd rfl (Or.inl rfl) pe_int)
    (pss_cons (ps_while (passes_of rfl) (pt_cmpR op_lt (pv 5) (pe_callB call_len_seq (by rfl) T.zLen (by decide +kernel) (pa_cons (pv 4) pa_nil)) (nomark _))
      (pss_cons (ps_for (passes_of rfl) rfl (pi_list (pe_cal cNb hr (pa_cons (pe_ix ix_list (pv 4) (pv 5) (fun _ _ => rfl)) (pa_cons (pv 2) pa_nil)))) (pg_name (i := 6) nd rfl (Or.inl rfl))
        (pss_one (ps_if (pt_cmpR (op_notInD (hu64 hr)) (pv 6) (pv 3) (by rfl))
          (pss_cons (ps_putD (hu64 hr) (pv 3) (pv 6) (pe_op op_add (pe_getD (hu64 hr) (pv 3) (pe_ix ix_list (pv 4) (pv 5) (fun _ _ => rfl)) (fun _ _ => rfl)) pe_int) rfl)
          (pss_one (ps_expr (pe_bm PySem.F.plainAttrs_list PySem.F.slot_list_append PySem.F.type_list_append mt_append (pv 4) (pa_cons (pv 6) pa_nil))))) pss_nil)))
      (pss_one (ps_aug (i := 5) nd rfl (Or.inl rfl) pe_int ip_add))))
    (pss_cons (ps_if (pt_cmpR (op_notInD (hu64 hr)) (pv 0) (pv 3) (by rfl)) (pss_one (ps_ret pe_non)) pss_nil)
    (pss_cons (ps_set (i := 7) nd rfl (Or.inl rfl) (pe_lst pa_nil))
    (pss_cons (ps_while (passes_of rfl) (pt_cmpR (op_neD (hu64 hr)) (pv 0) (pv 1) (nomark _))
      (pss_cons (ps_set (i := 0) nd rfl (Or.inr rfl) (pe_ix ix_list (pe_lc (own := [("later", 6)]) (g := gName 6) (tt := tTest (tOp rEq (tGetD K P w (tVar 3) (tVar 6)) (tOp (rI0 fun i j => V.int (i - j)) (tGetD K P w (tVar 3) (tVar 0)) (tC (.int 1))))) (te := tVar 6) rfl nd
          (pi_list (pe_cal cNb hr (pa_cons (pv 0) (pa_cons (pv 2) pa_nil)))) (blkOk_by (N := ["one", "other", "three", "steps", "line", "at", "later", "found"]) (sc := defScope sLed) (by decide +kernel))
          (fun _ _ _ _ _ => pg_name (i := 6) nd rfl (Or.inl rfl)) (fun _ _ _ _ _ => pts_one (pt_cmpR op_eq (pe_getD (hu64 hr) (pv 3) (pv 6) (fun _ _ => rfl)) (pe_op op_sub (pe_getD (hu64 hr) (pv 3) (pv 0) (fun _ _ => rfl)) pe_int) (nomark _))) (fun _ _ _ _ _ => pv 6)) pe_int (fun _ _ => rfl)))
      (pss_one (ps_expr (pe_bm PySem.F.plainAttrs_list PySem.F.slot_list_append PySem.F.type_list_append mt_append (pv 7) (pa_cons (pv 0) pa_nil))))))
    (pss_one (ps_ret (pv 7)))))))))))))))), ?_⟩
  have oa := fa.okW
  have ob := fb.okW
  have la := fa.len
  have lb := fb.len
  have ga := threeT_good a
  have lpa := putsSs_len a
  have cna := oa.cnt
  have ll1 := ga.left.len
  have ll2 := ga.out.len
  have sta := sing_three fa.sing
  refine sd_seq (sd_drop (K := K) (evd_call (eva_cons (evd_var rfl hv1) eva_nil) ⟨a, rfl, oa, rfl⟩) fun _ H1 s1 _ => ?_)
  refine sd_go (sd_seq (sd_drop (K := K) (evd_call (eva_cons (evd_var rfl (hv1.same s1)) eva_nil) ⟨a, rfl, fa.sing, by omega, rfl⟩) fun _ H2 s2 _ => ?_))
  have s12 := s1.trans s2
  refine sd_go (sd_seq (sd_drop (K := K) (evd_call (eva_cons (evd_var rfl (hv2.same s12)) eva_nil) ⟨b, rfl, ob, rfl⟩) fun _ H3 s3 _ => ?_))
  have s13 := s12.trans s3
  refine sd_go (sd_seq (sd_drop (K := K) (evd_call (eva_cons (evd_var rfl (hv2.same s13)) eva_nil) ⟨b, rfl, fb.sing, by omega, rfl⟩) fun _ H4 s4 _ => ?_))
  have s14 := s13.trans s4
  refine sd_go (sd_seq (sd_set (K := K) (evd_call (eva_cons (evd_var rfl (hv1.same s14)) eva_nil) ⟨a, rfl, oa.ok, oa.dep, by omega, rfl⟩) fun vt H5 s5 ht => ?_))
  have s15 := s14.trans s5
  refine sd_go (sd_seq (sd_if (b := !PyData.eqv (encT (threeT a)) (encT (threeT b))) (evb_test (K := K) (evd_op (evd_var rfl ht) (evd_call (eva_cons (evd_var rfl (hv2.same s15)) eva_nil) ⟨b, rfl, ob.ok, ob.dep, by have := ob.cnt; omega, rfl⟩) (opd_neD (shaped_T _) (shaped_T _)))) (fun hk H6 s6 => ?_) fun hk H6 s6 => ?_))
  · refine qE (fun e => ?_) H6 (s15.trans s6)
    rw [(eqv_T _ _).mpr e] at hk
    cases hk
  have eT : threeT a = threeT b := by
    refine (eqv_T _ _).mp ?_
    cases e : PyData.eqv (encT (threeT a)) (encT (threeT b)) with
    | true => rfl
    | false => rw [e] at hk; cases hk
  obtain ⟨qN, qS⟩ := qQ eT
  have s16 := s15.trans s6
  refine sd_next (sd_go (sd_seq (sd_drop (K := K) (evd_call (eva_cons (evd_var rfl (ht.same s6)) eva_nil) ⟨threeT a, rfl, by omega, by omega, by omega, rfl⟩) fun _ H7 s7 _ => ?_)))
  have s17 := s16.trans s7
  have hv1' := hv1.same s17
  have hv2' := hv2.same s17
  have ht7 := ht.same (s6.trans s7)
  obtain ⟨pb, ysb, rfl, hSb, hAb⟩ := hv2.tup_inv
  have simb := sim_W b
  -- steps = {other: 0}
  refine sd_go (sd_seq (fun sd hsd => ⟨_, rfl, pb, encW b, 0, rfl, rfl, hv2'.same (same_new hsd _), sim_W b, Nat.le_trans (sing_depth fb.sing) (by decide), upd_same, fun xs0 D0 => ?_⟩))
  have eup : upd (upd H7 sd (DkO P w sd [])) sd (DkO P w sd xs0) = upd H7 sd (DkO P w sd xs0) := by
    funext c
    by_cases hc : c = sd
    · rw [hc, upd_same, upd_same]
    · rw [upd_ne hc, upd_ne hc, upd_ne hc]
  have D0 : Dk K P w (upd (upd H7 sd (DkO P w sd [])) sd (DkO P w sd xs0)) sd [(kW b, 0)] := D0
  rw [eup] at D0
  show Ends.nx _ _ (upd (upd H7 sd (DkO P w sd [])) sd (DkO P w sd xs0))
  rw [eup]
  have s8 : Same H7 (upd H7 sd (DkO P w sd xs0)) := same_new hsd _
  have nsd : H sd = none := s17.free hsd
  generalize upd H7 sd (DkO P w sd xs0) = H8 at D0 s8
  have s18 := s17.trans s8
  -- line = [other]
  refine sd_go (sd_seq (sd_setL (K := K) (evl_lst (eva_cons (evd_var rfl (hv2.same s18)) eva_nil)) fun ll lx H9 nll s9 hll hlx => ?_))
  have s19 := s18.trans s9
  have nll0 : H ll = none := s18.free nll
  have hlsd : ll ≠ sd := fun e => by
    obtain ⟨z, hz⟩ := D0.lives
    rw [e, hz] at nll
    cases nll
  refine sd_go (sd_seq (sd_set (K := K) evd_int fun v5 H10 s10 h10 => ?_))
  obtain rfl := h10.int_inv
  have s1a := s19.trans s10
  -- the walk along the line
  have walked : ∀ (D : Ends), (∀ (u6 : Option V) (at' : Int) (xs : List V) H', Same H H' → SameT H10 H' → H' ll = some (.lst xs) → Dk K P w H' sd ((bfsGo (threeT a) (b.length ^ b.length + 1) 0 [(b, 0)]).map fun p => (kW p.1, p.2)) → D.nx [some v1, some (.ref pb), some vt, some (.ref sd), some (.ref ll), some (.int at'), u6, none] H') →
      tWhile (tTest (tOp (rI0 fun i j => V.bl (decide (i < j))) (tVar 5) (tCB (rLenQ K) (tCons (tVar 4) tNil))))
        (tSeq (tFor (iList K (tCall (spLs K rNeigh) [] E0 (tCons (tOp (rIxL K) (tVar 4) (tVar 5)) (tCons (tVar 2) tNil)))) (gName 6) (tIfS (tTest (tOp (rInD K P w true) (tVar 6) (tVar 3)))
          (tSeq (sPutD K P w (tVar 3) (tVar 6) (tOp (rI0 fun i j => V.int (i + j)) (tGetD K P w (tVar 3) (tOp (rIxL K) (tVar 4) (tVar 5))) (tC (.int 1)))) (tDrop (tBM K "list" rAppend (tVar 4) (tCons (tVar 6) tNil)))) tNext)) (tAug 5 (tC (.int 1)) (ipI fun i j => i + j)))
        D [some v1, some (.ref pb), some vt, some (.ref sd), some (.ref ll), some (.int 0), none, none] H10 := by
    intro D hD
    refine sd_while (fun m σ H' => ∃ (at' : Nat) (dk : Dl) (xs : List V) (u6 : Option V), σ = [some v1, some (.ref pb), some vt, some (.ref sd), some (.ref ll), some (.int (at' : Int)), u6, none] ∧ Same H H' ∧ SameT H10 H' ∧ H' ll = some (.lst xs) ∧ TpAll K H' xs (dk.map fun p => encW p.1) ∧ Dk K P w H' sd (dk.map fun p => (kW p.1, p.2)) ∧
        Bfs b (threeT a) at' dk ∧ m + at' = b.length ^ b.length + 1 ∧ bfsGo (threeT a) m at' dk = bfsGo (threeT a) (b.length ^ b.length + 1) 0 [(b, 0)]) (b.length ^ b.length + 1) ⟨0, [(b, 0)], lx, none, rfl, s1a, .refl _, s10 _ _ hll, hlx.same s10, D0.same (s9.trans s10), by rw [eT]; exact Bfs.start b, rfl, rfl⟩ ?_
    rintro m σ H' ⟨at', dk, xs, u6, rfl, s', sT', hl, hxs, Dd, B, em, eg⟩
    have hlen := hxs.length
    rw [List.length_map] at hlen
    refine ⟨decide ((at' : Int) < (xs.length : Int)), evb_cmp (K := K) (evd_var (v := .int (at' : Int)) rfl (.int _)) (evd_lenL rfl hl) rfl, fun hb H2 s2 N hN => ?_, fun hb H2 s2 => ?_⟩
    · have hlt : at' < dk.length := by
        have := of_decide_eq_true hb
        omega
      have hsz := B.size
      have hp5 : b.length ^ b.length ≤ 5 ^ 5 := Nat.le_trans (Nat.pow_le_pow_left lb _) (Nat.pow_le_pow_right (by decide) lb)
      have h55 : (5 : Nat) ^ 5 = 3125 := by decide
      obtain ⟨c, d, ecd⟩ : ∃ c d, dk[at']? = some (c, d) := ⟨dk[at'].1, dk[at'].2, List.getElem?_eq_getElem hlt⟩
      have hcm := List.mem_of_getElem? ecd
      have hcd : (dk.map fun p => encW p.1)[at']? = some (encW c) := by rw [List.getElem?_map, ecd]; rfl
      have fc : Five c := fb.perm (B.perm _ hcm).1
      obtain ⟨m', em'⟩ : ∃ m', m = m' + 1 := ⟨m - 1, by omega⟩
      subst em'
      rw [bfsGo, ecd] at eg
      have eg : bfsGo (threeT a) m' (at' + 1) (growW (d + 1) dk (neighW c (threeT a))) = bfsGo (threeT a) (b.length ^ b.length + 1) 0 [(b, 0)] := eg
      have Bn := B.next ecd
      have cdist := dist_of_mem B.nd hcm
      have ht2 := (ht7.same ((s8.trans s9).trans s10)).mono (sT'.trans (SameT.of s2))
      refine sd_seq (st_forL (K := K) (evl_call (eva_cons (evd_ixL rfl (s2 _ _ hl) (hxs.same s2) (evd_var rfl (.int (at' : Int))) hcd) (eva_cons (evd_var rfl ht2) eva_nil)) ⟨c, threeT a, rfl, fc, rfl⟩)
        (fun l ys i σ Hc => ∃ (u : Option V) (xs2 : List V) (e : Dl), σ = [some v1, some (.ref pb), some vt, some (.ref sd), some (.ref ll), some (.int (at' : Int)), u, none] ∧ Same H Hc ∧ SameT H2 Hc ∧ Hc l = some (.lst ys) ∧ TpAll K Hc ys ((neighW c (threeT a)).map encW) ∧ l ≠ sd ∧ l ≠ ll ∧
          Hc ll = some (.lst xs2) ∧ growW (d + 1) dk ((neighW c (threeT a)).take i) = dk ++ e ∧ TpAll K Hc xs2 ((dk ++ e).map fun p => encW p.1) ∧ Dk K P w Hc sd ((dk ++ e).map fun p => (kW p.1, p.2)) ∧ Bfs b (threeT a) at' (dk ++ e)) ?_ ?_ ?_ ?_)
      · intro l ys H3 nl3 s3 hl3 hy3
        refine ⟨u6, xs, [], rfl, (s'.trans s2).trans s3, SameT.of s3, hl3, hy3, fun e => ?_, fun e => ?_, s3 _ _ (s2 _ _ hl), by simp [growW], ?_, ?_, ?_⟩
        · obtain ⟨z, hz⟩ := (Dd.same s2).lives
          rw [e, hz] at nl3
          cases nl3
        · rw [e, s2 _ _ hl] at nl3
          cases nl3
        · rw [List.append_nil]
          exact hxs.same (s2.trans s3)
        · rw [List.append_nil]
          exact Dd.same (s2.trans s3)
        · rw [List.append_nil]
          exact B
      · exact fun l ys i σ Hc ⟨_, _, _, _, _, _, h1, h2, _⟩ => ⟨h1, h2⟩
      · rintro l ys i dd x σ Hc nl hdd hx ⟨u, xs2, e, rfl, sc, sTc, hlc, hyc, nls, nll2, hll2, eg2, hx2, D2, B2⟩
        obtain ⟨z, hz, rfl⟩ := map_at hdd
        have hzm := List.mem_of_getElem? hz
        obtain ⟨pm1, tz, _⟩ := neigh_perm hzm
        have fz : Five z := fc.perm pm1
        have hcm2 : (c, d) ∈ dk ++ e := List.mem_append_left _ hcm
        obtain ⟨g1, g2, e3, g3⟩ := B2.one hcm2 hzm
        have fm : growW (d + 1) dk ((neighW c (threeT a)).take (i + 1)) = growOne (d + 1) (growW (d + 1) dk ((neighW c (threeT a)).take i)) z := fold_more (growOne (d + 1)) dk hz
        rw [eg2] at fm
        have hxl2 := hx2.length
        rw [List.length_map] at hxl2
        have hsz2 := B2.size
        refine sd_if (b := (true != (lookN ((dk ++ e).map fun p => (kW p.1, p.2)) (kW z)).isSome)) (evb_notIn rfl hx fz.sing rfl D2) (fun hk H4 s4 => ?_) fun hk H4 s4 => ?_
        · have hn : distW (dk ++ e) z = none := by
            rw [look_dist] at hk
            cases q : distW (dk ++ e) z with
            | none => rfl
            | some y => rw [q] at hk; cases hk
          have cd2 : lookN ((dk ++ e).map fun p => (kW p.1, p.2)) (kW c) = some d := by
            rw [look_dist]
            exact dist_append cdist
          have hcd2 : ((dk ++ e).map fun p => encW p.1)[at']? = some (encW c) := by
            rw [List.getElem?_map, List.getElem?_append_left hlt, ecd]
            rfl
          have D4 := D2.same s4
          obtain ⟨pz, yz, rfl, hSz, hAz⟩ := Tp.tup_inv hx
          refine sd_seq ((evd_op (K := K) (evd_getD (P := P) (w := w) (σ := [some v1, some (V.ref pb), some vt, some (V.ref sd), some (V.ref ll), some (V.int (at' : Int)), some (V.ref pz), none]) (i := 3) rfl D4 (evd_ixL (i := 4) rfl (s4 _ _ hll2) (hx2.same s4) (evd_var (i := 5) (v := .int (at' : Int)) rfl (.int _)) hcd2) fc.sing cd2) evd_int (opd_I0 (.int _))).go fun v6 H5 s5 h5 => ?_)
          obtain rfl := h5.int_inv
          have s45 := s4.trans s5
          refine ⟨_, rfl, _, rfl, sd, pz, encW z, _, d + 1, rfl, rfl, rfl, hx.same s45, sim_W z, Nat.le_trans (sing_depth fz.sing) (by decide), D2.same s45, by rw [List.length_map]; omega, fun xs6 D6 => ?_⟩
          rw [put_dist hn] at D6
          have nslot : sd ≠ ll := hlsd.symm
          have hll6 : (upd H5 sd (DkO P w sd xs6)) ll = some (.lst xs2) := by
            rw [upd_ne hlsd]
            exact s45 _ _ hll2
          have sT6 : SameT Hc (upd H5 sd (DkO P w sd xs6)) := (SameT.of s45).upd fun y hy => by
            obtain ⟨zz, hz2⟩ := (D2.same s45).lives
            rw [hz2] at hy
            cases hy
            rfl
          refine sd_go (st_app (K := K) (i := 4) (l := ll) rfl hll6 (evd_var rfl (hx.mono sT6)) (small_lt (by omega)) fun y H7' s7' hy => ?_)
          have hll7 := s7' _ _ hll6
          have sT7 : SameT (upd H5 sd (DkO P w sd xs6)) (upd H7' ll (.lst (xs2 ++ [y]))) := (SameT.of s7').updL hll7
          have egr : growOne (d + 1) (dk ++ e) z = dk ++ (e ++ [(z, d + 1)]) := by
            unfold growOne
            rw [hn]
            simp
          refine ⟨some (.ref pz), xs2 ++ [y], e ++ [(z, d + 1)], rfl, same_mut ((same_mut (sc.trans s45) nsd _).trans s7') nll0 _, (sTc.trans sT6).trans sT7, ?_, hyc.mono (sT6.trans sT7), nls, nll2, upd_same, by rw [fm, egr], ?_, ?_, by rw [← egr]; exact g1⟩
          · rw [upd_ne nll2]
            refine s7' _ _ ?_
            rw [upd_ne nls]
            exact s45 _ _ hlc
          · rw [← List.append_assoc, List.map_append]
            exact (hx2.mono (sT6.trans sT7)).snoc (hy.mono (SameT.updL (.refl _) hll7))
          · have D7 := D6.same s7'
            rw [← List.append_assoc]
            exact D7.mono (SameT.updL (.refl _) hll7) (upd_ne hlsd.symm)
        · have hs : (distW (dk ++ e) z).isSome = true := by
            rw [look_dist] at hk
            cases q : distW (dk ++ e) z with
            | none => rw [q] at hk; cases hk
            | some y => rfl
          have egr : growOne (d + 1) (dk ++ e) z = dk ++ e := by
            unfold growOne
            rw [if_pos hs]
          exact ⟨some x, xs2, e, rfl, sc.trans s4, sTc.trans (SameT.of s4), s4 _ _ hlc, hyc.same s4, nls, nll2, s4 _ _ hll2, by rw [fm, egr], hx2.same s4, D2.same s4, B2⟩
      · rintro l ys σ Hc ⟨u, xs2, e, rfl, sc, sTc, hlc, hyc, nls, nll2, hll2, eg2, hx2, D2, B2⟩
        rw [List.length_map, List.take_length] at eg2
        rw [eg2] at Bn eg
        refine sd_go (sd_aug (K := K) (j := (at' : Int)) rfl evd_int fun H4 s4 => hN m' _ _ (Nat.lt_succ_self _) ⟨at' + 1, dk ++ e, xs2, u, ?_, sc.trans s4, (sT'.trans (SameT.of s2)).trans (sTc.trans (SameT.of s4)), s4 _ _ hll2, hx2.same s4, D2.same s4, Bn, by omega, eg⟩)
        show _ = [some v1, some (V.ref pb), some vt, some (V.ref sd), some (V.ref ll), some (V.int ((at' + 1 : Nat) : Int)), u, none]
        rw [Int.natCast_add]
        rfl
    · have hge : dk.length ≤ at' := by
        have := of_decide_eq_false hb
        omega
      have edk : bfsGo (threeT a) m at' dk = dk := by
        cases m with
        | zero => rw [bfsGo]
        | succ m => rw [bfsGo, List.getElem?_eq_none hge]
      rw [edk] at eg
      rw [eg] at Dd
      exact hD u6 at' xs H2 (s'.trans s2) (sT'.trans (SameT.of s2)) (s2 _ _ hl) (Dd.same s2)
  refine sd_go (sd_seq (walked _ fun u6 at' xs H11 s11 sT11 hl11 D11 => ?_))
  have BF := bfs_end (other := b) (t := threeT a) (b.length ^ b.length + 1) 0 [(b, 0)] (by rw [eT]; exact Bfs.start b) (by omega)
  have eled : ledM a b = (match distW (bfsGo (threeT a) (b.length ^ b.length + 1) 0 [(b, 0)]) a with | none => none | some d => some (backGo (threeT a) b (bfsGo (threeT a) (b.length ^ b.length + 1) 0 [(b, 0)]) (d.toNat + 1) a)) := rfl
  generalize bfsGo (threeT a) (b.length ^ b.length + 1) 0 [(b, 0)] = dk at D11 BF eled
  have hv1b := hv1.same s11
  have hv2b := hv2.same s11
  have ht11 := (ht7.same ((s8.trans s9).trans s10)).mono sT11
  have shW : ∀ {x : Wk}, Five x → SeqAt.shaped (encW x) = true := fun fx => shaped_W (by rw [sing_depW fx.sing]; decide)
  refine sd_go (sd_seq (sd_if (b := (true != (lookN (dk.map fun p => (kW p.1, p.2)) (kW a)).isSome)) (evb_notIn rfl hv1b fa.sing rfl D11) (fun hk H12 s12' => ?_) fun hk H12 s12' => ?_))
  · have hn : distW dk a = none := by
      rw [look_dist] at hk
      cases q : distW dk a with
      | none => rfl
      | some y => rw [q] at hk; cases hk
    rw [hn] at eled
    exact sd_ret (K := K) evd_non fun y H' s' hy => by
      obtain rfl := hy.non_inv
      exact qN eled H' ((s11.trans s12').trans s')
  obtain ⟨da, hda⟩ : ∃ da, distW dk a = some da := by
    rw [look_dist] at hk
    cases q : distW dk a with
    | none => rw [q] at hk; cases hk
    | some y => exact ⟨y, rfl⟩
  rw [hda] at eled
  have eled : ledM a b = some (backGo (threeT a) b dk (da.toNat + 1) a) := eled
  have hws := qS _ eled
  generalize ews : backGo (threeT a) b dk (da.toNat + 1) a = ws at hws
  refine sd_next (sd_go (sd_seq (sd_setL (K := K) (evl_lst eva_nil) fun lf fx H13 nlf s13' hlf hfx => ?_)))
  have sH12 := s11.trans s12'
  have nlf0 : H lf = none := sH12.free nlf
  have hlfsd : lf ≠ sd := fun e => by
    obtain ⟨z, hz⟩ := (D11.same s12').lives
    rw [e, hz] at nlf
    cases nlf
  have sH13 := sH12.trans s13'
  refine sd_go (sd_seq (sd_while (fun m σ H' => ∃ (c : Wk) (x : V) (d : Int) (acc : List Wk) (xs2 : List V) (u6 : Option V), σ = [some x, some (.ref pb), some vt, some (.ref sd), some (.ref ll), some (.int at'), u6, some (.ref lf)] ∧ Same H H' ∧ SameT H13 H' ∧ H' lf = some (.lst xs2) ∧ TpAll K H' xs2 (acc.map encW) ∧ Tp K H' x (encW c) ∧
      Dk K P w H' sd (dk.map fun p => (kW p.1, p.2)) ∧ Five c ∧ distW dk c = some d ∧ m = d.toNat ∧ acc.length + m = da.toNat ∧ acc ++ backGo (threeT a) b dk (d.toNat + 1) c = ws) da.toNat
    ⟨a, v1, da, [], fx, u6, rfl, sH13, .refl _, hlf, hfx, hv1.same sH13, D11.same (s12'.trans s13'), fa, hda, rfl, by simp, ews⟩ ?_))
  rintro m σ H' ⟨c, x, d, acc, xs2, u6, rfl, s', sT', hlf', hx2, hx, Dd, fc, hd, em, eacc, eback⟩
  refine ⟨!PyData.eqv (encW c) (encW b), evb_test (K := K) (evd_op (evd_var rfl hx) (evd_var rfl (hv2.same s')) (opd_neD (shW fc) (shW fb))), fun hb H2 s2 N hN => ?_, fun hb H2 s2 => ?_⟩
  · have ne : c ≠ b := fun e => by
      rw [(eqv_W _ _).mpr e] at hb
      cases hb
    obtain ⟨k1, k2, k3, r, k4⟩ := next_ok BF hd ne
    have ht2 := (ht11.same (s12'.trans s13')).mono (sT'.trans (SameT.of s2))
    have nb5 : (neighW c (threeT a)).length ≤ 5 := Nat.le_trans (neigh_len c _) (by have := fc.len; omega)
    let keep : PyData → Bool := fun e => decide ((lookN (dk.map fun p => (kW p.1, p.2)) (keyD e)).getD 0 = d - 1)
    have ekeep : (((neighW c (threeT a)).map encW).filter keep).map id = encW (nextB (threeT a) dk c) :: r.map encW := by
      rw [List.map_id, List.filter_map, ← List.map_cons, ← k4]
      congr 1
      refine List.filter_congr fun l _ => ?_
      show decide ((lookN (dk.map fun p => (kW p.1, p.2)) (kW l)).getD 0 = d - 1) = _
      rw [look_dist]
    refine sd_seq (sd_set (K := K) (d := encW (nextB (threeT a) dk c)) (evd_ixL0 (ds := r.map encW) ?_) fun y H3 s3 hy => ?_)
    · rw [← ekeep]
      refine evl_lcL (by rw [List.length_map]; exact small_le (by omega)) (evl_call (eva_cons (evd_var rfl (hx.same s2)) (eva_cons (evd_var rfl ht2) eva_nil)) ⟨c, threeT a, rfl, fc, rfl⟩) keep id fun e he z H4 s4 hz => ?_
      obtain ⟨l, hl, rfl⟩ := List.mem_map.mp he
      obtain ⟨pm1, tz, _⟩ := neigh_perm hl
      have fz : Five l := fc.perm pm1
      have hcm := dist_mem hd
      obtain ⟨j, hj⟩ := List.mem_iff_getElem?.mp hcm
      have hjl := (List.getElem?_eq_some_iff.mp hj).1
      obtain ⟨dx, edx⟩ := Option.isSome_iff_exists.mp (BF.done j hjl _ hj l hl)
      have D4 := (Dd.same s2).same s4
      have kk : keep (encW l) = decide (dx = d - 1) := by
        show decide ((lookN (dk.map fun p => (kW p.1, p.2)) (kW l)).getD 0 = d - 1) = _
        rw [look_dist, edx]
        rfl
      refine ⟨[some x, some (.ref pb), some vt, some (.ref sd), some (.ref ll), some (.int at'), some z, some (.ref lf)], fun R h => h, rfl, ?_, fun _ => evd_var rfl hz⟩
      rw [kk]
      exact evb_test (K := K) (evd_op (evd_getD (i := 3) rfl D4 (evd_var (i := 6) rfl hz) fz.sing (by rw [look_dist]; exact edx)) (evd_op (evd_getD (i := 3) rfl D4 (evd_var (i := 0) rfl (hx.same (s2.trans s4))) fc.sing (by rw [look_dist]; exact hd)) evd_int (opd_I0 (.int _))) opd_eqI)
    · have hl3 := s3 _ _ (s2 _ _ hlf')
      have hxl := hx2.length
      rw [List.length_map] at hxl
      have hsz := BF.size
      have hda2 := BF.far hda
      have hp5 : b.length ^ b.length ≤ 5 ^ 5 := Nat.le_trans (Nat.pow_le_pow_left lb _) (Nat.pow_le_pow_right (by decide) lb)
      have h55 : (5 : Nat) ^ 5 = 3125 := by decide
      refine sd_go (st_app (K := K) (i := 7) (l := lf) rfl hl3 (evd_var (i := 0) rfl hy) (small_lt (by omega)) fun y2 H4 s4 hy2 => ?_)
      have hl4 := s4 _ _ hl3
      have s24 := (s2.trans s3).trans s4
      have sTm : SameT H' (upd H4 lf (.lst (xs2 ++ [y2]))) := (SameT.of s24).updL hl4
      have nx5 : Five (nextB (threeT a) dk c) := fc.perm (neigh_perm k1).1
      refine hN (d - 1).toNat _ _ (by omega) ⟨nextB (threeT a) dk c, y, d - 1, acc ++ [nextB (threeT a) dk c], xs2 ++ [y2], u6, rfl, same_mut (s'.trans s24) nlf0 _, sT'.trans sTm, upd_same, ?_, (hy.same s4).mono (SameT.updL (.refl _) hl4), ?_, nx5, k2, rfl, ?_, ?_⟩
      · rw [List.map_append]
        exact (hx2.mono sTm).snoc (hy2.mono (SameT.updL (.refl _) hl4))
      · exact (Dd.same s24).mono (SameT.updL (.refl _) hl4) (upd_ne hlfsd.symm)
      · rw [List.length_append, List.length_singleton]
        omega
      · have e1 : d.toNat = (d - 1).toNat + 1 := by omega
        have e2 : kW c ≠ kW b := fun e => ne (kW_inj e)
        have e3 : backGo (threeT a) b dk (d.toNat + 1) c = nextB (threeT a) dk c :: backGo (threeT a) b dk d.toNat (nextB (threeT a) dk c) := by
          rw [backGo, if_neg e2]
        rw [← eback, e3, List.append_assoc, ← e1]
        rfl
  · have e : c = b := by
      refine (eqv_W _ _).mp ?_
      cases q : PyData.eqv (encW c) (encW b) with
      | true => rfl
      | false => rw [q] at hb; cases hb
    subst e
    rw [backGo, if_pos rfl, List.append_nil] at eback
    subst eback
    exact sd_go ⟨_, rfl, hws lf xs2 H2 nlf0 (s'.trans s2) (s2 _ _ hlf') (hx2.same s2)⟩
end
end Lo
set_option Elab.async false
set_option linter.all false
set_option maxRecDepth 100000
set_option maxHeartbeats 8000000
/-! Bench -/
namespace Lo
open PySem PySem.Spec PyProof.Rows L2
abbrev sBInit : Stmt := inClass (top 43) 0
abbrev sBGo : Stmt := inClass (top 43) 1
abbrev sBDo : Stmt := inClass (top 43) 4
abbrev sBStore : Stmt := inClass (top 43) 6
abbrev sBSteps : Stmt := inClass (top 43) 8
structure BTxt (K : PySem.W.Frag) (mg : Str → Option Value) (C : Addr) : Prop where
  cl : Cls K C
  nN : NoAttr K C "now"
  nP : NoAttr K C "past"
  mgC : mg "Bench" = some (.ref C)
def bFlds (v : V) (pl : Addr) : List (Str × V) := putF "past" (.ref pl) (putF "now" v [])
theorem np : ¬ (("now" : Str) = "past") := by decide +kernel
theorem bFlds_now (v : V) (pl : Addr) : (bFlds v pl).lookup ("now" : Str) = some v := by
  unfold bFlds
  rw [lookup_putF, if_neg np, lookup_putF, if_pos rfl]
theorem bFlds_past (v : V) (pl : Addr) : (bFlds v pl).lookup ("past" : Str) = some (.ref pl) := by
  unfold bFlds
  rw [lookup_putF, if_pos rfl]
theorem bFlds_no (v : V) (pl : Addr) {m : Str} (h1 : ¬ m = "now") (h2 : ¬ m = "past") : (bFlds v pl).lookup m = none := by
  unfold bFlds
  rw [lookup_putF, if_neg h2, lookup_putF, if_neg h1]
  rfl
theorem bFlds_len (v : V) (pl : Addr) : (bFlds v pl).length = 2 := by
  unfold bFlds
  rw [putF, putF, if_neg np]
  rfl
theorem bFlds_put (v u : V) (pl : Addr) : putF "now" u (bFlds v pl) = bFlds u pl := by
  unfold bFlds
  simp [putF, np]
/-- all but two stay -/
def But2 (p q : Addr) (H H' : Hp) : Prop := ∀ b o, b ≠ p → b ≠ q → H b = some o → H' b = some o
def spBInit (K : PySem.W.Frag) (C : Addr) : Sp := fun vs H Q _ => ∃ (p dx : Addr) (v : V) (h : Hl), vs = [.ref p, v] ∧ H p = some (.ins C dx []) ∧ Tp K H v (encH h) ∧ CanH 1000000 h ∧
  ∀ (pl : Addr) (H' : Hp), H pl = none → But p H H' → H' p = some (.ins C dx (bFlds v pl)) → H' pl = some (.lst []) → Q .non H'
def spBGo (K : PySem.W.Frag) (C : Addr) : Sp := fun vs H Q _ => ∃ (p dx pl : Addr) (vn v : V) (b : Wk) (h : Hl), vs = [.ref p, v] ∧ H p = some (.ins C dx (bFlds vn pl)) ∧ H pl = some (.lst []) ∧ Tp K H vn (encH h) ∧ CanH 1000000 h ∧ Tp K H v (encW b) ∧ OkW b ∧
  ∀ (x u y : V) (H' : Hp), But2 p pl H H' → H' p = some (.ins C dx (bFlds u pl)) → H' pl = some (.lst [y]) → Tp K H' y (.tuple [encH h, encW b]) → Tp K H' u (encH (doneT (threeT b) h).1) → Q x H'
def spBSteps (K : PySem.W.Frag) (C : Addr) : Sp := fun vs H Q _ => ∃ (p dx pl : Addr) (vn : V) (xs : List V) (ps : List (PyData × PyData)), vs = [.ref p] ∧ H p = some (.ins C dx (bFlds vn pl)) ∧ H pl = some (.lst xs) ∧ TpAll K H xs (ps.map fun z => .tuple [z.1, z.2]) ∧ ps.length ≤ 10 ∧
  ∀ (l : Addr) (ys : List V) (H' : Hp), H l = none → Same H H' → H' l = some (.lst ys) → TpAll K H' ys (ps.map (·.2)) → Q (.ref l) H'
def spBStore (K : PySem.W.Frag) (C : Addr) : Sp := fun vs H Q _ => ∃ (p dx pl : Addr) (vn : V), vs = [.ref p] ∧ H p = some (.ins C dx (bFlds vn pl)) ∧ ∀ H', Same H H' → Q vn H'
section
variable {P : Program} {w : World} {K : PySem.W.Frag} {mg : Str → Option Value} {base : Heap} {f C : Addr} {fd : FuncData}
theorem evd_fld {σ : L2.St} {H : Hp} {i : Nat} {p dx : Addr} {fs : List (Str × V)} {n : Str} {v : V} {d : PyData} (hv : σ[i]? = some (some (.ref p))) (hp : H p = some (.ins C dx fs)) (cl : Cls K C) (nA : NoAttr K C n) (hl : fs.lookup n = some v) (hd : Tp K H v d) : EvD K (tFld K (tVar i) n) σ H d := fun H1 s Q q =>
  ⟨_, hv, p, C, dx, fs, v, rfl, s _ _ hp, cl, nA, hl, q _ H1 (Same.refl H1) (hd.same s)⟩
theorem scBInit : FnScope ["self", "store"] ["self", "store"] (defScope sBInit) := ⟨rfl, rfl, rfl, by decide +kernel, rfl, by decide +kernel, by decide +kernel⟩
theorem scBGo : FnScope ["self", "work", "store", "out", "idle"] ["self", "work"] (defScope sBGo) := ⟨rfl, rfl, rfl, by decide +kernel, rfl, by decide +kernel, by decide +kernel⟩
theorem scBDo : FnScope ["self", "work"] ["self", "work"] (defScope sBDo) := ⟨rfl, rfl, rfl, by decide +kernel, rfl, by decide +kernel, by decide +kernel⟩
theorem scBStore : FnScope ["self"] ["self"] (defScope sBStore) := ⟨rfl, rfl, rfl, by decide +kernel, rfl, by decide +kernel, by decide +kernel⟩
theorem scBSteps : FnScope ["self", "store", "work"] ["self"] (defScope sBSteps) := ⟨rfl, rfl, rfl, by decide +kernel, rfl, by decide +kernel, by decide +kernel⟩
theorem ok_binit (F : Fun K "__init__" "Bench.__init__" sBInit f fd) (BT : BTxt K mg C) (cNH : Callee P w K mg base 2 "need_heap" ["heap"] (spD K rNeedH)) : FnOk P w K mg base CX0 3 f fd ["self", "store"] (spBInit K C) := by
  refine F.ok scBInit (fun vs H Q E ⟨p, dx, v, h, e, _⟩ => by rw [e]; rfl) (fun cdv A outer s H vs Q E hr h => ?_)
  obtain ⟨p, dx, v, h, rfl, hp, hv, can, q⟩ := h
  have nd := scBInit.nd
  refine ⟨_, pss_cons (ps_expr (pe_cal cNH hr (pa_cons (pv 1) pa_nil))) (pss_cons (ps_fld (pv 0) (pv 1) rfl) (pss_one (ps_fld (pv 0) (pe_lst pa_nil) rfl))), ?_⟩
  refine sd_seq (sd_drop (K := K) (evd_call (eva_cons (evd_var rfl hv) eva_nil) ⟨h, rfl, can, rfl⟩) fun _ H1 s1 _ => ?_)
  have hp1 := s1 _ _ hp
  refine sd_go (sd_seq ⟨_, rfl, _, rfl, p, C, dx, [], rfl, hp1, BT.cl, BT.nN, by decide, ?_⟩)
  refine sd_go ?_
  refine (evl_lst (K := K) eva_nil).go fun l xs H2 nl s2 hl hxs => ?_
  cases hxs
  have nlp : l ≠ p := fun e => by
    rw [e, upd_same] at nl
    cases nl
  have nl1 : H1 l = none := by
    rw [upd_ne nlp] at nl
    exact nl
  have hp2 := s2 _ _ (upd_same (H := H1) (a := p))
  refine ⟨_, rfl, p, C, dx, _, rfl, hp2, BT.cl, BT.nP, by show 1 < 1000; decide, ?_⟩
  refine q l _ (s1.free nl1) (fun b o nb e => ?_) upd_same ?_
  · rw [upd_ne nb]
    refine s2 _ _ ?_
    rw [upd_ne nb]
    exact s1 _ _ e
  · rw [upd_ne nlp]
    exact hl
theorem ok_bgo (F : Fun K "go" "Bench.go" sBGo f fd) (BT : BTxt K mg C) (cDone : Callee P w K mg base 3 "done" ["three", "store"] (spD K rDone)) (cThree : Callee P w K mg base 6 "three_of" ["steps"] (spD K (rThree 3))) : FnOk P w K mg base CX0 7 f fd ["self", "work"] (spBGo K C) := by
  refine F.ok scBGo (fun vs H Q E ⟨p, dx, pl, vn, v, b, h, e, _⟩ => by rw [e]; rfl) (fun cdv A outer s H vs Q E hr h => ?_)
  obtain ⟨p, dx, pl, vn, v, b, h, rfl, hp, hpl, hvn, can, hv, ok, q⟩ := h
  have nd := scBGo.nd
  refine ⟨_, pss_cons (ps_asg (pe_cal cDone hr (pa_cons (pe_cal cThree hr (pa_cons (pv 1) pa_nil)) (pa_cons (pe_fld (pv 0) rfl) pa_nil))) (pg_tup rfl (pgs_cons (pg_name (i := 2) nd rfl (Or.inl rfl)) (pgs_cons (pg_name (i := 3) nd rfl (Or.inl rfl)) (pgs_cons (pg_name (i := 4) nd rfl (Or.inl rfl)) pgs_nil)))))
    (pss_cons (ps_expr (pe_bm PySem.F.plainAttrs_list PySem.F.slot_list_append PySem.F.type_list_append mt_append (pe_fld (pv 0) rfl) (pa_cons (pe_tupP (pa_cons (pe_fld (pv 0) rfl) (pa_cons (pv 1) pa_nil))) pa_nil)))
    (pss_cons (ps_fld (pv 0) (pv 2) rfl) (pss_one (ps_ret (pe_tupP (pa_cons (pv 3) (pa_cons (pv 4) pa_nil))))))), ?_⟩
  have hS : (putsSs b ++ h.map (·.1)).length ≤ 2000001 := by
    rw [List.length_append, List.length_map]
    have := putsSs_len b
    have := ok.cnt
    have := can.len
    omega
  refine sd_seq (sd_unp3 (K := K) (evd_call (eva_cons (evd_call (eva_cons (evd_var rfl hv) eva_nil) ⟨b, rfl, ok.ok, ok.dep, by have := ok.cnt; omega, rfl⟩) (eva_cons (evd_fld rfl hp BT.cl BT.nN (bFlds_now _ _) hvn) eva_nil))
    ⟨threeT b, h, _, rfl, (threeT_good b).mono fun x hx => List.mem_append_left _ hx, can.good.mono fun x hx => List.mem_append_right _ hx, hS, rfl⟩) fun x y z H1 s1 hx hy hz => ?_)
  have hp1 := s1 _ _ hp
  have hpl1 := s1 _ _ hpl
  have npl : pl ≠ p := fun e => by
    rw [e, hp] at hpl
    cases hpl
  refine sd_go (sd_seq ⟨_, rfl, p, C, dx, _, _, rfl, hp1, BT.cl, BT.nP, bFlds_past _ _, .inl ⟨rfl, _, SqL.of hpl1⟩, ?_⟩)
  refine (evd_tup (K := K) (eva_cons (evd_fld (i := 0) rfl hp1 BT.cl BT.nN (bFlds_now _ _) (hvn.same s1)) (eva_cons (evd_var (i := 1) rfl (hv.same s1)) eva_nil))).go fun u H2 s2 hu => ?_
  have hp2 := s2 _ _ hp1
  have hpl2 := s2 _ _ hpl1
  refine ⟨pl, [], u, rfl, rfl, hpl2, by decide, ?_⟩
  have sT1 : SameT H2 (upd H2 pl (.lst ([] ++ [u]))) := SameT.updL (.refl _) hpl2
  refine sd_go (sd_seq ⟨_, rfl, _, rfl, p, C, dx, _, rfl, (by rw [upd_ne npl.symm]; exact hp2), BT.cl, BT.nN, by rw [bFlds_len]; decide, ?_⟩)
  rw [bFlds_put]
  have sT2 : SameT (upd H2 pl (.lst ([] ++ [u]))) (upd (upd H2 pl (.lst ([] ++ [u]))) p (.ins C dx (bFlds x pl))) := SameT.upd (.refl _) fun u2 e => by
    rw [upd_ne npl.symm, hp2] at e
    cases e
    rfl
  have sT := (SameT.of s2).trans (sT1.trans sT2)
  refine sd_go (sd_ret (K := K) (evd_tup (eva_cons (evd_var rfl (hy.mono sT)) (eva_cons (evd_var rfl (hz.mono sT)) eva_nil))) fun r H5 s5 hr5 => ?_)
  refine q r x u H5 (fun b o n1 n2 e => s5 _ _ ?_) (s5 _ _ upd_same) (s5 _ _ ?_) ((hu.mono (sT1.trans sT2)).same s5) ((hx.mono sT).same s5)
  · rw [upd_ne n1, upd_ne n2]
    exact s2 _ _ (s1 _ _ e)
  · rw [upd_ne npl]
    exact upd_same
theorem ok_bdo {fG : Addr} {fdG : FuncData} (F : Fun K "do" "Bench.do" sBDo f fd) (BT : BTxt K mg C) (cNW : Callee P w K mg base 5 "need_work" ["work"] (spD K rNeedW)) (GG : FnOk P w K mg base CX0 7 fG fdG ["self", "work"] (spBGo K C)) (bG : Binds K fdG ["self", "work"] []) (mG : Meth K C "go" fG) :
    FnOk P w K mg base CX0 8 f fd ["self", "work"] (spBGo K C) := by
  refine F.ok scBDo (fun vs H Q E ⟨p, dx, pl, vn, v, b, h, e, _⟩ => by rw [e]; rfl) (fun cdv A outer s H vs Q E hr h => ?_)
  obtain ⟨p, dx, pl, vn, v, b, h, rfl, hp, hpl, hvn, can, hv, ok, q⟩ := h
  have nd := scBDo.nd
  refine ⟨_, pss_cons (ps_expr (pe_cal cNW hr (pa_cons (pv 1) pa_nil))) (pss_one (ps_ret (pe_meth (pv 0) BT.cl mG GG hr bG .nil pass0 (pa_cons (pv 1) pa_nil)))), ?_⟩
  refine sd_seq (sd_drop (K := K) (evd_call (eva_cons (evd_var rfl hv) eva_nil) ⟨b, rfl, ok, rfl⟩) fun _ H1 s1 _ => ?_)
  refine sd_go ⟨_, rfl, p, dx, _, rfl, s1 _ _ hp, bFlds_no _ _ (by decide +kernel) (by decide +kernel), ⟨_, rfl, p, dx, pl, vn, v, b, h, rfl, s1 _ _ hp, s1 _ _ hpl, hvn.same s1, can, hv.same s1, ok, fun x u y H' bt h1 h2 h3 h4 => ?_⟩⟩
  exact q x u y H' (fun b o n1 n2 e => bt b o n1 n2 (s1 _ _ e)) h1 h2 h3 h4
theorem ok_bstore (F : Fun K "store" "Bench.store" sBStore f fd) (BT : BTxt K mg C) : FnOk P w K mg base CX0 1 f fd ["self"] (spBStore K C) := by
  refine F.ok scBStore (fun vs H Q E ⟨p, dx, pl, vn, e, _⟩ => by rw [e]; rfl) (fun cdv A outer s H vs Q E hr h => ?_)
  obtain ⟨p, dx, pl, vn, rfl, hp, q⟩ := h
  have nd := scBStore.nd
  refine ⟨_, pss_one (ps_ret (pe_fld (pv 0) rfl)), ?_⟩
  exact ⟨_, rfl, p, C, dx, _, _, rfl, hp, BT.cl, BT.nN, bFlds_now _ _, q H (Same.refl H)⟩
theorem ok_bsteps (F : Fun K "steps" "Bench.steps" sBSteps f fd) (BT : BTxt K mg C) : FnOk P w K mg base CX0 1 f fd ["self"] (spBSteps K C) := by
  refine F.ok scBSteps (fun vs H Q E ⟨p, dx, pl, vn, xs, ps, e, _⟩ => by rw [e]; rfl) (fun cdv A outer s H vs Q E hr h => ?_)
  obtain ⟨p, dx, pl, vn, xs, ps, rfl, hp, hpl, hxs, h10, q⟩ := h
  have nd := scBSteps.nd
  refine ⟨_, pss_one (ps_ret (pe_lc (own := [("store", 1), ("work", 2)]) (g := gTup K 2 (gCons (gName 1) (gCons (gName 2) gNil))) (tt := tYes) (te := tVar 2) rfl nd
        (pi_list (pe_fld (pv 0) rfl)) (blkOk_by (N := ["self", "store", "work"]) (sc := defScope sBSteps) (by decide +kernel))
        (fun _ _ _ _ _ => pg_tup rfl (pgs_cons (pg_name (i := 1) nd rfl (Or.inl rfl)) (pgs_cons (pg_name (i := 2) nd rfl (Or.inl rfl)) pgs_nil))) (fun _ _ _ _ _ => pts_nil) (fun _ _ _ _ _ => pv 2))), ?_⟩
  refine ⟨_, rfl, p, C, dx, _, _, rfl, hp, BT.cl, BT.nP, bFlds_past _ _, ?_⟩
  refine ⟨pl, rfl, ⟨xs, .of hpl⟩, fun D hD => ?_⟩
  have sD := same_new hD (.lst [])
  have hl := hxs.length
  rw [List.length_map] at hl
  refine lc_list (K := K) (a := pl) (xs := xs) (fun i Hc => Same H Hc ∧ ∃ acc, Hc D = some (.lst acc) ∧ TpAll K Hc acc ((ps.take i).map (·.2)) ∧ acc.length ≤ i) ⟨sD, [], upd_same, .nil, Nat.le_refl _⟩ (fun i Hc _ z => .of (z.1 _ _ hpl)) ?_ ?_
  · rintro i x Hc hx ⟨sc, acc, hacc, hT, hlen⟩
    obtain ⟨d, hd, hxd⟩ := hxs.getV hx
    obtain ⟨z, hz, rfl⟩ := map_at hd
    have hi : i < ps.length := (List.getElem?_eq_some_iff.mp hz).1
    obtain ⟨a, b, ha, hb, hg⟩ := pair_names (i := 1) (j := 2) (hxd.same sc)
    refine hg _ ⟨rfl, tyes_go (iteT ⟨_, rfl, acc, hacc, small_lt (by omega), ?_⟩)⟩
    have sU : SameT Hc (upd Hc D (.lst (acc ++ [b]))) := SameT.updL (.refl _) hacc
    refine ⟨same_mut sc hD _, acc ++ [b], upd_same, ?_, by rw [List.length_append, List.length_singleton]; omega⟩
    rw [map_more hz]
    exact (hT.mono sU).snoc (hb.mono sU)
  · rintro Hc ⟨sc, acc, hacc, hT, _⟩
    rw [hl, List.take_length] at hT
    exact q D acc Hc hD sc hacc hT
end
end Lo
set_option Elab.async false
set_option linter.all false
set_option maxRecDepth 100000
set_option maxHeartbeats 8000000
/-! the law's dice -/
namespace Lo
open PySem PySem.Spec PyProof.Rows L2
abbrev sDice : Stmt := top 67
abbrev sNextD : Stmt := top 68
abbrev sNumber : Stmt := top 70
theorem But.lst {d : Addr} {H H' : Hp} {xs : List V} (b : But d H H') (h : H d = some (.lst xs)) : SameT H H' := fun c o e i => by
  refine b c o (fun z => ?_) e
  rw [z, h] at e
  cases e
  cases i
theorem But.upd (d : Addr) (H : Hp) (o : HO) : But d H (upd H d o) := fun b u n e => by rw [upd_ne n]; exact e
/-- the script: where, what -/
abbrev Scp := Addr × List Int
structure DiceAt (K : PySem.W.Frag) (S : Scp) (H : Hp) (d : Addr) : Prop where
  ex : ∃ (i m r : Int), H d = some (.lst [.ref S.1, .int i, .int m, .int r]) ∧ SqL K H S.1 (S.2.map V.int) ∧ S.2.length ≤ 1000 ∧ 0 ≤ i
def spDice (K : PySem.W.Frag) : Sp := fun vs H Q _ => ∃ (a : Addr) (ns : List Int), vs = [.ref a] ∧ SqL K H a (ns.map V.int) ∧ ns.length ≤ 1000 ∧ ∀ d H', H d = none → Same H H' → DiceAt K (a, ns) H' d → Q (.ref d) H'
def spNext (K : PySem.W.Frag) : Sp := fun vs H Q _ => ∃ (S : Scp) (d : Addr) (n : Int), vs = [.ref d, .int n] ∧ DiceAt K S H d ∧ 0 < n ∧ n < 2 ^ 64 ∧ ∀ k H', 0 ≤ k → k < n → But d H H' → DiceAt K S H' d → Q (.int k) H'
def spNumber (K : PySem.W.Frag) : Sp := fun vs H Q _ => ∃ (S : Scp) (d : Addr), vs = [.ref d] ∧ DiceAt K S H d ∧ ∀ k H', -999 ≤ k → k ≤ 999 → But d H H' → DiceAt K S H' d → Q (.int k) H'
section
variable {P : Program} {w : World} {K : PySem.W.Frag} {mg : Str → Option Value} {base : Heap} {f : Addr} {fd : FuncData}
theorem sql_same {H H' : Hp} {a : Addr} {xs : List V} (h : SqL K H a xs) (s : Same H H') : SqL K H' a xs := by
  rcases h with (h | ⟨o, h⟩) | h
  · exact .inl (.inl (s _ _ h))
  · exact .inl (.inr ⟨o, s _ _ h⟩)
  · exact .inr h
theorem sql_but {H H' : Hp} {a d : Addr} {xs ys : List V} (h : SqL K H a xs) (b : But d H H') (hd : H d = some (.lst ys)) (ne : xs ≠ ys) : SqL K H' a xs := by
  rcases h with (h | ⟨o, h⟩) | h
  · refine .inl (.inl (b _ _ (fun z => ?_) h))
    rw [z, hd] at h
    exact ne (HO.lst.inj (Option.some.inj h)).symm
  · refine .inl (.inr ⟨o, b _ _ (fun z => ?_) h⟩)
    rw [z, hd] at h
    cases h
  · exact .inr h
theorem ints_ne {ns : List Int} {a : Addr} {r : List V} : ns.map V.int ≠ V.ref a :: r := fun e => by
  cases ns with
  | nil => cases e
  | cons x ns => cases (List.cons.inj e).1
theorem DiceAt.same {S : Scp} {H H' : Hp} {d : Addr} (h : DiceAt K S H d) (s : Same H H') : DiceAt K S H' d := by
  obtain ⟨i, m, r, h1, h2, h3, h4⟩ := h
  exact ⟨i, m, r, s _ _ h1, sql_same h2 s, h3, h4⟩
theorem DiceAt.sameT {S : Scp} {H H' : Hp} {d : Addr} (h : DiceAt K S H d) (b : But d H H') : SameT H H' := by
  obtain ⟨i, m, r, h1, h2, h3, h4⟩ := h
  exact b.lst h1
/-- a place that the script does not stand at -/
def Off (K : PySem.W.Frag) (S : Scp) (r : Addr) : Prop := r ≠ S.1 ∨ ∃ (o : Obj) (its : Array Value) (n : Nat), K.lookup S.1 = some o ∧ o.cls = .type "list" ∧ o.dict = none ∧ o.data = .seq its n ∧ its.size ≤ sizeLine ∧ Vals (S.2.map V.int) its.toList
theorem off_fresh {S : Scp} {H : Hp} {d r : Addr} (h : DiceAt K S H d) (n : H r = none) : Off K S r := by
  obtain ⟨i, m, r, h1, h2, h3, h4⟩ := h
  rcases h2 with (h | ⟨o, h⟩) | h
  · exact .inl (ne_of_none h n).symm
  · exact .inl (ne_of_none h n).symm
  · exact .inr h
theorem DiceAt.upd {S : Scp} {H : Hp} {d r : Addr} {u : HO} (h : DiceAt K S H d) (ne : r ≠ d) (o : Off K S r) : DiceAt K S (upd H r u) d := by
  obtain ⟨i, m, z, h1, h2, h3, h4⟩ := h
  refine ⟨i, m, z, by rw [upd_ne ne.symm]; exact h1, ?_, h3, h4⟩
  rcases o with o | o
  · rcases h2 with (h | ⟨ob, h⟩) | h
    · exact .inl (.inl (by rw [upd_ne o.symm]; exact h))
    · exact .inl (.inr ⟨ob, by rw [upd_ne o.symm]; exact h⟩)
    · exact .inr h
  · exact .inr o
theorem scDice : FnScope ["_law_script", "_law_mixed", "_law_cell"] ["_law_script"] (defScope sDice) := ⟨rfl, rfl, rfl, by decide +kernel, rfl, by decide +kernel, by decide +kernel⟩
theorem scNextD : FnScope ["_law_dice_here", "_law_many", "_law_found", "_law_cell"] ["_law_dice_here", "_law_many"] (defScope sNextD) := ⟨rfl, rfl, rfl, by decide +kernel, rfl, by decide +kernel, by decide +kernel⟩
theorem scNumber : FnScope ["_law_d"] ["_law_d"] (defScope sNumber) := ⟨rfl, rfl, rfl, by decide +kernel, rfl, by decide +kernel, by decide +kernel⟩
theorem ok_dice (F : Fun K "_law_dice" "_law_dice" sDice f fd) (T : Txt K mg) : FnOk P w K mg base CX0 1 f fd ["_law_script"] (spDice K) := by
  refine F.ok scDice (fun vs H Q E ⟨a, ns, e, _⟩ => by rw [e]; rfl) (fun cdv A outer s H vs Q E hr h => ?_)
  obtain ⟨a, ns, rfl, hs, hn, q⟩ := h
  have nd := scDice.nd
  refine ⟨_, pss_cons (ps_set (i := 1) nd rfl (Or.inl rfl) pe_int)
    (pss_cons (ps_for PassesOwn.never rfl (pi_list (pv 0)) (pg_name (i := 2) nd rfl (Or.inl rfl))
      (pss_one (ps_set (i := 1) nd rfl (Or.inl rfl) (pe_op op_mod (pe_op op_add (pe_op op_add (pe_op op_mul (pv 1) pe_int) (pe_op op_mul (pe_op op_mod (pv 2) pe_int) pe_int)) pe_int) pe_int))))
    (pss_one (ps_ret (pe_lst (pa_cons (pv 0) (pa_cons pe_int (pa_cons
      (pe_op op_mul (pv 1) (pe_callTy call_int1 (by rfl) T.zInt (by decide +kernel) (pa_cons (pe_cmpR op_gt (pe_callB call_len_seq (by rfl) T.zLen (by decide +kernel) (pa_cons (pv 0) pa_nil)) pe_int (nomark _)) pa_nil)))
      (pa_cons pe_int pa_nil)))))))), ?_⟩
  have p31 : (0 : Int) < 2147483647 := by decide
  have c1 : ∀ x, CMul x 48271 := fun x => .inr ⟨by decide, by decide⟩
  have c2 : ∀ x, CMul x 69621 := fun x => .inr ⟨by decide, by decide⟩
  refine sd_seq (sd_set (K := K) evd_int fun v1 H1 s1 h1 => ?_)
  obtain rfl := h1.int_inv
  refine sd_go (sd_seq ⟨_, rfl, a, rfl, ⟨_, sql_same hs s1⟩, for_list (K := K) (a := a) (xs := ns.map V.int) (fun i σ H' => ∃ (m : Int) (u : Option V), σ = [some (.ref a), some (.int m), u] ∧ Same H H') ⟨0, none, rfl, s1⟩ (fun i σ H' _ ⟨_, _, _, s'⟩ => sql_same hs s') ?_ ?_⟩)
  · rintro i x σ H' hx ⟨m, u, rfl, s'⟩
    rw [List.getElem?_map] at hx
    obtain ⟨n, _, rfl⟩ := Option.map_eq_some_iff.mp hx
    refine (sd_set (K := K) (d := .int ((m * 48271 + n % 2147483647 * 69621 + 11) % 2147483647)) (evd_op (evd_op (evd_op (evd_op (evd_var rfl (.int m)) evd_int (opd_I (c1 m) (.int _))) (evd_op (evd_op (evd_var rfl (.int n)) evd_int (opd_I (C := fun _ j => 0 < j) (g := fun i j => .int (i % j)) p31 (.int _))) evd_int (opd_I (c2 _) (.int _))) (opd_I0 (.int _))) evd_int (opd_I0 (.int _))) evd_int (opd_I (C := fun _ j => 0 < j) (g := fun i j => .int (i % j)) p31 (.int _))) fun v H2 s2 h2 => ?_)
    obtain rfl := h2.int_inv
    exact ⟨_, some (.int n), rfl, s'.trans s2⟩
  · rintro σ H' ⟨m, u, rfl, s'⟩
    have el : EvD K (tCB (rLenQ K) (tCons (tVar 0) tNil)) [some (.ref a), some (.int m), u] H' (.int ns.length) := fun H1 s1 Q q => ⟨_, rfl, a, (ns.map V.int), rfl, .inl (sql_same hs (s'.trans s1)), by rw [List.length_map]; exact q _ H1 (Same.refl H1) (.int _)⟩
    have em := evd_op (K := K) (evd_var (i := 1) (σ := [some (.ref a), some (.int m), u]) (H := H') rfl (.int m)) (evd_cb (eva_cons (evd_op el evd_int (opd_I0 (g := fun i j => .bl (decide (j < i))) (j := 2) (.bl (decide ((2 : Int) < (ns.length : Int)))))) eva_nil) cbd_intB) (opd_I (C := CMul) (g := fun i j => .int (i * j)) (.inr (by constructor <;> split <;> decide)) (.int _))
    refine sd_go ?_
    refine ⟨_, rfl, ?_⟩
    refine em.go fun v H2 s2 h2 => ?_
    obtain rfl := h2.int_inv
    refine ⟨by show 4 ≤ sizeLine; decide, fun d hd => ?_⟩
    exact q d _ ((s'.trans s2).free hd) ((s'.trans s2).trans (same_new hd _)) ⟨0, _, 0, upd_same, sql_same hs ((s'.trans s2).trans (same_new hd _)), hn, Int.le_refl _⟩
theorem evd_dix {σ : L2.St} {H : Hp} {i j : Nat} {d : Addr} {xs : List V} {z : Int} (hv : σ[i]? = some (some (.ref d))) (hd : H d = some (.lst xs)) (h : xs[j]? = some (.int z)) : EvD K (tOp (rIxL K) (tVar i) (tC (.int (j : Int)))) σ H (.int z) := fun H1 s Q q =>
  ⟨_, hv, d, xs, j, .int z, rfl, rfl, .of (s _ _ hd), atI_nat h, q _ H1 (Same.refl H1) (.int _)⟩
theorem st_put {σ : L2.St} {H : Hp} {te : TE} {D : Ends} {i j : Nat} {k : Int} {d : Addr} {xs : List V} {z : Int} (h : EvD K te σ H (.int z)) (hv : σ[i]? = some (some (.ref d))) (hd : H d = some (.lst xs)) (hj : ixN xs.length k = some j) (q : ∀ H2, Same H H2 → D.nx σ (upd H2 d (.lst (xs.set j (.int z))))) :
    tAsg te (gSub (tVar i) (tC (.int k)) rSetL) D σ H := h.go fun v H2 s2 h2 => by
  obtain rfl := h2.int_inv
  exact ⟨_, hv, d, xs, k, j, rfl, rfl, s2 _ _ hd, hj, q H2 s2⟩
theorem mod_in {k n : Int} (h : 0 < n) : 0 ≤ k % n ∧ k % n < n := ⟨Int.emod_nonneg k (by omega), Int.emod_lt_of_pos k h⟩
theorem ok_next (F : Fun K "_law_next" "_law_next" sNextD f fd) (T : Txt K mg) : FnOk P w K mg base CX0 1 f fd ["_law_dice_here", "_law_many"] (spNext K) := by
  refine F.ok scNextD (fun vs H Q E ⟨S, d, n, e, _⟩ => by rw [e]; rfl) (fun cdv A outer s H vs Q E hr h => ?_)
  obtain ⟨⟨a, ns⟩, d, n, rfl, ⟨i, m, r, hd, hs, hn, h0⟩, n0, n64, q⟩ := h
  simp only at hd hs hn
  have nd := scNextD.nd
  refine ⟨_, pss_cons (ps_if (pt_cmpR op_gt (pe_ix ix_list (pv 0) pe_int (fun _ _ => rfl)) pe_int (nomark _))
      (pss_cons (ps_set (i := 2) nd rfl (Or.inl rfl) (pe_op op_mod (pe_ix ix_list (pv 0) pe_int (fun _ _ => rfl)) (pv 1)))
      (pss_cons (ps_asg (pe_op op_fdivW (pe_ix ix_list (pv 0) pe_int (fun _ _ => rfl)) (pv 1)) (pg_sub (pv 0) pe_int set_list)) (pss_one (ps_ret (pv 2))))) pss_nil)
    (pss_cons (ps_asg (pe_op op_add (pe_ix ix_list (pv 0) pe_int (fun _ _ => rfl)) pe_int) (pg_sub (pv 0) pe_int set_list))
    (pss_cons (ps_if (pt_cmpR op_le (pe_ix ix_list (pv 0) pe_int (fun _ _ => rfl)) (pe_callB call_len_seq (by rfl) T.zLen (by decide +kernel) (pa_cons (pe_ix ix_list (pv 0) pe_int (fun _ _ => rfl)) pa_nil)) (nomark _))
      (pss_cons (ps_set (i := 3) nd rfl (Or.inl rfl) (pe_ix ix_list (pe_ix ix_list (pv 0) pe_int (fun _ _ => rfl)) (pe_op op_sub (pe_ix ix_list (pv 0) pe_int (fun _ _ => rfl)) pe_int) (fun _ _ => rfl)))
      (pss_cons (ps_asg (pe_ifExp (pt_cmpR op_ge (pv 3) (pe_op op_pow pe_int pe_int) (nomark _)) (pe_op op_fdivW (pv 3) (pv 1)) pe_int) (pg_sub (pv 0) pe_int set_list)) (pss_one (ps_ret (pe_op op_mod (pv 3) (pv 1)))))) pss_nil)
    (pss_cons (ps_asg (pe_op op_mod (pe_op op_mul (pe_ix ix_list (pv 0) pe_int (fun _ _ => rfl)) pe_int) pe_int) (pg_sub (pv 0) pe_int set_list))
    (pss_one (ps_ret (pe_op op_mod (pe_op op_fdiv (pe_ix ix_list (pv 0) pe_int (fun _ _ => rfl)) pe_int) (pv 1))))))), ?_⟩
  have cW : ∀ x, CDivW x n := fun x => wide_div n0 (b := 64) (by omega) (by decide) (by decide)
  have evn : ∀ {σ : L2.St} {H2 : Hp}, σ[1]? = some (some (.int n)) → EvD K (tVar 1) σ H2 (.int n) := fun e => evd_var e (.int n)
  have omod : ∀ {H2 : Hp} {x : Int}, OpD K (rI (fun _ j => 0 < j) fun i j => .int (i % j)) H2 (.int x) (.int n) (.int (x % n)) := opd_I (C := fun _ j => 0 < j) (g := fun i j => .int (i % j)) n0 (.int _)
  have odiv : ∀ {H2 : Hp} {x : Int}, OpD K (rI CDivW fun i j => .int (i / j)) H2 (.int x) (.int n) (.int (x / n)) := opd_I (C := CDivW) (g := fun i j => .int (i / j)) (cW _) (.int _)
  refine sd_seq (sd_if (b := decide (0 < r)) (evb_cmp (K := K) (evd_dix rfl hd (j := 3) rfl) evd_int rfl) (fun hb H1 s1 => ?_) fun hb H1 s1 => ?_)
  · have hd1 := s1 _ _ hd
    refine sd_seq (sd_set (K := K) (evd_op (evd_dix rfl hd1 (j := 3) rfl) (evn rfl) omod) fun v H2 s2 h2 => ?_)
    obtain rfl := h2.int_inv
    refine sd_go (sd_seq (st_put (K := K) (i := 0) (d := d) (j := 3) (z := r / n) (evd_op (evd_dix rfl (s2 _ _ hd1) (j := 3) rfl) (evn rfl) odiv) rfl (s2 _ _ hd1) rfl fun H3 s3 => ?_))
    have s13 := (s1.trans s2).trans s3
    exact sd_go ⟨_, rfl, q _ _ (mod_in n0).1 (mod_in n0).2 (fun b o nb e => by rw [upd_ne nb]; exact s13 _ _ e) ⟨i, m, r / n, upd_same, sql_but (sql_same hs s13) (But.upd d H3 _) (s13 _ _ hd) ints_ne, hn, h0⟩⟩
  refine sd_next (sd_go (sd_seq (st_put (K := K) (i := 0) (d := d) (j := 1) (z := i + 1) (evd_op (evd_dix rfl (s1 _ _ hd) (j := 1) rfl) evd_int (opd_I0 (.int _))) rfl (s1 _ _ hd) rfl fun H2 s2 => ?_)))
  have s12 := s1.trans s2
  have b2 : But d H (upd H2 d (.lst ([V.ref a, .int i, .int m, .int r].set 1 (.int (i + 1))))) := fun b o nb e => by rw [upd_ne nb]; exact s12 _ _ e
  have hd2 : (upd H2 d (.lst ([V.ref a, .int i, .int m, .int r].set 1 (.int (i + 1))))) d = some (.lst [V.ref a, .int (i + 1), .int m, .int r]) := upd_same
  have hs2 := sql_but hs b2 hd ints_ne
  generalize upd H2 d (.lst ([V.ref a, .int i, .int m, .int r].set 1 (.int (i + 1)))) = H3 at b2 hd2 hs2
  have elen : ∀ {σ : L2.St}, σ[0]? = some (some (.ref d)) → EvD K (tCB (rLenQ K) (tCons (tOp (rIxL K) (tVar 0) (tC (.int 0))) tNil)) σ H3 (.int ns.length) := fun hv H1 s1 Q q =>
    ⟨_, hv, d, _, 0, .ref a, rfl, rfl, .of (s1 _ _ hd2), rfl, a, (ns.map V.int), rfl, .inl (sql_same hs2 s1), by rw [List.length_map]; exact q _ H1 (Same.refl H1) (.int _)⟩
  refine sd_go (sd_seq (sd_if (b := decide (i + 1 ≤ (ns.length : Int))) (evb_cmp (K := K) (evd_dix rfl hd2 (j := 1) rfl) (elen rfl) rfl) (fun hb H4 s4 => ?_) fun hb H4 s4 => ?_))
  · have hlt : i.toNat < ns.length := by
      have := of_decide_eq_true hb
      omega
    have hc : (ns.map V.int)[i.toNat]? = some (.int ns[i.toNat]) := by rw [List.getElem?_map, List.getElem?_eq_getElem hlt]; rfl
    generalize ns[i.toNat] = c at hc
    have ecell : EvD K (tOp (rIxL K) (tOp (rIxL K) (tVar 0) (tC (.int 0))) (tOp (rI0 fun i j => V.int (i - j)) (tOp (rIxL K) (tVar 0) (tC (.int 1))) (tC (.int 1)))) [some (.ref d), some (.int n), none, none] H4 (.int c) := fun H5 s5 Q q => by
      have hd5 := s5 _ _ (s4 _ _ hd2)
      have ei : ((i.toNat : Nat) : Int) = i + 1 - 1 := by omega
      have hat : atI (ns.map V.int) (i + 1 - 1) = some (.int c) := by
        rw [← ei]
        exact atI_nat hc
      exact ⟨_, rfl, d, _, 0, .ref a, rfl, rfl, .of hd5, rfl, _, rfl, d, _, 1, .int (i + 1), rfl, rfl, .of hd5, rfl, _, _, rfl, rfl, a, _, _, _, rfl, rfl, sql_same hs2 (s4.trans s5), hat, q _ H5 (Same.refl H5) (.int _)⟩
    refine sd_seq (sd_set (K := K) ecell fun v H5 s5 h5 => ?_)
    obtain rfl := h5.int_inv
    have cP : CPow 10 18 := ⟨by decide, by decide, by decide⟩
    have hd5 := s5 _ _ (s4 _ _ hd2)
    refine sd_go (sd_seq (st_put (K := K) (i := 0) (d := d) (j := 3) (z := if decide ((10 : Int) ^ (18 : Int).toNat ≤ c) = true then c / n else 0) (evd_if (b := decide ((10 : Int) ^ (18 : Int).toNat ≤ c)) (evb_cmp (K := K) (evd_var (i := 3) rfl (.int c)) (evd_op (evd_int (i := 10)) (evd_int (i := 18)) (opd_I (C := CPow) (g := fun i j => .int (i ^ j.toNat)) cP (.int _))) rfl) (fun e => by rw [if_pos e]; exact evd_op (evd_var (i := 3) rfl (.int c)) (evn rfl) odiv) fun e => by rw [if_neg (by rw [e]; exact Bool.false_ne_true)]; exact evd_int) rfl hd5 rfl fun H6 s6 => ?_))
    have s46 := (s4.trans s5).trans s6
    have b6 := But.upd d H6 (.lst ([V.ref a, .int (i + 1), .int m, .int r].set 3 (.int (if decide ((10 : Int) ^ (18 : Int).toNat ≤ c) = true then c / n else 0))))
    refine sd_go (sd_ret (K := K) (evd_op (evd_var (i := 3) rfl (.int c)) (evn rfl) omod) fun v H7 s7 h7 => ?_)
    obtain rfl := h7.int_inv
    refine q _ _ (mod_in n0).1 (mod_in n0).2 (fun b o nb e => s7 _ _ (b6 b o nb (s46 _ _ (b2 b o nb e)))) (DiceAt.same ⟨i + 1, m, _, upd_same, sql_but (sql_same hs2 s46) b6 (s46 _ _ hd2) ints_ne, hn, by omega⟩ s7)
  · have p31 : (0 : Int) < 2147483647 := by decide
    have c1 : ∀ x, CMul x 48271 := fun x => .inr ⟨by decide, by decide⟩
    refine sd_next (sd_go (sd_seq (st_put (K := K) (i := 0) (d := d) (j := 2) (z := m * 48271 % 2147483647) (evd_op (evd_op (evd_dix rfl (s4 _ _ hd2) (j := 2) rfl) evd_int (opd_I (c1 m) (.int _))) evd_int (opd_I (C := fun _ j => 0 < j) (g := fun i j => .int (i % j)) p31 (.int _))) rfl (s4 _ _ hd2) rfl fun H6 s6 => ?_)))
    have s46 := s4.trans s6
    have b6 := But.upd d H6 (.lst ([V.ref a, .int (i + 1), .int m, .int r].set 2 (.int (m * 48271 % 2147483647))))
    have hd6 : (upd H6 d (.lst ([V.ref a, .int (i + 1), .int m, .int r].set 2 (.int (m * 48271 % 2147483647))))) d = some (.lst [V.ref a, .int (i + 1), .int (m * 48271 % 2147483647), .int r]) := upd_same
    refine sd_go (sd_ret (K := K) (evd_op (evd_op (evd_dix rfl hd6 (j := 2) rfl) evd_int (opd_I (C := CDiv) (g := fun i j => .int (i / j)) ⟨by decide, by decide⟩ (.int _))) (evn rfl) omod) fun v H7 s7 h7 => ?_)
    obtain rfl := h7.int_inv
    refine q _ _ (mod_in n0).1 (mod_in n0).2 (fun b o nb e => s7 _ _ (b6 b o nb (s46 _ _ (b2 b o nb e)))) (DiceAt.same ⟨i + 1, _, _, hd6, sql_but (sql_same hs2 s46) b6 (s46 _ _ hd2) ints_ne, hn, by omega⟩ s7)
end
end Lo
set_option Elab.async false
set_option linter.all false
set_option maxRecDepth 100000
set_option maxHeartbeats 8000000
/-! what is drawn from the dice -/
namespace Lo
open PySem PySem.Spec PyProof.Rows L2
abbrev sSteps : Stmt := top 71
abbrev sWork : Stmt := top 72
abbrev sSingle : Stmt := top 73
abbrev sStore : Stmt := top 74
/-- an int, drawn -/
def EvI (K : PySem.W.Frag) (S : Scp) (d : Addr) (te : TE) (σ : L2.St) (Pk : Int → Prop) : Prop := ∀ H, DiceAt K S H d → ∀ Q : VK, (∀ k H', But d H H' → DiceAt K S H' d → Pk k → Q (.int k) H') → te σ H Q
def EvIA (K : PySem.W.Frag) (S : Scp) (d : Addr) (tr : TA) (σ : L2.St) (Pk : Int → Prop) (n : Nat) : Prop := ∀ H, DiceAt K S H d → ∀ Q : List V → Hp → Prop, (∀ ks : List Int, ks.length = n → (∀ k ∈ ks, Pk k) → ∀ H', But d H H' → DiceAt K S H' d → Q (ks.map V.int) H') → tr σ H Q
def EvIB (K : PySem.W.Frag) (S : Scp) (d : Addr) (tt : TT) (σ : L2.St) : Prop := ∀ H, DiceAt K S H d → ∀ Q : Bool → Hp → Prop, (∀ b H', But d H H' → DiceAt K S H' d → Q b H') → tt σ H Q
section
variable {P : Program} {w : World} {K : PySem.W.Frag} {mg : Str → Option Value} {base : Heap} {f d : Addr} {S : Scp} {fd : FuncData} {σ : L2.St} {ta tb te ti tm : TE} {tr : TA} {Pk P1 P2 : Int → Prop}
theorem EvI.imp (h : EvI K S d te σ P1) (hp : ∀ k, P1 k → P2 k) : EvI K S d te σ P2 := fun H D Q q => h H D Q fun k H' b D' p => q k H' b D' (hp k p)
theorem evi_int {i : Int} : EvI K S d (tC (.int i)) σ (fun k => k = i) := fun H D Q q => q i H (But.refl d H) D rfl
theorem evi_var {i : Nat} {k : Int} (h : σ[i]? = some (some (.int k))) : EvI K S d (tVar i) σ (fun z => z = k) := fun H D Q q => ⟨_, h, q k H (But.refl d H) D rfl⟩
theorem evi_nextE {i : Nat} (hv : σ[i]? = some (some (.ref d))) (hm : EvI K S d tm σ Pk) (h : ∀ k, Pk k → 0 < k ∧ k < 2 ^ 64) : EvI K S d (tCall (spNext K) [] E0 (tCons (tVar i) (tCons tm tNil))) σ (fun k => ∃ n, Pk n ∧ 0 ≤ k ∧ k < n) := fun H D Q q =>
  ⟨_, hv, hm H D _ fun n H1 b1 D1 pn => ⟨S, d, n, rfl, D1, (h n pn).1, (h n pn).2, fun k H2 k0 k1 b2 D2 => q k H2 (b1.trans b2) D2 ⟨n, pn, k0, k1⟩⟩⟩
theorem evi_next {i : Nat} {n : Int} (hv : σ[i]? = some (some (.ref d))) (h0 : 0 < n := by decide) (h1 : n < 2 ^ 64 := by decide) : EvI K S d (tCall (spNext K) [] E0 (tCons (tVar i) (tCons (tC (.int n)) tNil))) σ (fun k => 0 ≤ k ∧ k < n) :=
  (evi_nextE hv evi_int fun k e => by subst e; exact ⟨h0, h1⟩).imp fun k ⟨z, e, a, b⟩ => by subst e; exact ⟨a, b⟩
theorem evi_op {g : Int → Int → Int} (ha : EvI K S d ta σ P1) (hb : EvI K S d tb σ P2) : EvI K S d (tOp (rI0 fun i j => .int (g i j)) ta tb) σ (fun z => ∃ i j, P1 i ∧ P2 j ∧ z = g i j) := fun H D Q q =>
  ha H D _ fun i H1 b1 D1 p1 => hb H1 D1 _ fun j H2 b2 D2 p2 => ⟨i, j, rfl, rfl, q _ H2 (b1.trans b2) D2 ⟨i, j, p1, p2, rfl⟩⟩
theorem evi_opI {C : Int → Int → Prop} {g : Int → Int → Int} (ha : EvI K S d ta σ P1) (hb : EvI K S d tb σ P2) (hc : ∀ i j, P1 i → P2 j → C i j) : EvI K S d (tOp (rI C fun i j => .int (g i j)) ta tb) σ (fun z => ∃ i j, P1 i ∧ P2 j ∧ z = g i j) := fun H D Q q =>
  ha H D _ fun i H1 b1 D1 p1 => hb H1 D1 _ fun j H2 b2 D2 p2 => ⟨i, j, rfl, rfl, hc i j p1 p2, q _ H2 (b1.trans b2) D2 ⟨i, j, p1, p2, rfl⟩⟩
theorem evi_nil : EvIA K S d tNil σ Pk 0 := fun H D Q q => q [] rfl (fun _ h => (by cases h)) H (But.refl d H) D
theorem evi_cons {n : Nat} (ha : EvI K S d ta σ Pk) (hr : EvIA K S d tr σ Pk n) : EvIA K S d (tCons ta tr) σ Pk (n + 1) := fun H D Q q =>
  ha H D _ fun k H1 b1 D1 p1 => hr H1 D1 _ fun ks hl hk H2 b2 D2 => q (k :: ks) (by rw [List.length_cons, hl]) (fun z hz => by
    rcases List.mem_cons.mp hz with rfl | hz
    · exact p1
    · exact hk z hz) H2 (b1.trans b2) D2
theorem DiceAt.get {H : Hp} (D : DiceAt K S H d) : ∃ xs, H d = some (.lst xs) := let ⟨i, m, r, h, _⟩ := D; ⟨_, h⟩
theorem evi_ix {n : Nat} (hn : n ≤ 1000) (ha : EvIA K S d tr σ Pk n) (hi : EvI K S d ti σ (fun k => 0 ≤ k ∧ k < n)) : EvI K S d (tOp (rIxL K) (tLst tr) ti) σ Pk := fun H D Q q =>
  ha H D _ fun ks hl hk H1 b1 D1 => ⟨small_le (by rw [List.length_map, hl]; omega), fun p hp => by
    have sn := same_new hp (.lst (ks.map V.int))
    have npd : p ≠ d := fun e => by
      obtain ⟨xs, hx⟩ := D1.get
      rw [e, hx] at hp
      cases hp
    refine hi _ (D1.same sn) _ fun k H2 b2 D2 ⟨k0, k1⟩ => ?_
    have hp2 : H2 p = some (.lst (ks.map V.int)) := b2 _ _ npd upd_same
    have hlt : k.toNat < ks.length := by omega
    have hg : (ks.map V.int)[k.toNat]? = some (.int ks[k.toNat]) := by rw [List.getElem?_map, List.getElem?_eq_getElem hlt]; rfl
    have ek : ((k.toNat : Nat) : Int) = k := by omega
    refine ⟨p, _, k, .int ks[k.toNat], rfl, rfl, .of hp2, (congrArg (atI (ks.map V.int)) ek).symm.trans (atI_nat hg), q _ H2 (b1.trans ((But.of sn).trans b2)) D2 (hk _ (List.getElem_mem hlt))⟩⟩
theorem evi_eq (ha : EvI K S d ta σ P1) (hb : EvI K S d tb σ P2) : EvIB K S d (tTest (tOp rEq ta tb)) σ := fun H D Q q =>
  ha H D _ fun i H1 b1 D1 p1 => hb H1 D1 _ fun j H2 b2 D2 p2 => (opd_eqI (K := K) (H := H2)) H2 (Same.refl H2) _ _ (.int i) (.int j) _ fun v H3 s3 hv => by
    obtain rfl := hv.bl_inv
    exact ⟨_, rfl, q _ H3 ((b1.trans b2).trans (But.of s3)) (D2.same s3)⟩
theorem evi_cmp {g : Int → Int → Bool} (ha : EvI K S d ta σ P1) (hb : EvI K S d tb σ P2) : EvIB K S d (tTest (tOp (rI0 fun i j => .bl (g i j)) ta tb)) σ := fun H D Q q =>
  ha H D _ fun i H1 b1 D1 p1 => hb H1 D1 _ fun j H2 b2 D2 p2 => ⟨i, j, rfl, rfl, _, rfl, q _ H2 (b1.trans b2) D2⟩
theorem ok_number (F : Fun K "_law_number" "_law_number" sNumber f fd) (cN : Callee P w K mg base 1 "_law_next" ["_law_dice_here", "_law_many"] (spNext K)) : FnOk P w K mg base CX0 2 f fd ["_law_d"] (spNumber K) := by
  refine F.ok scNumber (fun vs H Q E ⟨S, d, e, _⟩ => by rw [e]; rfl) (fun cdv A outer s H vs Q E hr h => ?_)
  obtain ⟨S, d, rfl, D, q⟩ := h
  refine ⟨_, pss_one (ps_ret (pe_ix ix_list (pe_lst (pa_cons (pe_op op_sub (pe_cal cN hr (pa_cons (pv 0) (pa_cons pe_int pa_nil))) pe_int) (pa_cons (pe_op op_sub (pe_cal cN hr (pa_cons (pv 0) (pa_cons pe_int pa_nil))) pe_int) (pa_cons (pe_op op_sub (pe_cal cN hr (pa_cons (pv 0) (pa_cons pe_int pa_nil))) pe_int) pa_nil))))
    (pe_op op_fdiv (pe_cal cN hr (pa_cons (pv 0) (pa_cons pe_int pa_nil))) pe_int) (fun _ _ => rfl))), ?_⟩
  have sub : ∀ {n c : Int} {k : Int}, (∃ i j, (0 ≤ i ∧ i < n) ∧ j = c ∧ k = i - j) → 0 ≤ c → c ≤ 999 → n ≤ c + 1000 → -999 ≤ k ∧ k ≤ 999 := by
    rintro n c k ⟨i, j, ⟨h1, h2⟩, rfl, rfl⟩ h3 h4 h5
    omega
  refine (evi_ix (K := K) (d := d) (Pk := fun k => -999 ≤ k ∧ k ≤ 999) (n := 3) (by decide) (evi_cons ((evi_op (evi_next rfl) evi_int).imp fun k h => sub h (by decide) (by decide) (by decide)) (evi_cons ((evi_op (evi_next rfl) evi_int).imp fun k h => sub h (by decide) (by decide) (by decide)) (evi_cons ((evi_op (evi_next rfl) evi_int).imp fun k h => sub h (by decide) (by decide) (by decide)) evi_nil)))
    ((evi_opI (C := CDiv) (evi_next rfl) evi_int fun i j _ e => by subst e; exact ⟨by decide, by decide⟩).imp fun k ⟨i, j, ⟨h1, h2⟩, e1, e2⟩ => by subst e1; subst e2; omega)) H D _ fun k H' b D' ⟨h1, h2⟩ => q k H' h1 h2 b D'
end
end Lo
set_option Elab.async false
set_option linter.all false
set_option maxRecDepth 100000
set_option maxHeartbeats 8000000
/-! steps, drawn -/
namespace Lo
open PySem PySem.Spec PyProof.Rows L2
theorem depSs_le {n : Nat} : ∀ {b : Wk}, (∀ s ∈ b, depS s ≤ n) → depSs b ≤ n
  | [], _ => Nat.zero_le _
  | s :: r, h => by
    show max (depS s) (depSs r) ≤ n
    have h1 := h s (List.mem_cons_self ..)
    have h2 := depSs_le fun x hx => h x (List.mem_cons_of_mem _ hx)
    omega
theorem But2.refl (p q : Addr) (H : Hp) : But2 p q H H := fun _ _ _ _ h => h
theorem But2.trans {p q : Addr} {H H1 H2 : Hp} (a : But2 p q H H1) (b : But2 p q H1 H2) : But2 p q H H2 := fun c o n m h => b c o n m (a c o n m h)
theorem But2.of {p q : Addr} {H H' : Hp} (s : Same H H') : But2 p q H H' := fun b o _ _ h => s b o h
theorem But.l2 {p q : Addr} {H H' : Hp} (s : But p H H') : But2 p q H H' := fun b o n _ h => s b o n h
theorem But2.sameT {p q : Addr} {H H' : Hp} {xs ys : List V} (b : But2 p q H H') (h1 : H p = some (.lst xs)) (h2 : H q = some (.lst ys)) : SameT H H' := fun c o e i => by
  refine b c o (fun z => ?_) (fun z => ?_) e
  · rw [z, h1] at e
    cases e
    cases i
  · rw [z, h2] at e
    cases e
    cases i
def spSteps (K : PySem.W.Frag) (n : Nat) : Sp := fun vs H Q _ => ∃ (S : Scp) (d r : Addr) (deep : Nat) (m : Nat), vs = [.ref d, .ref r, .int (deep : Int)] ∧ DiceAt K S H d ∧ Off K S r ∧ H r = some (.lst [.int (m : Int)]) ∧ 1 ≤ deep ∧ deep ≤ 3 ∧ 3 - deep < n ∧
  ∀ (x : V) (b : Wk) (m' : Nat) (H' : Hp), But2 d r H H' → DiceAt K S H' d → H' r = some (.lst [.int (m' : Int)]) → cntSs b + m' = m → okSs b → depSs b + deep ≤ 3 → Tp K H' x (encW b) → Q x H'
section
variable {P : Program} {w : World} {K : PySem.W.Frag} {mg : Str → Option Value} {base : Heap} {f d : Addr} {fd : FuncData} {σ : L2.St}
theorem scSteps : FnScope ["_law_d", "_law_room", "_law_deep", "_law_found", "_law_k", "_law_way", "_law_count"] ["_law_d", "_law_room", "_law_deep"] (defScope sSteps) := ⟨rfl, rfl, rfl, by decide +kernel, rfl, by decide +kernel, by decide +kernel⟩
theorem dice_ne {S : Scp} {H : Hp} {d r : Addr} {m : Int} (D : DiceAt K S H d) (h : H r = some (.lst [.int m])) : d ≠ r := fun e => by
  obtain ⟨i, m, r, h1, _⟩ := D
  rw [e, h] at h1
  cases h1
theorem dice_fresh {S : Scp} {H : Hp} {d l : Addr} (D : DiceAt K S H d) (h : H l = none) : l ≠ d := fun e => by
  obtain ⟨xs, hx⟩ := D.get
  rw [e, hx] at h
  cases h
theorem ok_steps {n k : Nat} (F : Fun K "_law_steps" "_law_steps" sSteps f fd) (T : Txt K mg) (hk : 2 ≤ k) (cN : Callee P w K mg base 1 "_law_next" ["_law_dice_here", "_law_many"] (spNext K)) (cNum : Callee P w K mg base 2 "_law_number" ["_law_d"] (spNumber K))
    (cMe : Callee P w K mg base k "_law_steps" ["_law_d", "_law_room", "_law_deep"] (spSteps K n)) : FnOk P w K mg base CX0 (k + 1) f fd ["_law_d", "_law_room", "_law_deep"] (spSteps K (n + 1)) := by
  refine F.ok scSteps (fun vs H Q E ⟨S, d, r, deep, m, e, _⟩ => by rw [e]; rfl) (fun cdv A outer s H vs Q E hr h => ?_)
  obtain ⟨S, d, r, deep, m, rfl, D, off, hrm, d1, d3, hdn, q⟩ := h
  have nd := scSteps.nd
  refine ⟨_, pss_cons (ps_set (i := 3) nd rfl (Or.inl rfl) (pe_lst pa_nil))
    (pss_cons (ps_for PassesOwn.never rfl (pi_range1 rfl T.zRange (pa_cons (pe_op op_add pe_int (pe_cal cN hr (pa_cons (pv 0) (pa_cons pe_int pa_nil)) (Nat.le_trans (by decide) hk))) pa_nil)) (pg_name (i := 4) nd rfl (Or.inl rfl))
      (pss_one (ps_if (pt_cmpR op_gt (pe_ix ix_list (pv 1) pe_int (fun _ _ => rfl)) pe_int (nomark _))
        (pss_cons (ps_asg (pe_op op_sub (pe_ix ix_list (pv 1) pe_int (fun _ _ => rfl)) pe_int) (pg_sub (pv 1) pe_int set_list))
        (pss_cons (ps_set (i := 5) nd rfl (Or.inl rfl) (pe_cal cN hr (pa_cons (pv 0) (pa_cons pe_int pa_nil)) (Nat.le_trans (by decide) hk)))
        (pss_one (ps_if (PW.pt (pw_and (pt_cmpR op_eq (pv 5) pe_int (nomark _)) (pw_and1 (pt_cmpR op_lt (pv 2) pe_int (nomark _)))))
          (pss_cons (ps_set (i := 6) nd rfl (Or.inl rfl) (pe_ix ix_list (pe_lst (pa_cons (pe_cal cN hr (pa_cons (pv 0) (pa_cons pe_int pa_nil)) (Nat.le_trans (by decide) hk)) (pa_cons (pe_cal cN hr (pa_cons (pv 0) (pa_cons pe_int pa_nil)) (Nat.le_trans (by decide) hk))
              (pa_cons (pe_op op_sub (pe_op op_pow pe_int pe_int) (pe_cal cN hr (pa_cons (pv 0) (pa_cons pe_int pa_nil)) (Nat.le_trans (by decide) hk))) pa_nil))))
              (pe_op op_fdiv (pe_cal cN hr (pa_cons (pv 0) (pa_cons pe_int pa_nil)) (Nat.le_trans (by decide) hk)) pe_int) (fun _ _ => rfl)))
          (pss_one (ps_expr (pe_bm PySem.F.plainAttrs_list PySem.F.slot_list_append PySem.F.type_list_append mt_append (pv 3) (pa_cons (pe_tupP (pa_cons pe_str (pa_cons (pv 6) (pa_cons (pe_cal cMe hr (pa_cons (pv 0) (pa_cons (pv 1) (pa_cons (pe_op op_add (pv 2) pe_int) pa_nil))) (Nat.le_refl _)) pa_nil)))) pa_nil)))))
          (pss_one (ps_expr (pe_bm PySem.F.plainAttrs_list PySem.F.slot_list_append PySem.F.type_list_append mt_append (pv 3) (pa_cons (pe_ifExp (pt_cmpR op_gt (pv 5) pe_int (nomark _)) (pe_tupP (pa_cons pe_str pa_nil)) (pe_tupP (pa_cons pe_str (pa_cons (pe_cal cNum hr (pa_cons (pv 0) pa_nil) hk) pa_nil)))) pa_nil))))))))
        pss_nil)))
    (pss_one (ps_ret (pe_callTy cr_tupleP (by rfl) T.zTuple (by decide +kernel) (pa_cons (pv 3) pa_nil))))), ?_⟩
  have dr := dice_ne D hrm
  have tenP : CPow 10 18 := ⟨by decide, by decide, by decide⟩
  refine sd_seq (sd_nil fun fl hfl => ?_)
  have sn := same_new hfl (.lst [])
  have nfd := dice_fresh D hfl
  have nfr : fl ≠ r := (ne_of_none hrm hfl).symm
  have offl := off_fresh D hfl
  refine sd_go (sd_seq ?_)
  refine (evi_op (K := K) (S := S) (d := d) (g := fun i j => i + j) evi_int (evi_next rfl)) _ (D.same sn) _ fun z H2 b2 D2 hz => ?_
  obtain ⟨_, j, rfl, ⟨j0, j5⟩, rfl⟩ := hz
  refine ⟨_, rfl, by omega, by omega, ?_⟩
  refine for_range (D := _) (lo := 0) (n := (1 + j).toNat) (fun i σ H' => ∃ (bs : Wk) (xs : List V) (m' : Nat) (u4 u5 u6 : Option V), σ = [some (.ref d), some (.ref r), some (.int (deep : Int)), some (.ref fl), u4, u5, u6] ∧ But2 d r H H' ∧ DiceAt K S H' d ∧ H' r = some (.lst [.int (m' : Int)]) ∧ H' fl = some (.lst xs) ∧
    TpAll K H' xs (encSs bs) ∧ cntSs bs + m' = m ∧ (∀ s ∈ bs, okS s ∧ depS s + deep ≤ 3) ∧ bs.length ≤ i)
    ⟨[], [], m, none, none, none, rfl, (But2.of sn).trans b2.l2, D2, b2 _ _ dr.symm (sn _ _ hrm), b2 _ _ nfd upd_same, .nil, by simp [cntSs], fun s hs => (by cases hs), Nat.le_refl _⟩ ?_ ?_
  · rintro i σ H' hi ⟨bs, xs, m', u4, u5, u6, rfl, bt, D', hr', hf, hx, hc, hok, hlen⟩
    have hxl := hx.length
    rw [encSs_len] at hxl
    refine sd_if (b := decide ((0 : Int) < (m' : Int))) (evb_cmp (K := K) (evd_dix (i := 1) rfl hr' (j := 0) rfl) evd_int rfl) (fun hb H3 s3 => ?_) fun hb H3 s3 => ?_
    · obtain ⟨m2, rfl⟩ : ∃ m2, m' = m2 + 1 := ⟨m' - 1, by have := of_decide_eq_true hb; omega⟩
      refine sd_seq (st_put (K := K) (i := 1) (d := r) (j := 0) (z := ((m2 + 1 : Nat) : Int) - 1) (evd_op (evd_dix (i := 1) rfl (s3 _ _ hr') (j := 0) rfl) evd_int (opd_I0 (.int _))) rfl (s3 _ _ hr') rfl fun H4 s4 => ?_)
      have e1 : ((m2 + 1 : Nat) : Int) - 1 = (m2 : Int) := by omega
      rw [e1]
      have s34 := s3.trans s4
      have D5 := (D'.same s34).upd (u := .lst ([V.int ((m2 + 1 : Nat) : Int)].set 0 (V.int (m2 : Int)))) dr.symm off
      have hr5 : (upd H4 r (.lst ([V.int ((m2 + 1 : Nat) : Int)].set 0 (V.int (m2 : Int))))) r = some (.lst [.int (m2 : Int)]) := upd_same
      have hf5 : (upd H4 r (.lst ([V.int ((m2 + 1 : Nat) : Int)].set 0 (V.int (m2 : Int))))) fl = some (.lst xs) := by rw [upd_ne nfr]; exact s34 _ _ hf
      have bt5 : But2 d r H (upd H4 r (.lst ([V.int ((m2 + 1 : Nat) : Int)].set 0 (V.int (m2 : Int))))) := fun b o n1 n2 e => by rw [upd_ne n2]; exact s34 _ _ (bt b o n1 n2 e)
      have sTr : SameT H4 (upd H4 r (.lst ([V.int ((m2 + 1 : Nat) : Int)].set 0 (V.int (m2 : Int))))) := SameT.updL (.refl _) (s34 _ _ hr')
      have hx5 := (hx.same s34).mono sTr
      generalize upd H4 r (.lst ([V.int ((m2 + 1 : Nat) : Int)].set 0 (V.int (m2 : Int)))) = H5 at D5 hr5 hf5 bt5 hx5
      obtain ⟨dxs, hdx⟩ := D5.get
      have fin : ∀ {H10 : Hp} {x : V} {st : Stp} {m3 : Nat} {u5' u6' : Option V}, But2 d r H5 H10 → DiceAt K S H10 d → H10 r = some (.lst [.int (m3 : Int)]) → Tp K H10 x (encS st) → cntS st + m3 = m2 + 1 → okS st → depS st + deep ≤ 3 → H10 fl = some (.lst xs) ∧
          ∃ (bs : Wk) (xs' : List V) (m' : Nat) (u4 u5 u6 : Option V), [some (V.ref d), some (V.ref r), some (V.int (deep : Int)), some (V.ref fl), some (V.int (0 + i)), u5', u6'] = [some (.ref d), some (.ref r), some (.int (deep : Int)), some (.ref fl), u4, u5, u6] ∧ But2 d r H (upd H10 fl (.lst (xs ++ [x]))) ∧ DiceAt K S (upd H10 fl (.lst (xs ++ [x]))) d ∧ (upd H10 fl (.lst (xs ++ [x]))) r = some (.lst [.int (m' : Int)]) ∧ (upd H10 fl (.lst (xs ++ [x]))) fl = some (.lst xs') ∧
    TpAll K (upd H10 fl (.lst (xs ++ [x]))) xs' (encSs bs) ∧ cntSs bs + m' = m ∧ (∀ s ∈ bs, okS s ∧ depS s + deep ≤ 3) ∧ bs.length ≤ i + 1 := by
        intro H10 x st m3 u5' u6' b10 D10 hr10 hx10 hc10 ok10 de10
        have hf10 : H10 fl = some (.lst xs) := b10 _ _ nfd nfr hf5
        have sT := b10.sameT hdx hr5
        have sU : SameT H10 (upd H10 fl (.lst (xs ++ [x]))) := SameT.updL (.refl _) hf10
        refine ⟨hf10, bs ++ [st], xs ++ [x], m3, some (.int (0 + i)), u5', u6', rfl, fun b o n1 n2 e => ?_, D10.upd nfd offl, by rw [upd_ne nfr.symm]; exact hr10, upd_same, ?_, ?_, ?_, by rw [List.length_append, List.length_singleton]; omega⟩
        · rw [upd_ne (ne_of_none e hfl)]
          exact b10 _ _ n1 n2 (bt5 _ _ n1 n2 e)
        · rw [encSs_map, List.map_append, ← encSs_map]
          exact ((hx5.mono sT).mono sU).snoc (hx10.mono sU)
        · rw [cntSs_append, cntSs_one]
          omega
        · intro y hy
          rcases List.mem_append.mp hy with hy | hy
          · exact hok y hy
          · rw [List.mem_singleton] at hy
            subst hy
            exact ⟨ok10, de10⟩
      refine sd_go (sd_seq ?_)
      refine (evi_next (K := K) (S := S) (d := d) (i := 0) (n := 9) rfl) _ D5 _ fun way H6 b6 D6 ⟨w0, w9⟩ => ?_
      have hr6 := b6 _ _ dr.symm hr5
      have hf6 := b6 _ _ nfd hf5
      refine sd_go (sd_if (b := decide (way = 0) && decide ((deep : Int) < 3)) (evb_and (evb_test (K := K) (evd_op (evd_var (i := 5) (v := .int way) rfl (.int _)) evd_int opd_eqI)) fun _ => evb_cmp (K := K) (evd_var (i := 2) (v := .int (deep : Int)) rfl (.int _)) evd_int rfl) (fun hb2 H7 s7 => ?_) fun hb2 H7 s7 => ?_)
      · have hd3 : deep < 3 := by
          have := (Bool.and_eq_true _ _ ▸ hb2 : decide (way = 0) = true ∧ decide ((deep : Int) < 3) = true).2
          have := of_decide_eq_true this
          omega
        refine sd_seq ?_
        refine (evi_ix (K := K) (S := S) (d := d) (Pk := fun k => 0 ≤ k ∧ k ≤ 1000000000000000000) (n := 3) (by decide) (evi_cons ((evi_next rfl).imp fun k ⟨a, b⟩ => ⟨a, by omega⟩) (evi_cons ((evi_next rfl).imp fun k ⟨a, b⟩ => ⟨a, by omega⟩)
          (evi_cons ((evi_op (g := fun i j => i - j) (evi_opI (C := CPow) (g := fun i j => i ^ j.toNat) (evi_int (i := 10)) (evi_int (i := 18)) fun i j e1 e2 => by subst e1; subst e2; exact tenP) (evi_next rfl)).imp fun k ⟨x, y, ⟨p, q, e1, e2, e3⟩, ⟨y0, y3⟩, e4⟩ => by
            subst e1; subst e2; subst e3; subst e4
            have : (10 : Int) ^ (18 : Int).toNat = 1000000000000000000 := by decide
            rw [this]
            omega) evi_nil)))
          ((evi_opI (C := CDiv) (g := fun i j => i / j) (evi_next (n := 5) rfl) (evi_int (i := 2)) fun i j _ e => by subst e; exact ⟨by decide, by decide⟩).imp fun k ⟨i, j, ⟨h1, h2⟩, e1, e2⟩ => by subst e1; subst e2; omega)) _ (D6.same s7) _ fun c H8 b8 D8 ⟨c0, c1⟩ => ?_
        have hr8 := b8 _ _ dr.symm (s7 _ _ hr6)
        have hf8 := b8 _ _ nfd (s7 _ _ hf6)
        have b58 := (b6.trans (But.of s7)).trans b8
        refine sd_go ⟨_, rfl, .inl ⟨rfl, _, SqL.of hf8⟩, ?_⟩
        refine ⟨_, rfl, _, rfl, _, rfl, _, rfl, _, _, rfl, rfl, S, d, r, deep + 1, m2, rfl, D8, off, hr8, by omega, by omega, by omega, fun x b2 m3 H9 bt9 D9 hr9 hc9 hok9 hd9 hx9 => ?_⟩
        refine ⟨by show 3 ≤ sizeLine; decide, fun p o hp ho => ?_⟩
        have s10 := same_new hp (.frz o (.tup [.str (Str.ofString "times"), .int c, x]))
        have b59 : But2 d r H5 H9 := b58.l2.trans bt9
        obtain ⟨g1, g2⟩ := fin (st := .times c b2) (x := .ref p) (m3 := m3) (u5' := some (.int way)) (u6' := some (.int c)) (b59.trans (But2.of s10)) (D9.same s10) (s10 _ _ hr9) (.tup (.new ho) (.cons (.str _) (.cons (.int _) (.cons (hx9.same s10) .nil)))) (by show 1 + cntSs b2 + m3 = m2 + 1; omega) ⟨⟨c0, c1⟩, hok9⟩ (by show depSs b2 + 1 + deep ≤ 3; omega)
        exact ⟨fl, xs, .ref p, rfl, rfl, g1, small_lt (by omega), g2⟩
      · have b57 := b6.trans (But.of s7)
        have D7 := D6.same s7
        have hr7 := s7 _ _ hr6
        refine ⟨_, rfl, .inl ⟨rfl, _, SqL.of (s7 _ _ hf6)⟩, ?_⟩
        refine (evb_cmp (K := K) (evd_var (i := 5) (v := .int way) rfl (.int _)) (evd_int (i := 4)) rfl : EvB _ _ _ (decide (4 < way))).go fun H8 s8 => ?_
        have b58 := b57.trans (But.of s8)
        by_cases h4 : 4 < way
        · rw [if_pos (decide_eq_true h4)]
          refine ⟨by show 1 ≤ sizeLine; decide, fun p o hp ho => ?_⟩
          have s10 := same_new hp (.frz o (.tup [.str (Str.ofString "take")]))
          obtain ⟨g1, g2⟩ := fin (st := .take) (x := .ref p) (m3 := m2) (u5' := some (.int way)) (u6' := u6) (b58.l2.trans (But2.of s10)) ((D7.same s8).same s10) (s10 _ _ (s8 _ _ hr7)) (.tup (.new ho) (.cons (.str _) .nil)) (by show 1 + m2 = m2 + 1; omega) trivial (by show 0 + deep ≤ 3; omega)
          exact ⟨fl, xs, .ref p, rfl, rfl, g1, small_lt (by omega), g2⟩
        · rw [if_neg (by simp [h4])]
          refine ⟨_, rfl, S, d, rfl, D7.same s8, fun z H9 z0 z1 b9 D9 => ?_⟩
          refine ⟨by show 2 ≤ sizeLine; decide, fun p o hp ho => ?_⟩
          have s10 := same_new hp (.frz o (.tup [.str (Str.ofString "put"), .int z]))
          obtain ⟨g1, g2⟩ := fin (st := .put z) (x := .ref p) (m3 := m2) (u5' := some (.int way)) (u6' := u6) ((b58.trans b9).l2.trans (But2.of s10)) (D9.same s10) (s10 _ _ (b9 _ _ dr.symm (s8 _ _ hr7))) (.tup (.new ho) (.cons (.str _) (.cons (.int _) .nil))) (by show 1 + m2 = m2 + 1; omega) ⟨z0, z1⟩ (by show 0 + deep ≤ 3; omega)
          exact ⟨fl, xs, .ref p, rfl, rfl, g1, small_lt (by omega), g2⟩
    · refine sd_next ⟨bs, xs, m', some (.int (0 + i)), u5, u6, rfl, bt.trans (But2.of s3), D'.same s3, s3 _ _ hr', s3 _ _ hf, hx.same s3, hc, hok, by omega⟩
  · rintro σ H' ⟨bs, xs, m', u4, u5, u6, rfl, bt, D', hr', hf, hx, hc, hok, hlen⟩
    refine sd_go (sd_ret (K := K) (d := encW bs) (evd_tupV (i := 3) rfl hf hx) fun v H3 s3 h3 => ?_)
    refine q v bs m' H3 (bt.trans (But2.of s3)) (D'.same s3) (s3 _ _ hr') hc (okSs_of fun s hs => (hok s hs).1) ?_ h3
    have := depSs_le (n := 3 - deep) (b := bs) fun s hs => by have := (hok s hs).2; omega
    omega
end
end Lo
set_option Elab.async false
set_option linter.all false
set_option maxRecDepth 100000
set_option maxHeartbeats 8000000
/-! a work, a single work, drawn -/
namespace Lo
open PySem PySem.Spec PyProof.Rows L2
def spWork (K : PySem.W.Frag) : Sp := fun vs H Q _ => ∃ (S : Scp) (d : Addr), vs = [.ref d] ∧ DiceAt K S H d ∧ ∀ (x : V) (b : Wk) (H' : Hp), But d H H' → DiceAt K S H' d → OkW b → Tp K H' x (encW b) → Q x H'
def spSingle (K : PySem.W.Frag) : Sp := fun vs H Q _ => ∃ (S : Scp) (d : Addr), vs = [.ref d, .int 5] ∧ DiceAt K S H d ∧ ∀ (x : V) (b : Wk) (H' : Hp), But d H H' → DiceAt K S H' d → Five b → Tp K H' x (encW b) → Q x H'
section
variable {P : Program} {w : World} {K : PySem.W.Frag} {mg : Str → Option Value} {base : Heap} {f d : Addr} {fd : FuncData} {σ : L2.St}
theorem callee_steps (Df : Dfn K mg "_law_steps" sSteps ["_law_d", "_law_room", "_law_deep"]) (T : Txt K mg) (cN : Callee P w K mg base 1 "_law_next" ["_law_dice_here", "_law_many"] (spNext K)) (cNum : Callee P w K mg base 2 "_law_number" ["_law_d"] (spNumber K)) : ∀ n, Callee P w K mg base (n + 2) "_law_steps" ["_law_d", "_law_room", "_law_deep"] (spSteps K n)
  | 0 => Df.callee fun f fd F => (show FnOk P w K mg base CX0 0 f fd ["_law_d", "_law_room", "_law_deep"] (spSteps K 0) from ⟨fun vs H Q E ⟨_, _, _, _, _, e, _⟩ => by rw [e]; rfl, fun A outer s H args us vs Q E hr he hb hv ⟨_, _, _, _, _, _, _, _, _, _, _, hd, _⟩ => absurd hd (Nat.not_lt_zero _)⟩).mono (Nat.zero_le _)
  | n + 1 => Df.callee fun f fd F => ok_steps F T (Nat.le_add_left 2 n) cN cNum (callee_steps Df T cN cNum n)
theorem scWork : FnScope ["_law_d"] ["_law_d"] (defScope sWork) := ⟨rfl, rfl, rfl, by decide +kernel, rfl, by decide +kernel, by decide +kernel⟩
theorem scSingle : FnScope ["_law_d", "_law_most_of", "_law_found", "_law_k"] ["_law_d", "_law_most_of"] (defScope sSingle) := ⟨rfl, rfl, rfl, by decide +kernel, rfl, by decide +kernel, by decide +kernel⟩
theorem ok_work (F : Fun K "_law_work" "_law_work" sWork f fd) (cN : Callee P w K mg base 1 "_law_next" ["_law_dice_here", "_law_many"] (spNext K)) (cS : Callee P w K mg base 5 "_law_steps" ["_law_d", "_law_room", "_law_deep"] (spSteps K 3)) : FnOk P w K mg base CX0 6 f fd ["_law_d"] (spWork K) := by
  refine F.ok scWork (fun vs H Q E ⟨S, d, e, _⟩ => by rw [e]; rfl) (fun cdv A outer s H vs Q E hr h => ?_)
  obtain ⟨S, d, rfl, D, q⟩ := h
  refine ⟨_, pss_one (ps_ret (pe_cal cS hr (pa_cons (pv 0) (pa_cons (pe_lst (pa_cons (pe_cal cN hr (pa_cons (pv 0) (pa_cons pe_int pa_nil))) pa_nil)) (pa_cons pe_int pa_nil))))), ?_⟩
  refine ⟨_, rfl, ?_⟩
  refine (evi_next (K := K) (S := S) (d := d) (i := 0) (n := 15) rfl) _ D _ fun k H1 b1 D1 ⟨k0, k1⟩ => ?_
  refine ⟨by show 1 ≤ sizeLine; decide, fun r hr0 => ?_⟩
  obtain ⟨m, rfl⟩ := Int.eq_ofNat_of_zero_le k0
  have sn := same_new hr0 (.lst [V.int (m : Int)])
  refine ⟨S, d, r, 1, m, rfl, D1.same sn, off_fresh D1 hr0, upd_same, by decide, by decide, by decide, fun x b m' H' bt D' hr' hc hok hdep hx => ?_⟩
  refine q x b H' (fun c o nc e => ?_) D' ⟨hok, by omega, by omega⟩ hx
  have e1 := b1 c o nc e
  exact bt c o nc (ne_of_none e1 hr0) (sn _ _ e1)
theorem ok_single (F : Fun K "_law_single" "_law_single" sSingle f fd) (T : Txt K mg) (cN : Callee P w K mg base 1 "_law_next" ["_law_dice_here", "_law_many"] (spNext K)) : FnOk P w K mg base CX0 2 f fd ["_law_d", "_law_most_of"] (spSingle K) := by
  refine F.ok scSingle (fun vs H Q E ⟨S, d, e, _⟩ => by rw [e]; rfl) (fun cdv A outer s H vs Q E hr h => ?_)
  obtain ⟨S, d, rfl, D, q⟩ := h
  have nd := scSingle.nd
  refine ⟨_, pss_cons (ps_set (i := 2) nd rfl (Or.inl rfl) (pe_lst pa_nil))
    (pss_cons (ps_for PassesOwn.never rfl (pi_range1 rfl T.zRange (pa_cons (pe_cal cN hr (pa_cons (pv 0) (pa_cons (pe_op op_add (pv 1) pe_int) pa_nil))) pa_nil)) (pg_name (i := 3) nd rfl (Or.inl rfl))
      (pss_one (ps_expr (pe_bm PySem.F.plainAttrs_list PySem.F.slot_list_append PySem.F.type_list_append mt_append (pv 2) (pa_cons (pe_ifExp (pt_cmpR op_eq (pe_cal cN hr (pa_cons (pv 0) (pa_cons pe_int pa_nil))) pe_int (nomark _)) (pe_tupP (pa_cons pe_str pa_nil)) (pe_tupP (pa_cons pe_str (pa_cons (pe_op op_sub (pe_cal cN hr (pa_cons (pv 0) (pa_cons pe_int pa_nil))) pe_int) pa_nil)))) pa_nil)))))
    (pss_one (ps_ret (pe_callTy cr_tupleP (by rfl) T.zTuple (by decide +kernel) (pa_cons (pv 2) pa_nil))))), ?_⟩
  refine sd_seq (sd_nil fun fl hfl => ?_)
  have sn := same_new hfl (.lst [])
  have nfd := dice_fresh D hfl
  have offl := off_fresh D hfl
  refine sd_go (sd_seq ?_)
  refine (evi_nextE (K := K) (S := S) (d := d) (i := 0) (Pk := fun k => k = 6) rfl ((evi_op (g := fun i j => i + j) (evi_var (i := 1) (k := 5) rfl) evi_int).imp fun k ⟨i, j, e1, e2, e3⟩ => by subst e1; subst e2; exact e3) fun k e => by subst e; exact ⟨by decide, by decide⟩) _ (D.same sn) _ fun z H2 b2 D2 hz => ?_
  obtain ⟨_, rfl, z0, z6⟩ := hz
  refine ⟨_, rfl, by omega, by omega, ?_⟩
  refine for_range (D := _) (lo := 0) (n := z.toNat) (fun i σ H' => ∃ (bs : Wk) (xs : List V) (u : Option V), σ = [some (.ref d), some (.int 5), some (.ref fl), u] ∧ But d H H' ∧ DiceAt K S H' d ∧ H' fl = some (.lst xs) ∧
    TpAll K H' xs (encSs bs) ∧ (∀ s ∈ bs, okS s ∧ singS s = true) ∧ bs.length = i)
    ⟨[], [], none, rfl, (But.of sn).trans b2, D2, b2 _ _ nfd upd_same, .nil, fun s hs => (by cases hs), rfl⟩ ?_ ?_
  · rintro i σ H' hi ⟨bs, xs, u, rfl, bt, D', hf, hx, hok, hlen⟩
    have hxl := hx.length
    rw [encSs_len] at hxl
    have fin : ∀ {H10 : Hp} {x : V} {st : Stp}, But d H' H10 → DiceAt K S H10 d → Tp K H10 x (encS st) → okS st → singS st = true → H10 fl = some (.lst xs) ∧
        ∃ (bs : Wk) (xs' : List V) (u : Option V), [some (V.ref d), some (V.int 5), some (V.ref fl), some (V.int (0 + i))] = [some (.ref d), some (.int 5), some (.ref fl), u] ∧ But d H (upd H10 fl (.lst (xs ++ [x]))) ∧ DiceAt K S (upd H10 fl (.lst (xs ++ [x]))) d ∧ (upd H10 fl (.lst (xs ++ [x]))) fl = some (.lst xs') ∧
    TpAll K (upd H10 fl (.lst (xs ++ [x]))) xs' (encSs bs) ∧ (∀ s ∈ bs, okS s ∧ singS s = true) ∧ bs.length = i + 1 := by
      intro H10 x st b10 D10 hx10 ok10 si10
      have hf10 : H10 fl = some (.lst xs) := b10 _ _ nfd hf
      have sT := D'.sameT b10
      have sU : SameT H10 (upd H10 fl (.lst (xs ++ [x]))) := SameT.updL (.refl _) hf10
      refine ⟨hf10, bs ++ [st], xs ++ [x], some (.int (0 + i)), rfl, fun b o n1 e => ?_, D10.upd nfd offl, upd_same, ?_, ?_, by rw [List.length_append, List.length_singleton]; omega⟩
      · rw [upd_ne (ne_of_none e hfl)]
        exact b10 _ _ n1 (bt _ _ n1 e)
      · rw [encSs_map, List.map_append, ← encSs_map]
        exact ((hx.mono sT).mono sU).snoc (hx10.mono sU)
      · intro y hy
        rcases List.mem_append.mp hy with hy | hy
        · exact hok y hy
        · rw [List.mem_singleton] at hy
          subst hy
          exact ⟨ok10, si10⟩
    refine ⟨_, rfl, .inl ⟨rfl, _, SqL.of hf⟩, ?_⟩
    refine (evi_eq (K := K) (S := S) (d := d) (evi_next (i := 0) (n := 2) rfl) evi_int) _ D' _ fun bb H8 b8 D8 => ?_
    by_cases hbb : bb = true
    · rw [if_pos hbb]
      refine ⟨by show 1 ≤ sizeLine; decide, fun p o hp ho => ?_⟩
      have s10 := same_new hp (.frz o (.tup [.str (Str.ofString "take")]))
      obtain ⟨g1, g2⟩ := fin (st := .take) (x := .ref p) (b8.trans (But.of s10)) (D8.same s10) (.tup (.new ho) (.cons (.str _) .nil)) trivial rfl
      exact ⟨fl, xs, .ref p, rfl, rfl, g1, small_lt (by omega), g2⟩
    · rw [if_neg hbb]
      refine (evi_op (K := K) (S := S) (d := d) (g := fun i j => i - j) (evi_next (i := 0) (n := 4) rfl) (evi_int (i := 1))) _ D8 _ fun z2 H9 b9 D9 hz2 => ?_
      obtain ⟨j, _, ⟨j0, j4⟩, rfl, rfl⟩ := hz2
      refine ⟨by show 2 ≤ sizeLine; decide, fun p o hp ho => ?_⟩
      have s10 := same_new hp (.frz o (.tup [.str (Str.ofString "put"), .int (j - 1)]))
      obtain ⟨g1, g2⟩ := fin (st := .put (j - 1)) (x := .ref p) ((b8.trans b9).trans (But.of s10)) (D9.same s10) (.tup (.new ho) (.cons (.str _) (.cons (.int _) .nil))) (by show -999 ≤ j - 1 ∧ j - 1 ≤ 999; omega) rfl
      exact ⟨fl, xs, .ref p, rfl, rfl, g1, small_lt (by omega), g2⟩
  · rintro σ H' ⟨bs, xs, u, rfl, bt, D', hf, hx, hok, hlen⟩
    refine sd_go (sd_ret (K := K) (d := encW bs) (evd_tupV (i := 2) rfl hf hx) fun v H3 s3 h3 => ?_)
    exact q v bs H3 (bt.trans (But.of s3)) (D'.same s3) ⟨fun s hs => (hok s hs).2, okSs_of fun s hs => (hok s hs).1, by omega⟩ h3
end
end Lo
set_option Elab.async false
set_option linter.all false
set_option maxRecDepth 100000
set_option maxHeartbeats 8000000
/-! a store, drawn -/
namespace Lo
open PySem PySem.Spec PyProof.Rows L2
def spStore (K : PySem.W.Frag) : Sp := fun vs H Q _ => ∃ (S : Scp) (d : Addr), vs = [.ref d, .int 1000000000000000000] ∧ DiceAt K S H d ∧ ∀ (x : V) (h : Hl) (H' : Hp), But d H H' → DiceAt K S H' d → CanH 1000000 h → Tp K H' x (encH h) → Q x H'
structure GrowH (l : Hl) : Prop where
  nd : (l.map (·.1)).Nodup
  near : ∀ p ∈ l, -1000000 ≤ p.1 ∧ p.1 ≤ 1000000
  cnt : ∀ p ∈ l, 1 ≤ p.2 ∧ p.2 ≤ 1000000000000000000
theorem GrowH.put {l : Hl} (g : GrowH l) {n c : Int} (h1 : -1000000 ≤ n ∧ n ≤ 1000000) (h2 : 1 ≤ c ∧ c ≤ 1000000000000000000) : GrowH (putI l n c) := by
  refine ⟨nodup_put g.nd n c, fun p hp => ?_, fun p hp => ?_⟩
  · unfold putI at hp
    split at hp
    · obtain ⟨z, hz, rfl⟩ := List.mem_map.mp hp
      split
      · exact g.near z hz
      · exact g.near z hz
    · rcases List.mem_append.mp hp with hp | hp
      · exact g.near p hp
      · rw [List.mem_singleton] at hp
        subst hp
        exact h1
  · unfold putI at hp
    split at hp
    · obtain ⟨z, hz, rfl⟩ := List.mem_map.mp hp
      split
      · exact h2
      · exact g.cnt z hz
    · rcases List.mem_append.mp hp with hp | hp
      · exact g.cnt p hp
      · rw [List.mem_singleton] at hp
        subst hp
        exact h2
theorem put_len (l : Hl) (n c : Int) : (putI l n c).length ≤ l.length + 1 := by
  unfold putI
  split
  · rw [List.length_map]
    omega
  · rw [List.length_append, List.length_singleton]
    exact Nat.le_refl _
/-- what the sorted dict tells -/
theorem GrowH.can {l : Hl} (g : GrowH l) (hl : l.length ≤ 40) {ys : List Int} (pm : ys.Perm (l.map (·.1))) (sr : ys.Pairwise (· ≤ ·)) : CanH 1000000 (ys.map fun n => (n, (lookI l n).getD 0)) := by
  have nd : ys.Nodup := pm.nodup_iff.mpr g.nd
  have mem : ∀ n ∈ ys, ∃ c, (n, c) ∈ l ∧ lookI l n = some c := by
    intro n hn
    obtain ⟨p, hp, rfl⟩ := List.mem_map.mp (pm.mem_iff.mp hn)
    cases e : lookI l p.1 with
    | some c => exact ⟨c, look_some e, rfl⟩
    | none =>
      unfold lookI at e
      rw [Option.map_eq_none_iff, List.find?_eq_none] at e
      exact absurd (decide_eq_true (rfl : p.1 = p.1)) (e p hp)
  refine ⟨?_, fun p hp => ?_, fun p hp => ?_, ?_⟩
  · rw [List.pairwise_map]
    have nd' : ys.Pairwise (fun a b => a ≠ b) := nd
    exact (List.pairwise_and_iff.mpr ⟨sr, nd'⟩).imp fun h => by
      obtain ⟨h1, h2⟩ := h
      show _ < _
      omega
  · obtain ⟨n, hn, rfl⟩ := List.mem_map.mp hp
    obtain ⟨c, hc, _⟩ := mem n hn
    exact g.near (n, c) hc
  · obtain ⟨n, hn, rfl⟩ := List.mem_map.mp hp
    obtain ⟨c, hc, e⟩ := mem n hn
    show 1 ≤ (lookI l n).getD 0 ∧ (lookI l n).getD 0 ≤ _
    rw [e]
    exact g.cnt (n, c) hc
  · rw [List.length_map, pm.length_eq, List.length_map]
    exact hl
section
variable {P : Program} {w : World} {K : PySem.W.Frag} {mg : Str → Option Value} {base : Heap} {f d : Addr} {fd : FuncData} {σ : L2.St}
theorem evi_number {S : Scp} {i : Nat} (hv : σ[i]? = some (some (.ref d))) : EvI K S d (tCall (spNumber K) [] E0 (tCons (tVar i) tNil)) σ (fun k => -999 ≤ k ∧ k ≤ 999) := fun H D Q q => ⟨_, hv, S, d, rfl, D, fun k H' a b bt D' => q k H' bt D' ⟨a, b⟩⟩
theorem evi_intB {S : Scp} {ta tb : TE} {P1 P2 : Int → Prop} (ha : EvI K S d ta σ P1) (hb : EvI K S d tb σ P2) : EvI K S d (tCB rInt1 (tCons (tOp rEq ta tb) tNil)) σ (fun k => 0 ≤ k ∧ k < 2) := fun H D Q q =>
  ha H D _ fun i H1 b1 D1 p1 => hb H1 D1 _ fun j H2 b2 D2 p2 => (opd_eqI (K := K) (H := H2)) H2 (Same.refl H2) _ _ (.int i) (.int j) _ fun v H3 s3 hv => by
    obtain rfl := hv.bl_inv
    exact .inr ⟨_, rfl, q _ H3 ((b1.trans b2).trans (But.of s3)) (D2.same s3) (by constructor <;> split <;> decide)⟩
theorem scStore : FnScope ["_law_d", "_law_far", "_law_found", "_law_k", "_law_number_here"] ["_law_d", "_law_far"] (defScope sStore) := ⟨rfl, rfl, rfl, by decide +kernel, rfl, by decide +kernel, by decide +kernel⟩
theorem ok_store (F : Fun K "_law_store" "_law_store" sStore f fd) (T : Txt K mg) (cN : Callee P w K mg base 1 "_law_next" ["_law_dice_here", "_law_many"] (spNext K)) (cNum : Callee P w K mg base 2 "_law_number" ["_law_d"] (spNumber K)) : FnOk P w K mg base CX0 3 f fd ["_law_d", "_law_far"] (spStore K) := by
  refine F.ok scStore (fun vs H Q E ⟨S, d, e, _⟩ => by rw [e]; rfl) (fun cdv A outer s H vs Q E hr h => ?_)
  obtain ⟨S, d, rfl, D, q⟩ := h
  have nd := scStore.nd
  have hu := hu_of hr
  refine ⟨_, pss_cons (ps_set (i := 2) nd rfl (Or.inr rfl) pe_dnewK)
    (pss_cons (ps_for PassesOwn.never rfl (pi_range1 rfl T.zRange (pa_cons (pe_cal cN hr (pa_cons (pv 0) (pa_cons (pe_ix ix_list (pe_lst (pa_cons pe_int (pa_cons pe_int pa_nil))) (pe_cal cN hr (pa_cons (pv 0) (pa_cons pe_int pa_nil))) (fun _ _ => rfl)) pa_nil))) pa_nil)) (pg_name (i := 3) nd rfl (Or.inl rfl))
      (pss_cons (ps_set (i := 4) nd rfl (Or.inl rfl) (pe_ix ix_list (pe_lst (pa_cons (pe_cal cNum hr (pa_cons (pv 0) pa_nil)) (pa_cons (pe_op op_sub (pe_cal cN hr (pa_cons (pv 0) (pa_cons pe_int pa_nil))) pe_int) pa_nil)))
          (pe_callTy call_int1 (by rfl) T.zInt (by decide +kernel) (pa_cons (pe_cmpR op_eq (pe_cal cN hr (pa_cons (pv 0) (pa_cons pe_int pa_nil))) pe_int (nomark _)) pa_nil)) (fun _ _ => rfl)))
      (pss_one (ps_dput hu (pv 2) (pv 4) (pe_op op_add pe_int (pe_cal cN hr (pa_cons (pv 0) (pa_cons (pe_ix ix_list (pe_lst (pa_cons pe_int (pa_cons pe_int (pa_cons (pv 1) pa_nil)))) (pe_cal cN hr (pa_cons (pv 0) (pa_cons pe_int pa_nil))) (fun _ _ => rfl)) pa_nil)))) rfl))))
    (pss_one (ps_ret (pe_callTy cr_tupleP (by rfl) T.zTuple (by decide +kernel) (pa_cons
      (pe_lc (own := [("_law_number_here", 4)]) (g := gName 4) (tt := tYes) (te := tTupP (tCons (tVar 4) (tCons (tDGet (tVar 2) (tVar 4)) tNil))) rfl nd (pi_list (pe_callB (call_sortedDI rfl) (by rfl) T.zSorted (by decide +kernel) (pa_cons (pv 2) pa_nil))) (blkOk_by (N := ["_law_d", "_law_far", "_law_found", "_law_k", "_law_number_here"]) (sc := defScope sStore) (by decide +kernel))
        (fun _ _ _ _ _ => pg_name (i := 4) nd rfl (Or.inl rfl)) (fun _ _ _ _ _ => pts_nil) (fun _ _ _ _ _ => pe_tupP (pa_cons (pv 4) (pa_cons (pe_dget hu (pv 2) (pv 4) (fun _ _ => rfl)) pa_nil)))) pa_nil))))), ?_⟩
  have far : (1000000000000000000 : Int) < 2 ^ 64 := by decide
  refine sd_seq (fun fl hfl => ?_)
  have sn := same_new hfl (.dK [])
  have nfd := dice_fresh D hfl
  have offl := off_fresh D hfl
  refine sd_go (sd_seq ?_)
  refine (evi_nextE (K := K) (S := S) (d := d) (i := 0) (Pk := fun k => 0 < k ∧ k ≤ 9) rfl (evi_ix (n := 2) (by decide) (evi_cons ((evi_int (i := 4)).imp fun k e => by subst e; decide) (evi_cons ((evi_int (i := 9)).imp fun k e => by subst e; decide) evi_nil)) ((evi_next (n := 2) rfl).imp fun k h => ⟨h.1, h.2⟩)) fun k h => ⟨h.1, by omega⟩) _ (D.same sn) _ fun z H2 b2 D2 hz => ?_
  obtain ⟨n0, ⟨_, n9⟩, z0, zn⟩ := hz
  refine ⟨_, rfl, by omega, by omega, ?_⟩
  refine for_range (D := _) (lo := 0) (n := z.toNat) (fun i σ H' => ∃ (l : Hl) (u3 u4 : Option V), σ = [some (.ref d), some (.int 1000000000000000000), some (.ref fl), u3, u4] ∧ But d H H' ∧ DiceAt K S H' d ∧ H' fl = some (.dK (kvI l)) ∧ GrowH l ∧ l.length ≤ i)
    ⟨[], none, none, rfl, (But.of sn).trans b2, D2, b2 _ _ nfd upd_same, ⟨List.nodup_nil, fun p hp => (by cases hp), fun p hp => (by cases hp)⟩, Nat.le_refl _⟩ ?_ ?_
  · rintro i σ H' hi ⟨l, u3, u4, rfl, bt, D', hf, g, hlen⟩
    refine sd_seq ?_
    refine (evi_ix (K := K) (S := S) (d := d) (Pk := fun k => -1000000 ≤ k ∧ k ≤ 1000000) (n := 2) (by decide) (evi_cons ((evi_number (i := 0) rfl).imp fun k h => by omega) (evi_cons ((evi_op (g := fun i j => i - j) (evi_next (i := 0) (n := 2000001) rfl) (evi_int (i := 1000000))).imp fun k ⟨x, y, ⟨h1, h2⟩, e1, e2⟩ => by subst e1; subst e2; omega) evi_nil))
      ((evi_intB (evi_next (i := 0) (n := 6) rfl) (evi_int (i := 5))).imp fun k h => ⟨h.1, h.2⟩)) _ D' _ fun nn H3 b3 D3 hn => ?_
    refine sd_go ?_
    refine (evi_op (K := K) (S := S) (d := d) (g := fun i j => i + j) (evi_int (i := 1)) (evi_nextE (i := 0) (Pk := fun k => 0 < k ∧ k ≤ 1000000000000000000) rfl (evi_ix (n := 3) (by decide) (evi_cons ((evi_int (i := 3)).imp fun k e => by subst e; decide) (evi_cons ((evi_int (i := 3)).imp fun k e => by subst e; decide) (evi_cons ((evi_var (i := 1) rfl).imp fun k e => by subst e; decide) evi_nil))) ((evi_next (i := 0) (n := 3) rfl).imp fun k h => ⟨h.1, h.2⟩)) fun k h => ⟨h.1, by omega⟩)) _ D3 _ fun cc H4 b4 D4 hc => ?_
    obtain ⟨_, y, rfl, ⟨n2, ⟨_, m2⟩, y0, yn⟩, rfl⟩ := hc
    have hf4 := b4 _ _ nfd (b3 _ _ nfd hf)
    refine ⟨_, rfl, _, rfl, fl, _, rfl, DPut.k (k := Sum.inl nn) hf4 (by rw [kvI_len]; exact small_lt (by omega)), ?_⟩
    rw [putK_kvI]
    refine ⟨putI l nn (1 + y), some (.int (0 + i)), some (.int nn), rfl, fun b o nb e => ?_, D4.upd nfd offl, upd_same, g.put hn (by omega), Nat.le_trans (put_len l nn (1 + y)) (by omega)⟩
    rw [upd_ne (ne_of_none e hfl)]
    exact b4 _ _ nb (b3 _ _ nb (bt _ _ nb e))
  · rintro σ H' ⟨l, u3, u4, rfl, bt, D', hf, g, hlen⟩
    refine sd_go ?_
    refine ⟨_, rfl, fl, kvI l, l.map (·.1), rfl, .of hf, by unfold kvI; rw [List.map_map, List.map_map]; rfl, by rw [List.length_map]; omega, fun ys p pm sr hp => ?_⟩
    have can := g.can (by omega) pm sr
    have sp := same_new hp (.lst (ys.map V.int))
    have yl : ys.length = l.length := by rw [pm.length_eq, List.length_map]
    refine ⟨p, rfl, ⟨_, .of upd_same⟩, fun D2 hD2 => ?_⟩
    have sD := same_new hD2 (.lst [])
    refine lc_list (K := K) (a := p) (xs := ys.map V.int) (fun i Hc => Same (upd H' p (.lst (ys.map V.int))) Hc ∧ ∃ acc, Hc D2 = some (.lst acc) ∧ TpAll K Hc acc (((ys.take i).map fun n => (n, (lookI l n).getD 0)).map encP) ∧ acc.length ≤ i) ⟨sD, [], upd_same, .nil, Nat.le_refl _⟩ (fun i Hc _ z => .of (z.1 _ _ upd_same)) ?_ ?_
    · rintro i x Hc hx ⟨sc, acc, hacc, hT, hal⟩
      rw [List.getElem?_map] at hx
      obtain ⟨n, hn, rfl⟩ := Option.map_eq_some_iff.mp hx
      have hiy : i < ys.length := (List.getElem?_eq_some_iff.mp hn).1
      obtain ⟨pr, hpr, epr⟩ := List.mem_map.mp (pm.mem_iff.mp (List.mem_of_getElem? hn))
      obtain ⟨c, ec⟩ : ∃ c, lookI l n = some c := by
        cases e : lookI l n with
        | some c => exact ⟨c, rfl⟩
        | none =>
          unfold lookI at e
          rw [Option.map_eq_none_iff, List.find?_eq_none] at e
          exact absurd (decide_eq_true epr) (e pr hpr)
      have hfc := sc _ _ (sp _ _ hf)
      have gg := DGet.k (k := Sum.inl n) hfc
      rw [valV_kvI, ec] at gg
      refine ⟨rfl, tyes_go (iteT ?_)⟩
      refine ⟨_, rfl, _, rfl, _, rfl, fl, .int c, rfl, gg, by show 2 ≤ sizeLine; decide, fun p2 o hp2 ho => ⟨acc, ?_, small_lt (by omega), ?_⟩⟩
      · exact same_new hp2 _ _ _ hacc
      · have s2 := same_new hp2 (.frz o (.tup [.int n, .int c]))
        have sU : SameT (upd Hc p2 (.frz o (.tup [.int n, .int c]))) (upd (upd Hc p2 (.frz o (.tup [.int n, .int c]))) D2 (.lst (acc ++ [.ref p2]))) := SameT.updL (.refl _) (s2 _ _ hacc)
        refine ⟨same_mut (sc.trans s2) hD2 _, acc ++ [.ref p2], upd_same, ?_, by rw [List.length_append, List.length_singleton]; omega⟩
        rw [List.map_map, map_more hn]
        rw [List.map_map] at hT
        refine ((hT.same s2).mono sU).snoc ?_
        have : Tp K (upd Hc p2 (.frz o (.tup [.int n, .int c]))) (.ref p2) (encP (n, c)) := .tup (.new ho) (.cons (.int _) (.cons (.int _) .nil))
        rw [show ((encP ∘ fun n => (n, (lookI l n).getD 0)) n) = encP (n, c) by show encP (n, (lookI l n).getD 0) = _; rw [ec]; rfl]
        exact this.mono sU
    · rintro Hc ⟨sc, acc, hacc, hT, _⟩
      rw [List.length_map, List.take_length] at hT
      refine ⟨D2, acc, rfl, .inl ⟨.of hacc, fun p2 o hp2 ho => ?_⟩⟩
      have s2 := same_new hp2 (.frz o (.tup acc))
      exact q _ _ _ (bt.trans (But.of ((sp.trans sc).trans s2))) (D'.same ((sp.trans sc).trans s2)) can (.tup (.new ho) (hT.same s2))
end
end Lo
set_option Elab.async false
set_option linter.all false
set_option maxRecDepth 100000
set_option maxHeartbeats 8000000
/-! lambdas that outlive their maker: the making -/
namespace Lo
open PySem PySem.Spec PyProof.Rows L2 LamX NdefX
/-- a lambda: its words, the cells that it captured, its defaults, its code object -/
structure LF where
  qual : Str
  params : Arguments
  body : Expr
  scope : Scope
  cl : List (Str × Addr)
  dV : Value
  c : Addr
abbrev LF.fd (F : LF) (doc pm ctv : Value) : FuncData := PySem.W.kdv_fn "<lambda>" F.qual F.params (.expr F.body) F.scope F.cl F.dV doc pm (.ref F.c) ctv
def LamO (f : Addr) (F : LF) : HO := .ext fun h => ∃ (od : Option Addr) (sl : Array (Option Value)) (doc pm ctv : Value), h.get? f = some (⟨.type "function", od, .func (F.fd doc pm ctv), sl⟩ : Obj)
theorem lamO_at {P : Program} {w : World} {H : Hp} {h : Heap} {f : Addr} {F : LF} (hok : HOk P w H h) (e : H f = some (LamO f F)) : ∃ (od : Option Addr) (sl : Array (Option Value)) (doc pm ctv : Value), h.get? f = some (⟨.type "function", od, .func (F.fd doc pm ctv), sl⟩ : Obj) := by
  obtain ⟨z, _, _⟩ := hok f _ e
  exact z
section
variable {X : Cx} {pins : List (Addr × Obj)} {σ : L2.St} {H : Hp} {s : Shared}
theorem inv_lam {F : LF} {o : Obj} {t' : Nat} {doc pm ctv : Value} (I : Inv X pins σ H s) (ho : o = { cls := .type "function", data := .func (F.fd doc pm ctv) }) :
    Inv X pins σ (upd H s.heap.objs.size (LamO s.heap.objs.size F)) { s with heap := s.heap.push o, toks := t' } := by
  subst ho
  refine I.laid (a := s.heap.objs.size) (fun b u e => Heap.get?_push_of_some _ e) (Nat.le_refl _) ?_
  have e : (s.heap.push ({ cls := .type "function", data := .func (F.fd doc pm ctv) } : Obj)).get? s.heap.objs.size = some ({ cls := .type "function", data := .func (F.fd doc pm ctv) } : Obj) := Heap.get?_push_size _ rfl
  exact ⟨⟨_, _, doc, pm, ctv, e⟩, ⟨_, e⟩, fun h1 h2 ⟨od, sl, d, p, t, z⟩ st => ⟨od, sl, d, p, t, st _ z⟩⟩
theorem lam_tail {T : List NTab} {nm : Nat → Nat → Str} {c P : Addr} {params : Arguments} {body : Expr} {scope : Scope} {pos : Pos} {dV : Value} {E : Value → Shared → Prop} {Q : Value → Shared → Prop} (I : Inv X pins σ H s) (TB : TabB X.base X.mg c P) (hcode : X.env.code = .ref c)
    (hm : (P, nm) ∈ T) (hn : nm pos.line pos.col = X.env.qual ++ "<lambda>") (hu : ∀ p ∈ T, p.1 = P → p.2 = nm) (hT : TabsN T H) (hfree : ∀ y ∈ scope.names, y.2 = .free → ∃ c, X.env.cells.lookup y.1 = some c)
    (h : ∀ (f c' : Addr) (H1 : Hp) (s' : Shared), Inv X pins σ H1 s' → ExtN H H1 → (∀ b, H1 b = Option.none → H b = Option.none) → TabsN T H1 → H f = none → H1 f = some (LamO f ⟨X.env.qual ++ "<lambda>", params, body, scope, cloFrom X.env.cells scope.names [], dV, c'⟩) → H1 c' = some (CodeO c' (X.env.qual ++ "<lambda>")) → Q (.ref f) s') :
    wpAny (model X.prog X.w) X.A (makeTail "<lambda>" (X.env.qual ++ "<lambda>") params (.expr body) scope X.env dV .none none pos pos.line) Q E s := by
  obtain ⟨ps, hP, ht, ha⟩ := (show TabN H P nm from hT _ hm)
  have bP : s.heap.BuiltinsAt X.mg P := TB.bm.keeps I.bk
  have hP' : s.heap.get? P = some { cls := .none, data := .fields ps } := I.hok P _ hP
  cases hc : codeAmong pos ps.toList with
  | none =>
    refine PySem.W.kdv_makeTail (mg := X.mg) (c := c) (P := P) (ps := ps) (closure_ok hfree) I.ok.glob (I.mod.glob.keeps I.bk) hcode (TB.code.keeps I.bk) hP' ht hc TB.gP bP fun c' ctv doc h' tk hx hge hlt hrec htb => ?_
    obtain ⟨c2, oc, vs, t, e2, hoc, hd, hv⟩ := hrec
    cases e2
    have nC : H c' = none := I.hok.fresh hge
    have I1 := inv_table (t' := tk) (more := #[rawInt pos.line, rawInt pos.col, .ref c']) (h' := h') I hP (fun b o hb e => hx b o hb e) htb hge ⟨oc, vs, t, hoc, hd, hv⟩
    have hE : ExtN H (upd (upd H P (.tbl (ps ++ #[rawInt pos.line, rawInt pos.col, .ref c']))) c' (CodeO c' (X.env.qual ++ "<lambda>"))) := fun b o e n => by
      rw [upd_ne (ne_of_none e nC), upd_ne (fun z => n ps (Option.some.inj (e.symm.trans (by rw [z]; exact hP))))]
      exact e
    have eL : (ps ++ #[rawInt pos.line, rawInt pos.col, .ref c']).toList = ps.toList ++ [rawInt pos.line, rawInt pos.col, .ref c'] := by simp
    have T1 : TabsN T (upd (upd H P (.tbl (ps ++ #[rawInt pos.line, rawInt pos.col, .ref c']))) c' (CodeO c' (X.env.qual ++ "<lambda>"))) := fun p hp => by
      by_cases hb : p.1 = P
      · rw [hu p hp hb, hb]
        refine ⟨_, by rw [upd_ne (ne_of_none hP nC), upd_same], by rw [eL]; exact PySem.TriplesOk_snoc _ _ _ _ ht, fun p' cv hcv => ?_⟩
        rw [eL] at hcv
        rcases among_app2 _ ht hcv with z | ⟨z, z1, z2⟩
        · obtain ⟨c0, e1, e2⟩ := ha p' cv z
          exact ⟨c0, e1, hE _ _ e2 codeO_ne⟩
        · refine ⟨c', z, ?_⟩
          rw [← z1, ← z2, hn]
          exact upd_same
      · obtain ⟨ps', a1, a2, a3⟩ := hT p hp
        refine ⟨ps', by rw [upd_ne (ne_of_none a1 nC), upd_ne hb]; exact a1, a2, fun p' cv hcv => ?_⟩
        obtain ⟨c0, e1, e2⟩ := a3 p' cv hcv
        exact ⟨c0, e1, hE _ _ e2 codeO_ne⟩
    have nF := I1.hok.fresh (Nat.le_refl _)
    have I2 := inv_lam (F := ⟨X.env.qual ++ "<lambda>", params, body, scope, cloFrom X.env.cells scope.names [], dV, c'⟩) (t' := tk) (doc := doc) (pm := (X.mg "__name__").getD .none) (ctv := ctv) I1 rfl
    refine h h'.objs.size c' _ _ I2 (fun b o e n => ?_) (fun b e => NdefX.upd_none (NdefX.upd_none (NdefX.upd_none e))) (T1.ext fun b o e => ?_) (I.hok.fresh (Nat.le_trans hge (Nat.le_of_lt hlt))) upd_same ?_
    · have e1 := hE b o e n
      exact (upd_ne (ne_of_none e1 nF)).trans e1
    · exact (upd_ne (ne_of_none e nF)).trans e
    · exact (upd_ne (Nat.ne_of_lt hlt)).trans upd_same
  | some cv =>
    obtain ⟨c', e, hco⟩ := ha pos cv hc
    subst e
    rw [hn] at hco
    refine PySem.W.kdv_makeTailHit (mg := X.mg) (c := c) (P := P) (ps := ps) (closure_ok hfree) I.ok.glob (I.mod.glob.keeps I.bk) hcode (TB.code.keeps I.bk) hP' ht hc bP fun ctv doc h' tk hx hsz => ?_
    have I1 : Inv X pins σ H { s with heap := h', toks := tk } := I.kept hx
    have nF : H h'.objs.size = none := I1.hok.fresh (Nat.le_refl _)
    have I2 := inv_lam (F := ⟨X.env.qual ++ "<lambda>", params, body, scope, cloFrom X.env.cells scope.names [], dV, c'⟩) (t' := tk) (doc := doc) (pm := (X.mg "__name__").getD .none) (ctv := ctv) I1 rfl
    refine h h'.objs.size c' _ _ I2 (fun b o e n => ?_) (fun b e => NdefX.upd_none e) (hT.ext fun b o e => ?_) nF upd_same ?_
    · exact (upd_ne (ne_of_none e nF)).trans e
    · exact (upd_ne (ne_of_none e nF)).trans e
    · exact (upd_ne (ne_of_none hco nF)).trans hco
/-- a lambda without defaults -/
def tLam0 (T : List NTab) (mk : Addr → LF) : TE := fun σ H Q => TabsN T H ∧ ∀ (f c' : Addr) (H1 : Hp), ExtN H H1 → (∀ b, H1 b = none → H b = none) → TabsN T H1 → H f = none → H1 f = some (LamO f (mk c')) → H1 c' = some (CodeO c' (mk c').qual) → Q (.ref f) H1
/-- a lambda with one default, 0 -/
def tLam1 (T : List NTab) (mk : Addr → Addr → LF) : TE := fun σ H Q => TabsN T H ∧ ∀ (f t c' : Addr) (H1 : Hp), ExtN H H1 → (∀ b, H1 b = none → H b = none) → TabsN T H1 → H f = none → H1 f = some (LamO f (mk t c')) → H1 t = some (.tup [.int 0]) → H1 c' = some (CodeO c' (mk t c').qual) → Q (.ref f) H1
theorem pe_lam0 {T : List NTab} {nm : Nat → Nat → Str} {c P : Addr} {params : Arguments} {body : Expr} {scope : Scope} {pos : Pos} (TB : TabB X.base X.mg c P) (hcode : X.env.code = .ref c) (hm : (P, nm) ∈ T) (hn : nm pos.line pos.col = X.env.qual ++ "<lambda>") (hu : ∀ p ∈ T, p.1 = P → p.2 = nm)
    (hfree : ∀ y ∈ scope.names, y.2 = .free → X.env.scope.names.lookup y.1 = some .cell ∨ X.env.scope.names.lookup y.1 = some .free) (hdef : defaultsOf params X.env = ([], [])) :
    PE X (.Lambda params body scope pos) (tLam0 T fun c' => ⟨X.env.qual ++ "<lambda>", params, body, scope, cloFrom X.env.cells scope.names [], .none, c'⟩) := by
  refine ⟨fun pins s σ H Q I h => ?_⟩
  obtain ⟨hT, h⟩ := h
  have hfr : ∀ y ∈ scope.names, y.2 = .free → ∃ c, X.env.cells.lookup y.1 = some c := fun y hy e => (hfree y hy e).elim (fun z => I.ok.has _ (.inl z)) fun z => I.ok.has _ (.inr z)
  refine PySem.W.kla_eval hdef ?_
  rw [makeFunction_eq]
  simp only [List.zip_nil_right, List.filterMap_nil, List.isEmpty_nil, if_true, pure_bind]
  exact lam_tail I TB hcode hm hn hu hT hfr fun f c' H1 s' I1 eN nn T1 f0 f1 c1 => ⟨.ref f, H1, I1, rfl, h f c' H1 eN nn T1 f0 f1 c1⟩
theorem pe_lam1 {T : List NTab} {nm : Nat → Nat → Str} {c P : Addr} {params : Arguments} {body : Expr} {scope : Scope} {pos : Pos} {k0 : Nat} {p0 : Pos} (TB : TabB X.base X.mg c P) (hcode : X.env.code = .ref c) (hm : (P, nm) ∈ T) (hn : nm pos.line pos.col = X.env.qual ++ "<lambda>") (hu : ∀ p ∈ T, p.1 = P → p.2 = nm)
    (hfree : ∀ y ∈ scope.names, y.2 = .free → X.env.scope.names.lookup y.1 = some .cell ∨ X.env.scope.names.lookup y.1 = some .free) (hd : params.defaults = [.Constant (.int 0) k0 p0]) (hk0 : params.kw_defaults = []) :
    PE X (.Lambda params body scope pos) (tLam1 T fun t c' => ⟨X.env.qual ++ "<lambda>", params, body, scope, cloFrom X.env.cells scope.names [], .ref t, c'⟩) := by
  refine ⟨fun pins s σ H Q I h => ?_⟩
  obtain ⟨hT, h⟩ := h
  have hfr : ∀ y ∈ scope.names, y.2 = .free → ∃ c, X.env.cells.lookup y.1 = some c := fun y hy e => (hfree y hy e).elim (fun z => I.ok.has _ (.inl z)) fun z => I.ok.has _ (.inr z)
  refine PySem.W.kdv_lam (by rw [hd]; rfl) hk0 ?_
  rw [hd]
  refine PySem.W.kdv_all1 (thn ((pe_int (X := X)).run pins s σ H (fun v H1 => v = .int 0 ∧ H1 = H) I ⟨rfl, rfl⟩) fun u s1 ⟨v, H1, I1, r1, q1⟩ => PySem.W.kdv_all0 ?_)
  obtain ⟨rfl, rfl⟩ := q1
  rw [makeFunction_eq]
  simp only [List.zip_nil_right, List.filterMap_nil, List.isEmpty_nil, if_true, pure_bind, List.isEmpty_cons, Bool.false_eq_true, if_false]
  refine wpAny_bind (wpAny_newTextTuple ?_)
  have ht : H1 s1.heap.objs.size = none := I1.hok.fresh (Nat.le_refl _)
  have e : (s1.heap.push ({ cls := .type "tuple", data := .seq [u].toArray } : Obj)).get? s1.heap.objs.size = some ({ cls := .type "tuple", data := .seq [u].toArray } : Obj) := Heap.get?_push_size _ rfl
  have I2 : Inv X pins σ (upd H1 s1.heap.objs.size (.tup [.int 0])) { s1 with heap := s1.heap.push { cls := .type "tuple", data := .seq [u].toArray } } := I1.laid (t' := s1.toks) (a := s1.heap.objs.size) (fun b u e => Heap.get?_push_of_some _ e) (Nat.le_refl _) ⟨by decide, [u], .cons r1 .nil, ⟨_, e, rfl, _, rfl⟩⟩
  have sn := same_new ht (.tup [.int 0])
  refine lam_tail I2 TB hcode hm hn hu (hT.ext sn) hfr fun f c' H2 s' I3 eN nn T1 f0 f1 c1 => ⟨.ref f, H2, I3, rfl, h f s1.heap.objs.size c' H2 ((ExtN.of sn).trans eN) (fun b e => NdefX.upd_none (nn b e)) T1 (NdefX.upd_none f0) f1 (eN _ _ upd_same fun ps z => by cases z) c1⟩
end
end Lo
set_option Elab.async false
set_option linter.all false
set_option maxRecDepth 100000
set_option maxHeartbeats 8000000
/-! lambdas that outlive their maker: the call -/
namespace Lo
open PySem PySem.Spec PyProof.Rows L2 LamX NdefX
/-- a cell that nobody writes any more -/
def CellO (c : Addr) (v : V) : HO := .ext fun h => ∃ u, L2.RelV v u ∧ h.IsCell c (some u)
def hideC (cs : List Addr) (H : Hp) : Hp := fun b => if b ∈ cs then none else H b
def backC (cs : List Addr) (H H' : Hp) : Hp := fun b => if b ∈ cs then H b else H' b
def Cs (cs : List Addr) (H : Hp) : Prop := ∀ c ∈ cs, ∃ v, H c = some (CellO c v)
section
variable {P : Program} {w : World} {K : PySem.W.Frag} {mg : Str → Option Value} {base : Heap} {cs : List Addr} {A : Around} {outer : List Env} {s : Shared} {H H' : Hp}
theorem hide_in {b : Addr} (h : b ∈ cs) : hideC cs H b = none := if_pos h
theorem hide_out {b : Addr} (h : b ∉ cs) : hideC cs H b = H b := if_neg h
theorem back_in {b : Addr} (h : b ∈ cs) : backC cs H H' b = H b := if_pos h
theorem back_out {b : Addr} (h : b ∉ cs) : backC cs H H' b = H' b := if_neg h
theorem hide_none {b : Addr} (h : H b = none) : hideC cs H b = none := by
  unfold hideC
  split
  · rfl
  · exact h
theorem Cs.out (C : Cs cs H) {b : Addr} {o : HO} (h : H b = some o) (hn : ∀ v, o ≠ CellO b v) : b ∉ cs := fun hb => by
  obtain ⟨v, hv⟩ := C b hb
  rw [h] at hv
  exact hn v (Option.some.inj hv)
theorem Cs.outN (C : Cs cs H) {b : Addr} (h : H b = none) : b ∉ cs := fun hb => by
  obtain ⟨v, hv⟩ := C b hb
  rw [h] at hv
  cases hv
theorem cellO_own {c b : Addr} {v : V} : HO.own b ≠ CellO c v := fun e => by unfold CellO at e; cases e
theorem cellO_tup {c : Addr} {xs : List V} {v : V} : HO.tup xs ≠ CellO c v := fun e => by unfold CellO at e; cases e
theorem cellO_frz {c : Addr} {o : Obj} {u : HO} {v : V} : HO.frz o u ≠ CellO c v := fun e => by unfold CellO at e; cases e
theorem cellO_tbl {c : Addr} {ps : Array Value} {v : V} : HO.tbl ps ≠ CellO c v := fun e => by unfold CellO at e; cases e
theorem hide_hok (C : Cs cs H) {h : Heap} (x : HOk P w H h) : HOk P w (hideC cs H) h := fun a o e => by
  unfold hideC at e
  split at e
  · cases e
  · exact (x a o e).stay (fun b u _ q => q) (fun b q => (hide_out (C.out q fun v => cellO_own)).trans q) fun b xs q => (hide_out (C.out q fun v => cellO_tup)).trans q
theorem hide_env (C : Cs cs H) (e0 : Env0 P w K mg base A outer s H) : Env0 P w K mg base A outer s (hideC cs H) :=
  ⟨e0.frames, e0.mod, fun b o e => ⟨(e0.bs b o e).1, hide_none (e0.bs b o e).2⟩, e0.bsz, e0.funs, fun b hb => hide_none (e0.frf b hb), hide_hok C e0.hok, e0.bare⟩
/-- the cells of a heap that kept them -/
theorem back_hok (C : Cs cs H) {h B : Heap} (x : HOk P w H h) (y : HOk P w H' B) (n : ∀ c ∈ cs, H' c = none) (k : ∀ c ∈ cs, ∀ o, h.get? c = some o → B.get? c = some o) : HOk P w (backC cs H H') B := fun a o e => by
  by_cases ha : a ∈ cs
  · rw [back_in ha] at e
    obtain ⟨v, hv⟩ := C a ha
    have eo : o = CellO a v := Option.some.inj (e.symm.trans hv)
    subst eo
    obtain ⟨p, ⟨ob, eb⟩, st⟩ := x a _ e
    exact ⟨st h B p (k a ha), ⟨ob, k a ha ob eb⟩, st⟩
  · rw [back_out ha] at e
    have out : ∀ {b : Addr} {u : HO}, H' b = some u → backC cs H H' b = some u := fun {b u} q => by
      rw [back_out fun hb => by rw [n b hb] at q; cases q]
      exact q
    exact (y a o e).stay (fun b u _ q => q) (fun b q => out q) fun b xs q => out q
/-- what comes where the cells come back -/
def backQ (cs : List Addr) (H : Hp) (Q : VK) : VK := fun v H' => (∀ c ∈ cs, H' c = none) → Q v (backC cs H H')
def backE (cs : List Addr) (H : Hp) (E : XK) : XK := fun c d H' => (∀ c ∈ cs, H' c = none) → E c d (backC cs H H')
theorem ce_back (C : Cs cs H) (e0 : Env0 P w K mg base A outer s H) {Q : VK} {u : Value} {s' : Shared} (h : CE outer P w (hideC cs H) s (backQ cs H Q) u s') : CE outer P w H s Q u s' := by
  obtain ⟨v, H', os, bare, un, hok, rv, q⟩ := h
  have at_ : ∀ c ∈ cs, ∃ o, s.heap.get? c = some o := fun c hc => by
    obtain ⟨v, hv⟩ := C c hc
    obtain ⟨_, z, _⟩ := e0.hok c _ hv
    exact z
  have nf : ∀ c ∈ cs, c ∉ frs outer := fun c hc hf => C.outN (e0.frf c hf) hc
  have hn : ∀ c ∈ cs, H' c = none := fun c hc => by
    obtain ⟨o, ho⟩ := at_ c hc
    exact un.free c o ho (hide_in hc) (by simp)
  refine ⟨v, backC cs H H', os, bare, ⟨fun b o q n hb hx => un.keep b o q (hide_none n) hb hx, fun b o q n hb hx => un.slot b o q (hide_none n) hb hx, fun b o q n hx => ?_, un.there, fun b xs q => ?_, fun b o xs q => ?_, fun b ps q => ?_⟩, back_hok C e0.hok hok hn fun c hc o q => un.keep c o q (hide_in hc) (nf c hc) (by simp), rv, q hn⟩
  · rw [back_out (C.outN n)]
    exact un.free b o q (hide_none n) hx
  · have no := C.out q fun v => cellO_tup
    rw [back_out no]
    exact un.tups b xs ((hide_out no).trans q)
  · have no := C.out q fun v => cellO_frz
    rw [back_out no]
    exact un.frzs b o xs ((hide_out no).trans q)
  · have no := C.out q fun v => cellO_tbl
    rw [back_out no]
    exact un.tbls b ps ((hide_out no).trans q)
theorem cx_back (C : Cs cs H) (e0 : Env0 P w K mg base A outer s H) {E : XK} {u : Value} {s' : Shared} (h : L2.CX P w outer (hideC cs H) s (backE cs H E) u s') : L2.CX P w outer H s E u s' := by
  obtain ⟨a, B, H', cls, d, eu, fl, hok, un, ha, os, bare, q⟩ := h
  have at_ : ∀ c ∈ cs, ∃ o, s.heap.get? c = some o := fun c hc => by
    obtain ⟨v, hv⟩ := C c hc
    obtain ⟨_, z, _⟩ := e0.hok c _ hv
    exact z
  have nf : ∀ c ∈ cs, c ∉ frs outer := fun c hc hf => C.outN (e0.frf c hf) hc
  have hn : ∀ c ∈ cs, H' c = none := fun c hc => by
    obtain ⟨o, ho⟩ := at_ c hc
    exact un.free c o ho (hide_in hc)
  have na : a ∉ cs := fun hc => by
    obtain ⟨o, ho⟩ := at_ a hc
    have z := un.keep a o ho (hide_in hc) (nf a hc)
    rw [fl.2.1] at z
    cases z
  refine ⟨a, B, backC cs H H', cls, d, eu, fl, back_hok C e0.hok hok hn fun c hc o q => un.keep c o q (hide_in hc) (nf c hc), ⟨fun b o q n hb => un.keep b o q (hide_none n) hb, un.slot, fun b o q n => ?_, un.there, fun b xs q => ?_, fun b o xs q => ?_, fun b ps q => ?_⟩, by rw [back_out na]; exact ha, os, bare, q hn⟩
  · rw [back_out (C.outN n)]
    exact un.free b o q (hide_none n)
  · have no := C.out q fun v => cellO_tup
    rw [back_out no]
    exact un.tups b xs ((hide_out no).trans q)
  · have no := C.out q fun v => cellO_frz
    rw [back_out no]
    exact un.frzs b o xs ((hide_out no).trans q)
  · have no := C.out q fun v => cellO_tbl
    rw [back_out no]
    exact un.tbls b ps ((hide_out no).trans q)
abbrev LF.nf (F : LF) : NF := ⟨"<lambda>", F.qual, F.params, [], F.scope, F.cl, F.c⟩
/-- the lambda's call -/
theorem lam_run {F : LF} {f : Addr} {N ps fr : List Str} {k : Nat} {vs : List V} {us : List Value} {ws : List (Option V)} {Q : VK} {E : XK} {tb : TE} (S : NScope N ps fr F.scope) (hr : Room (k + 1) A) (e0 : Env0 P w K mg base A outer s H) (hf : H f = some (LamO f F)) (hc : H F.c = some (CodeO F.c F.qual))
    (hb : ∀ doc pm ctv, BindsTo s (F.fd doc pm ctv) ⟨[], []⟩ (ps.zip us)) (r : Vals vs us) (hl : vs.length = ps.length) (C : Cs cs H) (CA : CellsAt F.cl fr ws s.heap (hideC cs H))
    (hbody : Room k (A.deeper (envF F.nf f s.heap.objs.size)) → PE (ncx (L2.CX P w) P w K mg base N F.nf f A outer s (hideC cs H) (backE cs H E)) F.body tb) (ht : tb (startF N vs ws) (hideC cs H) (backQ cs H Q)) :
    codeAny (model P w) A (.call (.ref f) ⟨[], []⟩) (CR (L2.CX P w) outer P w H s Q E) s := by
  have lim : s.heap.NoLimit := e0.mod.nolimit.keeps fun b o e => (e0.bs b o e).1
  obtain ⟨od, sl, doc, pm, ctv, ho⟩ := lamO_at e0.hok hf
  refine PySem.W.kla_callFunE hr.depth ho rfl S.co S.gen rfl (codeO_at e0.hok hc) ?_
  refine hb doc pm ctv _ _ _ _ ?_
  refine wpAny_newFunctionEnv S.nocell (fun ⟨n, _⟩ hy => S.par n (List.of_mem_zip hy).1) (fun h₁ hns hsb => ⟨lim.fresh _ hsb, ?_⟩) S.kind
  show codeAny _ _ (.expr F.body (envF F.nf f s.heap.objs.size)) _ _
  have kp : ∀ b o, s.heap.get? b = some o → h₁.get? b = some o := fun b o e => hsb.extBut b o (Nat.ne_of_lt (Heap.lt_size e)) (Heap.get?_push_of_some _ e)
  have I : Inv (ncx (L2.CX P w) P w K mg base N F.nf f A outer s (hideC cs H) (backE cs H E)) [] (startF N vs ws) (hideC cs H) { s with heap := h₁, toks := s.toks + (ps.zip us).length } := inv_startN S hr.hd (hide_env C e0) hl r CA hns kp
  refine PySem.W.kla_codeExpr (wpAny_mono ((hbody (hr.deeper _)).run [] _ _ _ _ I ht) (fun v s' hq => ?_) fun e s' hq => ?_)
  · obtain ⟨v', H', J, rv, q⟩ := hq
    exact ce_back C e0 ⟨v', H', J.os, J.bare, J.base, J.hok, rv, q⟩
  · exact wpAny_mono hq (fun _ s'' z => cx_back C e0 z) fun e' s'' z => cx_back C e0 z
end
end Lo
set_option Elab.async false
set_option linter.all false
set_option maxRecDepth 100000
set_option maxHeartbeats 8000000
/-! lambdas that outlive their maker: the maker's end -/
namespace Lo
open PySem PySem.Spec PyProof.Rows L2 LamX NdefX
/-- the cells l are known from now on -/
def addC (l : List (Addr × V)) (H : Hp) : Hp := fun b => match l.lookup b with
  | some v => some (CellO b v)
  | none => H b
section
variable {P : Program} {w : World} {K : PySem.W.Frag} {mg : Str → Option Value} {base : Heap} {X : Cx} {pins : List (Addr × Obj)} {σ : L2.St} {H : Hp} {s : Shared} {l : List (Addr × V)}
theorem addC_in {H : Hp} {b : Addr} {v : V} (h : l.lookup b = some v) : addC l H b = some (CellO b v) := by
  unfold addC
  rw [h]
theorem addC_out {H : Hp} {b : Addr} (h : l.lookup b = none) : addC l H b = H b := by
  unfold addC
  rw [h]
theorem mem_look : ∀ {l : List (Addr × V)} {b : Addr} {v : V}, l.lookup b = some v → (b, v) ∈ l
  | [], _, _, h => by cases h
  | (c, z) :: l, b, v, h => by
    rw [List.lookup_cons] at h
    by_cases e : b == c
    · rw [e] at h
      have e2 : b = c := by simpa using e
      cases h
      rw [e2]
      exact List.mem_cons_self ..
    · rw [Bool.eq_false_iff.mpr e] at h
      exact List.mem_cons_of_mem _ (mem_look h)
theorem know_end (J : Inv X pins σ H s) (hl : ∀ p ∈ l, H p.1 = none ∧ X.s_0.heap.get? p.1 = none ∧ ∃ u, L2.RelV p.2 u ∧ s.heap.IsCell p.1 (some u)) : Un X.fs X.ex X.H_0 (addC l H) X.s_0.heap s.heap ∧ HOk X.prog X.w (addC l H) s.heap := by
  have keep : ∀ {b : Addr} {u : HO}, H b = some u → addC l H b = some u := fun {b u} e => by
    cases q : l.lookup b with
    | none => rw [addC_out q]; exact e
    | some v =>
      have := (hl (b, v) (mem_look q)).1
      rw [e] at this
      cases this
  have un := J.base
  refine ⟨⟨un.keep, un.slot, fun b o q n hx => ?_, un.there, fun b xs q => keep (un.tups b xs q), fun b o u q => keep (un.frzs b o u q), fun b ps q => ?_⟩, fun a o e => ?_⟩
  · cases z : l.lookup b with
    | none => rw [addC_out z]; exact un.free b o q n hx
    | some v =>
      have := (hl (b, v) (mem_look z)).2.1
      rw [q] at this
      cases this
  · obtain ⟨m, e⟩ := un.tbls b ps q
    exact ⟨m, keep e⟩
  · cases z : l.lookup a with
    | none =>
      rw [addC_out z] at e
      exact (J.hok a o e).stay (fun b u _ q => q) (fun b q => keep q) fun b xs q => keep q
    | some v =>
      rw [addC_in z] at e
      cases e
      obtain ⟨_, _, u, ru, oc, ho, hd⟩ := hl (a, v) (mem_look z)
      exact ⟨⟨u, ru, oc, ho, hd⟩, ⟨oc, ho⟩, fun h1 h2 ⟨u, r, o, e1, e2⟩ st => ⟨u, r, o, st o e1, e2⟩⟩
/-- statements whose end is told at the level of the states -/
def RunX (X : Cx) (rest : List Stmt) (Qf : Flow → Shared → Prop) (σ : L2.St) (H : Hp) : Prop := ∀ s, Inv X [] σ H s → wpAny (model X.prog X.w) X.A (execs rest X.env) Qf X.xe s
theorem runx_cons {st : Stmt} {rest : List Stmt} {t : TS} {Qf : Flow → Shared → Prop} (h1 : PS X st t) (h : t { nx := RunX X rest Qf, rt := fun _ _ => False } σ H) : RunX X (st :: rest) Qf σ H := fun s I => by
  refine wpAny_execs_cons (thn (h1.run [] s σ H _ I h) fun f s1 q => ?_)
  cases f with
  | next =>
    obtain ⟨σ', H', I', q⟩ := q
    exact q s1 I'
  | ret v =>
    obtain ⟨_, _, _, _, _, q⟩ := q
    exact False.elim q
  | brk =>
    obtain ⟨_, _, _, q⟩ := q
    exact False.elim q
  | cont =>
    obtain ⟨_, _, _, q⟩ := q
    exact False.elim q
theorem runx_ret {e : Expr} {te : TE} {pos : Pos} {Qf : Flow → Shared → Prop} (he : PE X e te) (h : te σ H fun v H1 => ∀ s' u, Inv X [] σ H1 s' → L2.RelV v u → Qf (.ret u) s') : RunX X [.Return (some e) pos] Qf σ H := fun s I => by
  refine wpAny_execs_cons (wpAny_Return_some (thn (he.run [] s σ H _ I h) fun u s1 ⟨v, H1, I1, r1, q1⟩ => ?_))
  exact q1 s1 u I1 r1
/-- a def by its body, told at the level of the states -/
theorem run_raw {CX : CXT} {k : Nat} {f : Addr} {name qual : Str} {params : Arguments} {body : List Stmt} {scope : Scope} {dV kV doc pm cdv ct oc : Value} {an od : Option Addr}
    {osl : Array (Option Value)} {N ps : List Str} (lk : K.lookup f = some ⟨oc, od, .func (PySem.W.fnOf name qual params body scope dV kV doc pm an cdv ct), osl⟩) (hcd : PySem.W.codeIn K cdv qual = true) (S : FnScope N ps scope)
    {A : Around} {outer : List Env} {args : Args} {us : List Value} {vs : List V} {Q : VK} {E : XK} (hr : Room (k + 1) A) (e0 : Env0 P w K mg base A outer s H) (hb : BindsTo s (PySem.W.fnOf name qual params body scope dV kV doc pm an cdv ct) args (ps.zip us)) (r : Vals vs us) (hl : vs.length = ps.length)
    (hbody : Room k (A.deeper (envOfC qual scope s.heap.objs.size f cdv)) → RunX (cxOf CX P w K mg base N qual scope f cdv A outer s H E) body (fun fl s' => ∃ u, fl = .ret u ∧ CE outer P w H s Q u s') (L2.start N vs) H) :
    codeAny (model P w) A (.call (.ref f) args) (CR CX outer P w H s Q E) s := by
  have KX : K.In s.heap := e0.mod.kin.keeps fun b o e => (e0.bs b o e).1
  have lim : s.heap.NoLimit := e0.mod.nolimit.keeps fun b o e => (e0.bs b o e).1
  have hkind : ∀ y ∈ ps.zip us, scope.names.lookup y.1 = some .local ∨ (scope.names.lookup y.1 = some .cell ∧ ((cellsFrom (s.heap.objs.size + 1) scope.names []).lookup y.1).isSome = true) := fun ⟨n, v⟩ hy => by
    rcases S.par n (List.of_mem_zip hy).1 with q | q
    · exact .inl q
    · exact .inr ⟨q, PySem.W.cellsFrom_some _ _ _ (.inl q)⟩
  refine codeAny_call_function hr.depth (KX _ _ lk) rfl S.co S.gen rfl (PySem.W.codeRec_of KX hcd) (hb _ _ _ _ ?_)
  refine wpAny_newFunctionEnv_cells S.kind hkind fun env he s1 x => ?_
  subst he
  refine ⟨lim.keeps x.toInCall.keep, codeAny_func ?_⟩
  have I : Inv (cxOf CX P w K mg base N qual scope f cdv A outer s H E) [] (L2.start N vs) H s1 := inv_start S hr.hd e0 hl r x
  refine wpAny_mono (hbody (hr.deeper _) s1 I) (fun fl s' hs => ?_) fun e s' hs => hs
  obtain ⟨u, rfl, h⟩ := hs
  exact h
end
end Lo
set_option Elab.async false
set_option linter.all false
set_option maxRecDepth 100000
set_option maxHeartbeats 8000000
/-! _law_calls -/
namespace Lo
open PySem PySem.Spec PyProof.Rows L2 LamX NdefX
abbrev sCalls : Stmt := top 75
def lamsE : Expr → List Expr
  | .List es _ => es
  | .BinOp _ _ b _ => match b with
    | .List es _ => es
    | _ => []
  | .Call _ es _ _ => es
  | _ => []
def lamsS : Stmt → List Expr
  | .Assign _ e _ => lamsE e
  | .Expr e _ => lamsE e
  | .Return (some e) _ => lamsE e
  | _ => []
def lamX (i : Nat) : Expr := (((defBody sCalls).flatMap lamsS)[i]?).getD (.Name "x" ⟨0, 0, 0, 0⟩)
def lamP (i : Nat) : Arguments := match lamX i with
  | .Lambda p _ _ _ => p
  | _ => { posonlyargs := [], args := [], vararg := none, kwonlyargs := [], kw_defaults := [], kwarg := none, defaults := [] }
def lamB (i : Nat) : Expr := match lamX i with
  | .Lambda _ b _ _ => b
  | e => e
def lamSc (i : Nat) : Scope := match lamX i with
  | .Lambda _ _ s _ => s
  | _ => defScope sCalls
def cellsC (L : Addr) : List (Str × Addr) := cellsFrom (L + 1) (defScope sCalls).names []
abbrev qLam : Str := "_law_calls.<locals>.<lambda>"
def lamF (L : Addr) (i : Nat) (dV : Value) (c : Addr) : LF := ⟨qLam, lamP i, lamB i, lamSc i, cloFrom (cellsC L) (lamSc i).names [], dV, c⟩
theorem lams_len : ((defBody sCalls).flatMap lamsS).length = 11 := by decide +kernel
theorem cellsC_eq (L : Addr) : cellsC L = [(("_law_single_here" : Str), L + 3), (("_law_heap" : Str), L + 2), (("_law_work_here" : Str), L + 1)] := rfl
/-- the function at f is the i-th lambda, made in the frame L -/
def LamAt (H : Hp) (f : Addr) (L : Addr) (i : Nat) : Prop := ∃ (c : Addr) (dV : Value), H f = some (LamO f (lamF L i dV c)) ∧ H c = some (CodeO c qLam) ∧ ((i = 0 ∧ dV = .none) ∨ (i ≠ 0 ∧ ∃ t, dV = .ref t ∧ H t = some (.tup [.int 0])))
theorem lamO_ne {f : Addr} {F : LF} (ps : Array Value) : LamO f F ≠ .tbl ps := fun z => by
  unfold LamO at z
  cases z
theorem LamAt.ext {H H' : Hp} {f L : Addr} {i : Nat} (h : LamAt H f L i) (e : ExtN H H') : LamAt H' f L i := by
  obtain ⟨c, dV, h1, h2, h3⟩ := h
  refine ⟨c, dV, e _ _ h1 lamO_ne, e _ _ h2 codeO_ne, h3.imp id fun ⟨a, t, h4, h5⟩ => ⟨a, t, h4, e _ _ h5 fun ps z => by cases z⟩⟩
def EvLam (T : List NTab) (L : Addr) (i : Nat) (te : TE) : Prop := ∀ σ H, TabsN T H → ∀ Q : VK, (∀ f H', ExtN H H' → (∀ b, H' b = none → H b = none) → TabsN T H' → LamAt H' f L i → Q (.ref f) H') → te σ H Q
def EvLams (T : List NTab) (L : Addr) (i n : Nat) (tr : TA) : Prop := ∀ σ H, TabsN T H → ∀ Q : List V → Hp → Prop, (∀ (fs : List Addr) H', ExtN H H' → (∀ b, H' b = none → H b = none) → TabsN T H' → fs.length = n → (∀ j f, fs[j]? = some f → LamAt H' f L (i + j)) → Q (fs.map V.ref) H') → tr σ H Q
theorem evlam0 {T : List NTab} {L : Addr} : EvLam T L 0 (tLam0 T (lamF L 0 .none)) := fun σ H t Q q => ⟨t, fun f c' H1 e nn t1 f0 f1 c1 => q f H1 e nn t1 ⟨c', .none, f1, c1, .inl ⟨rfl, rfl⟩⟩⟩
theorem evlam1 {T : List NTab} {L : Addr} {i : Nat} (h : i ≠ 0) : EvLam T L i (tLam1 T fun t c => lamF L i (.ref t) c) := fun σ H t Q q => ⟨t, fun f t' c' H1 e nn t1 f0 f1 d1 c1 => q f H1 e nn t1 ⟨c', .ref t', f1, c1, .inr ⟨h, t', rfl, d1⟩⟩⟩
theorem evlams_nil {T : List NTab} {L : Addr} {i : Nat} : EvLams T L i 0 tNil := fun σ H t Q q => q [] H (ExtN.refl H) (fun _ h => h) t rfl fun j f h => by simp at h
theorem evlams_cons {T : List NTab} {L : Addr} {i n : Nat} {te : TE} {tr : TA} (h : EvLam T L i te) (hr : EvLams T L (i + 1) n tr) : EvLams T L i (n + 1) (tCons te tr) := fun σ H t Q q =>
  h σ H t _ fun f H1 e1 n1 t1 l1 => hr σ H1 t1 _ fun fs H2 e2 n2 t2 hl hf => q (f :: fs) H2 (e1.trans e2) (fun b z => n1 b (n2 b z)) t2 (by rw [List.length_cons, hl]) fun j g hg => by
    cases j with
    | zero =>
      cases hg
      exact l1.ext e2
    | succ j =>
      have := hf j g (by simpa using hg)
      rw [show i + 1 + j = i + (j + 1) by omega] at this
      exact this
theorem ext_new {H : Hp} {p : Addr} (h : H p = none) (o : HO) : ExtN H (upd H p o) := ExtN.of (same_new h o)
def spCalls (T : List NTab) : Sp := fun vs H Q _ => ∃ vw vh vi : V, vs = [vw, vh, vi] ∧ TabsN T H ∧ ∀ (l : Addr) (fs : List Addr) (L : Addr) (H' : Hp), ExtN H H' → H' (L + 1) = some (CellO (L + 1) vw) → H' (L + 2) = some (CellO (L + 2) vh) → H' (L + 3) = some (CellO (L + 3) vi) →
  H' l = some (.lst (fs.map V.ref)) → fs.length = 11 → (∀ j f, fs[j]? = some f → LamAt H' f L j) → Q (.ref l) H'
section
variable {P : Program} {w : World} {K : PySem.W.Frag} {mg : Str → Option Value} {base : Heap} {f c Pt : Addr} {fd : FuncData}
theorem scCalls : FnScope ["_law_work_here", "_law_heap", "_law_single_here", "_law_calls_here"] ["_law_work_here", "_law_heap", "_law_single_here"] (defScope sCalls) := ⟨rfl, rfl, rfl, by decide +kernel, rfl, by decide +kernel, by decide +kernel⟩
theorem pe_l0 {X : Cx} {T : List NTab} {pos : Pos} (TB : TabB X.base X.mg c Pt) (hT : T = [(Pt, fun _ _ => qLam)]) (hcode : X.env.code = .ref c) (hq : X.env.qual = "_law_calls.<locals>.") (hcl : X.env.cells = cellsC X.env.locals) (hsc : X.env.scope = defScope sCalls) :
    PE X (.Lambda (lamP 0) (lamB 0) (lamSc 0) pos) (tLam0 T (lamF X.env.locals 0 .none)) := by
  have h := pe_lam0 (X := X) (T := T) (nm := fun _ _ => qLam) (params := lamP 0) (body := lamB 0) (scope := lamSc 0) (pos := pos) TB hcode (by rw [hT]; exact List.mem_singleton.mpr rfl) (by rw [hq]; rfl) (fun p hp _ => by rw [hT, List.mem_singleton] at hp; rw [hp]) (by rw [hsc]; decide +kernel) rfl
  rw [hq, hcl] at h
  exact h
theorem pe_l1 {X : Cx} {T : List NTab} {i : Nat} {pos : Pos} (TB : TabB X.base X.mg c Pt) (hT : T = [(Pt, fun _ _ => qLam)]) (hcode : X.env.code = .ref c) (hq : X.env.qual = "_law_calls.<locals>.") (hcl : X.env.cells = cellsC X.env.locals) (hsc : X.env.scope = defScope sCalls)
    (h1 : ∀ y ∈ (lamSc i).names, y.2 = .free → (defScope sCalls).names.lookup y.1 = some .cell) {k0 : Nat} {p0 : Pos} (h2 : (lamP i).defaults = [.Constant (.int 0) k0 p0]) (h3 : (lamP i).kw_defaults = []) :
    PE X (.Lambda (lamP i) (lamB i) (lamSc i) pos) (tLam1 T fun t c => lamF X.env.locals i (.ref t) c) := by
  have h := pe_lam1 (X := X) (T := T) (nm := fun _ _ => qLam) (params := lamP i) (body := lamB i) (scope := lamSc i) (pos := pos) TB hcode (by rw [hT]; exact List.mem_singleton.mpr rfl) (by rw [hq]; rfl) (fun p hp _ => by rw [hT, List.mem_singleton] at hp; rw [hp]) (fun y hy e => by rw [hsc]; exact .inl (h1 y hy e)) h2 h3
  rw [hq, hcl] at h
  exact h
theorem LamAt.updL {H : Hp} {f L p : Addr} {i : Nat} {xs : List V} {o : HO} (h : LamAt H f L i) (hp : H p = some (.lst xs)) : LamAt (upd H p o) f L i := by
  obtain ⟨c, dV, h1, h2, h3⟩ := h
  have ne : ∀ {b : Addr} {u : HO}, H b = some u → u ≠ .lst xs → b ≠ p := fun {b u} e n z => by
    rw [z, hp] at e
    exact n (Option.some.inj e).symm
  refine ⟨c, dV, (upd_ne (ne h1 fun z => by unfold LamO at z; cases z)).trans h1, (upd_ne (ne h2 fun z => by unfold CodeO at z; cases z)).trans h2, h3.imp id fun ⟨a, t, h4, h5⟩ => ⟨a, t, h4, (upd_ne (ne h5 fun z => by cases z)).trans h5⟩⟩
theorem tabs_updL {T : List NTab} {H : Hp} {p : Addr} {xs : List V} {o : HO} (h : TabsN T H) (hp : H p = some (.lst xs)) : TabsN T (upd H p o) := fun q hq => by
  obtain ⟨ps, h1, h2, h3⟩ := h q hq
  have ne : ∀ {b : Addr} {u : HO}, H b = some u → u ≠ .lst xs → b ≠ p := fun {b u} e n z => by
    rw [z, hp] at e
    exact n (Option.some.inj e).symm
  refine ⟨ps, (upd_ne (ne h1 fun z => by cases z)).trans h1, h2, fun pos cv hc => ?_⟩
  obtain ⟨c, e1, e2⟩ := h3 pos cv hc
  exact ⟨c, e1, (upd_ne (ne e2 fun z => by unfold CodeO at z; cases z)).trans e2⟩
/-- the list of the lambdas made so far, at p -/
structure Made (T : List NTab) (L : Addr) (H Hc : Hp) (p : Addr) (fs : List Addr) (n : Nat) : Prop where
  ext : ExtN H Hc
  nn : ∀ b, Hc b = none → H b = none
  tab : TabsN T Hc
  new : H p = none
  at_ : Hc p = some (.lst (fs.map V.ref))
  len : fs.length = n
  all : ∀ j f, fs[j]? = some f → LamAt Hc f L j
theorem made_lst {T : List NTab} {L : Addr} {n : Nat} {tr : TA} {σ : L2.St} {H : Hp} {Q : VK} (h : EvLams T L 0 n tr) (hn : n ≤ 100) (t : TabsN T H) (q : ∀ p fs H', Made T L H H' p fs n → Q (.ref p) H') : tLst tr σ H Q :=
  h σ H t _ fun fs H1 e1 n1 t1 hl hf => ⟨small_le (by rw [List.length_map, hl]; omega), fun p hp => q p fs _ ⟨e1.trans (ext_new hp _), fun b z => n1 b (NdefX.upd_none z), t1.ext (same_new hp _), n1 p hp, upd_same, hl, fun j f hj => by
    have := (hf j f hj).ext (ext_new hp (.lst (fs.map V.ref)))
    rw [Nat.zero_add] at this
    exact this⟩⟩
theorem made_cat {T : List NTab} {L p : Addr} {n m i : Nat} {fs : List Addr} {tr : TA} {σ : L2.St} {H Hc : Hp} {Q : VK} (M : Made T L H Hc p fs n) (hv : σ[i]? = some (some (.ref p))) (h : EvLams T L n m tr) (hn : n + m ≤ 100) (q : ∀ p fs H', Made T L H H' p fs (n + m) → Q (.ref p) H') : tOp rCat (tVar i) (tLst tr) σ Hc Q :=
  ⟨_, hv, h σ Hc M.tab _ fun gs H1 e1 n1 t1 hl hf => ⟨small_le (by rw [List.length_map, hl]; omega), fun p2 hp2 => by
    have ml := M.len
    have s2 := same_new hp2 (.lst (gs.map V.ref))
    have hp1 : (upd H1 p2 (.lst (gs.map V.ref))) p = some (.lst (fs.map V.ref)) := s2 _ _ (e1 _ _ M.at_ fun ps z => by cases z)
    refine ⟨p, p2, _, _, rfl, rfl, hp1, upd_same, small_le (by rw [List.length_map, List.length_map, hl]; omega), fun p3 hp3 => ?_⟩
    have s3 := same_new hp3 (.lst (fs.map V.ref ++ gs.map V.ref))
    have e13 : ExtN H1 (upd (upd H1 p2 (.lst (gs.map V.ref))) p3 (.lst (fs.map V.ref ++ gs.map V.ref))) := ExtN.of (s2.trans s3)
    refine q p3 (fs ++ gs) _ ⟨(M.ext.trans e1).trans e13, fun b z => M.nn b (n1 b (NdefX.upd_none (NdefX.upd_none z))), t1.ext (s2.trans s3), M.nn p3 (n1 p3 (NdefX.upd_none hp3)), by rw [List.map_append]; exact upd_same, by rw [List.length_append, hl, ml], fun j f hj => ?_⟩
    by_cases hjn : j < fs.length
    · rw [List.getElem?_append_left hjn] at hj
      exact ((M.all j f hj).ext e1).ext e13
    · rw [List.getElem?_append_right (by omega)] at hj
      have := (hf _ f hj).ext e13
      rw [show n + (j - fs.length) = j by omega] at this
      exact this⟩⟩
theorem look3 {L : Addr} {a b c : V} : List.lookup (L + 1) [(L + 1, a), (L + 2, b), (L + 3, c)] = some a ∧ List.lookup (L + 2) [(L + 1, a), (L + 2, b), (L + 3, c)] = some b ∧ List.lookup (L + 3) [(L + 1, a), (L + 2, b), (L + 3, c)] = some c := by
  have e : ∀ x : Nat, (x == x) = true := fun x => beq_self_eq_true x
  have n : ∀ {x y : Nat}, x ≠ y → (x == y) = false := fun h => beq_eq_false_iff_ne.mpr h
  have h21 : ∀ x : Nat, x + 2 ≠ x + 1 := fun x => by omega
  have h31 : ∀ x : Nat, x + 3 ≠ x + 1 := fun x => by omega
  have h32 : ∀ x : Nat, x + 3 ≠ x + 2 := fun x => by omega
  refine ⟨?_, ?_, ?_⟩
  · rw [List.lookup_cons, e]
  · rw [List.lookup_cons, n (h21 L), List.lookup_cons, e]
  · rw [List.lookup_cons, n (h31 L), List.lookup_cons, n (h32 L), List.lookup_cons, e]
theorem ok_calls {T : List NTab} (F : Fun K "_law_calls" "_law_calls" sCalls f fd) (TB : TabB base mg c Pt) (hT : T = [(Pt, fun _ _ => qLam)]) (hcode : fd.code = .ref c) : FnOk P w K mg base CX0 1 f fd ["_law_work_here", "_law_heap", "_law_single_here"] (spCalls T) := by
  obtain ⟨oc, od, kV, doc, pm, an, cdv, ct, osl, rfl, lk, hcd⟩ := F.ex
  have hcode : cdv = .ref c := hcode
  subst hcode
  refine ⟨fun vs H Q E ⟨vw, vh, vi, e, _⟩ => by rw [e]; rfl, fun A outer s H args us vs Q E hr e0 hb r h => ?_⟩
  obtain ⟨vw, vh, vi, rfl, tb, q⟩ := h
  refine run_raw lk hcd scCalls hr e0 hb r rfl fun hr2 => ?_
  have nd := scCalls.nd
  have pl0 : ∀ {pos : Pos}, PE (cxOf CX0 P w K mg base ["_law_work_here", "_law_heap", "_law_single_here", "_law_calls_here"] "_law_calls" (defScope sCalls) f (.ref c) A outer s H E) (.Lambda (lamP 0) (lamB 0) (lamSc 0) pos) (tLam0 T (lamF s.heap.objs.size 0 .none)) := pe_l0 TB hT rfl rfl rfl rfl
  have pl : ∀ (i : Nat) {pos : Pos} {k0 : Nat} {p0 : Pos}, (∀ y ∈ (lamSc i).names, y.2 = .free → (defScope sCalls).names.lookup y.1 = some .cell) → (lamP i).defaults = [.Constant (.int 0) k0 p0] → (lamP i).kw_defaults = [] →
      PE (cxOf CX0 P w K mg base ["_law_work_here", "_law_heap", "_law_single_here", "_law_calls_here"] "_law_calls" (defScope sCalls) f (.ref c) A outer s H E) (.Lambda (lamP i) (lamB i) (lamSc i) pos) (tLam1 T fun t c => lamF s.heap.objs.size i (.ref t) c) := fun i _ _ _ h1 h2 h3 => pe_l1 TB hT rfl rfl rfl rfl h1 h2 h3
  refine runx_cons (ps_set (i := 3) nd rfl (Or.inl rfl) (pe_lst (pa_cons pl0 (pa_cons (pl 1 (by decide +kernel) rfl rfl) (pa_cons (pl 2 (by decide +kernel) rfl rfl) pa_nil))))) ?_
  refine made_lst (evlams_cons evlam0 (evlams_cons (evlam1 (by decide)) (evlams_cons (evlam1 (by decide)) evlams_nil))) (by decide) tb fun p1 fs1 H1 M1 => ?_
  refine runx_cons (ps_set (i := 3) nd rfl (Or.inl rfl) (pe_op op_cat (pv 3) (pe_lst (pa_cons (pl 3 (by decide +kernel) rfl rfl) (pa_cons (pl 4 (by decide +kernel) rfl rfl) (pa_cons (pl 5 (by decide +kernel) rfl rfl) pa_nil)))))) ?_
  refine made_cat M1 rfl (evlams_cons (evlam1 (by decide)) (evlams_cons (evlam1 (by decide)) (evlams_cons (evlam1 (by decide)) evlams_nil))) (by decide) fun p2 fs2 H2 M2 => ?_
  refine runx_cons (ps_set (i := 3) nd rfl (Or.inl rfl) (pe_op op_cat (pv 3) (pe_lst (pa_cons (pl 6 (by decide +kernel) rfl rfl) (pa_cons (pl 7 (by decide +kernel) rfl rfl) pa_nil))))) ?_
  refine made_cat M2 rfl (evlams_cons (evlam1 (by decide)) (evlams_cons (evlam1 (by decide)) evlams_nil)) (by decide) fun p3 fs3 H3 M3 => ?_
  refine runx_cons (ps_expr (pe_bm PySem.F.plainAttrs_list PySem.F.slot_list_append PySem.F.type_list_append mt_append (pv 3) (pa_cons (pl 8 (by decide +kernel) rfl rfl) pa_nil))) ?_
  have hl3 := M3.len
  refine ⟨_, rfl, .inl ⟨rfl, _, SqL.of M3.at_⟩, ?_⟩
  refine (evlam1 (i := 8) (by decide)) _ _ M3.tab _ fun f8 H4 e4 n4 t4 l8 => ?_
  have hp4 := e4 _ _ M3.at_ fun ps z => by cases z
  refine ⟨p3, _, .ref f8, rfl, rfl, hp4, small_lt (by rw [List.length_map]; omega), ?_⟩
  have M4 : Made T s.heap.objs.size H (upd H4 p3 (.lst (fs3.map V.ref ++ [.ref f8]))) p3 (fs3 ++ [f8]) 9 := by
    refine ⟨fun b o e n => ?_, fun b z => M3.nn b (n4 b (NdefX.upd_none z)), tabs_updL t4 hp4, M3.new, by rw [List.map_append]; exact upd_same, by rw [List.length_append, hl3]; rfl, fun j g hj => ?_⟩
    · rw [upd_ne (ne_of_none e M3.new)]
      exact e4 _ _ (M3.ext _ _ e n) n
    · by_cases hjn : j < fs3.length
      · rw [List.getElem?_append_left hjn] at hj
        exact ((M3.all j g hj).ext e4).updL hp4
      · rw [List.getElem?_append_right (by omega)] at hj
        have hj0 : j - fs3.length = 0 := by
          rcases Nat.eq_zero_or_pos (j - fs3.length) with z | z
          · exact z
          · rw [List.getElem?_eq_none (by show 1 ≤ _; omega)] at hj
            cases hj
        rw [hj0] at hj
        cases hj
        have : j = 8 := by omega
        rw [this]
        exact l8.updL hp4
  refine runx_ret (pe_op op_cat (pv 3) (pe_lst (pa_cons (pl 9 (by decide +kernel) rfl rfl) (pa_cons (pl 10 (by decide +kernel) rfl rfl) pa_nil)))) ?_
  refine made_cat M4 rfl (evlams_cons (evlam1 (by decide)) (evlams_cons (evlam1 (by decide)) evlams_nil)) (by decide) fun p5 fs5 H5 M5 s5 u I5 ru => ⟨u, rfl, ?_⟩
  have cap : Caps (cxOf CX0 P w K mg base ["_law_work_here", "_law_heap", "_law_single_here", "_law_calls_here"] "_law_calls" (defScope sCalls) f (.ref c) A outer s H E) (cellsC s.heap.objs.size) ["_law_work_here", "_law_heap", "_law_single_here"] [0, 1, 2] :=
    ⟨fun y c e => e, (by decide +kernel : ∀ y ∈ (["_law_work_here", "_law_heap", "_law_single_here"] : List Str), (defScope sCalls).names.lookup y = some NameKind.cell ∨ (defScope sCalls).names.lookup y = some NameKind.free), fun y _ c e => e, rfl⟩
  have CA := cells_of I5 cap
  have look : ∀ (i : Nat) (y : Str) (v : V) (a : Addr), (["_law_work_here", "_law_heap", "_law_single_here"] : List Str)[i]? = some y → (cellsC s.heap.objs.size).lookup y = some a → ([some vw, some vh, some vi] : List (Option V))[i]? = some (some v) →
      H5 a = none ∧ s.heap.get? a = none ∧ ∃ u, L2.RelV v u ∧ s5.heap.IsCell a (some u) := by
    intro i y v a h1 h2 h3
    obtain ⟨a', e1, e2⟩ := CA.has i y h1
    rw [h2] at e1
    cases e1
    exact ⟨(CA.all y a h2).1, Heap.get?_none_of_le (I5.ok.cab y a rfl h2), e2 v h3⟩
  have lw := look 0 "_law_work_here" vw (s.heap.objs.size + 1) rfl (by rw [cellsC_eq]; rfl) rfl
  have lh := look 1 "_law_heap" vh (s.heap.objs.size + 2) rfl (by rw [cellsC_eq]; rfl) rfl
  have li := look 2 "_law_single_here" vi (s.heap.objs.size + 3) rfl (by rw [cellsC_eq]; rfl) rfl
  generalize s.heap.objs.size = L at lw lh li M5
  have hl : ∀ p ∈ [(L + 1, vw), (L + 2, vh), (L + 3, vi)], H5 p.1 = none ∧ s.heap.get? p.1 = none ∧ ∃ u, L2.RelV p.2 u ∧ s5.heap.IsCell p.1 (some u) := by
    intro p hp
    rcases List.mem_cons.mp hp with rfl | hp
    · exact lw
    · rcases List.mem_cons.mp hp with rfl | hp
      · exact lh
      · rw [List.mem_singleton] at hp
        subst hp
        exact li
  obtain ⟨un, hok⟩ := know_end I5 hl
  have keep : ∀ b u, H5 b = some u → addC [(L + 1, vw), (L + 2, vh), (L + 3, vi)] H5 b = some u := fun b u e => by
    cases z : List.lookup b [(L + 1, vw), (L + 2, vh), (L + 3, vi)] with
    | none => rw [addC_out z]; exact e
    | some v =>
      have := (hl (b, v) (mem_look z)).1
      rw [e] at this
      cases this
  have ek : ExtN H5 (addC [(L + 1, vw), (L + 2, vh), (L + 3, vi)] H5) := ExtN.of keep
  refine ⟨.ref p5, _, I5.os, I5.bare, un, hok, ru, q p5 fs5 L _ (M5.ext.trans ek) (addC_in look3.1) (addC_in look3.2.1) (addC_in look3.2.2) (keep _ _ M5.at_) M5.len fun j g hj => (M5.all j g hj).ext ek⟩
end
end Lo
set_option Elab.async false
set_option linter.all false
set_option maxRecDepth 100000
set_option maxHeartbeats 8000000
/-! the lambdas called -/
namespace Lo
open PySem PySem.Spec PyProof.Rows L2 LamX NdefX
section
variable {P : Program} {w : World} {K : PySem.W.Frag} {mg : Str → Option Value} {base : Heap} {cs : List Addr} {A : Around} {outer : List Env} {s : Shared} {H H' : Hp}
theorem same_back (h : Same (hideC cs H) H') (n : ∀ c ∈ cs, H' c = none) : Same H (backC cs H H') := fun b o e => by
  by_cases hb : b ∈ cs
  · rw [back_in hb]
    exact e
  · rw [back_out hb]
    exact h b o ((hide_out hb).trans e)
theorem sameT_back (n : ∀ c ∈ cs, H' c = none) : SameT H' (backC cs H H') := fun b o e i => by
  rw [back_out fun hb => by rw [n b hb] at e; cases e]
  exact e
theorem sameT_hide (C : Cs cs H) : SameT H (hideC cs H) := fun b o e i => by
  refine (hide_out (C.out e fun v z => ?_)).trans e
  subst z
  cases i
/-- what a lambda's data answer needs -/
theorem backQ_D {te : TE} {σ : L2.St} {d : PyData} {Q : VK} (h : EvD K te σ (hideC cs H) d) (q : ∀ v H', Same H H' → Tp K H' v d → Q v H') : te σ (hideC cs H) (backQ cs H Q) :=
  h.go fun v H' s' hv n => q v _ (same_back s' n) (hv.mono (sameT_back n))
theorem cells_1 {n : Str} {a : Addr} {v : V} (C : Cs cs H) (hok : HOk P w H s.heap) (ha : a ∈ cs) (hv : H a = some (CellO a v)) : CellsAt [(n, a)] [n] [some v] s.heap (hideC cs H) := by
  obtain ⟨⟨u, ru, ic⟩, _, _⟩ := hok a _ hv
  have one : ∀ {y : Str} {c : Addr}, List.lookup y [(n, a)] = some c → y = n ∧ c = a := fun {y c} e => by
    have := PySem.mem_of_lookup e
    rw [List.mem_singleton] at this
    cases this
    exact ⟨rfl, rfl⟩
  refine ⟨rfl, fun y c e => ?_, fun x y c e1 e2 => (one e1).1.trans (one e2).1.symm, fun i y e => ?_⟩
  · obtain ⟨_, rfl⟩ := one e
    exact ⟨hide_in ha, _, ic⟩
  · cases i with
    | zero =>
      cases e
      exact ⟨a, by simp [List.lookup], fun z hz => by cases hz; exact ⟨u, ru, ic⟩⟩
    | succ i => simp at e
theorem cells_2 {n m : Str} {a b : Addr} {v z : V} (C : Cs cs H) (hok : HOk P w H s.heap) (nm : (m == n) = false) (ab : a ≠ b) (ha : a ∈ cs) (hb : b ∈ cs) (hv : H a = some (CellO a v)) (hz : H b = some (CellO b z)) : CellsAt [(n, a), (m, b)] [n, m] [some v, some z] s.heap (hideC cs H) := by
  obtain ⟨⟨u, ru, ic⟩, _, _⟩ := hok a _ hv
  obtain ⟨⟨u2, ru2, ic2⟩, _, _⟩ := hok b _ hz
  have two : ∀ {y : Str} {c : Addr}, List.lookup y [(n, a), (m, b)] = some c → (y = n ∧ c = a) ∨ (y = m ∧ c = b) := fun {y c} e => by
    have := PySem.mem_of_lookup e
    rcases List.mem_cons.mp this with q | q
    · cases q
      exact .inl ⟨rfl, rfl⟩
    · rw [List.mem_singleton] at q
      cases q
      exact .inr ⟨rfl, rfl⟩
  refine ⟨rfl, fun y c e => ?_, fun x y c e1 e2 => ?_, fun i y e => ?_⟩
  · rcases two e with ⟨_, rfl⟩ | ⟨_, rfl⟩
    · exact ⟨hide_in ha, _, ic⟩
    · exact ⟨hide_in hb, _, ic2⟩
  · rcases two e1 with ⟨rfl, rfl⟩ | ⟨rfl, rfl⟩ <;> rcases two e2 with ⟨rfl, h2⟩ | ⟨rfl, h2⟩
    · rfl
    · exact absurd h2 ab
    · exact absurd h2.symm ab
    · rfl
  · match i, e with
    | 0, e =>
      cases e
      exact ⟨a, by simp [List.lookup], fun z hz => by cases hz; exact ⟨u, ru, ic⟩⟩
    | 1, e =>
      cases e
      exact ⟨b, by rw [List.lookup_cons, nm, List.lookup_cons, beq_self_eq_true], fun z hz => by cases hz; exact ⟨u2, ru2, ic2⟩⟩
    | i + 2, e => simp at e
/-- no default -/
theorem binds_0 {F : LF} {doc pm ctv : Value} (h : bindArgs (F.fd doc pm ctv) ⟨[], []⟩ = pure []) : BindsTo s (F.fd doc pm ctv) ⟨[], []⟩ ([].zip []) := BindsTo.of_eq h
/-- the one default -/
theorem tup0_at {t : Addr} (hok : HOk P w H s.heap) (h : H t = some (.tup [.int 0])) : ∃ (u : Value) (o : Obj) (n : Nat), L2.RelV (.int 0) u ∧ s.heap.get? t = some o ∧ o.data = .seq #[u] n := by
  obtain ⟨_, its, r, o, e, _, n, hd⟩ := hok t _ h
  obtain ⟨u, rfl, ru⟩ := vals1 r
  exact ⟨u, o, n, ru, e, hd⟩
end
end Lo
set_option Elab.async false
set_option linter.all false
set_option maxRecDepth 100000
set_option maxHeartbeats 8000000
/-! each lambda's answer -/
namespace Lo
open PySem PySem.Spec PyProof.Rows L2 LamX NdefX
/-- the three cells of the maker's frame L -/
structure Three3 (H : Hp) (L : Addr) (vw vh vi : V) : Prop where
  w : H (L + 1) = some (CellO (L + 1) vw)
  h : H (L + 2) = some (CellO (L + 2) vh)
  i : H (L + 3) = some (CellO (L + 3) vi)
abbrev cs3 (L : Addr) : List Addr := [L + 1, L + 2, L + 3]
theorem Three3.cs {H : Hp} {L : Addr} {vw vh vi : V} (t : Three3 H L vw vh vi) : Cs (cs3 L) H := fun c hc => by
  rcases List.mem_cons.mp hc with rfl | hc
  · exact ⟨vw, t.w⟩
  · rcases List.mem_cons.mp hc with rfl | hc
    · exact ⟨vh, t.h⟩
    · rw [List.mem_singleton] at hc
      subst hc
      exact ⟨vi, t.i⟩
theorem in1 {L : Addr} : L + 1 ∈ cs3 L := List.mem_cons_self ..
theorem in2 {L : Addr} : L + 2 ∈ cs3 L := List.mem_cons_of_mem _ (List.mem_cons_self ..)
theorem in3 {L : Addr} : L + 3 ∈ cs3 L := List.mem_cons_of_mem _ (List.mem_cons_of_mem _ (List.mem_cons_self ..))
theorem ne12 : ∀ {L : Nat}, L + 1 ≠ L + 2 := by intro L; omega
theorem ne13 : ∀ {L : Nat}, L + 1 ≠ L + 3 := by intro L; omega
/-- what f() gives: the data d -/
def GivesD (P : Program) (w : World) (K : PySem.W.Frag) (mg : Str → Option Value) (base : Heap) (f : Addr) (H : Hp) (d : PyData) : Prop :=
  ∀ (A : Around) (outer : List Env) (s : Shared) (Q : VK) (E : XK), Room 10 A → Env0 P w K mg base A outer s H → (∀ v H', Same H H' → Tp K H' v d → Q v H') → codeAny (model P w) A (.call (.ref f) ⟨[], []⟩) (CR (L2.CX P w) outer P w H s Q E) s
section
variable {P : Program} {w : World} {K : PySem.W.Frag} {mg : Str → Option Value} {base : Heap} {f L : Addr} {H : Hp} {vw vh vi : V} {b si : Wk} {h : Hl}
theorem th_run (la : LamAt H f L 0) (t3 : Three3 H L vw vh vi) (tw : Tp K H vw (encW b)) (ok : OkW b) (th : Tp K H vh (encH h)) (can : CanH 1000000 h) (c : Callee P w K mg base 7 "run" ["work", "store"] (spD K rRun)) : GivesD P w K mg base f H (encH (doneT (threeT b) h).1) := by
  intro A outer s Q E hr e0 q
  obtain ⟨c', dV, h1, h2, (⟨_, rfl⟩ | ⟨z, _⟩)⟩ := la
  · have C := t3.cs
    refine lam_run (N := ["_law_work_here", "_law_heap"]) (ps := []) (fr := ["_law_work_here", "_law_heap"]) (vs := []) (us := []) (ws := [some vw, some vh]) (k := 9) (tb := tCall (spD K rRun) [] E0 (tCons (tVar 0) (tCons (tVar 1) tNil))) (nscope_by (show nscB _ _ _ (lamSc 0) = true by decide +kernel)) hr e0 h1 h2 (fun doc pm ctv => BindsTo.of_eq rfl) .nil rfl C (cells_2 (n := "_law_work_here") (m := "_law_heap") C e0.hok (by decide +kernel) ne12 in1 in2 t3.w t3.h) (fun hr2 => ?_) ?_
    · exact pe_cal (X := ncx (L2.CX P w) P w K mg base ["_law_work_here", "_law_heap"] (lamF L 0 .none c').nf f A outer s (hideC (cs3 L) H) (backE (cs3 L) H E)) c hr2 (pa_cons (pv 0) (pa_cons (pv 1) pa_nil))
    · exact backQ_D (evd_call (eva_cons (evd_var rfl (tw.mono (sameT_hide C))) (eva_cons (evd_var rfl (th.mono (sameT_hide C))) eva_nil)) ⟨b, h, rfl, ok, can, rfl⟩) q
  · exact absurd rfl z
theorem th_came (la : LamAt H f L 1) (t3 : Three3 H L vw vh vi) (tw : Tp K H vw (encW b)) (ok : OkW b) (th : Tp K H vh (encH h)) (can : CanH 1000000 h) (c : Callee P w K mg base 7 "came" ["work", "store"] (spD K rCame)) : GivesD P w K mg base f H (.tuple [encH (doneT (threeT b) h).2.1, .int (doneT (threeT b) h).2.2]) := by
  intro A outer s Q E hr e0 q
  obtain ⟨c', dV, h1, h2, (⟨z, _⟩ | ⟨_, t, rfl, h3⟩)⟩ := la
  · exact absurd z (by decide)
  · have C := t3.cs
    obtain ⟨u, ob, m, ru, ho, hd⟩ := tup0_at e0.hok h3
    refine lam_run (N := ["_law_a", "_law_work_here", "_law_heap"]) (ps := ["_law_a"]) (fr := ["_law_work_here", "_law_heap"]) (vs := [.int 0]) (us := [u]) (ws := [some vw, some vh]) (k := 9) (tb := tCall (spD K rCame) [] E0 (tCons (tVar 1) (tCons (tVar 2) tNil))) (nscope_by (show nscB _ _ _ (lamSc 1) = true by decide +kernel)) hr e0 h1 h2 (fun doc pm ctv => BindsTo.of_defaults (T := t) rfl ho hd rfl rfl) (.cons ru .nil) rfl C (cells_2 (n := "_law_work_here") (m := "_law_heap") C e0.hok (by decide +kernel) ne12 in1 in2 t3.w t3.h) (fun hr2 => ?_) ?_
    · exact pe_cal (X := ncx (L2.CX P w) P w K mg base ["_law_a", "_law_work_here", "_law_heap"] (lamF L 1 (.ref t) c').nf f A outer s (hideC (cs3 L) H) (backE (cs3 L) H E)) c hr2 (pa_cons (pv 1) (pa_cons (pv 2) pa_nil))
    · exact backQ_D (evd_call (eva_cons (evd_var rfl (tw.mono (sameT_hide C))) (eva_cons (evd_var rfl (th.mono (sameT_hide C))) eva_nil)) ⟨b, h, rfl, ok, can, rfl⟩) q
theorem th_heaps (la : LamAt H f L 2) (t3 : Three3 H L vw vh vi) (tw : Tp K H vw (encW b)) (ok : OkW b) (c : Callee P w K mg base 7 "heaps" ["work"] (spD K rHeaps)) : GivesD P w K mg base f H (encT (threeT b)) := by
  intro A outer s Q E hr e0 q
  obtain ⟨c', dV, h1, h2, (⟨z, _⟩ | ⟨_, t, rfl, h3⟩)⟩ := la
  · exact absurd z (by decide)
  · have C := t3.cs
    obtain ⟨u, ob, m, ru, ho, hd⟩ := tup0_at e0.hok h3
    refine lam_run (N := ["_law_b", "_law_work_here"]) (ps := ["_law_b"]) (fr := ["_law_work_here"]) (vs := [.int 0]) (us := [u]) (ws := [some vw]) (k := 9) (tb := tCall (spD K rHeaps) [] E0 (tCons (tVar 1) tNil)) (nscope_by (show nscB _ _ _ (lamSc 2) = true by decide +kernel)) hr e0 h1 h2 (fun doc pm ctv => BindsTo.of_defaults (T := t) rfl ho hd rfl rfl) (.cons ru .nil) rfl C (cells_1 (n := "_law_work_here") C e0.hok in1 t3.w) (fun hr2 => ?_) ?_
    · exact pe_cal (X := ncx (L2.CX P w) P w K mg base ["_law_b", "_law_work_here"] (lamF L 2 (.ref t) c').nf f A outer s (hideC (cs3 L) H) (backE (cs3 L) H E)) c hr2 (pa_cons (pv 1) pa_nil)
    · exact backQ_D (evd_call (eva_cons (evd_var rfl (tw.mono (sameT_hide C))) eva_nil) ⟨b, rfl, ok, rfl⟩) q
theorem th_alike (la : LamAt H f L 3) (t3 : Three3 H L vw vh vi) (tw : Tp K H vw (encW b)) (ok : OkW b) (ti : Tp K H vi (encW si)) (fs : Five si) (c : Callee P w K mg base 7 "alike" ["one", "other"] (spD K rAlike)) : GivesD P w K mg base f H (partT (threeT b) (threeT si)) := by
  intro A outer s Q E hr e0 q
  obtain ⟨c', dV, h1, h2, (⟨z, _⟩ | ⟨_, t, rfl, h3⟩)⟩ := la
  · exact absurd z (by decide)
  · have C := t3.cs
    obtain ⟨u, ob, m, ru, ho, hd⟩ := tup0_at e0.hok h3
    refine lam_run (N := ["_law_c", "_law_work_here", "_law_single_here"]) (ps := ["_law_c"]) (fr := ["_law_work_here", "_law_single_here"]) (vs := [.int 0]) (us := [u]) (ws := [some vw, some vi]) (k := 9) (tb := tCall (spD K rAlike) [] E0 (tCons (tVar 1) (tCons (tVar 2) tNil))) (nscope_by (show nscB _ _ _ (lamSc 3) = true by decide +kernel)) hr e0 h1 h2 (fun doc pm ctv => BindsTo.of_defaults (T := t) rfl ho hd rfl rfl) (.cons ru .nil) rfl C (cells_2 (n := "_law_work_here") (m := "_law_single_here") C e0.hok (by decide +kernel) ne13 in1 in3 t3.w t3.i) (fun hr2 => ?_) ?_
    · exact pe_cal (X := ncx (L2.CX P w) P w K mg base ["_law_c", "_law_work_here", "_law_single_here"] (lamF L 3 (.ref t) c').nf f A outer s (hideC (cs3 L) H) (backE (cs3 L) H E)) c hr2 (pa_cons (pv 1) (pa_cons (pv 2) pa_nil))
    · exact backQ_D (evd_call (eva_cons (evd_var rfl (tw.mono (sameT_hide C))) (eva_cons (evd_var rfl (ti.mono (sameT_hide C))) eva_nil)) ⟨b, si, rfl, ok, fs.okW, rfl⟩) q
theorem th_crossed (la : LamAt H f L 4) (t3 : Three3 H L vw vh vi) (tw : Tp K H vw (encW b)) (ok : OkW b) (ti : Tp K H vi (encW si)) (fs : Five si) (c : Callee P w K mg base 7 "crossed" ["one", "other"] (spD K rCrossed)) : GivesD P w K mg base f H (partT (behindT (threeT b) (threeT si)) (behindT (threeT si) (threeT b))) := by
  intro A outer s Q E hr e0 q
  obtain ⟨c', dV, h1, h2, (⟨z, _⟩ | ⟨_, t, rfl, h3⟩)⟩ := la
  · exact absurd z (by decide)
  · have C := t3.cs
    obtain ⟨u, ob, m, ru, ho, hd⟩ := tup0_at e0.hok h3
    refine lam_run (N := ["_law_e", "_law_work_here", "_law_single_here"]) (ps := ["_law_e"]) (fr := ["_law_work_here", "_law_single_here"]) (vs := [.int 0]) (us := [u]) (ws := [some vw, some vi]) (k := 9) (tb := tCall (spD K rCrossed) [] E0 (tCons (tVar 1) (tCons (tVar 2) tNil))) (nscope_by (show nscB _ _ _ (lamSc 4) = true by decide +kernel)) hr e0 h1 h2 (fun doc pm ctv => BindsTo.of_defaults (T := t) rfl ho hd rfl rfl) (.cons ru .nil) rfl C (cells_2 (n := "_law_work_here") (m := "_law_single_here") C e0.hok (by decide +kernel) ne13 in1 in3 t3.w t3.i) (fun hr2 => ?_) ?_
    · exact pe_cal (X := ncx (L2.CX P w) P w K mg base ["_law_e", "_law_work_here", "_law_single_here"] (lamF L 4 (.ref t) c').nf f A outer s (hideC (cs3 L) H) (backE (cs3 L) H E)) c hr2 (pa_cons (pv 1) (pa_cons (pv 2) pa_nil))
    · exact backQ_D (evd_call (eva_cons (evd_var rfl (tw.mono (sameT_hide C))) (eva_cons (evd_var rfl (ti.mono (sameT_hide C))) eva_nil)) ⟨b, si, rfl, ok, fs.okW, rfl⟩) q
theorem th_written (la : LamAt H f L 5) (t3 : Three3 H L vw vh vi) (tw : Tp K H vw (encW b)) (ok : OkW b) (c : Callee P w K mg base 6 "written" ["work"] (spD K rWritten)) : GivesD P w K mg base f H (.str (Txt.join (Str.ofString "\n") (rowsSs b 0))) := by
  intro A outer s Q E hr e0 q
  obtain ⟨c', dV, h1, h2, (⟨z, _⟩ | ⟨_, t, rfl, h3⟩)⟩ := la
  · exact absurd z (by decide)
  · have C := t3.cs
    obtain ⟨u, ob, m, ru, ho, hd⟩ := tup0_at e0.hok h3
    refine lam_run (N := ["_law_f", "_law_work_here"]) (ps := ["_law_f"]) (fr := ["_law_work_here"]) (vs := [.int 0]) (us := [u]) (ws := [some vw]) (k := 9) (tb := tCall (spD K rWritten) [] E0 (tCons (tVar 1) tNil)) (nscope_by (show nscB _ _ _ (lamSc 5) = true by decide +kernel)) hr e0 h1 h2 (fun doc pm ctv => BindsTo.of_defaults (T := t) rfl ho hd rfl rfl) (.cons ru .nil) rfl C (cells_1 (n := "_law_work_here") C e0.hok in1 t3.w) (fun hr2 => ?_) ?_
    · exact pe_cal (X := ncx (L2.CX P w) P w K mg base ["_law_f", "_law_work_here"] (lamF L 5 (.ref t) c').nf f A outer s (hideC (cs3 L) H) (backE (cs3 L) H E)) c hr2 (pa_cons (pv 1) pa_nil)
    · exact backQ_D (evd_call (eva_cons (evd_var rfl (tw.mono (sameT_hide C))) eva_nil) ⟨b, rfl, ok, rfl⟩) q
theorem th_number_of (la : LamAt H f L 7) (t3 : Three3 H L vw vh vi) (ti : Tp K H vi (encW si)) (fs : Five si) (c : Callee P w K mg base 9 "number_of" ["work"] (spD K rNumberOf)) : GivesD P w K mg base f H (.int (rankM (beginT (threeT si)) si)) := by
  intro A outer s Q E hr e0 q
  obtain ⟨c', dV, h1, h2, (⟨z, _⟩ | ⟨_, t, rfl, h3⟩)⟩ := la
  · exact absurd z (by decide)
  · have C := t3.cs
    obtain ⟨u, ob, m, ru, ho, hd⟩ := tup0_at e0.hok h3
    refine lam_run (N := ["_law_h", "_law_single_here"]) (ps := ["_law_h"]) (fr := ["_law_single_here"]) (vs := [.int 0]) (us := [u]) (ws := [some vi]) (k := 9) (tb := tCall (spD K rNumberOf) [] E0 (tCons (tVar 1) tNil)) (nscope_by (show nscB _ _ _ (lamSc 7) = true by decide +kernel)) hr e0 h1 h2 (fun doc pm ctv => BindsTo.of_defaults (T := t) rfl ho hd rfl rfl) (.cons ru .nil) rfl C (cells_1 (n := "_law_single_here") C e0.hok in3 t3.i) (fun hr2 => ?_) ?_
    · exact pe_cal (X := ncx (L2.CX P w) P w K mg base ["_law_h", "_law_single_here"] (lamF L 7 (.ref t) c').nf f A outer s (hideC (cs3 L) H) (backE (cs3 L) H E)) c hr2 (pa_cons (pv 1) pa_nil)
    · exact backQ_D (evd_call (eva_cons (evd_var rfl (ti.mono (sameT_hide C))) eva_nil) ⟨si, rfl, fs.okW, fs.sing, fs.len, rfl⟩) q
theorem th_source (la : LamAt H f L 8) (t3 : Three3 H L vw vh vi) (tw : Tp K H vw (encW b)) (ok : OkW b) (th : Tp K H vh (encH h)) (can : CanH 1000000 h) (c : Callee P w K mg base 7 "source" ["work", "store"] (spD K rSource)) : GivesD P w K mg base f H (encO (sourceH h (threeT b))) := by
  intro A outer s Q E hr e0 q
  obtain ⟨c', dV, h1, h2, (⟨z, _⟩ | ⟨_, t, rfl, h3⟩)⟩ := la
  · exact absurd z (by decide)
  · have C := t3.cs
    obtain ⟨u, ob, m, ru, ho, hd⟩ := tup0_at e0.hok h3
    refine lam_run (N := ["_law_i", "_law_work_here", "_law_heap"]) (ps := ["_law_i"]) (fr := ["_law_work_here", "_law_heap"]) (vs := [.int 0]) (us := [u]) (ws := [some vw, some vh]) (k := 9) (tb := tCall (spD K rSource) [] E0 (tCons (tVar 1) (tCons (tVar 2) tNil))) (nscope_by (show nscB _ _ _ (lamSc 8) = true by decide +kernel)) hr e0 h1 h2 (fun doc pm ctv => BindsTo.of_defaults (T := t) rfl ho hd rfl rfl) (.cons ru .nil) rfl C (cells_2 (n := "_law_work_here") (m := "_law_heap") C e0.hok (by decide +kernel) ne12 in1 in2 t3.w t3.h) (fun hr2 => ?_) ?_
    · exact pe_cal (X := ncx (L2.CX P w) P w K mg base ["_law_i", "_law_work_here", "_law_heap"] (lamF L 8 (.ref t) c').nf f A outer s (hideC (cs3 L) H) (backE (cs3 L) H E)) c hr2 (pa_cons (pv 1) (pa_cons (pv 2) pa_nil))
    · exact backQ_D (evd_call (eva_cons (evd_var rfl (tw.mono (sameT_hide C))) (eva_cons (evd_var rfl (th.mono (sameT_hide C))) eva_nil)) ⟨b, h, rfl, ok, can, rfl⟩) q
theorem th_between (la : LamAt H f L 9) (t3 : Three3 H L vw vh vi) (th : Tp K H vh (encH h)) (can : CanH 1000000 h) (c : Callee P w K mg base 3 "between" ["store", "goal"] (spD K rBetween)) : GivesD P w K mg base f H (.tuple [.int (betweenH h h).1, encO (betweenH h h).2]) := by
  intro A outer s Q E hr e0 q
  obtain ⟨c', dV, h1, h2, (⟨z, _⟩ | ⟨_, t, rfl, h3⟩)⟩ := la
  · exact absurd z (by decide)
  · have C := t3.cs
    obtain ⟨u, ob, m, ru, ho, hd⟩ := tup0_at e0.hok h3
    refine lam_run (N := ["_law_j", "_law_heap"]) (ps := ["_law_j"]) (fr := ["_law_heap"]) (vs := [.int 0]) (us := [u]) (ws := [some vh]) (k := 9) (tb := tCall (spD K rBetween) [] E0 (tCons (tVar 1) (tCons (tVar 1) tNil))) (nscope_by (show nscB _ _ _ (lamSc 9) = true by decide +kernel)) hr e0 h1 h2 (fun doc pm ctv => BindsTo.of_defaults (T := t) rfl ho hd rfl rfl) (.cons ru .nil) rfl C (cells_1 (n := "_law_heap") C e0.hok in2 t3.h) (fun hr2 => ?_) ?_
    · exact pe_cal (X := ncx (L2.CX P w) P w K mg base ["_law_j", "_law_heap"] (lamF L 9 (.ref t) c').nf f A outer s (hideC (cs3 L) H) (backE (cs3 L) H E)) c hr2 (pa_cons (pv 1) (pa_cons (pv 1) pa_nil))
    · exact backQ_D (evd_call (eva_cons (evd_var rfl (th.mono (sameT_hide C))) (eva_cons (evd_var rfl (th.mono (sameT_hide C))) eva_nil)) ⟨h, h, rfl, can, can, rfl⟩) q
end
end Lo
set_option Elab.async false
set_option linter.all false
set_option maxRecDepth 100000
set_option maxHeartbeats 8000000
/-! the answers of led's and how_many's lambdas -/
namespace Lo
open PySem PySem.Spec PyProof.Rows L2 LamX NdefX
structure CalleeX (P : Program) (w : World) (K : PySem.W.Frag) (mg : Str → Option Value) (base : Heap) (k : Nat) (x : Str) (ps : List Str) (sp : Sp) : Prop where
  ex : ∃ f fd, FnOk P w K mg base (L2.CX P w) k f fd ps sp ∧ mg x = some (.ref f) ∧ PySem.W.keepIn K (.ref f) = true ∧ Binds K fd ps []
/-- what the lambda of led gives -/
def LedP (K : PySem.W.Frag) (C : Addr) (a b : Wk) (H : Hp) (Q : VK) (E : XK) : Prop := (threeT a ≠ threeT b → ∀ H', Same H H' → E (.ref C) none H') ∧
  (threeT a = threeT b → (ledM a b = none → ∀ H', Same H H' → Q .non H') ∧ ∀ ws, ledM a b = some ws → ∀ l xs H', H l = none → Same H H' → H' l = some (.lst xs) → TpAll K H' xs (ws.map encW) → Q (.ref l) H')
def GivesLed (P : Program) (w : World) (K : PySem.W.Frag) (mg : Str → Option Value) (base : Heap) (f : Addr) (H : Hp) (C : Addr) (a b : Wk) : Prop :=
  ∀ (A : Around) (outer : List Env) (s : Shared) (Q : VK) (E : XK), Room 10 A → Env0 P w K mg base A outer s H → LedP K C a b H Q E → codeAny (model P w) A (.call (.ref f) ⟨[], []⟩) (CR (L2.CX P w) outer P w H s Q E) s
section
variable {P : Program} {w : World} {K : PySem.W.Frag} {mg : Str → Option Value} {base : Heap} {f L CU : Addr} {H : Hp} {vw vh vi : V} {b si : Wk} {h : Hl}
theorem five_rev {b : Wk} (h : Five b) : Five b.reverse := h.perm b.reverse_perm
theorem encW_rev (b : Wk) : PyData.tuple (encSs b).reverse = encW b.reverse := by
  unfold encW
  rw [encSs_map, encSs_map, List.map_reverse]
theorem th_led (la : LamAt H f L 6) (t3 : Three3 H L vw vh vi) (ti : Tp K H vi (encW si)) (fs : Five si) (c : CalleeX P w K mg base 8 "led" ["one", "other"] (spLed K CU)) : GivesLed P w K mg base f H CU si si.reverse := by
  intro A outer s Q E hr e0 q
  obtain ⟨c', dV, h1, h2, (⟨z, _⟩ | ⟨_, t, rfl, h3⟩)⟩ := la
  · exact absurd z (by decide)
  · have C := t3.cs
    obtain ⟨u, ob, m, ru, ho, hd⟩ := tup0_at e0.hok h3
    refine lam_run (N := ["_law_g", "_law_single_here"]) (ps := ["_law_g"]) (fr := ["_law_single_here"]) (vs := [.int 0]) (us := [u]) (ws := [some vi]) (k := 9) (tb := tCall (spLed K CU) [] (backE (cs3 L) H E) (tCons (tVar 1) (tCons (tRevT K (tVar 1)) tNil))) (nscope_by (show nscB _ _ _ (lamSc 6) = true by decide +kernel)) hr e0 h1 h2 (fun doc pm ctv => BindsTo.of_defaults (T := t) rfl ho hd rfl rfl) (.cons ru .nil) rfl C (cells_1 (n := "_law_single_here") C e0.hok in3 t3.i) (fun hr2 => ?_) ?_
    · obtain ⟨g, gd, G, hm, hkp, hb⟩ := c.ex
      exact pe_call (X := ncx (L2.CX P w) P w K mg base ["_law_g", "_law_single_here"] (lamF L 6 (.ref t) c').nf f A outer s (hideC (cs3 L) H) (backE (cs3 L) H E)) G (hr2.mono (by decide)) rfl hm hkp hb .nil (passes_call (takes_of rfl rfl rfl rfl) fun cls d σ' H' h => h) (pa_cons (pv 1) (pa_cons (pe_revT (pv 1)) pa_nil))
    · have tv := ti.mono (sameT_hide C)
      have ev : EvAs K (tCons (tVar 1) (tCons (tRevT K (tVar 1)) tNil)) (startF ["_law_g", "_law_single_here"] [.int 0] [some vi]) (hideC (cs3 L) H) [encW si, encW si.reverse] := eva_cons (evd_var rfl tv) (eva_cons (evd_is (evd_rev (evd_var rfl tv)) (encW_rev si)) eva_nil)
      refine ev _ (Same.refl _) _ fun vs H1 s1 hvs => ⟨si, si.reverse, by rw [List.append_nil]; exact hvs, fs, five_rev fs, fun ne H' s' hn => q.1 ne _ (same_back (s1.trans s') hn), fun e => ⟨fun e2 H' s' hn => (q.2 e).1 e2 _ (same_back (s1.trans s') hn), fun ws e2 l xs H' nl s' hl hx hn => ?_⟩⟩
      have nc : l ∉ cs3 L := fun hc => by
        rw [hn l hc] at hl
        cases hl
      have nl0 : H l = none := by
        have := s1.free nl
        rw [hide_out nc] at this
        exact this
      exact (q.2 e).2 ws e2 l xs _ nl0 (same_back (s1.trans s') hn) (by rw [back_out nc]; exact hl) (hx.mono (sameT_back hn))
theorem le_size : ∀ {h : Hl}, (∀ p ∈ h, (0 : Int) ≤ p.2) → ∀ p ∈ h, p.2 ≤ sizeH h
  | [], _, p, hp => by cases hp
  | a :: h, hn, p, hp => by
    have h1 := hn a (List.mem_cons_self ..)
    have nn : 0 ≤ sizeH h := by
      clear hp p
      have : ∀ l : Hl, (∀ p ∈ l, (0 : Int) ≤ p.2) → 0 ≤ (l.map (·.2)).sum := by
        intro l hl
        induction l with
        | nil => simp
        | cons x l ih =>
          rw [List.map_cons, List.sum_cons]
          have := hl x (List.mem_cons_self ..)
          have := ih fun y hy => hl y (List.mem_cons_of_mem _ hy)
          omega
      exact this h fun y hy => hn y (List.mem_cons_of_mem _ hy)
    have e : sizeH (a :: h) = a.2 + sizeH h := by unfold sizeH; rw [List.map_cons, List.sum_cons]
    rw [e]
    rcases List.mem_cons.mp hp with rfl | hp
    · omega
    · have := le_size (fun y hy => hn y (List.mem_cons_of_mem _ hy)) p hp
      omega
theorem can_of {S : List Int} {h : Hl} (g : Good S h) (hS : ∀ x ∈ S, -999 ≤ x ∧ x ≤ 999) (hs : sizeH h ≤ 5) (hl : S.length ≤ 30) : CanH 999 h :=
  ⟨g.rise, fun p hp => hS _ (g.sub p hp), fun p hp => ⟨g.pos p hp, by have := le_size (fun y hy => by have := g.pos y hy; omega) p hp; omega⟩, by have := g.len; omega⟩
theorem puts_near : ∀ {b : Wk}, SingW b → okSs b → ∀ x ∈ putsSs b, -999 ≤ x ∧ x ≤ 999
  | [], _, _, x, hx => by rw [putsSs] at hx; cases hx
  | s :: r, hs, ho, x, hx => by
    rw [putsSs] at hx
    rw [okSs] at ho
    rcases List.mem_append.mp hx with hx | hx
    · cases s with
      | put c =>
        rw [putsS, List.mem_singleton] at hx
        subst hx
        have := ho.1
        rw [okS] at this
        exact this
      | take => rw [putsS] at hx; cases hx
      | times n b => have := hs (.times n b) (List.mem_cons_self ..); cases this
    · exact puts_near (fun y hy => hs y (List.mem_cons_of_mem _ hy)) ho.2 x hx
theorem th_how_many (la : LamAt H f L 10) (t3 : Three3 H L vw vh vi) (ti : Tp K H vi (encW si)) (fs : Five si) (c : Callee P w K mg base 8 "how_many" ["three"] (spD K rHowMany)) (c2 : Callee P w K mg base 7 "heaps" ["work"] (spD K rHeaps)) : GivesD P w K mg base f H (.int (waysT (beginT (threeT si)))) := by
  intro A outer s Q E hr e0 q
  obtain ⟨c', dV, h1, h2, (⟨z, _⟩ | ⟨_, t, rfl, h3⟩)⟩ := la
  · exact absurd z (by decide)
  · have C := t3.cs
    obtain ⟨u, ob, m, ru, ho, hd⟩ := tup0_at e0.hok h3
    refine lam_run (N := ["_law_k", "_law_single_here"]) (ps := ["_law_k"]) (fr := ["_law_single_here"]) (vs := [.int 0]) (us := [u]) (ws := [some vi]) (k := 9) (tb := tCall (spD K rHowMany) [] E0 (tCons (tCall (spD K rHeaps) [] E0 (tCons (tVar 1) tNil)) tNil)) (nscope_by (show nscB _ _ _ (lamSc 10) = true by decide +kernel)) hr e0 h1 h2 (fun doc pm ctv => BindsTo.of_defaults (T := t) rfl ho hd rfl rfl) (.cons ru .nil) rfl C (cells_1 (n := "_law_single_here") C e0.hok in3 t3.i) (fun hr2 => ?_) ?_
    · exact pe_cal (X := ncx (L2.CX P w) P w K mg base ["_law_k", "_law_single_here"] (lamF L 10 (.ref t) c').nf f A outer s (hideC (cs3 L) H) (backE (cs3 L) H E)) c hr2 (pa_cons (pe_cal c2 hr2 (pa_cons (pv 1) pa_nil)) pa_nil)
    · have g := threeT_good si
      have st := sing_three fs.sing
      have sz1 := g.left.size_nonneg
      have sz2 := g.out.size_nonneg
      have gi := g.idle
      have l5 := fs.len
      have pl := putsSs_len si
      have cn := fs.okW.cnt
      have nr := puts_near fs.sing fs.ok
      have st2 := st
      unfold stepsT at st2
      exact backQ_D (evd_call (eva_cons (evd_call (eva_cons (evd_var rfl (ti.mono (sameT_hide C))) eva_nil) ⟨si, rfl, fs.okW, rfl⟩) eva_nil) ⟨threeT si, putsSs si, rfl, g, by omega, by omega, can_of g.left nr (by omega) (by omega), can_of g.out nr (by omega) (by omega), rfl⟩) q
end
end Lo
set_option Elab.async false
set_option linter.all false
set_option maxRecDepth 100000
set_option maxHeartbeats 8000000
/-! _law_told: the call of what it was handed -/
namespace Lo
open PySem PySem.Spec PyProof.Rows L2 LamX NdefX
open PySem PySem.Spec PyProof.Rows L2 LamX NdefX
abbrev sTold : Stmt := top 69
/-- f(), f what the i-th name holds: a lambda that keeps its promise -/
def tCallP (X : Cx) (i : Nat) (E : L2.St → XK) : TE := fun σ H Q => ∃ (f : Addr) (F : LF), σ[i]? = some (some (.ref f)) ∧ H f = some (LamO f F) ∧
  ∀ s, Env0 X.prog X.w X.K X.mg X.base X.A X.stack s H → codeAny (model X.prog X.w) X.A (.call (.ref f) ⟨[], []⟩) (CR (L2.CX X.prog X.w) X.stack X.prog X.w H s Q (E σ)) s
theorem pe_callP {X : Cx} {i : Nat} {a : Str} {E : L2.St → XK} {p1 p2 : Pos} (hx : ∀ (pins : List (Addr × Obj)) (σ : L2.St) (H : Hp) (s : Shared) (e : Value) (s' : Shared), Inv X pins σ H s → L2.CX X.prog X.w X.stack H s (E σ) e s' → X.xe e s') (hN : X.N[i]? = some a) (hv : Vis X.env.scope a) (hd : (a == ("__debug__" : Str)) = false := by decide) (hcd : (a == ("__classdict__" : Str)) = false := by decide) :
    PE X (.Call (.Name a p1) [] [] p2) (tCallP X i E) := by
  refine ⟨fun pins s σ H Q I h => ?_⟩
  obtain ⟨f, F, hs, hf, ht⟩ := h
  refine wpAny_Call_Name_kw (thn ((pe_var (pos := p1) (i := i) hN hv hd hcd).run pins s σ H (fun v H1 => v = .ref f ∧ H1 = H) I ⟨.ref f, hs, rfl, rfl⟩) fun u s1 ⟨v, H1, I1, r1, q1⟩ => ?_)
  obtain ⟨ev, eH⟩ := q1
  subst ev
  subst eH
  obtain rfl : u = Value.ref f := r1
  obtain ⟨od, sl, doc, pm, ctv, ho⟩ := lamO_at I1.hok hf
  refine PySem.W.callWith_F0 ⟨_, _, _, _, ho⟩ ?_
  refine wpAny_call (codeAny_mono (ht s1 I1.env0) fun r s' hq => ?_)
  cases r with
  | error e => exact hx pins σ H1 s1 e s' I1 hq
  | ok fl =>
    cases fl with
    | ret u => exact I1.after hq
    | next => exact False.elim hq
    | brk => exact False.elim hq
    | cont => exact False.elim hq
/-- list.count of a truth value among truth values -/
def rCountB (K : PySem.W.Frag) : V → List V → Hp → VK → Prop := fun x xs H Q => ∃ (p : Addr) (bs : List Bool) (k : Bool), x = .ref p ∧ xs = [.bl k] ∧ SqL K H p (bs.map V.bl) ∧ Q (.int (bs.count k : Nat)) H
theorem bools_vals : ∀ {bs : List Bool} {its : List Value}, Vals (bs.map V.bl) its → its = bs.map Value.bool
  | [], _, r => by cases r; rfl
  | b :: bs, _, r => by
    cases r with
    | cons r1 r2 =>
      rw [List.map_cons, ← bools_vals r2]
      cases r1
      rfl
theorem mt_countB {X : Cx} : MtR X "list.count" (rCountB X.K) := by
  intro pins s σ H x xs v us Q I rx rxs h
  obtain ⟨p, bs, k, rfl, rfl, hs, q⟩ := h
  cases rx
  obtain ⟨u, rfl, ru⟩ := rxs.one
  obtain ⟨its, rv, ⟨⟨cls, dd, data, sl⟩, n, ho, hc, hdn, hd⟩, hlen⟩ := I.list hs
  simp only at hc hd
  subst hc hd
  have fys : (bs.map V.bl).all flatV = true := by
    rw [List.all_map, List.all_eq_true]
    intro b _
    rfl
  refine call_meets PySem.F.slot_list_count ⟨_, ho, rfl⟩ PySem.F.entry_list_count (PySem.F.args_list_count_2 _ _)
    (SeqAt.list_countAt p its.toArray n dd sl u (eqU (.bl k))) ⟨ho, fun y hy => mem_eqAt ru rfl rv fys y (by simpa using hy), ?_⟩
  have ec : its.toArray.toList.countP (eqU (.bl k)) = bs.count k := by
    rw [bools_vals rv, List.countP_map]
    unfold List.count
    refine List.countP_congr fun b _ => ?_
    have e : eqU (.bl k) (Value.bool b) = eqV (.bl b) (.bl k) := eqU_of (show L2.RelV (.bl b) (Value.bool b) from rfl) rfl
    show eqU (.bl k) (Value.bool b) = true ↔ _
    rw [e]
    cases b <;> cases k <;> decide
  refine ⟨.int (bs.count k : Nat), H, I.tok _, ⟨s.toks, ?_⟩, q⟩
  show Value.int ((its.toArray.toList.countP (eqU (.bl k)) : Nat) : Int) s.toks = Value.int ((bs.count k : Nat) : Int) s.toks
  rw [ec]
end Lo
set_option Elab.async false
set_option linter.all false
set_option maxRecDepth 100000
set_option maxHeartbeats 8000000
/-! _law_told -/
namespace Lo
open PySem PySem.Spec PyProof.Rows L2 LamX NdefX
/-- what the top has of the errors -/
structure ErrTxt (K : PySem.W.Frag) (mg : Str → Option Value) (CS CU : Addr) : Prop where
  xc : ExcC K CU
  mS : mg "StoreError" = some (.ref CS)
  hit : PySem.W.exmOne K (.ref CU) (.ref CS) = some true
  each : ∀ n ∈ (["BadHeap", "BadWork", "BadThree", "BadDeed", "BadText", "BadCount", "BadNumber", "TooMany", "Mixed"] : List Str), ∃ c, mg n = some (.ref c) ∧ PySem.W.kitOne K (.ref CU) (.ref c) = some false
  mU : mg "Unlike" = some (.ref CU)
  isU : PySem.W.kitOne K (.ref CU) (.ref CU) = some true
def tryBody (st : Stmt) : List Stmt := match defBody st with
  | [.Try _ [.ExceptHandler _ _ b _] _ _ _] => b
  | _ => []
section
variable {P : Program} {w : World} {K : PySem.W.Frag} {mg : Str → Option Value} {base : Heap} {f CS CU : Addr} {fd : FuncData}
theorem scTold : FnScope ["_law_work_here", "_law_e", "_law_some", "_law_terms", "_law_term"] ["_law_work_here"] (defScope sTold) := ⟨rfl, rfl, rfl, by decide +kernel, rfl, by decide +kernel, by decide +kernel⟩
/-- told f: f's answer, or its refusal -/
def spTold (P : Program) (w : World) (K : PySem.W.Frag) (mg : Str → Option Value) (base : Heap) (CU : Addr) : Sp := fun vs H Q _ => ∃ (g : Addr) (F : LF), vs = [.ref g] ∧ H g = some (LamO g F) ∧ ∃ (Pr : VK → XK → Prop),
  (∀ (A : Around) (outer : List Env) (s : Shared) (Q : VK) (E : XK), Room 10 A → Env0 P w K mg base A outer s H → Pr Q E → codeAny (model P w) A (.call (.ref g) ⟨[], []⟩) (CR (L2.CX P w) outer P w H s Q E) s) ∧
  Pr Q fun cls d H' => cls = .ref CU ∧ d = none ∧ ∀ v H2, Same H' H2 → Tp K H2 v (.tuple [.str "refused", .str "Unlike"]) → Q v H2
theorem pe_no {X : Cx} {e : Expr} : PE X e (fun _ _ _ => False) := ⟨fun _ _ _ _ _ _ h => h.elim⟩
theorem pss_no {X : Cx} {st : List Stmt} : PSs X st (fun _ _ _ => False) := ⟨fun _ _ _ _ _ _ h => h.elim⟩
theorem evd_isE {σ : L2.St} {H : Hp} {a c D : Addr} {i : Nat} {b : Bool} (hv : σ[i]? = some (some (.ref a))) (k : PySem.W.kitOne K (.ref D) (.ref c) = some b) : EvD K (tCB (rIsE K D a) (tCons (tVar i) (tCons (tC (.ref c)) tNil))) σ H (.bool b) := fun H1 s Q q =>
  ⟨_, hv, .ref c, .ref c, b, rfl, fun u r => r, k, q _ H1 (Same.refl H1) (.bl b)⟩
theorem evl_catV {σ : L2.St} {H : Hp} {tb : TE} {i : Nat} {l : Addr} {xs : List V} {ds es : List PyData} (hv : σ[i]? = some (some (.ref l))) (hl : H l = some (.lst xs)) (hx : TpAll K H xs ds) (h2 : EvLs K tb σ H es) (hz : ds.length + es.length ≤ sizeLine) : EvLs K (tOp rCat (tVar i) tb) σ H (ds ++ es) := fun H1 s Q q =>
  ⟨_, hv, h2 H1 s _ fun b ys H3 n3 s3 hb hy => ⟨l, b, xs, ys, rfl, rfl, s3 _ _ (s _ _ hl), hb, by rw [hx.length, hy.length]; exact hz, fun p hp =>
    q p _ _ (s3.free hp) (s3.trans (same_new hp _)) upd_same (((hx.same (s.trans s3)).append hy).same (same_new hp _))⟩⟩
theorem bools_inv {H : Hp} : ∀ {bs : List Bool} {xs : List V}, TpAll K H xs (bs.map PyData.bool) → xs = bs.map V.bl
  | [], xs, h => by cases h; rfl
  | b :: bs, xs, h => by
    cases h with
    | cons h1 h2 => rw [h1.bl_inv, bools_inv h2]; rfl
theorem ok_told (F : Fun K "_law_told" "_law_told" sTold f fd) (T : Txt K mg) (X : ErrTxt K mg CS CU) : FnOk P w K mg base CX0 11 f fd ["_law_work_here"] (spTold P w K mg base CU) := by
  refine F.ok scTold (fun vs H Q E ⟨g, F, e, _⟩ => by rw [e]; rfl) (fun cdv A outer s H vs Q E hr h => ?_)
  obtain ⟨g, G, rfl, hg, Pr, run, q⟩ := h
  have nd := scTold.nd
  have suite : ∀ a : Addr, ∃ tsR : TS, (∀ (oe : Obj) (pn : List (Addr × Obj)), Zc (.ref CU) none oe → (∃ vs, oe.data = .fields vs) → PSs ((cxOf CX0 P w K mg base ["_law_work_here", "_law_e", "_law_some", "_law_terms", "_law_term"] "_law_told" (defScope sTold) f cdv A outer s H E).nox.suite a ((a, oe) :: pn)) (tryBody sTold) tsR) ∧
      ∀ (D : Ends) (H1 : Hp), H1 a = none → (∀ v H2, Same H1 H2 → Tp K H2 v (.tuple [.str "refused", .str "Unlike"]) → D.rt v H2) → tsR D [some (.ref g), some (.ref a), none, none, none] H1 := by
    obtain ⟨c1, m1, k1⟩ := X.each "BadHeap" (by decide +kernel)
    obtain ⟨c2, m2, k2⟩ := X.each "BadWork" (by decide +kernel)
    obtain ⟨c3, m3, k3⟩ := X.each "BadThree" (by decide +kernel)
    obtain ⟨c4, m4, k4⟩ := X.each "BadDeed" (by decide +kernel)
    obtain ⟨c5, m5, k5⟩ := X.each "BadText" (by decide +kernel)
    obtain ⟨c6, m6, k6⟩ := X.each "BadCount" (by decide +kernel)
    obtain ⟨c7, m7, k7⟩ := X.each "BadNumber" (by decide +kernel)
    obtain ⟨c8, m8, k8⟩ := X.each "TooMany" (by decide +kernel)
    obtain ⟨c9, m9, k9⟩ := X.each "Mixed" (by decide +kernel)
    intro a
    have isi : ∀ (oe : Obj) (pn : List (Addr × Obj)), Zc (.ref CU) none oe → (∃ vs, oe.data = .fields vs) → ∀ {n : Str} {c : Addr} {p1 p2 p3 p4 : Pos}, mg n = some (.ref c) → Gl ((cxOf CX0 P w K mg base ["_law_work_here", "_law_e", "_law_some", "_law_terms", "_law_term"] "_law_told" (defScope sTold) f cdv A outer s H E).nox.suite a ((a, oe) :: pn)) n → (n == ("__debug__" : Str)) = false → PE ((cxOf CX0 P w K mg base ["_law_work_here", "_law_e", "_law_some", "_law_terms", "_law_term"] "_law_told" (defScope sTold) f cdv A outer s H E).nox.suite a ((a, oe) :: pn)) (.Call (.Name "isinstance" p1) [.Name "_law_e" p2, .Name n p3] [] p4) (tCB (rIsE K CU a) (tCons (tVar 1) (tCons (tC (.ref c)) tNil))) := fun oe pn hz hf _ _ _ _ _ _ hm hg hd =>
      pe_callB (call_isE X.xc hz hf) (by rfl) T.zIsi (by decide +kernel) (pa_cons (pv 1) (pa_cons (pe_gR hm hg hd) pa_nil))
    refine ⟨_, fun oe pn hz hf => pss_cons (ps_set (i := 2) nd rfl (Or.inl rfl) (pe_lst (pa_cons (isi oe pn hz hf m1 rfl (by decide)) (pa_cons (isi oe pn hz hf m2 rfl (by decide)) (pa_cons (isi oe pn hz hf m3 rfl (by decide)) (pa_cons (isi oe pn hz hf m4 rfl (by decide)) pa_nil))))))
        (pss_cons (ps_set (i := 2) nd rfl (Or.inl rfl) (pe_op op_cat (pv 2) (pe_lst (pa_cons (isi oe pn hz hf m5 rfl (by decide)) (pa_cons (isi oe pn hz hf m6 rfl (by decide)) (pa_cons (isi oe pn hz hf m7 rfl (by decide)) pa_nil))))))
        (pss_cons (ps_set (i := 2) nd rfl (Or.inl rfl) (pe_op op_cat (pv 2) (pe_lst (pa_cons (isi oe pn hz hf m8 rfl (by decide)) (pa_cons (isi oe pn hz hf m9 rfl (by decide)) (pa_cons (isi oe pn hz hf X.mU rfl (by decide)) pa_nil))))))
        (pss_cons (ps_set (i := 3) nd rfl (Or.inl rfl) (pe_lst (pa_cons pe_str (pa_cons pe_str (pa_cons pe_str (pa_cons pe_str (pa_cons pe_str (pa_cons pe_str (pa_cons pe_str pa_nil)))))))))
        (pss_cons (ps_set (i := 3) nd rfl (Or.inl rfl) (pe_op op_cat (pv 3) (pe_lst (pa_cons pe_str (pa_cons pe_str (pa_cons pe_str pa_nil))))))
        (pss_cons (ps_set (i := 4) nd rfl (Or.inl rfl) (pe_ifExp (pt_cmpR op_eq (show PE _ _ (tBM K "list" (rCountB K) (tVar 2) (tCons (tC (.bl true)) tNil)) from pe_bm PySem.F.plainAttrs_list PySem.F.slot_list_count PySem.F.type_list_count mt_countB (pv 2) (pa_cons pe_bl pa_nil)) pe_int (nomark _)) (pe_ix (show IxR _ (rIxL K) from ix_list) (pv 3) (show PE _ _ (tBM K "list" (rIndex K) (tVar 2) (tCons (tC (.bl true)) tNil)) from pe_bm PySem.F.plainAttrs_list PySem.F.slot_list_index PySem.F.type_list_index mt_index (pv 2) (pa_cons pe_bl pa_nil)) (fun _ _ => rfl)) pe_str))
        (pss_cons (ps_if (pt_cmpR op_eq (pv 4) pe_str (nomark _)) pss_no pss_nil)
        (pss_cons (ps_if (pt_cmpR op_eq (pv 4) pe_str (nomark _)) pss_no pss_nil)
        (pss_cons (ps_if (pt_cmpR op_eq (pv 4) pe_str (nomark _)) pss_no pss_nil)
        (pss_cons (ps_if (pt_cmpR op_eq (pv 4) pe_str (nomark _)) pss_no pss_nil)
        (pss_one (ps_ret (pe_op (show OpR _ (binaryOp .Add) (rCatP K) from op_catP) (pe_tupP (pa_cons pe_str (pa_cons (pv 4) pa_nil))) (pe_ifExp (pt_cmpR op_eq (pv 4) pe_str (nomark _)) pe_no (pe_tupP pa_nil)))))))))))))), fun D H1 ha hq => ?_⟩
    refine sd_seq (sd_setL (K := K) (evl_lst (eva_cons (evd_isE rfl k1) (eva_cons (evd_isE rfl k2) (eva_cons (evd_isE rfl k3) (eva_cons (evd_isE rfl k4) eva_nil))))) fun l2 x2 H2 n2 s2 hl2 hx2 => ?_)
    refine sd_go (sd_seq (sd_setL (K := K) (evl_catV rfl hl2 hx2 (evl_lst (eva_cons (evd_isE rfl k5) (eva_cons (evd_isE rfl k6) (eva_cons (evd_isE rfl k7) eva_nil)))) (by decide)) fun l3 x3 H3 n3 s3 hl3 hx3 => ?_))
    refine sd_go (sd_seq (sd_setL (K := K) (evl_catV rfl hl3 hx3 (evl_lst (eva_cons (evd_isE rfl k8) (eva_cons (evd_isE rfl k9) (eva_cons (evd_isE rfl X.isU) eva_nil)))) (by decide)) fun l4 x4 H4 n4 s4 hl4 hx4 => ?_))
    have hx4' : TpAll K H4 x4 (([false, false, false, false, false, false, false, false, false, true] : List Bool).map PyData.bool) := hx4
    have ex4 := bools_inv hx4'
    refine sd_go (sd_seq (sd_setL (K := K) (evl_lst (eva_cons evd_str (eva_cons evd_str (eva_cons evd_str (eva_cons evd_str (eva_cons evd_str (eva_cons evd_str (eva_cons evd_str eva_nil)))))))) fun l5 x5 H5 n5 s5 hl5 hx5 => ?_))
    refine sd_go (sd_seq (sd_setL (K := K) (evl_catV rfl hl5 hx5 (evl_lst (eva_cons evd_str (eva_cons evd_str (eva_cons evd_str eva_nil)))) (by decide)) fun l6 x6 H6 n6 s6 hl6 hx6 => ?_))
    have s16 := ((((s2.trans s3).trans s4).trans s5).trans s6)
    have hl46 := (s5.trans s6) _ _ hl4
    rw [ex4] at hl46
    have ecount : EvD K (tBM K "list" (rCountB K) (tVar 2) (tCons (tC (.bl true)) tNil)) [some (.ref g), some (.ref a), some (.ref l4), some (.ref l6), none] H6 (.int 1) := fun H7 s7 Q q =>
      ⟨_, rfl, .inl ⟨rfl, _, SqL.of (s7 _ _ hl46)⟩, l4, _, true, rfl, rfl, .inl (.inl (s7 _ _ hl46)), q _ H7 (Same.refl H7) (.int 1)⟩
    have eindex : EvD K (tBM K "list" (rIndex K) (tVar 2) (tCons (tC (.bl true)) tNil)) [some (.ref g), some (.ref a), some (.ref l4), some (.ref l6), none] H6 (.int ((9 : Nat) : Int)) := fun H7 s7 Q q =>
      ⟨_, rfl, .inl ⟨rfl, _, SqL.of (s7 _ _ hl46)⟩, l4, _, .bl true, 9, .bl true, rfl, rfl, .inl (.inl (s7 _ _ hl46)), rfl, rfl, rfl, rfl, fun m z hm hz => by
        match m, hm with
        | 0, _ => cases hz; rfl
        | 1, _ => cases hz; rfl
        | 2, _ => cases hz; rfl
        | 3, _ => cases hz; rfl
        | 4, _ => cases hz; rfl
        | 5, _ => cases hz; rfl
        | 6, _ => cases hz; rfl
        | 7, _ => cases hz; rfl
        | 8, _ => cases hz; rfl
        | m + 9, hm => exact absurd hm (by omega), q _ H7 (Same.refl H7) (.int _)⟩
    refine sd_go (sd_seq (sd_set (K := K) (d := .str "Unlike") (evd_if (b := true) (evb_test (K := K) (evd_op ecount evd_int opd_eqI)) (fun _ => evd_ixL (i := 3) rfl hl6 hx6 eindex rfl) fun h => by cases h) fun v H7 s7 h7 => ?_))
    obtain rfl := h7.str_inv
    have no : ∀ (n : Str) (H8 : Hp), decide (("Unlike" : Str) = n) = false → EvB (tTest (tOp rEq (tVar 4) (tC (.str n)))) [some (.ref g), some (.ref a), some (.ref l4), some (.ref l6), some (.str "Unlike")] H8 false := fun n H8 hn => by
      have := evb_test (K := K) (evd_op (evd_var (i := 4) (σ := [some (.ref g), some (.ref a), some (.ref l4), some (.ref l6), some (.str "Unlike")]) (H := H8) rfl (.str "Unlike")) (evd_str (x := n)) opd_eqStr)
      rw [hn] at this
      exact this
    refine sd_go (sd_no1 (no _ _ (by decide +kernel)) fun H8 s8 => ?_)
    refine sd_go (sd_no1 (no _ _ (by decide +kernel)) fun H9 s9 => ?_)
    refine sd_go (sd_no1 (no _ _ (by decide +kernel)) fun H10 s10 => ?_)
    refine sd_go (sd_no1 (no _ _ (by decide +kernel)) fun H11 s11 => ?_)
    have s7b := (s16.trans s7).trans (((s8.trans s9).trans s10).trans s11)
    refine sd_go (sd_ret (K := K) (d := .tuple ([.str "refused", .str "Unlike"] ++ [])) (evd_op (evd_tup (eva_cons evd_str (eva_cons (evd_var (i := 4) rfl (.str "Unlike")) eva_nil))) (evd_if (b := false) (no _ _ (by decide +kernel)) (fun h => by cases h) fun _ => evd_tup eva_nil) (opd_cat (by decide))) fun v H12 s12 h12 => ?_)
    exact hq v H12 (s7b.trans s12) h12
  classical
  let st0 : L2.St := [some (.ref g), none, none, none, none]
  let E1 : XK := fun cls d H' => cls = .ref CU ∧ d = none ∧ ∀ v H2, Same H' H2 → Tp K H2 v (.tuple [.str "refused", .str "Unlike"]) → Q v H2
  refine ⟨_, pss_one (ps_try_as (c := .ref CS) (i := 1) (tb := fun W D σ H1 => ∃ Ech : L2.St → XK, (∀ σ' cls d H', Ech σ' cls d H' → W cls d σ' H') ∧ tCallP (cxOf CX0 P w K mg base ["_law_work_here", "_law_e", "_law_some", "_law_terms", "_law_term"] "_law_told" (defScope sTold) f cdv A outer s H E).nox 0 Ech σ H1 D.rt)
    (ts := fun a cls d D σ H1 => (cls = .ref CU ∧ d = none) ∧ Classical.choose (suite a) D σ H1) rfl rfl nd rfl rfl ⟨rfl, by decide, .inl X.mS⟩ L2.takes0 (fun W pn xe tk _ => ?_) (fun a oe cls d pn hz hf => ?_)), ?_⟩
  · refine ⟨fun pins s' σ H' D I h' => ?_⟩
    obtain ⟨Ech, hW, h1⟩ := h'
    have hp := pe_callP (X := ((cxOf CX0 P w K mg base ["_law_work_here", "_law_e", "_law_some", "_law_terms", "_law_term"] "_law_told" (defScope sTold) f cdv A outer s H E).nox).tr pn xe) (i := 0) (a := "_law_work_here") (E := Ech) (p1 := ⟨0, 0, 0, 0⟩) (p2 := ⟨0, 0, 0, 0⟩) (fun pins σ H s e s' I c => tk e s' (XE.of_call I (fun cls d H' h => hW σ cls d H' h) c)) rfl (Or.inl rfl)
    exact (pss_one (ps_ret (pe_callP (i := 0) (a := "_law_work_here") (E := Ech) (fun pins σ H s e s' I c => tk e s' (XE.of_call I (fun cls d H' h => hW σ cls d H' h) c)) rfl (Or.inl rfl)))).run pins s' σ H' D I h1
  · refine ⟨fun pins s' σ H' D I h' => ?_⟩
    obtain ⟨⟨rfl, rfl⟩, h1⟩ := h'
    exact ((Classical.choose_spec (suite a)).1 oe pn hz hf).run pins s' σ H' D I h1
  · obtain ⟨Ech, h1, h2⟩ : ∃ Ech : L2.St → XK, Ech st0 = E1 ∧ ∀ σ', σ' ≠ st0 → Ech σ' = fun _ _ _ => False := ⟨fun σ' => if σ' = st0 then E1 else fun _ _ _ => False, if_pos rfl, fun σ' h => if_neg h⟩
    refine ⟨Ech, fun σ' cls d H' h => ?_, g, G, rfl, hg, fun s1 e1 => ?_⟩
    · by_cases hs : σ' = st0
      · rw [hs, h1] at h
        obtain ⟨rfl, rfl, h2⟩ := h
        rw [hs]
        exact ⟨true, X.hit, fun _ a ha => ⟨⟨rfl, rfl⟩, (Classical.choose_spec (suite a)).2 _ H' ha h2⟩, fun z => by cases z⟩
      · rw [h2 σ' hs] at h
        exact h.elim
    · refine run _ _ s1 Q _ hr e1 ?_
      show Pr Q (Ech st0)
      rw [h1]
      exact q
end
end Lo
set_option Elab.async false
set_option linter.all false
set_option maxRecDepth 100000
set_option maxHeartbeats 8000000
/-! the eleven answers -/
namespace Lo
open PySem PySem.Spec PyProof.Rows L2 LamX NdefX
/-! how long a way is -/
theorem back_len {t : Three} {o : Wk} {dk : Dl} : ∀ (f : Nat) (b : Wk), (backGo t o dk f b).length ≤ f
  | 0, b => by rw [backGo]; exact Nat.le_refl _
  | f + 1, b => by
    rw [backGo]
    split
    · exact Nat.zero_le _
    · rw [List.length_cons]
      exact Nat.succ_le_succ (back_len f _)
/-- no distance is above its place -/
def LowD (dk : Dl) : Prop := ∀ (j : Nat) (p : Wk × Int), dk[j]? = some p → p.2 ≤ (j : Int)
theorem low_one {dk : Dl} {d : Int} {x : Wk} (h : LowD dk) (hd : d ≤ (dk.length : Int)) : LowD (growOne d dk x) ∧ dk.length ≤ (growOne d dk x).length := by
  unfold growOne
  split
  · exact ⟨h, Nat.le_refl _⟩
  · refine ⟨fun j p hp => ?_, by rw [List.length_append]; omega⟩
    rcases Nat.lt_or_ge j dk.length with z | z
    · rw [List.getElem?_append_left z] at hp
      exact h j p hp
    · rw [List.getElem?_append_right z] at hp
      have hz : j - dk.length < 1 := (List.getElem?_eq_some_iff.mp hp).1
      have e : j - dk.length = 0 := by omega
      rw [e] at hp
      cases hp
      show d ≤ _
      omega
theorem low_all {d : Int} : ∀ {l : List Wk} {dk : Dl}, LowD dk → d ≤ (dk.length : Int) → LowD (growW d dk l)
  | [], dk, h, _ => h
  | x :: l, dk, h, hd => by
    obtain ⟨h1, h2⟩ := low_one (x := x) h hd
    have e : growW d dk (x :: l) = growW d (growOne d dk x) l := rfl
    rw [e]
    exact low_all h1 (by omega)
theorem low_bfs {t : Three} : ∀ (f i : Nat) {dk : Dl}, LowD dk → LowD (bfsGo t f i dk)
  | 0, i, dk, h => by rw [bfsGo]; exact h
  | f + 1, i, dk, h => by
    rw [bfsGo]
    cases e : dk[i]? with
    | none => exact h
    | some p =>
      obtain ⟨b, d⟩ := p
      have h1 := h i _ e
      have h2 := (List.getElem?_eq_some_iff.mp e).1
      refine low_bfs f (i + 1) (low_all h ?_)
      have h1' : d ≤ (i : Int) := h1
      omega
theorem pow5 {n : Nat} (h : n ≤ 5) : n ^ n ≤ 3125 := by
  have : n = 0 ∨ n = 1 ∨ n = 2 ∨ n = 3 ∨ n = 4 ∨ n = 5 := by omega
  rcases this with rfl | rfl | rfl | rfl | rfl | rfl <;> decide
theorem led_len {a b : Wk} {ws : List Wk} (fb : Five b) (eT : threeT a = threeT b) (h : ledM a b = some ws) : ws.length ≤ 4000 := by
  have BF := bfs_end (other := b) (t := threeT a) (b.length ^ b.length + 1) 0 [(b, 0)] (by rw [eT]; exact Bfs.start b) (by omega)
  have L : LowD (bfsGo (threeT a) (b.length ^ b.length + 1) 0 [(b, 0)]) := low_bfs _ _ fun j p hp => by
    have hz : j < 1 := (List.getElem?_eq_some_iff.mp hp).1
    have e : j = 0 := by omega
    subst e
    cases hp
    exact Int.le_refl _
  have sz := BF.size
  have p5 := pow5 fb.len
  have eled : ledM a b = (match distW (bfsGo (threeT a) (b.length ^ b.length + 1) 0 [(b, 0)]) a with | none => none | some d => some (backGo (threeT a) b (bfsGo (threeT a) (b.length ^ b.length + 1) 0 [(b, 0)]) (d.toNat + 1) a)) := rfl
  rw [eled] at h
  cases e : distW (bfsGo (threeT a) (b.length ^ b.length + 1) 0 [(b, 0)]) a with
  | none => rw [e] at h; cases h
  | some d =>
    rw [e] at h
    cases h
    obtain ⟨j, hj⟩ := List.mem_iff_getElem?.mp (dist_mem e)
    have hl := L j _ hj
    have hjl := (List.getElem?_eq_some_iff.mp hj).1
    have := back_len (t := threeT a) (o := b) (dk := bfsGo (threeT a) (b.length ^ b.length + 1) 0 [(b, 0)]) (d.toNat + 1) a
    have hl' : d ≤ (j : Int) := hl
    omega
/-! the way is made of what five stays -/
theorem back_five {t : Three} {o : Wk} {dk : Dl} : ∀ (f : Nat) (b : Wk), Five b → ∀ x ∈ backGo t o dk f b, Five x ∨ x = []
  | 0, b, _, x, hx => by rw [backGo] at hx; cases hx
  | f + 1, b, fb, x, hx => by
    rw [backGo] at hx
    split at hx
    · cases hx
    · have key : Five (nextB t dk b) ∨ nextB t dk b = [] := by
        unfold nextB
        cases e : (neighW b t).filter fun l => decide ((distW dk l).getD 0 = (distW dk b).getD 0 - 1) with
        | nil => exact .inr rfl
        | cons y r =>
          have hy : y ∈ (neighW b t).filter fun l => decide ((distW dk l).getD 0 = (distW dk b).getD 0 - 1) := by rw [e]; exact List.mem_cons_self ..
          exact .inl (fb.perm (neigh_perm (List.mem_filter.mp hy).1).1)
      have f0 : Five [] := ⟨fun s hs => (by cases hs), by rw [okSs]; trivial, Nat.zero_le _⟩
      rcases List.mem_cons.mp hx with rfl | hx
      · exact key
      · refine back_five f _ ?_ x hx
        rcases key with k | k
        · exact k
        · rw [k]
          exact f0
theorem led_five {a b : Wk} {ws : List Wk} (fa : Five a) (h : ledM a b = some ws) : ∀ x ∈ ws, Five x := by
  have eled : ledM a b = (match distW (bfsGo (threeT a) (b.length ^ b.length + 1) 0 [(b, 0)]) a with | none => none | some d => some (backGo (threeT a) b (bfsGo (threeT a) (b.length ^ b.length + 1) 0 [(b, 0)]) (d.toNat + 1) a)) := rfl
  rw [eled] at h
  cases e : distW (bfsGo (threeT a) (b.length ^ b.length + 1) 0 [(b, 0)]) a with
  | none => rw [e] at h; cases h
  | some d =>
    rw [e] at h
    cases h
    intro x hx
    rcases back_five _ _ fa x hx with k | k
    · exact k
    · rw [k]
      exact ⟨fun s hs => (by cases hs), by rw [okSs]; trivial, Nat.zero_le _⟩
/-! texts that can be laid -/
theorem strOk_app {x y : Str} (h : PyData.strOk x = true) (k : PyData.strOk y = true) : PyData.strOk (x ++ y) = true := by
  unfold PyData.strOk at h k ⊢
  show (x.cps ++ y.cps).all _ = true
  rw [Array.all_append, h, k]
  rfl
theorem strOk_empty : PyData.strOk Str.empty = true := by decide +kernel
theorem strOk_join {sep : Str} (hs : PyData.strOk sep = true) : ∀ {l : List Str}, (∀ x ∈ l, PyData.strOk x = true) → PyData.strOk (Txt.join sep l) = true := by
  have e : ∀ l : List Str, Txt.join sep l = Str.join sep l := fun l => StrLaws.glued_eq_join sep l
  intro l h
  rw [e]
  induction l with
  | nil => exact strOk_empty
  | cons x l ih =>
    cases l with
    | nil => exact h x (List.mem_cons_self ..)
    | cons y r =>
      show PyData.strOk (x ++ sep ++ Str.join sep (y :: r)) = true
      exact strOk_app (strOk_app (h x (List.mem_cons_self ..)) hs) (ih fun z hz => h z (List.mem_cons_of_mem _ hz))
theorem strOk_of (s : String) : PyData.strOk (Str.ofString s) = true := by
  rw [Str.ofString_eq_toList]
  unfold PyData.strOk
  rw [Array.all_eq_true]
  intro i hi
  simp only [List.getElem_toArray, List.getElem_map]
  refine decide_eq_true ?_
  have := (s.toList[i]'(by simpa using hi)).valid
  have k : ∀ c : Char, c.toNat < 0x110000 := fun c => by
    have := c.valid
    have e : c.toNat = c.val.toNat := rfl
    rcases this with h | ⟨_, h⟩
    · have : c.val.toNat < 0xd800 := h
      omega
    · have : c.val.toNat < 0x110000 := h
      omega
  exact k _
theorem strOk_mul {x : Str} {n : Int} (hx : PyData.strOk x = true) : PyData.strOk (Txt.mul x n) = true := by
  have go : ∀ (k : Nat) (acc : Array Nat), acc.all (· < 0x110000) = true → ((List.replicate k x.cps).foldl (· ++ ·) acc).all (· < 0x110000) = true := by
    intro k
    induction k with
    | zero => exact fun acc h => h
    | succ k ih =>
      intro acc h
      rw [List.replicate_succ, List.foldl_cons]
      refine ih _ ?_
      rw [Array.all_append, h]
      exact hx
  unfold Txt.mul
  split
  · exact strOk_empty
  · split
    · exact hx
    · exact go _ #[] (by decide +kernel)
theorem strOk_row (s : Stp) (d : Int) : PyData.strOk (rowS s d) = true := by
  unfold rowS
  refine strOk_app (strOk_mul (strOk_of _)) (strOk_join (strOk_of _) fun x hx => ?_)
  rcases List.mem_cons.mp hx with rfl | hx
  · cases s <;> exact strOk_of _
  · obtain ⟨i, _, rfl⟩ := List.mem_map.mp hx
    exact strOk_of _
mutual
theorem strOk_rowsS : ∀ (s : Stp) (d : Int), ∀ x ∈ rowsS s d, PyData.strOk x = true
  | .put c, d, x, hx => by
    rw [rowsS, List.mem_singleton] at hx
    subst hx
    exact strOk_row _ _
  | .take, d, x, hx => by
    rw [rowsS, List.mem_singleton] at hx
    subst hx
    exact strOk_row _ _
  | .times n b, d, x, hx => by
    rw [rowsS] at hx
    rcases List.mem_cons.mp hx with rfl | hx
    · exact strOk_row _ _
    · exact strOk_rowsSs b (d + 1) x hx
theorem strOk_rowsSs : ∀ (b : List Stp) (d : Int), ∀ x ∈ rowsSs b d, PyData.strOk x = true
  | [], d, x, hx => by rw [rowsSs] at hx; cases hx
  | s :: r, d, x, hx => by
    rw [rowsSs] at hx
    rcases List.mem_append.mp hx with hx | hx
    · exact strOk_rowsS s d x hx
    · exact strOk_rowsSs r d x hx
end
/-! data of few levels that can be laid -/
structure Low (d : PyData) : Prop where
  lay : d.canLay0 = true
  dep : d.depth ≤ 40
theorem Low.of {d : PyData} (h : simD d = true) (k : d.depth ≤ 40) : Low d := ⟨simD_lay d h, k⟩
theorem low_non : Low .none := ⟨rfl, by simp [PyData.depth]⟩
theorem low_int (i : Int) : Low (.int i) := ⟨rfl, by simp [PyData.depth]⟩
theorem low_str {x : Str} (h : PyData.strOk x = true) : Low (.str x) := ⟨by rw [PyData.canLay0]; exact h, by simp [PyData.depth]⟩
theorem low_H (h : Hl) : Low (encH h) := .of (sim_H h) (Nat.le_trans (dep_H h) (by decide))
theorem low_T (t : Three) : Low (encT t) := .of (sim_T t) (Nat.le_trans (dep_T t) (by decide))
theorem low_O (o : Option Hl) : Low (encO o) := by
  cases o with
  | none => exact low_non
  | some h => exact low_H h
theorem low_pair (h : Hl) (i : Int) : Low (.tuple [encH h, .int i]) := .of (by rw [simD, simAll, simAll, simAll, sim_H]; rfl) (Nat.le_trans (depth_tup (n := 2) fun d hd => by
  simp at hd
  rcases hd with rfl | rfl
  · exact dep_H _
  · simp [PyData.depth]) (by decide))
theorem low_btw (i : Int) (o : Option Hl) : Low (.tuple [.int i, encO o]) := ⟨by
  rw [PyData.canLay0, PyData.canLayAll0, PyData.canLayAll0, PyData.canLayAll0, (low_O o).lay]
  rfl, Nat.le_trans (depth_tup (n := 2) fun d hd => by
  simp at hd
  rcases hd with rfl | rfl
  · simp [PyData.depth]
  · cases o with
    | none => simp [encO, PyData.depth]
    | some h => exact dep_H h) (by decide)⟩
theorem low_part (a b : Three) : Low (partT a b) := by
  unfold partT
  split
  · split
    · exact low_non
    · exact .of rfl (by simp [PyData.depth, PyData.depthAll])
  · exact .of rfl (by simp [PyData.depth, PyData.depthAll])
theorem low_W {b : Wk} (h : Five b) : Low (encW b) := .of (sim_W b) (by have := dep_W b; rw [sing_depW h.sing] at this; omega)
end Lo
set_option Elab.async false
set_option linter.all false
set_option maxRecDepth 100000
set_option maxHeartbeats 8000000
/-! the eleven answers, told -/
namespace Lo
open PySem PySem.Spec PyProof.Rows L2 LamX NdefX
/-- an answer: data, or a new list of data -/
inductive An where
  | dat (d : PyData)
  | lst (ds : List PyData)
def An.pd : An → PyData
  | .dat d => d
  | .lst ds => .list ds
def NewA (K : PySem.W.Frag) (H H' : Hp) (v : V) : An → Prop
  | .dat d => Tp K H' v d
  | .lst ds => ∃ (l : Addr) (xs : List V), v = .ref l ∧ H l = none ∧ H' l = some (.lst xs) ∧ TpAll K H' xs ds
/-- v bears the answer; a list is none of H0's, nor D -/
def AnAt (K : PySem.W.Frag) (H0 : Hp) (D : Addr) (H : Hp) (v : V) : An → Prop
  | .dat d => Tp K H v d
  | .lst ds => ∃ (l : Addr) (xs : List V), v = .ref l ∧ H0 l = none ∧ l ≠ D ∧ H l = some (.lst xs) ∧ TpAll K H xs ds
/-- an answer's list is short, its data are low -/
structure AnOk (an : An) : Prop where
  low : Low an.pd
  len : ∀ ds, an = .lst ds → ds.length ≤ 4000
inductive AnsAt (K : PySem.W.Frag) (H0 : Hp) (D : Addr) (H : Hp) : List V → List An → Prop
  | nil : AnsAt K H0 D H [] []
  | cons {v : V} {vs : List V} {a : An} {as : List An} : AnAt K H0 D H v a → AnsAt K H0 D H vs as → AnsAt K H0 D H (v :: vs) (a :: as)
section
variable {K : PySem.W.Frag} {H0 H H' : Hp} {D : Addr} {v : V} {an : An}
theorem AnAt.keep (h : AnAt K H0 D H v an) (sT : SameT H H') (hl : ∀ l xs, H0 l = none → l ≠ D → H l = some (.lst xs) → H' l = some (.lst xs)) : AnAt K H0 D H' v an := by
  cases an with
  | dat d => exact Tp.mono sT h
  | lst ds =>
    obtain ⟨l, xs, e, n, nd, h1, h2⟩ := h
    exact ⟨l, xs, e, n, nd, hl l xs n nd h1, h2.mono sT⟩
theorem AnAt.same (h : AnAt K H0 D H v an) (s : Same H H') : AnAt K H0 D H' v an := h.keep (.of s) fun l xs _ _ e => s _ _ e
theorem AnAt.updD (h : AnAt K H0 D H v an) {ys : List V} {o : HO} (e : H D = some (.lst ys)) : AnAt K H0 D (upd H D o) v an := h.keep (SameT.updL (.refl H) e) fun l xs _ nd h1 => by rw [upd_ne nd]; exact h1
/-- a list of H0's changes -/
theorem AnAt.updO (h : AnAt K H0 D H v an) {p : Addr} {ys : List V} {o : HO} (hp : H0 p ≠ none) (e : H p = some (.lst ys)) : AnAt K H0 D (upd H p o) v an := h.keep (SameT.updL (.refl H) e) fun l xs n nd h1 => by
  rw [upd_ne fun z => hp (by rw [← z]; exact n)]
  exact h1
theorem AnAt.dp (h : AnAt K H0 D H v an) : Dp K H v an.pd := by
  cases an with
  | dat d => exact Tp.dp h
  | lst ds =>
    obtain ⟨l, xs, rfl, n, nd, h1, h2⟩ := h
    exact .lst (.of h1) h2.dp
theorem NewA.at_ {u : HO} (h : NewA K H H' v an) (s0 : Same H0 H) (hD : H D = some u) : AnAt K H0 D H' v an := by
  cases an with
  | dat d => exact h
  | lst ds =>
    obtain ⟨l, xs, e, n, h1, h2⟩ := h
    exact ⟨l, xs, e, s0.free n, fun z => (by rw [z, hD] at n; cases n), h1, h2⟩
theorem AnsAt.keep : ∀ {vs : List V} {as : List An}, AnsAt K H0 D H vs as → SameT H H' → (∀ l xs, H0 l = none → l ≠ D → H l = some (.lst xs) → H' l = some (.lst xs)) → AnsAt K H0 D H' vs as
  | _, _, .nil, _, _ => .nil
  | _, _, .cons h t, sT, hl => .cons (AnAt.keep h sT hl) (AnsAt.keep t sT hl)
theorem AnsAt.same {vs : List V} {as : List An} (h : AnsAt K H0 D H vs as) (s : Same H H') : AnsAt K H0 D H' vs as := h.keep (.of s) fun l xs _ _ e => s _ _ e
theorem AnsAt.updD {vs : List V} {as : List An} (h : AnsAt K H0 D H vs as) {ys : List V} {o : HO} (e : H D = some (.lst ys)) : AnsAt K H0 D (upd H D o) vs as := h.keep (SameT.updL (.refl H) e) fun l xs _ nd h1 => by rw [upd_ne nd]; exact h1
theorem AnsAt.updO {vs : List V} {as : List An} (h : AnsAt K H0 D H vs as) {p : Addr} {ys : List V} {o : HO} (hp : H0 p ≠ none) (e : H p = some (.lst ys)) : AnsAt K H0 D (upd H p o) vs as := h.keep (SameT.updL (.refl H) e) fun l xs n nd h1 => by
  rw [upd_ne fun z => hp (by rw [← z]; exact n)]
  exact h1
theorem AnsAt.length : ∀ {vs : List V} {as : List An}, AnsAt K H0 D H vs as → vs.length = as.length
  | _, _, .nil => rfl
  | _, _, .cons _ t => congrArg (· + 1) (AnsAt.length t)
theorem AnsAt.snoc : ∀ {vs : List V} {as : List An}, AnsAt K H0 D H vs as → AnAt K H0 D H v an → AnsAt K H0 D H (vs ++ [v]) (as ++ [an])
  | _, _, .nil, h => .cons h .nil
  | _, _, .cons h t, k => .cons h (AnsAt.snoc t k)
theorem AnsAt.getV : ∀ {vs : List V} {as : List An} {i : Nat} {v : V}, AnsAt K H0 D H vs as → vs[i]? = some v → ∃ an, as[i]? = some an ∧ AnAt K H0 D H v an
  | _, _, i, v, .nil, e => by simp at e
  | _, _, 0, v, .cons h _, e => by
    simp at e
    subst e
    exact ⟨_, rfl, h⟩
  | _, _, i + 1, v, .cons _ t, e => by
    obtain ⟨d, h1, h2⟩ := AnsAt.getV (i := i) (v := v) t (by simpa using e)
    exact ⟨d, by simpa using h1, h2⟩
theorem AnsAt.dp : ∀ {vs : List V} {as : List An}, AnsAt K H0 D H vs as → DpAll K H vs (as.map An.pd)
  | _, _, .nil => .nil
  | _, _, .cons h t => .cons (AnAt.dp h) (AnsAt.dp t)
/-- isinstance(x, list) -/
theorem ty_dat {d : PyData} (h : Tp K H v d) : ∃ t, TyX K H v t ∧ PySem.W.kitOne K t (.type "list") = some false := by
  cases h with
  | non => exact ⟨_, .base .non, rfl⟩
  | bl b => exact ⟨_, .base (.bl b), rfl⟩
  | int i => exact ⟨_, .base (.int i), rfl⟩
  | str x => exact ⟨_, .base (.str x), rfl⟩
  | tup h _ =>
    rcases h with ⟨o, h, _⟩ | ⟨o, its, n, h1, h2, _⟩
    · exact ⟨_, .fTuple h, rfl⟩
    · exact ⟨_, .kTuple h1 h2, rfl⟩
theorem ty_lst {l : Addr} {xs : List V} (h : H l = some (.lst xs)) : TyX K H (.ref l) (.type "list") ∧ PySem.W.kitOne K (.type "list") (.type "list") = some true := ⟨.base (.lst h), rfl⟩
end
/-! what is asked -/
noncomputable def ledA (si : Wk) : An := by
  classical
  exact if threeT si = threeT si.reverse then (match ledM si si.reverse with | none => .dat .none | some ws => .lst (ws.map encW)) else .dat (.tuple [.str "refused", .str "Unlike"])
noncomputable def ansOf (b : Wk) (h : Hl) (si : Wk) : List An := [.dat (encH (doneT (threeT b) h).1), .dat (.tuple [encH (doneT (threeT b) h).2.1, .int (doneT (threeT b) h).2.2]), .dat (encT (threeT b)), .dat (partT (threeT b) (threeT si)),
  .dat (partT (behindT (threeT b) (threeT si)) (behindT (threeT si) (threeT b))), .dat (.str (Txt.join (Str.ofString "\n") (rowsSs b 0))), ledA si, .dat (.int (rankM (beginT (threeT si)) si)), .dat (encO (sourceH h (threeT b))),
  .dat (.tuple [.int (betweenH h h).1, encO (betweenH h h).2]), .dat (.int (waysT (beginT (threeT si))))]
theorem ans_ok {b si : Wk} {h : Hl} (fs : Five si) : ∀ an ∈ ansOf b h si, AnOk an := by
  have dat : ∀ {d : PyData}, Low d → AnOk (.dat d) := fun k => ⟨k, fun ds e => by cases e⟩
  have L : AnOk (ledA si) := by
    unfold ledA
    split
    · rename_i e
      cases q : ledM si si.reverse with
      | none => exact dat low_non
      | some ws =>
        have f5 := led_five fs q
        refine ⟨⟨?_, ?_⟩, fun ds e2 => ?_⟩
        · show PyData.canLay0 (.list (ws.map encW)) = true
          rw [PyData.canLay0]
          refine simAll_lay _ (simAll_of fun d hd => ?_)
          obtain ⟨x, hx, rfl⟩ := List.mem_map.mp hd
          exact sim_W x
        · show (PyData.list (ws.map encW)).depth ≤ 40
          have : PyData.depthAll (ws.map encW) ≤ 30 := depthAll_le fun d hd => by
            obtain ⟨x, hx, rfl⟩ := List.mem_map.mp hd
            have := dep_W x
            rw [sing_depW (f5 x hx).sing] at this
            omega
          simp only [PyData.depth]
          omega
        · cases e2
          rw [List.length_map]
          exact led_len (five_rev fs) e q
    · exact dat (.of (by decide +kernel) (by simp [PyData.depth, PyData.depthAll]))
  intro an ha
  unfold ansOf at ha
  simp only [List.mem_cons, List.not_mem_nil, or_false] at ha
  rcases ha with rfl | rfl | rfl | rfl | rfl | rfl | rfl | rfl | rfl | rfl | rfl
  · exact dat (low_H _)
  · exact dat (low_pair _ _)
  · exact dat (low_T _)
  · exact dat (low_part _ _)
  · exact dat (low_part _ _)
  · exact dat (low_str (strOk_join (strOk_of _) (strOk_rowsSs b 0)))
  · exact L
  · exact dat (low_int _)
  · exact dat (low_O _)
  · exact dat (low_btw _ _)
  · exact dat (low_int _)
/-- all that the eleven calls need -/
structure Asks (P : Program) (w : World) (K : PySem.W.Frag) (mg : Str → Option Value) (base : Heap) (CU : Addr) : Prop where
  run : Callee P w K mg base 7 "run" ["work", "store"] (spD K rRun)
  came : Callee P w K mg base 7 "came" ["work", "store"] (spD K rCame)
  heaps : Callee P w K mg base 7 "heaps" ["work"] (spD K rHeaps)
  alike : Callee P w K mg base 7 "alike" ["one", "other"] (spD K rAlike)
  crossed : Callee P w K mg base 7 "crossed" ["one", "other"] (spD K rCrossed)
  written : Callee P w K mg base 6 "written" ["work"] (spD K rWritten)
  led : CalleeX P w K mg base 8 "led" ["one", "other"] (spLed K CU)
  numb : Callee P w K mg base 9 "number_of" ["work"] (spD K rNumberOf)
  source : Callee P w K mg base 7 "source" ["work", "store"] (spD K rSource)
  between : Callee P w K mg base 3 "between" ["store", "goal"] (spD K rBetween)
  many : Callee P w K mg base 8 "how_many" ["three"] (spD K rHowMany)
/-- the calls, their captured values -/
structure Here (K : PySem.W.Frag) (H : Hp) (cl L : Addr) (fs : List Addr) (vw vh vi : V) (b : Wk) (h : Hl) (si : Wk) : Prop where
  cl : H cl = some (.lst (fs.map V.ref))
  len : fs.length = 11
  all : ∀ j f, fs[j]? = some f → LamAt H f L j
  t3 : Three3 H L vw vh vi
  tw : Tp K H vw (encW b)
  th : Tp K H vh (encH h)
  ti : Tp K H vi (encW si)
def Told (P : Program) (w : World) (K : PySem.W.Frag) (mg : Str → Option Value) (base : Heap) (CU f : Addr) (H : Hp) (an : An) : Prop := ∀ (Q : VK) (E : XK), (∀ v H', Same H H' → NewA K H H' v an → Q v H') → spTold P w K mg base CU [.ref f] H Q E
section
variable {P : Program} {w : World} {K : PySem.W.Frag} {mg : Str → Option Value} {base : Heap} {CU f cl L : Addr} {H H' : Hp} {fs : List Addr} {vw vh vi : V} {b si : Wk} {h : Hl}
theorem Here.same (E : Here K H cl L fs vw vh vi b h si) (s : Same H H') : Here K H' cl L fs vw vh vi b h si :=
  ⟨s _ _ E.cl, E.len, fun j f hf => (E.all j f hf).ext (.of s), ⟨s _ _ E.t3.w, s _ _ E.t3.h, s _ _ E.t3.i⟩, E.tw.same s, E.th.same s, E.ti.same s⟩
theorem cellO_ne {a : Addr} {v : V} {xs : List V} : CellO a v ≠ .lst xs := fun z => by
  unfold CellO at z
  cases z
theorem Here.updL {p : Addr} {xs : List V} {o : HO} (E : Here K H cl L fs vw vh vi b h si) (hp : H p = some (.lst xs)) (n : p ≠ cl) : Here K (upd H p o) cl L fs vw vh vi b h si := by
  have out : ∀ {c : Addr} {v : V}, H c = some (CellO c v) → upd H p o c = some (CellO c v) := fun {c v} e => by
    rw [upd_ne fun z => ?_]
    · exact e
    · rw [z, hp] at e
      exact cellO_ne (Option.some.inj e).symm
  have sT : SameT H (upd H p o) := SameT.updL (.refl H) hp
  exact ⟨by rw [upd_ne n.symm]; exact E.cl, E.len, fun j f hf => (E.all j f hf).updL hp, ⟨out E.t3.w, out E.t3.h, out E.t3.i⟩, E.tw.mono sT, E.th.mono sT, E.ti.mono sT⟩
theorem lam_is {i : Nat} (la : LamAt H f L i) : ∃ F, H f = some (LamO f F) := by
  obtain ⟨c, dV, h1, _⟩ := la
  exact ⟨_, h1⟩
theorem told_D {d : PyData} (hf : ∃ F, H f = some (LamO f F)) (g : GivesD P w K mg base f H d) : Told P w K mg base CU f H (.dat d) := fun Q E q => by
  obtain ⟨F, hf⟩ := hf
  exact ⟨f, F, rfl, hf, fun Q _ => ∀ v H', Same H H' → Tp K H' v d → Q v H', fun A outer s Q E r e0 p => g A outer s Q E r e0 p, fun v H' s t => q v H' s t⟩
theorem told_led (hf : ∃ F, H f = some (LamO f F)) (g : GivesLed P w K mg base f H CU si si.reverse) : Told P w K mg base CU f H (ledA si) := fun Q E q => by
  obtain ⟨F, hf⟩ := hf
  refine ⟨f, F, rfl, hf, LedP K CU si si.reverse H, fun A outer s Q E r e0 p => g A outer s Q E r e0 p, fun ne H' s => ⟨rfl, rfl, fun v H2 s2 t => q v H2 (s.trans s2) ?_⟩, fun e => ⟨fun e2 H' s => q _ _ s ?_, fun ws e2 l xs H' nl s hl hx => q _ _ s ?_⟩⟩
  · unfold ledA
    rw [if_neg ne]
    exact t
  · unfold ledA
    rw [if_pos e, e2]
    exact .non
  · unfold ledA
    rw [if_pos e, e2]
    exact ⟨l, xs, rfl, nl, hl, hx⟩
theorem told_all (A : Asks P w K mg base CU) (ok : OkW b) (can : CanH 1000000 h) (f5 : Five si) (E : Here K H cl L fs vw vh vi b h si) : ∀ (j : Nat) (f : Addr), fs[j]? = some f → ∃ an, (ansOf b h si)[j]? = some an ∧ Told P w K mg base CU f H an := by
  intro j f hf
  have la := E.all j f hf
  have lm := lam_is la
  have hj : j < 11 := by
    have := (List.getElem?_eq_some_iff.mp hf).1
    have := E.len
    omega
  match j, hj, la with
  | 0, _, la => exact ⟨_, rfl, told_D lm (th_run la E.t3 E.tw ok E.th can A.run)⟩
  | 1, _, la => exact ⟨_, rfl, told_D lm (th_came la E.t3 E.tw ok E.th can A.came)⟩
  | 2, _, la => exact ⟨_, rfl, told_D lm (th_heaps la E.t3 E.tw ok A.heaps)⟩
  | 3, _, la => exact ⟨_, rfl, told_D lm (th_alike la E.t3 E.tw ok E.ti f5 A.alike)⟩
  | 4, _, la => exact ⟨_, rfl, told_D lm (th_crossed la E.t3 E.tw ok E.ti f5 A.crossed)⟩
  | 5, _, la => exact ⟨_, rfl, told_D lm (th_written la E.t3 E.tw ok A.written)⟩
  | 6, _, la => exact ⟨_, rfl, told_led lm (th_led la E.t3 E.ti f5 A.led)⟩
  | 7, _, la => exact ⟨_, rfl, told_D lm (th_number_of la E.t3 E.ti f5 A.numb)⟩
  | 8, _, la => exact ⟨_, rfl, told_D lm (th_source la E.t3 E.tw ok E.th can A.source)⟩
  | 9, _, la => exact ⟨_, rfl, told_D lm (th_between la E.t3 E.th can A.between)⟩
  | 10, _, la => exact ⟨_, rfl, told_D lm (th_how_many la E.t3 E.ti f5 A.many A.heaps)⟩
  | j + 11, hj, _ => exact absurd hj (by omega)
end
end Lo
set_option Elab.async false
set_option linter.all false
set_option maxRecDepth 100000
set_option maxHeartbeats 8000000
/-! the readings of the law -/
namespace Lo
open PySem PySem.Spec PyProof.Rows L2 LamX NdefX
abbrev tIsL (K : PySem.W.Frag) (i : Nat) : TT := tB (tCB (rIsi K) (tCons (tVar i) (tCons (tC (.ty "list")) tNil)))
abbrev rListOf (K : PySem.W.Frag) : List V → Hp → VK → Prop := fun xs H Q => ∃ p ys, xs = [.ref p] ∧ (SqL K H p ys ∨ SqT K H p ys) ∧ ∀ l, H l = none → Q (.ref l) (upd H l (.lst ys))
section
variable {P : Program} {w : World} {K : PySem.W.Frag} {mg : Str → Option Value} {base : Heap} {CU cl L : Addr} {H : Hp} {fs : List Addr} {vw vh vi : V} {b si : Wk} {h : Hl}
theorem isi_dat {σ : L2.St} {i : Nat} {v : V} {d : PyData} (hv : σ[i]? = some (some v)) (hd : Tp K H v d) {Q : Bool → Hp → Prop} (q : Q false H) : tIsL K i σ H Q := by
  obtain ⟨t, ty, e⟩ := ty_dat hd
  exact ⟨_, hv, v, .ty "list", t, .type "list", false, rfl, .ty _, ty, e, false, rfl, q⟩
theorem isi_lst {σ : L2.St} {i : Nat} {l : Addr} {xs : List V} (hv : σ[i]? = some (some (.ref l))) (hl : H l = some (.lst xs)) {Q : Bool → Hp → Prop} (q : Q true H) : tIsL K i σ H Q := by
  obtain ⟨ty, e⟩ := ty_lst (K := K) hl
  exact ⟨_, hv, .ref l, .ty "list", .type "list", .type "list", true, rfl, .ty _, ty, e, true, rfl, q⟩
theorem ref_at {fs : List Addr} {i : Nat} {x : V} (h : (fs.map V.ref)[i]? = some x) : ∃ f, fs[i]? = some f ∧ x = .ref f := by
  rw [List.getElem?_map, Option.map_eq_some_iff] at h
  obtain ⟨f, h1, h2⟩ := h
  exact ⟨f, h1, h2.symm⟩
theorem take_more {α : Type} {l : List α} {i : Nat} {x : α} (h : l[i]? = some x) : l.take (i + 1) = l.take i ++ [x] := by
  rw [List.take_succ, h]
  rfl
theorem ans_len : (ansOf b h si).length = 11 := rfl
/-- [told(call) for call in calls] -/
theorem ev_asked {x0 x1 x2 x3 x4 x6 x7 x8 x9 x10 : Option V} (A : Asks P w K mg base CU) (ok : OkW b) (can : CanH 1000000 h) (f5 : Five si) (E : Here K H cl L fs vw vh vi b h si) {Q : VK}
    (q : ∀ D acc H', H D = none → Same H H' → H' D = some (.lst acc) → AnsAt K H D H' acc (ansOf b h si) → Q (.ref D) H') :
    tLc (iList K (tVar 5)) (gName 10) tYes (tCall (spTold P w K mg base CU) [] E0 (tCons (tVar 10) tNil)) [10] [x0, x1, x2, x3, x4, some (.ref cl), x6, x7, x8, x9, x10] H Q := by
  refine ⟨_, rfl, cl, rfl, ⟨fs.map V.ref, .of E.cl⟩, fun D hD => ?_⟩
  have sD := same_new hD (.lst [])
  refine lc_list (K := K) (a := cl) (xs := fs.map V.ref) (fun i Hc => Same H Hc ∧ ∃ acc, Hc D = some (.lst acc) ∧ AnsAt K H D Hc acc ((ansOf b h si).take i) ∧ acc.length ≤ i) ⟨sD, [], upd_same, .nil, Nat.le_refl _⟩ (fun i Hc _ z => .of (z.1 _ _ E.cl)) ?_ ?_
  · rintro i x Hc hx ⟨sc, acc, hacc, hT, hlen⟩
    obtain ⟨f, hf, rfl⟩ := ref_at hx
    obtain ⟨an, ha, told⟩ := told_all A ok can f5 (E.same sc) i f hf
    have hi : i < 11 := by
      have := (List.getElem?_eq_some_iff.mp hf).1
      have := E.len
      omega
    refine ⟨rfl, tyes_go (iteT ⟨_, rfl, ?_⟩)⟩
    refine told _ E0 fun v H' s n => ⟨acc, s _ _ hacc, small_lt (by omega), same_mut (sc.trans s) hD _, acc ++ [v], upd_same, ?_, by rw [List.length_append, List.length_singleton]; omega⟩
    rw [take_more ha]
    exact ((hT.same s).updD (s _ _ hacc)).snoc ((n.at_ sc hacc).updD (s _ _ hacc))
  · rintro Hc ⟨sc, acc, hacc, hT, _⟩
    rw [List.length_map, E.len] at hT
    exact q D acc Hc hD sc hacc hT
/-- [list(x) if isinstance(x, list) else x for x in due] -/
theorem ev_kept {x0 x1 x2 x3 x4 x5 x7 x8 x9 x10 : Option V} {H0 : Hp} {D0 : Addr} {due : List V} (hdue : H D0 = some (.lst due)) (E : AnsAt K H0 D0 H due (ansOf b h si)) {Q : VK}
    (q : ∀ D acc H', H D = none → Same H H' → H' D = some (.lst acc) → AnsAt K H D H' acc (ansOf b h si) → Q (.ref D) H') :
    tLc (iList K (tVar 6)) (gName 7) tYes (tIf (tIsL K 7) (tCB (rListOf K) (tCons (tVar 7) tNil)) (tVar 7)) [7] [x0, x1, x2, x3, x4, x5, some (.ref D0), x7, x8, x9, x10] H Q := by
  refine ⟨_, rfl, D0, rfl, ⟨due, .of hdue⟩, fun D hD => ?_⟩
  have sD := same_new hD (.lst [])
  have hdl := E.length
  rw [ans_len] at hdl
  refine lc_list (K := K) (a := D0) (xs := due) (fun i Hc => Same H Hc ∧ ∃ acc, Hc D = some (.lst acc) ∧ AnsAt K H D Hc acc ((ansOf b h si).take i) ∧ acc.length ≤ i) ⟨sD, [], upd_same, .nil, Nat.le_refl _⟩ (fun i Hc _ z => .of (z.1 _ _ hdue)) ?_ ?_
  · rintro i x Hc hx ⟨sc, acc, hacc, hT, hlen⟩
    obtain ⟨an, ha, hat⟩ := E.getV hx
    have hi : i < 11 := by
      have := (List.getElem?_eq_some_iff.mp hx).1
      omega
    have fin : ∀ v H', Same Hc H' → NewA K Hc H' v an → ∃ acc2, H' D = some (.lst acc2) ∧ acc2.length < sizeLine ∧ (Same H (upd H' D (.lst (acc2 ++ [v]))) ∧ ∃ acc3, upd H' D (.lst (acc2 ++ [v])) D = some (.lst acc3) ∧ AnsAt K H D (upd H' D (.lst (acc2 ++ [v]))) acc3 ((ansOf b h si).take (i + 1)) ∧ acc3.length ≤ i + 1) := by
      refine fun v H' s n => ⟨acc, s _ _ hacc, small_lt (by omega), same_mut (sc.trans s) hD _, acc ++ [v], upd_same, ?_, by rw [List.length_append, List.length_singleton]; omega⟩
      rw [take_more ha]
      exact ((hT.same s).updD (s _ _ hacc)).snoc ((n.at_ sc hacc).updD (s _ _ hacc))
    refine ⟨rfl, tyes_go (iteT ?_)⟩
    cases an with
    | dat d =>
      have hd : Tp K Hc x d := Tp.same sc hat
      refine isi_dat rfl hd ?_
      rw [if_neg (show ¬ false = true by decide)]
      exact ⟨x, rfl, fin x Hc (Same.refl _) hd⟩
    | lst ds =>
      obtain ⟨l, xs, rfl, _, _, hl, hxs⟩ := hat
      refine isi_lst rfl (sc _ _ hl) ?_
      rw [if_pos rfl]
      refine ⟨_, rfl, l, xs, rfl, .inl (.of (sc _ _ hl)), fun l2 n2 => ?_⟩
      exact fin _ _ (same_new n2 _) ⟨l2, xs, rfl, n2, upd_same, hxs.same (sc.trans (same_new n2 _))⟩
  · rintro Hc ⟨sc, acc, hacc, hT, _⟩
    rw [hdl] at hT
    exact q D acc Hc hD sc hacc hT
/-- the lists of due are spoilt -/
theorem ev_spoil {x0 x1 x2 x3 x4 x5 x7 x8 x9 x10 : Option V} {H0 H1 : Hp} {D0 D1 cl0 : Addr} {due kept : List V} {D : Ends} (hcl0 : H0 cl0 ≠ none) (s01 : Same H0 H1) (n1 : H1 D1 = none) (hdue : H1 D0 = some (.lst due)) (E0 : AnsAt K H0 D0 H1 due (ansOf b h si)) (s1 : Same H1 H)
    (hk : H D1 = some (.lst kept)) (EK : AnsAt K H1 D1 H kept (ansOf b h si)) (f5 : Five si) (E : Here K H cl0 L fs vw vh vi b h si)
    (q : ∀ y7 H', Here K H' cl0 L fs vw vh vi b h si → AnsAt K H1 D1 H' kept (ansOf b h si) → H' D1 = some (.lst kept) → D.nx [x0, x1, x2, x3, x4, x5, some (.ref D0), y7, x8, x9, x10] H') :
    tFor (iList K (tVar 6)) (gName 7) (tIfS (tIsL K 7) (tDrop (tBM K "list" rAppend (tVar 7) (tCons (tC (.str "spoilt")) tNil))) tNext) D [x0, x1, x2, x3, x4, x5, some (.ref D0), x7, x8, x9, x10] H := by
  have hdl := E0.length
  rw [ans_len] at hdl
  refine ⟨_, rfl, D0, rfl, ⟨due, .of (s1 _ _ hdue)⟩, ?_⟩
  let Pt : Hp → Prop := fun Hc => ∀ (j : Nat) (v : V) (an : An), due[j]? = some v → (ansOf b h si)[j]? = some an → match an with
    | .dat d => Tp K Hc v d
    | .lst ds => ∃ (l : Addr) (xs : List V), v = .ref l ∧ H1 l ≠ none ∧ l ≠ D0 ∧ l ≠ cl0 ∧ Hc l = some (.lst xs)
  refine for_list (K := K) (a := D0) (xs := due) (fun i σ Hc => (∃ y7, σ = [x0, x1, x2, x3, x4, x5, some (.ref D0), y7, x8, x9, x10]) ∧ Hc D0 = some (.lst due) ∧ Here K Hc cl0 L fs vw vh vi b h si ∧ AnsAt K H1 D1 Hc kept (ansOf b h si) ∧ Hc D1 = some (.lst kept) ∧
    ∀ (j : Nat) (v : V) (an : An), due[j]? = some v → (ansOf b h si)[j]? = some an → (∀ d, an = .dat d → Tp K Hc v d) ∧ ∀ ds, an = .lst ds → ∃ (l : Addr) (xs : List V), v = .ref l ∧ H1 l ≠ none ∧ l ≠ D0 ∧ l ≠ cl0 ∧ Hc l = some (.lst xs) ∧ xs.length ≤ 4000 + i) ⟨⟨x7, rfl⟩, s1 _ _ hdue, E, EK, hk, fun j v an hj ha => ?_⟩ (fun i σ Hc _ z => .of z.2.1) ?_ ?_
  · obtain ⟨an2, ha2, hat⟩ := E0.getV hj
    rw [ha] at ha2
    cases ha2
    refine ⟨fun d e => ?_, fun ds e => ?_⟩
    · subst e
      exact Tp.same s1 hat
    · subst e
      obtain ⟨l, xs, rfl, n0, nd, hl, hxs⟩ := hat
      have len := (ans_ok f5 _ (List.mem_of_getElem? ha)).len _ rfl
      exact ⟨l, xs, rfl, by rw [hl]; simp, nd, fun z => hcl0 (by rw [← z]; exact n0), s1 _ _ hl, by rw [hxs.length]; omega⟩
  · rintro i x σ Hc hx ⟨⟨y7, rfl⟩, hd0, Ec, Ek, hk1, pt⟩
    have hi : i < 11 := by
      have := (List.getElem?_eq_some_iff.mp hx).1
      omega
    obtain ⟨an, ha⟩ : ∃ an, (ansOf b h si)[i]? = some an := ⟨_, List.getElem?_eq_getElem (by rw [ans_len]; exact hi)⟩
    obtain ⟨p1, p2⟩ := pt i x an hx ha
    show tIfS _ _ _ _ _ _
    cases an with
    | dat d =>
      refine isi_dat rfl (p1 d rfl) ?_
      rw [if_neg (show ¬ false = true by decide)]
      exact ⟨⟨_, rfl⟩, hd0, Ec, Ek, hk1, fun j v an hj ha => ⟨(pt j v an hj ha).1, fun ds e => by
        obtain ⟨l, xs, e1, e2, e3, e4, e5, e6⟩ := (pt j v an hj ha).2 ds e
        exact ⟨l, xs, e1, e2, e3, e4, e5, by omega⟩⟩⟩
    | lst ds =>
      obtain ⟨l, xs, rfl, nl1, nl0, nlc, hl, hlen⟩ := p2 ds rfl
      refine isi_lst rfl hl ?_
      rw [if_pos rfl]
      have nlD1 : l ≠ D1 := fun z => nl1 (by rw [z]; exact n1)
      refine ⟨_, rfl, .inl ⟨rfl, _, SqL.of hl⟩, ?_⟩
      refine ⟨l, xs, .str "spoilt", rfl, rfl, hl, small_lt (by omega), ?_⟩
      have sT : SameT Hc (upd Hc l (.lst (xs ++ [.str "spoilt"]))) := SameT.updL (.refl Hc) hl
      refine ⟨⟨_, rfl⟩, by rw [upd_ne nl0.symm]; exact hd0, Ec.updL hl nlc, Ek.updO nl1 hl, by rw [upd_ne nlD1.symm]; exact hk1, fun j v an hj ha => ⟨fun d e => ((pt j v an hj ha).1 d e).mono sT, fun ds e => ?_⟩⟩
      obtain ⟨l2, ys, e1, e2, e3, e4, e5, e6⟩ := (pt j v an hj ha).2 ds e
      by_cases hll : l2 = l
      · subst hll
        rw [hl] at e5
        cases e5
        exact ⟨l2, _, e1, e2, e3, e4, upd_same, by rw [List.length_append, List.length_singleton]; omega⟩
      · exact ⟨l2, ys, e1, e2, e3, e4, by rw [upd_ne hll]; exact e5, by omega⟩
  · rintro σ Hc ⟨⟨y7, rfl⟩, hd0, Ec, Ek, hk1, _⟩
    exact q y7 Hc Ec Ek hk1
end
end Lo
set_option Elab.async false
set_option linter.all false
set_option maxRecDepth 100000
set_option maxHeartbeats 8000000
/-! the law -/
namespace Lo
open PySem PySem.Spec PyProof.Rows L2 LamX NdefX
abbrev sLaw : Stmt := top 76
/-- the class Bench -/
structure Bch (P : Program) (w : World) (K : PySem.W.Frag) (mg : Str → Option Value) (base : Heap) (C : Addr) : Prop where
  bt : BTxt K mg C
  ex : ∃ fI fdI fD fdD fS fdS fT fdT, Mk K C fI ∧ FnOk P w K mg base CX0 3 fI fdI ["self", "store"] (spBInit K C) ∧ Binds K fdI ["self", "store"] [] ∧
    FnOk P w K mg base CX0 8 fD fdD ["self", "work"] (spBGo K C) ∧ Binds K fdD ["self", "work"] [] ∧ Meth K C "do" fD ∧
    FnOk P w K mg base CX0 1 fS fdS ["self"] (spBSteps K C) ∧ Binds K fdS ["self"] [] ∧ Meth K C "steps" fS ∧
    FnOk P w K mg base CX0 1 fT fdT ["self"] (spBStore K C) ∧ Binds K fdT ["self"] [] ∧ Meth K C "store" fT
def spLaw (K : PySem.W.Frag) (Tt : List NTab) : Sp := fun vs H Q _ => ∃ (a : Addr) (ns : List Int), vs = [.ref a] ∧ SqL K H a (ns.map V.int) ∧ ns.length ≤ 1000 ∧ TabsN Tt H ∧ ∀ H', Q (.bl true) H'
theorem tabs_but {T : List NTab} {H H' : Hp} {d : Addr} {xs : List V} (h : TabsN T H) (b : But d H H') (hd : H d = some (.lst xs)) : TabsN T H' := fun q hq => by
  obtain ⟨ps, h1, h2, h3⟩ := h q hq
  have ne : ∀ {c : Addr} {u : HO}, H c = some u → u ≠ .lst xs → c ≠ d := fun {c u} e n z => by
    rw [z, hd] at e
    exact n (Option.some.inj e).symm
  refine ⟨ps, b _ _ (ne h1 fun z => by cases z) h1, h2, fun pos cv hc => ?_⟩
  obtain ⟨c, e1, e2⟩ := h3 pos cv hc
  exact ⟨c, e1, b _ _ (ne e2 fun z => by unfold CodeO at z; cases z) e2⟩
theorem but_sameT {p : Addr} {H H' : Hp} {o : HO} (b : But p H H') (hp : H p = some o) (ho : Imm o = false) : SameT H H' := fun c u e i => b c u (fun z => by
  rw [z, hp] at e
  cases e
  rw [ho] at i
  cases i) e
theorem ext_sameT {H H' : Hp} (e : ExtN H H') : SameT H H' := fun b o h i => e b o h fun ps z => by
  subst z
  cases i
theorem low_list {l : List PyData} (h : ∀ d ∈ l, Low d) : SeqAt.shaped (.list l) = true ∧ PyData.eqv (.list l) (.list l) = true := by
  have c : PyData.canLay0 (.list l) = true := by
    rw [PyData.canLay0]
    induction l with
    | nil => rfl
    | cons x l ih =>
      rw [PyData.canLayAll0, (h x (List.mem_cons_self ..)).lay, ih fun d hd => h d (List.mem_cons_of_mem _ hd)]
      rfl
  refine ⟨?_, PySem.SeqAt.eqv_refl _ c⟩
  have : PyData.depthAll l ≤ 40 := depthAll_le fun d hd => (h d hd).dep
  have dp : (PyData.list l).depth ≤ 64 := by
    simp only [PyData.depth]
    omega
  unfold SeqAt.shaped
  rw [c, decide_eq_true dp]
  rfl
theorem Low.sh {d : PyData} (h : Low d) : SeqAt.shaped d = true := by
  have := h.dep
  unfold SeqAt.shaped
  rw [h.lay, decide_eq_true (show d.depth ≤ 64 by omega)]
  rfl
theorem low_okW {b : Wk} (h : OkW b) : Low (encW b) := .of (sim_W b) (by have := dep_W b; have := h.dep; omega)
section
variable {P : Program} {w : World} {K : PySem.W.Frag} {mg : Str → Option Value} {base : Heap} {f C CU : Addr} {fd : FuncData} {Tt : List NTab}
theorem if_op_go {r : R2} {ta tb : TE} {t u : TS} {D : Ends} {σ : L2.St} {H : Hp} (h : ta σ H fun x H1 => tb σ H1 fun y H2 => r x y H2 fun v H3 => ∃ b, v = .bl b ∧ if b = true then t D σ H3 else u D σ H3) : tIfS (tTest (tOp r ta tb)) t u D σ H := h
theorem at_head {v : V} {r : List V} : atI (v :: r) 0 = some v := by
  unfold atI ixN
  rw [List.length_cons]
  simp
theorem scLaw : FnScope ["_law_script", "_law_d", "_law_work_here", "_law_heap", "_law_single_here", "_law_calls_here", "_law_due", "_law_told_here", "_law_kept", "_law_bench", "_law_call"] ["_law_script"] (defScope sLaw) := ⟨rfl, rfl, rfl, by decide +kernel, rfl, by decide +kernel, by decide +kernel⟩
theorem ok_law (F : Fun K "law" "law" sLaw f fd) (T : Txt K mg) (B : Bch P w K mg base C) (A : Asks P w K mg base CU) (cDice : Callee P w K mg base 1 "_law_dice" ["_law_script"] (spDice K)) (cWork : Callee P w K mg base 6 "_law_work" ["_law_d"] (spWork K))
    (cStore : Callee P w K mg base 3 "_law_store" ["_law_d", "_law_far"] (spStore K)) (cSingle : Callee P w K mg base 2 "_law_single" ["_law_d", "_law_most_of"] (spSingle K)) (cCalls : Callee P w K mg base 1 "_law_calls" ["_law_work_here", "_law_heap", "_law_single_here"] (spCalls Tt))
    (cTold : Callee P w K mg base 11 "_law_told" ["_law_work_here"] (spTold P w K mg base CU)) : FnOk P w K mg base CX0 12 f fd ["_law_script"] (spLaw K Tt) := by
  refine F.ok scLaw (fun vs H Q E ⟨a, ns, e, _⟩ => by rw [e]; rfl) (fun cdv As outer s H vs Q E hr h => ?_)
  obtain ⟨a, ns, rfl, hs, hn, tb, q⟩ := h
  have nd := scLaw.nd
  obtain ⟨fI, fdI, fD, fdD, fS, fdS, fT, fdT, mk, GI, bI, GD, bD, mD, GS, bS, mS, GT, bT, mT⟩ := B.ex
  refine ⟨_, pss_cons (ps_set (i := 1) nd rfl (Or.inl rfl) (pe_cal cDice hr (pa_cons (pv 0) pa_nil)))
    (pss_cons (ps_par3 (i := 2) (j := 3) (l := 4) rfl nd rfl rfl rfl (by decide) (by decide) (by decide) rfl rfl rfl (pa_cons (pe_cal cWork hr (pa_cons (pv 1) pa_nil)) (pa_cons (pe_cal cStore hr (pa_cons (pv 1) (pa_cons (pe_op op_pow pe_int pe_int) pa_nil))) (pa_cons (pe_cal cSingle hr (pa_cons (pv 1) (pa_cons pe_int pa_nil))) pa_nil))) rfl)
    (pss_cons (ps_set (i := 5) nd rfl (Or.inl rfl) (pe_cal cCalls hr (pa_cons (pv 2) (pa_cons (pv 3) (pa_cons (pv 4) pa_nil)))))
    (pss_cons (ps_setLc (i := 6) (own := [("_law_call", 10)]) (g := gName 10) (tt := tYes) rfl nd rfl rfl rfl (pi_list (pv 5)) (blkOk_by (N := ["_law_script", "_law_d", "_law_work_here", "_law_heap", "_law_single_here", "_law_calls_here", "_law_due", "_law_told_here", "_law_kept", "_law_bench", "_law_call"]) (sc := defScope sLaw) (by decide +kernel))
        (fun _ _ _ _ _ => pg_name (i := 10) nd rfl (Or.inl rfl)) (fun _ _ _ _ _ => pts_nil) (fun _ _ _ _ _ => pe_cal cTold hr (pa_cons (pv 10) pa_nil)))
    (pss_cons (ps_setLc (i := 8) (own := [("_law_told_here", 7)]) (g := gName 7) (tt := tYes) (te := tIf (tIsL K 7) (tCB (rListOf K) (tCons (tVar 7) tNil)) (tVar 7)) rfl nd rfl rfl rfl (pi_list (pv 6)) (blkOk_by (N := ["_law_script", "_law_d", "_law_work_here", "_law_heap", "_law_single_here", "_law_calls_here", "_law_due", "_law_told_here", "_law_kept", "_law_bench", "_law_call"]) (sc := defScope sLaw) (by decide +kernel))
        (fun _ _ _ _ _ => pg_name (i := 7) nd rfl (Or.inl rfl)) (fun _ _ _ _ _ => pts_nil) (fun _ _ _ _ _ => pe_ifExp (pt_val (pe_callB (id := "isinstance") (show CallR _ _ (rIsi K) from call_isi) (by rfl) T.zIsi (by decide +kernel) (pa_cons (pv 7) (pa_cons (pe_bltn (v := .ty "list") (by rfl) T.zList (by decide +kernel) rfl) pa_nil)))) (pe_callTy (T := "list") (show CallR _ _ (rListOf K) from call_list_of) (by rfl) T.zList (by decide +kernel) (pa_cons (pv 7) pa_nil)) (pv 7)))
    (pss_cons (ps_for PassesOwn.never rfl (pi_list (pv 6)) (pg_name (i := 7) nd rfl (Or.inl rfl)) (pss_one (ps_if (pt_val (pe_callB call_isi (by rfl) T.zIsi (by decide +kernel) (pa_cons (pv 7) (pa_cons (pe_bltn (v := .ty "list") (by rfl) T.zList (by decide +kernel) rfl) pa_nil))))
        (pss_one (ps_expr (pe_bm PySem.F.plainAttrs_list PySem.F.slot_list_append PySem.F.type_list_append mt_append (pv 7) (pa_cons pe_str pa_nil)))) pss_nil)))
    (pss_cons (ps_if (pt_cmpR (op_neD (hu64 hr)) (pe_lc (own := [("_law_call", 10)]) (g := gName 10) (tt := tYes) rfl nd (pi_list (pv 5)) (blkOk_by (N := ["_law_script", "_law_d", "_law_work_here", "_law_heap", "_law_single_here", "_law_calls_here", "_law_due", "_law_told_here", "_law_kept", "_law_bench", "_law_call"]) (sc := defScope sLaw) (by decide +kernel))
        (fun _ _ _ _ _ => pg_name (i := 10) nd rfl (Or.inl rfl)) (fun _ _ _ _ _ => pts_nil) (fun _ _ _ _ _ => pe_cal cTold hr (pa_cons (pv 10) pa_nil))) (pv 8) (nomark _)) (pss_one (ps_ret pe_bl)) pss_nil)
    (pss_cons (ps_set (i := 9) nd rfl (Or.inl rfl) (pe_make mk GI (hr.mono (by decide)) rfl B.bt.mgC bI .nil pass0 (pa_cons (pv 3) pa_nil)))
    (pss_cons (ps_expr (pe_meth (pv 9) B.bt.cl mD GD (hr.mono (by decide)) bD .nil pass0 (pa_cons (pv 2) pa_nil)))
    (pss_cons (ps_expr (pe_bm PySem.F.plainAttrs_list PySem.F.slot_list_append PySem.F.type_list_append mt_append (pe_meth0 (pv 9) B.bt.cl mS GS (hr.mono (by decide)) bS .nil pass0) (pa_cons pe_str pa_nil)))
    (pss_one (ps_ret (pe_and (pe_cmpR (op_eqD (hu64 hr)) (pe_meth0 (pv 9) B.bt.cl mS GS (hr.mono (by decide)) bS .nil pass0) (pe_lst (pa_cons (pv 2) pa_nil)) (nomark _)) (pe_one (pe_cmpR (op_eqD (hu64 hr)) (pe_meth0 (pv 9) B.bt.cl mT GT (hr.mono (by decide)) bT .nil pass0) (pe_ix ix_list (pv 8) pe_int (fun _ _ => rfl)) (nomark _))))))))))))))), ?_⟩
  refine sd_seq ⟨_, rfl, a, ns, rfl, hs, hn, fun d H1 nd1 s1 D1 => ?_⟩
  have tb1 := tb.ext s1
  have cP : CPow 10 18 := ⟨by decide, by decide, by decide⟩
  have e18 : (10 : Int) ^ (18 : Int).toNat = 1000000000000000000 := by decide
  refine sd_go (sd_seq ⟨_, rfl, (a, ns), d, rfl, D1, fun vw b H2 b2 D2 okb tw2 => ?_⟩)
  refine ⟨_, rfl, 10, 18, rfl, rfl, cP, ?_⟩
  refine ⟨(a, ns), d, (by show [V.ref d, V.int ((10 : Int) ^ (18 : Int).toNat)] = _; rw [e18]), D2, fun vh h H3 b3 D3 can th3 => ?_⟩
  refine ⟨_, rfl, (a, ns), d, rfl, D3, fun vi si H4 b4 D4 f5 ti4 => ?_⟩
  refine ⟨_, _, _, rfl, ?_⟩
  obtain ⟨i1, m1, r1, hd1, _⟩ := D1.ex
  obtain ⟨i2, m2, r2, hd2, _⟩ := D2.ex
  obtain ⟨i3, m3, r3, hd3, _⟩ := D3.ex
  have tb4 := tabs_but (tabs_but (tabs_but tb1 b2 hd1) b3 hd2) b4 hd3
  have tw4 := (tw2.mono (D2.sameT b3)).mono (D3.sameT b4)
  have th4 := th3.mono (D3.sameT b4)
  refine sd_go (sd_seq ⟨_, rfl, _, rfl, _, rfl, vw, vh, vi, rfl, tb4, fun l fs L H5 ext c1 c2 c3 hl len all => ?_⟩)
  have sT5 := ext_sameT ext
  have E5 : Here K H5 l L fs vw vh vi b h si := ⟨hl, len, all, ⟨c1, c2, c3⟩, tw4.mono sT5, th4.mono sT5, ti4.mono sT5⟩
  refine sd_go (sd_seq (ev_asked A okb can f5 E5 fun D5 due H6 n5 s6 hd5 ad => ?_))
  refine sd_go (sd_seq (ev_kept hd5 ad fun D6 kept H7 n6 s7 hd6 ak => ?_))
  refine sd_go (sd_seq (ev_spoil (H0 := H5) (H1 := H6) (cl0 := l) (by rw [hl]; simp) s6 n6 hd5 ad s7 hd6 ak f5 ((E5.same s6).same s7) fun y7 H8 E8 ak8 hd8 => ?_))
  refine sd_go (sd_seq (if_op_go ?_))
  refine ev_asked A okb can f5 E8 fun D8 acc H9 n8 s9 hd9 a9 => ?_
  have lo : ∀ d ∈ (ansOf b h si).map An.pd, Low d := fun d hd => by
    obtain ⟨an, ha, rfl⟩ := List.mem_map.mp hd
    exact (ans_ok f5 an ha).low
  obtain ⟨sh, eq1⟩ := low_list lo
  refine ⟨_, rfl, _, _, .lst (.of hd9) a9.dp, .lst (.of (s9 _ _ hd8)) (ak8.same s9).dp, sh, sh, _, rfl, ?_⟩
  rw [eq1, if_neg (show ¬ (!true) = true by decide)]
  have hk9 := s9 _ _ hd8
  have ak9 := ak8.same s9
  obtain ⟨v0, rest, rfl, tv0⟩ : ∃ v0 rest, kept = v0 :: rest ∧ Tp K H9 v0 (encH (doneT (threeT b) h).1) := by
    unfold ansOf at ak9
    cases ak9 with
    | cons h1 h2 => exact ⟨_, _, rfl, h1⟩
  have E9 := E8.same s9
  refine sd_next (sd_go (sd_seq ⟨_, rfl, fun p dx np ndx ne => ?_⟩))
  have npx : upd H9 dx (.own p) p = none := by rw [upd_ne ne.symm]; exact np
  have s10 : Same H9 (upd (upd H9 dx (.own p)) p (.ins C dx [])) := (same_new ndx _).trans (same_new npx _)
  refine ⟨p, dx, vh, h, rfl, upd_same, E9.th.same s10, can, fun pl H10 npl b10 hp10 hpl10 => ⟨rfl, ?_⟩⟩
  have sT10 : SameT H9 H10 := (SameT.of s10).trans (but_sameT b10 upd_same rfl)
  have hk10 : H10 D6 = some (.lst (v0 :: rest)) := b10 _ _ (fun z => by rw [z, np] at hk9; cases hk9) (s10 _ _ hk9)
  have th10 := E9.th.mono sT10
  have tw10 := E9.tw.mono sT10
  have nD6 : ¬ ("do" : Str) = "now" ∧ ¬ ("do" : Str) = "past" := by decide +kernel
  have nS6 : ¬ ("steps" : Str) = "now" ∧ ¬ ("steps" : Str) = "past" := by decide +kernel
  have nT6 : ¬ ("store" : Str) = "now" ∧ ¬ ("store" : Str) = "past" := by decide +kernel
  refine sd_go (sd_seq ⟨_, rfl, p, dx, _, rfl, hp10, bFlds_no _ _ nD6.1 nD6.2, _, rfl, p, dx, pl, vh, vw, b, h, rfl, hp10, hpl10, th10, can, tw10, okb, fun x u y H11 b11 hp11 hpl11 ty tu => ?_⟩)
  have hk11 : H11 D6 = some (.lst (v0 :: rest)) := b11 _ _ (fun z => by rw [z, hp10] at hk10; cases hk10) (fun z => by
    have hn : H9 pl = none := by
      have h2 : pl ≠ p := fun z => by rw [z, upd_same] at npl; cases npl
      rw [upd_ne h2] at npl
      by_cases h3 : pl = dx
      · rw [h3]; exact ndx
      · rw [upd_ne h3] at npl; exact npl
    rw [z, hn] at hk9
    cases hk9) hk10
  have sT11 : SameT H10 H11 := fun c o e i => b11 c o (fun z => by rw [z, hp10] at e; cases e; cases i) (fun z => by rw [z, hpl10] at e; cases e; cases i) e
  refine sd_go (sd_seq ⟨_, rfl, p, dx, _, rfl, hp11, bFlds_no _ _ nS6.1 nS6.2, p, dx, pl, u, [y], [(encH h, encW b)], rfl, hp11, hpl11, .cons ty .nil, (by show 1 ≤ 10; decide), fun l2 ys H12 nl2 s12 hl2 hys => ?_⟩)
  have hlen2 := hys.length
  refine ⟨.inl ⟨rfl, _, SqL.of hl2⟩, l2, ys, .str "spoilt", rfl, rfl, hl2, small_lt (by rw [hlen2]; show 1 ≤ 3000000; decide), ?_⟩
  have s13 : Same H11 (upd H12 l2 (.lst (ys ++ [.str "spoilt"]))) := same_mut s12 nl2 _
  have sT13 : SameT H9 (upd H12 l2 (.lst (ys ++ [.str "spoilt"]))) := (sT10.trans sT11).trans (SameT.of s13)
  refine sd_go ?_
  refine ⟨_, rfl, p, dx, _, rfl, s13 _ _ hp11, bFlds_no _ _ nS6.1 nS6.2, p, dx, pl, u, [y], [(encH h, encW b)], rfl, s13 _ _ hp11, s13 _ _ hpl11, .cons (ty.same s13) .nil, (by show 1 ≤ 10; decide), fun l3 zs H14 nl3 s14 hl3 hzs => ?_⟩
  have tw14 := (E9.tw.mono sT13).same s14
  refine ⟨_, rfl, small_le (by show 1 ≤ 3000000; decide), fun p4 np4 => ?_⟩
  have s15 : Same H14 (upd H14 p4 (.lst [vw])) := same_new np4 _
  obtain ⟨sh2, eq2⟩ := low_list (l := [encW b]) fun d hd => by
    rw [List.mem_singleton] at hd
    subst hd
    exact low_okW okb
  refine ⟨_, _, .lst (.of (s15 _ _ hl3)) (hzs.same s15).dp, .lst (.of upd_same) (.cons (tw14.same s15).dp .nil), sh2, sh2, _, rfl, ?_⟩
  rw [show PyData.eqv (.list ([(encH h, encW b)].map (·.2))) (.list [encW b]) = true from eq2, if_pos rfl]
  have hp15 := s15 _ _ (s14 _ _ (s13 _ _ hp11))
  refine ⟨_, rfl, p, dx, _, rfl, hp15, bFlds_no _ _ nT6.1 nT6.2, p, dx, pl, u, rfl, hp15, fun H16 s16 => ?_⟩
  have s1116 := ((s13.trans s14).trans s15).trans s16
  refine ⟨_, rfl, D6, v0 :: rest, 0, v0, rfl, rfl, .of (s1116 _ _ hk11), at_head, ?_⟩
  have tv16 : Tp K H16 v0 (encH (doneT (threeT b) h).1) := (tv0.mono (sT10.trans sT11)).same s1116
  refine ⟨_, _, (tu.same s1116).dp, tv16.dp, (low_H _).sh, (low_H _).sh, ?_⟩
  rw [PySem.SeqAt.eqv_refl _ (low_H (doneT (threeT b) h).1).lay]
  exact q _
end
end Lo
set_option Elab.async false
set_option linter.all false
set_option maxRecDepth 100000
set_option maxHeartbeats 8000000
/-! the head -/
namespace Lo
open PySem PySem.Spec PyProof.Rows L2 LamX NdefX
def nmL0 : List Str := ["_wall", "StoreError", "BadHeap", "BadWork", "BadThree", "BadCount", "BadNumber", "TooMany", "Mixed", "Unlike", "BadDeed", "BadText", "MOST_PAIRS", "FAR", "MOST_COUNT", "bad_place", "need_heap"]
def nmL1 : List Str := ["both", "size_of", "parted", "without", "numbers_of", "PUT", "TAKE", "TIMES", "MOST_PUT", "MOST_STEPS", "MOST_DEEP", "NOTHING", "is_step", "need_steps", "need_work", "behind", "power"]
def nmL2 : List Str := ["three_of", "done", "run", "came", "heaps", "Bench", "rows_of", "written", "need_three", "beyond", "bars_of", "parting", "alike", "crossed", "MOST_SINGLE", "need_few", "Counter"]
def nmL3 : List Str := ["how_many", "need_single", "number_of", "neighbours", "led", "source", "between", "_law_dice", "_law_next", "_law_told", "_law_number", "_law_steps", "_law_work", "_law_single", "_law_store", "_law_calls"]
def nmL : List Str := nmL0 ++ (nmL1 ++ (nmL2 ++ (nmL3)))
def mkD (x : Str) (st : Stmt) : He.DefD := ⟨(x, none), x, x, defArgs st, defBody st, defScope st, [], []⟩
def mkM (C m q : Str) (st : Stmt) : He.DefD := ⟨(C, some m), m, q, defArgs st, defBody st, defScope st, [], []⟩
def faL0 : List He.Fa := [.glo "both", .glo "bad_place", .glo "need_heap", .glo "without", .glo "numbers_of", .glo "size_of", .glo "parted", .glo "is_step", .glo "need_steps", .glo "need_work", .glo "behind", .glo "power", .glo "three_of", .glo "done", .glo "run", .glo "came", .glo "heaps", .glo "rows_of", .glo "written", .glo "need_three"]
def faL1 : List He.Fa := [.glo "beyond", .glo "bars_of", .glo "parting", .glo "alike", .glo "crossed", .glo "source", .glo "between", .glo "need_few", .glo "need_single", .glo "how_many", .glo "number_of", .glo "neighbours", .glo "led", .glo "_law_dice", .glo "_law_next", .glo "_law_told", .glo "_law_number", .glo "_law_steps", .glo "_law_work", .glo "_law_single"]
def faL2 : List He.Fa := [.glo "_law_store", .glo "_law_calls", .glo "law", .glo "BadHeap", .glo "BadWork", .glo "BadThree", .glo "BadDeed", .glo "BadText", .glo "BadCount", .glo "BadNumber", .glo "TooMany", .glo "Mixed", .glo "Unlike", .glo "StoreError", .glo "Counter", .glo "Bench", .glo "NOTHING", .free "enumerate", .free "len", .free "sum"]
def faL3 : List He.Fa := [.free "min", .free "int", .free "tuple", .free "sorted", .free "dict", .free "set", .free "range", .free "abs", .free "str", .free "list", .free "isinstance", .int "MOST_PAIRS" 40, .int "FAR" 1000000, .int "MOST_COUNT" 1000000000000000000, .int "MOST_PUT" 999, .int "MOST_STEPS" 30, .int "MOST_DEEP" 3, .int "MOST_SINGLE" 9, .str "PUT" "put", .str "TAKE" "take"]
def faL4 : List He.Fa := [.str "TIMES" "times", .cls "Counter", .mkr "Counter", .cls "Bench", .mkr "Bench", .noat "Counter" "begin", .noat "Counter" "known", .noat "Bench" "now", .noat "Bench" "past", .meth "Counter" "nexts", .meth "Counter" "ways", .meth "Counter" "rank", .meth "Bench" "go", .meth "Bench" "do", .meth "Bench" "store", .meth "Bench" "steps", .exc "Unlike", .exm "Unlike" "StoreError" true]
def faL : List He.Fa := faL0 ++ (faL1 ++ (faL2 ++ (faL3 ++ (faL4))))
def fnL0 : List He.DefD := [mkD "both" sBoth, mkD "bad_place" sBad, mkD "need_heap" sNeedH, mkD "without" sWithout, mkD "numbers_of" sNums, mkD "size_of" sSize, mkD "parted" sParted, mkD "is_step" sIsStep, mkD "need_steps" sNeedSt, mkD "need_work" sNeedW, mkD "behind" sBehind, mkD "power" sPower, mkD "three_of" sThree, mkD "done" sDone, mkD "run" sRun]
def fnL1 : List He.DefD := [mkD "came" sCame, mkD "heaps" sHeaps, mkD "rows_of" sRows, mkD "written" sWritten, mkD "need_three" sNeedT, mkD "beyond" sBeyond, mkD "bars_of" sBars, mkD "parting" sParting, mkD "alike" sAlike, mkD "crossed" sCrossed, mkD "source" sSource, mkD "between" sBetween, mkD "need_few" sNeedFew, mkD "need_single" sNeedSing, mkD "how_many" sHowMany]
def fnL2 : List He.DefD := [mkD "number_of" sNumberOf, mkD "neighbours" sNeigh, mkD "led" sLed, mkD "_law_dice" sDice, mkD "_law_next" sNextD, mkD "_law_told" sTold, mkD "_law_number" sNumber, mkD "_law_steps" sSteps, mkD "_law_work" sWork, mkD "_law_single" sSingle, mkD "_law_store" sStore, mkD "_law_calls" sCalls, mkD "law" sLaw, mkM "Counter" "__init__" "Counter.__init__" sCInit, mkM "Counter" "nexts" "Counter.nexts" sCNexts]
def fnL3 : List He.DefD := [mkM "Counter" "ways" "Counter.ways" sCWays, mkM "Counter" "rank" "Counter.rank" sCRank, mkM "Bench" "__init__" "Bench.__init__" sBInit, mkM "Bench" "go" "Bench.go" sBGo, mkM "Bench" "do" "Bench.do" sBDo, mkM "Bench" "store" "Bench.store" sBStore, mkM "Bench" "steps" "Bench.steps" sBSteps]
def fnL : List He.DefD := fnL0 ++ (fnL1 ++ (fnL2 ++ (fnL3)))
def tfL : List He.Defn := [("_law_calls", none)]
/-- an empty tuple stands there -/
def emptyT (K : PySem.W.Frag) (a : Addr) : Bool := match K.lookup a with
  | some ⟨.type c, none, .seq its _, _⟩ => decide (c = "tuple") && decide (its.toList = [])
  | _ => false
/-- ((), (), 0) stands there -/
def nothingB (K : PySem.W.Frag) (a : Addr) : Bool := match K.lookup a with
  | some ⟨.type c, none, .seq its _, _⟩ => decide (c = "tuple") && (decide (its.size ≤ sizeLine) && match its.toList with
    | [.ref x, .ref y, .int i _] => emptyT K x && (emptyT K y && decide (i = 0))
    | _ => false)
  | _ => false
theorem emptyT_ok {K : PySem.W.Frag} {a : Addr} (h : emptyT K a = true) (H : Hp) : Tp K H (.ref a) (.tuple []) := by
  unfold emptyT at h
  cases q : K.lookup a with
  | none => rw [q] at h; cases h
  | some o =>
    obtain ⟨oc, od, dt, osl⟩ := o
    rw [q] at h
    cases oc with
    | type c =>
      cases od with
      | none =>
        cases dt with
        | seq its n =>
          obtain ⟨h1, h2⟩ := He.ba h
          have e := of_decide_eq_true h2
          have e0 : its.size = 0 := by
            have : its.toList.length = 0 := by rw [e]; rfl
            rw [Array.length_toList] at this
            exact this
          exact .tup (.inr ⟨_, its, n, q, congrArg Value.type (of_decide_eq_true h1), rfl, rfl, by rw [e0]; exact Nat.zero_le _, by rw [e]; exact .nil⟩) .nil
        | _ => cases h
      | some d => cases dt <;> cases h
    | _ => cases od <;> cases dt <;> cases h
theorem nothing_ok {K : PySem.W.Frag} {a : Addr} (h : nothingB K a = true) (H : Hp) : Tp K H (.ref a) (.tuple [.tuple [], .tuple [], .int 0]) := by
  unfold nothingB at h
  cases q : K.lookup a with
  | none => rw [q] at h; cases h
  | some o =>
    obtain ⟨oc, od, dt, osl⟩ := o
    rw [q] at h
    cases oc with
    | type c =>
      cases od with
      | none =>
        cases dt with
        | seq its n =>
          obtain ⟨h1, h2⟩ := He.ba h
          obtain ⟨h3, h4⟩ := He.ba h2
          match e : its.toList, h4 with
          | [.ref x, .ref y, .int i t], h4 =>
            obtain ⟨k1, k2⟩ := He.ba h4
            obtain ⟨k3, k4⟩ := He.ba k2
            have ei : i = 0 := of_decide_eq_true k4
            subst ei
            exact .tup (xs := [.ref x, .ref y, .int 0]) (.inr ⟨_, its, n, q, congrArg Value.type (of_decide_eq_true h1), rfl, rfl, of_decide_eq_true h3, by rw [e]; exact .cons rfl (.cons rfl (.cons ⟨t, rfl⟩ .nil))⟩) (.cons (emptyT_ok k1 H) (.cons (emptyT_ok k3 H) (.cons (.int 0) .nil)))
        | _ => cases h
      | some d => cases dt <;> cases h
    | _ => cases od <;> cases dt <;> cases h
/-- what else is looked at: NOTHING, the error Unlike's class -/
def errL : List Str := ["BadHeap", "BadWork", "BadThree", "BadDeed", "BadText", "BadCount", "BadNumber", "TooMany", "Mixed"]
def exB (K : PySem.W.Frag) : Bool := nothingB K (He.ga K "NOTHING") && (He.eqO (PySem.W.findIn K (.ref (He.ga K "Unlike")) "__getattribute__") (some (some (.builtin "BaseException.__getattribute__"))) && (He.eqO (PySem.W.findIn K (.ref (He.ga K "Unlike")) "__getattr__") (some none) &&
  (PySem.W.hasDictIn K (He.ga K "Unlike") && (He.eqO (PySem.W.findIn K (.ref (He.ga K "Unlike")) "__class__") (some (some (.builtin "object.__class__"))) && (He.eqO (PySem.W.specialIn K (.builtin "object.__class__") "__get__") (some (some (.builtin "getset_descriptor.__get__"))) &&
  (decide (PySem.W.takesIn K (.builtin "object.__class__") = some true) && (decide (PySem.W.mroIn K (He.ga K "Unlike") (.type "object") = some true) &&
  (decide (PySem.W.kitOne K (.ref (He.ga K "Unlike")) (.ref (He.ga K "Unlike")) = some true) && errL.all fun n => decide (PySem.W.kitOne K (.ref (He.ga K "Unlike")) (.ref (He.ga K n)) = some false)))))))))
abbrev hdR : PySem.W.OpenRow := PySem.W.OpenLaw.row PySem.Challenge.rw_leastout_k37_whole_asked_again
abbrev hdQ : Program := PySem.W.view hdR.prog [76]
abbrev hdH : PySem.W.Hook := He.hookX 5 faL fnL [] tfL exB
def hdO (s : PySem.W.SharedT) : He.AlX := He.obsX 5 faL fnL [] tfL exB (HandSHeadRun.getT s)
theorem hdO_eq (s : PySem.W.SharedT) : hdO s = hdH.obs s.abs := He.obsX_eq (HandSHeadRun.getT_eq s)
theorem hd_run (w : World) : HandSHeadRun.RunEq hdR hdQ hdH hdO 8000 nmL w := by
  intro os
  kernel_rfl
end Lo
set_option Elab.async false
set_option linter.all false
set_option maxRecDepth 100000
set_option maxHeartbeats 8000000
/-! from the head to the law -/
namespace Lo
open PySem PySem.Spec PyProof.Rows L2 LamX NdefX
section
variable {K : PySem.W.Frag} {x q : Str} {st : Stmt} {f : Addr} {fd : FuncData}
theorem fun_of (F : FunD K x q (defArgs st) (defBody st) (defScope st) [] [] f fd) : Fun K x q st f fd := by
  obtain ⟨oc, od, dV, kV, doc, pm, an, cdv, ct, osl, e, lk, hcd, hD, hK⟩ := F.ex
  rcases hD with ⟨_, rfl⟩ | ⟨e, _⟩
  · exact ⟨⟨oc, od, kV, doc, pm, an, cdv, ct, osl, e, lk, hcd⟩, F.kp⟩
  · exact absurd rfl e
theorem dfn_of {h : Heap} {mg : Str → Option Value} (X : K.In h) (G : h.Ns mainGlobals mg) (c : He.SaysD faL fnL K) (ps : List Str) (x : Str) (st : Stmt) (i j : Nat) (hi : faL[i]? = some (.glo x)) (hj : fnL[j]? = some (mkD x st))
    (hb : ∀ (kV doc pm : Value) (an : Option Addr) (cdv ct : Value) (us : List Value), us.length = ps.length → bindArgs (PySem.W.fnOf x x (defArgs st) (defBody st) (defScope st) .none kV doc pm an cdv ct) ⟨us, []⟩ = pure (ps.zip us)) : Dfn K mg x st ps := by
  obtain ⟨fd, F⟩ := c.def_ j hj
  exact ⟨_, fd, fun_of F, He.glo_ok X G (c.fact i hi), FunD.bindsN F hb⟩
theorem fn_of (c : He.SaysD faL fnL K) (ps : List Str) (C m q : Str) (st : Stmt) (j : Nat) (hj : fnL[j]? = some (mkM C m q st))
    (hb : ∀ (kV doc pm : Value) (an : Option Addr) (cdv ct : Value) (us : List Value), us.length = ps.length → bindArgs (PySem.W.fnOf m q (defArgs st) (defBody st) (defScope st) .none kV doc pm an cdv ct) ⟨us, []⟩ = pure (ps.zip us)) : ∃ fd, Fun K m q st (He.ma K (He.ga K C) m) fd ∧ Binds K fd ps [] := by
  obtain ⟨fd, F⟩ := c.def_ j hj
  exact ⟨fd, fun_of F, FunD.bindsN F hb⟩
theorem ways_zero {P : Program} {w : World} {mg : Str → Option Value} {base : Heap} {C : Addr} : FnOk P w K mg base CX0 1 f fd ["self", "state"] (spWays K P w C 0) :=
  ⟨fun vs H Q E ⟨_, _, _, _, _, _, _, e, _⟩ => by rw [e]; rfl, fun A outer s H args us vs Q E hr he hb hv ⟨_, _, _, _, _, _, _, _, _, _, _, hd, _⟩ => absurd hd (Nat.not_lt_zero _)⟩
theorem ways_all {P : Program} {w : World} {mg : Str → Option Value} {base : Heap} {C fN : Addr} {fdN : FuncData} (F : Fun K "ways" "Counter.ways" sCWays f fd) (T : Txt K mg) (CT : CTxt K mg C) (GN : FnOk P w K mg base CX0 1 fN fdN ["self", "state"] (spNexts K)) (bN : Binds K fdN ["self", "state"] []) (mN : Meth K C "nexts" fN)
    (bM : Binds K fd ["self", "state"] []) (mM : Meth K C "ways" f) : ∀ n, FnOk P w K mg base CX0 (n + 1) f fd ["self", "state"] (spWays K P w C n)
  | 0 => ways_zero
  | n + 1 => ok_ways F T CT (Nat.le_add_left 1 n) GN bN mN (ways_all F T CT GN bN mN bM mM n) bM mM
end
theorem facts {w : World} {K : PySem.W.Frag} {h : Heap} {mg : Str → Option Value} {f : Addr} (X : K.In h) (G : h.Ns mainGlobals mg) (hfa : mg "law" = some (.ref f)) (c : He.SaysX faL fnL [] tfL exB w h K) :
    LawAtS PySem.Challenge.rw_leastout_k37_whole_asked_again w K CX0 12 63 "_law_script" mg f h := by
  obtain ⟨x1, xr⟩ := He.ba c.more
  have T : Txt K mg := ⟨He.free_ok X G (c.t.d.fact 57 (f := .free "enumerate") rfl), He.free_ok X G (c.t.d.fact 58 (f := .free "len") rfl), He.free_ok X G (c.t.d.fact 59 (f := .free "sum") rfl), He.free_ok X G (c.t.d.fact 60 (f := .free "min") rfl), He.free_ok X G (c.t.d.fact 61 (f := .free "int") rfl), He.free_ok X G (c.t.d.fact 62 (f := .free "tuple") rfl), He.free_ok X G (c.t.d.fact 63 (f := .free "sorted") rfl), He.free_ok X G (c.t.d.fact 64 (f := .free "dict") rfl), He.free_ok X G (c.t.d.fact 65 (f := .free "set") rfl), He.free_ok X G (c.t.d.fact 66 (f := .free "range") rfl), He.free_ok X G (c.t.d.fact 67 (f := .free "abs") rfl), He.free_ok X G (c.t.d.fact 68 (f := .free "str") rfl), He.free_ok X G (c.t.d.fact 69 (f := .free "list") rfl), He.free_ok X G (c.t.d.fact 70 (f := .free "isinstance") rfl), He.int_ok X G (c.t.d.fact 71 (f := .int "MOST_PAIRS" 40) rfl), He.int_ok X G (c.t.d.fact 72 (f := .int "FAR" 1000000) rfl), He.int_ok X G (c.t.d.fact 73 (f := .int "MOST_COUNT" 1000000000000000000) rfl), He.str_ok X G (c.t.d.fact 78 (f := .str "PUT" "put") rfl), He.str_ok X G (c.t.d.fact 79 (f := .str "TAKE" "take") rfl), He.str_ok X G (c.t.d.fact 80 (f := .str "TIMES" "times") rfl), He.int_ok X G (c.t.d.fact 74 (f := .int "MOST_PUT" 999) rfl), He.int_ok X G (c.t.d.fact 75 (f := .int "MOST_STEPS" 30) rfl), He.int_ok X G (c.t.d.fact 76 (f := .int "MOST_DEEP" 3) rfl), He.int_ok X G (c.t.d.fact 77 (f := .int "MOST_SINGLE" 9) rfl), _, He.glo_ok X G (c.t.d.fact 56 (f := .glo "NOTHING") rfl), fun H => nothing_ok x1 H⟩
  have d_both := (dfn_of X G c.t.d ["one", "other"] "both" sBoth 0 0 rfl rfl (fun _ _ _ _ _ _ us hl => match us, hl with | [_, _], _ => rfl))
  have d_bad_place := (dfn_of X G c.t.d ["heap", "far"] "bad_place" sBad 1 1 rfl rfl (fun _ _ _ _ _ _ us hl => match us, hl with | [_, _], _ => rfl))
  have d_need_heap := (dfn_of X G c.t.d ["heap"] "need_heap" sNeedH 2 2 rfl rfl (fun _ _ _ _ _ _ us hl => match us, hl with | [_], _ => rfl))
  have d_without := (dfn_of X G c.t.d ["one", "other"] "without" sWithout 3 3 rfl rfl (fun _ _ _ _ _ _ us hl => match us, hl with | [_, _], _ => rfl))
  have d_numbers_of := (dfn_of X G c.t.d ["heap"] "numbers_of" sNums 4 4 rfl rfl (fun _ _ _ _ _ _ us hl => match us, hl with | [_], _ => rfl))
  have d_size_of := (dfn_of X G c.t.d ["heap"] "size_of" sSize 5 5 rfl rfl (fun _ _ _ _ _ _ us hl => match us, hl with | [_], _ => rfl))
  have d_parted := (dfn_of X G c.t.d ["heap", "many"] "parted" sParted 6 6 rfl rfl (fun _ _ _ _ _ _ us hl => match us, hl with | [_, _], _ => rfl))
  have d_is_step := (dfn_of X G c.t.d ["step"] "is_step" sIsStep 7 7 rfl rfl (fun _ _ _ _ _ _ us hl => match us, hl with | [_], _ => rfl))
  have d_need_steps := (dfn_of X G c.t.d ["steps", "deep", "number"] "need_steps" sNeedSt 8 8 rfl rfl (fun _ _ _ _ _ _ us hl => match us, hl with | [_, _, _], _ => rfl))
  have d_need_work := (dfn_of X G c.t.d ["work"] "need_work" sNeedW 9 9 rfl rfl (fun _ _ _ _ _ _ us hl => match us, hl with | [_], _ => rfl))
  have d_behind := (dfn_of X G c.t.d ["one", "other"] "behind" sBehind 10 10 rfl rfl (fun _ _ _ _ _ _ us hl => match us, hl with | [_, _], _ => rfl))
  have d_power := (dfn_of X G c.t.d ["three", "many"] "power" sPower 11 11 rfl rfl (fun _ _ _ _ _ _ us hl => match us, hl with | [_, _], _ => rfl))
  have d_three_of := (dfn_of X G c.t.d ["steps"] "three_of" sThree 12 12 rfl rfl (fun _ _ _ _ _ _ us hl => match us, hl with | [_], _ => rfl))
  have d_done := (dfn_of X G c.t.d ["three", "store"] "done" sDone 13 13 rfl rfl (fun _ _ _ _ _ _ us hl => match us, hl with | [_, _], _ => rfl))
  have d_run := (dfn_of X G c.t.d ["work", "store"] "run" sRun 14 14 rfl rfl (fun _ _ _ _ _ _ us hl => match us, hl with | [_, _], _ => rfl))
  have d_came := (dfn_of X G c.t.d ["work", "store"] "came" sCame 15 15 rfl rfl (fun _ _ _ _ _ _ us hl => match us, hl with | [_, _], _ => rfl))
  have d_heaps := (dfn_of X G c.t.d ["work"] "heaps" sHeaps 16 16 rfl rfl (fun _ _ _ _ _ _ us hl => match us, hl with | [_], _ => rfl))
  have d_rows_of := (dfn_of X G c.t.d ["steps", "deep"] "rows_of" sRows 17 17 rfl rfl (fun _ _ _ _ _ _ us hl => match us, hl with | [_, _], _ => rfl))
  have d_written := (dfn_of X G c.t.d ["work"] "written" sWritten 18 18 rfl rfl (fun _ _ _ _ _ _ us hl => match us, hl with | [_], _ => rfl))
  have d_need_three := (dfn_of X G c.t.d ["three"] "need_three" sNeedT 19 19 rfl rfl (fun _ _ _ _ _ _ us hl => match us, hl with | [_], _ => rfl))
  have d_beyond := (dfn_of X G c.t.d ["three", "bar"] "beyond" sBeyond 20 20 rfl rfl (fun _ _ _ _ _ _ us hl => match us, hl with | [_, _], _ => rfl))
  have d_bars_of := (dfn_of X G c.t.d ["one", "other"] "bars_of" sBars 21 21 rfl rfl (fun _ _ _ _ _ _ us hl => match us, hl with | [_, _], _ => rfl))
  have d_parting := (dfn_of X G c.t.d ["one", "other"] "parting" sParting 22 22 rfl rfl (fun _ _ _ _ _ _ us hl => match us, hl with | [_, _], _ => rfl))
  have d_alike := (dfn_of X G c.t.d ["one", "other"] "alike" sAlike 23 23 rfl rfl (fun _ _ _ _ _ _ us hl => match us, hl with | [_, _], _ => rfl))
  have d_crossed := (dfn_of X G c.t.d ["one", "other"] "crossed" sCrossed 24 24 rfl rfl (fun _ _ _ _ _ _ us hl => match us, hl with | [_, _], _ => rfl))
  have d_source := (dfn_of X G c.t.d ["work", "store"] "source" sSource 25 25 rfl rfl (fun _ _ _ _ _ _ us hl => match us, hl with | [_, _], _ => rfl))
  have d_between := (dfn_of X G c.t.d ["store", "goal"] "between" sBetween 26 26 rfl rfl (fun _ _ _ _ _ _ us hl => match us, hl with | [_, _], _ => rfl))
  have d_need_few := (dfn_of X G c.t.d ["three"] "need_few" sNeedFew 27 27 rfl rfl (fun _ _ _ _ _ _ us hl => match us, hl with | [_], _ => rfl))
  have d_need_single := (dfn_of X G c.t.d ["work"] "need_single" sNeedSing 28 28 rfl rfl (fun _ _ _ _ _ _ us hl => match us, hl with | [_], _ => rfl))
  have d_how_many := (dfn_of X G c.t.d ["three"] "how_many" sHowMany 29 29 rfl rfl (fun _ _ _ _ _ _ us hl => match us, hl with | [_], _ => rfl))
  have d_number_of := (dfn_of X G c.t.d ["work"] "number_of" sNumberOf 30 30 rfl rfl (fun _ _ _ _ _ _ us hl => match us, hl with | [_], _ => rfl))
  have d_neighbours := (dfn_of X G c.t.d ["work", "three"] "neighbours" sNeigh 31 31 rfl rfl (fun _ _ _ _ _ _ us hl => match us, hl with | [_, _], _ => rfl))
  have d_led := (dfn_of X G c.t.d ["one", "other"] "led" sLed 32 32 rfl rfl (fun _ _ _ _ _ _ us hl => match us, hl with | [_, _], _ => rfl))
  have d__law_dice := (dfn_of X G c.t.d ["_law_script"] "_law_dice" sDice 33 33 rfl rfl (fun _ _ _ _ _ _ us hl => match us, hl with | [_], _ => rfl))
  have d__law_next := (dfn_of X G c.t.d ["_law_dice_here", "_law_many"] "_law_next" sNextD 34 34 rfl rfl (fun _ _ _ _ _ _ us hl => match us, hl with | [_, _], _ => rfl))
  have d__law_told := (dfn_of X G c.t.d ["_law_work_here"] "_law_told" sTold 35 35 rfl rfl (fun _ _ _ _ _ _ us hl => match us, hl with | [_], _ => rfl))
  have d__law_number := (dfn_of X G c.t.d ["_law_d"] "_law_number" sNumber 36 36 rfl rfl (fun _ _ _ _ _ _ us hl => match us, hl with | [_], _ => rfl))
  have d__law_steps := (dfn_of X G c.t.d ["_law_d", "_law_room", "_law_deep"] "_law_steps" sSteps 37 37 rfl rfl (fun _ _ _ _ _ _ us hl => match us, hl with | [_, _, _], _ => rfl))
  have d__law_work := (dfn_of X G c.t.d ["_law_d"] "_law_work" sWork 38 38 rfl rfl (fun _ _ _ _ _ _ us hl => match us, hl with | [_], _ => rfl))
  have d__law_single := (dfn_of X G c.t.d ["_law_d", "_law_most_of"] "_law_single" sSingle 39 39 rfl rfl (fun _ _ _ _ _ _ us hl => match us, hl with | [_, _], _ => rfl))
  have d__law_store := (dfn_of X G c.t.d ["_law_d", "_law_far"] "_law_store" sStore 40 40 rfl rfl (fun _ _ _ _ _ _ us hl => match us, hl with | [_, _], _ => rfl))
  have d__law_calls := (dfn_of X G c.t.d ["_law_work_here", "_law_heap", "_law_single_here"] "_law_calls" sCalls 41 41 rfl rfl (fun _ _ _ _ _ _ us hl => match us, hl with | [_, _, _], _ => rfl))
  have d_law := (dfn_of X G c.t.d ["_law_script"] "law" sLaw 42 42 rfl rfl (fun _ _ _ _ _ _ us hl => match us, hl with | [_], _ => rfl))
  have CT : CTxt K mg (He.ga K "Counter") := ⟨He.cls_ok (c.t.d.fact 81 (f := .cls "Counter") rfl), He.noat_ok (c.t.d.fact 85 (f := .noat "Counter" "begin") rfl), He.noat_ok (c.t.d.fact 86 (f := .noat "Counter" "known") rfl), He.glo_ok X G (c.t.d.fact 54 (f := .glo "Counter") rfl)⟩
  have BT : BTxt K mg (He.ga K "Bench") := ⟨He.cls_ok (c.t.d.fact 83 (f := .cls "Bench") rfl), He.noat_ok (c.t.d.fact 87 (f := .noat "Bench" "now") rfl), He.noat_ok (c.t.d.fact 88 (f := .noat "Bench" "past") rfl), He.glo_ok X G (c.t.d.fact 55 (f := .glo "Bench") rfl)⟩
  obtain ⟨u1, u2, u3, u4⟩ := He.exc_ok (c.t.d.fact 96 (f := .exc "Unlike") rfl)
  have U : UTxt K mg (He.ga K "Unlike") := ⟨He.glo_ok X G (c.t.d.fact 52 (f := .glo "Unlike") rfl), u1, u2, u3, u4⟩
  obtain ⟨x2, xr⟩ := He.ba xr
  obtain ⟨x3, xr⟩ := He.ba xr
  obtain ⟨x4, xr⟩ := He.ba xr
  obtain ⟨x5, xr⟩ := He.ba xr
  obtain ⟨x6, xr⟩ := He.ba xr
  obtain ⟨x7, xr⟩ := He.ba xr
  obtain ⟨x8, xr⟩ := He.ba xr
  obtain ⟨x9, x10⟩ := He.ba xr
  have gE : ∀ n ∈ errL, mg n = some (.ref (He.ga K n)) := by
    intro n hn
    simp only [errL, List.mem_cons, List.not_mem_nil, or_false] at hn
    rcases hn with rfl | rfl | rfl | rfl | rfl | rfl | rfl | rfl | rfl
    · exact He.glo_ok X G (c.t.d.fact 43 (f := .glo "BadHeap") rfl)
    · exact He.glo_ok X G (c.t.d.fact 44 (f := .glo "BadWork") rfl)
    · exact He.glo_ok X G (c.t.d.fact 45 (f := .glo "BadThree") rfl)
    · exact He.glo_ok X G (c.t.d.fact 46 (f := .glo "BadDeed") rfl)
    · exact He.glo_ok X G (c.t.d.fact 47 (f := .glo "BadText") rfl)
    · exact He.glo_ok X G (c.t.d.fact 48 (f := .glo "BadCount") rfl)
    · exact He.glo_ok X G (c.t.d.fact 49 (f := .glo "BadNumber") rfl)
    · exact He.glo_ok X G (c.t.d.fact 50 (f := .glo "TooMany") rfl)
    · exact He.glo_ok X G (c.t.d.fact 51 (f := .glo "Mixed") rfl)
  have XT : ErrTxt K mg (He.ga K "StoreError") (He.ga K "Unlike") := ⟨⟨He.eqO_ok x2, He.eqO_ok x3, u3, x4, He.eqO_ok x5, He.eqO_ok x6, of_decide_eq_true x7, of_decide_eq_true x8⟩, He.glo_ok X G (c.t.d.fact 53 (f := .glo "StoreError") rfl), He.exm_ok (c.t.d.fact 97 (f := .exm "Unlike" "StoreError" true) rfl), fun n hn => ⟨_, gE n hn, of_decide_eq_true (List.all_eq_true.mp x10 n hn)⟩, U.gC, of_decide_eq_true x9⟩
  obtain ⟨fd_cinit, F_cinit, B_cinit⟩ := fn_of c.t.d ["self", "three"] "Counter" "__init__" "Counter.__init__" sCInit 43 rfl (fun _ _ _ _ _ _ us hl => match us, hl with | [_, _], _ => rfl)
  obtain ⟨fd_cnexts, F_cnexts, B_cnexts⟩ := fn_of c.t.d ["self", "state"] "Counter" "nexts" "Counter.nexts" sCNexts 44 rfl (fun _ _ _ _ _ _ us hl => match us, hl with | [_, _], _ => rfl)
  obtain ⟨fd_cways, F_cways, B_cways⟩ := fn_of c.t.d ["self", "state"] "Counter" "ways" "Counter.ways" sCWays 45 rfl (fun _ _ _ _ _ _ us hl => match us, hl with | [_, _], _ => rfl)
  obtain ⟨fd_crank, F_crank, B_crank⟩ := fn_of c.t.d ["self", "work"] "Counter" "rank" "Counter.rank" sCRank 46 rfl (fun _ _ _ _ _ _ us hl => match us, hl with | [_, _], _ => rfl)
  obtain ⟨fd_binit, F_binit, B_binit⟩ := fn_of c.t.d ["self", "store"] "Bench" "__init__" "Bench.__init__" sBInit 47 rfl (fun _ _ _ _ _ _ us hl => match us, hl with | [_, _], _ => rfl)
  obtain ⟨fd_bgo, F_bgo, B_bgo⟩ := fn_of c.t.d ["self", "work"] "Bench" "go" "Bench.go" sBGo 48 rfl (fun _ _ _ _ _ _ us hl => match us, hl with | [_, _], _ => rfl)
  obtain ⟨fd_bdo, F_bdo, B_bdo⟩ := fn_of c.t.d ["self", "work"] "Bench" "do" "Bench.do" sBDo 49 rfl (fun _ _ _ _ _ _ us hl => match us, hl with | [_, _], _ => rfl)
  obtain ⟨fd_bstore, F_bstore, B_bstore⟩ := fn_of c.t.d ["self"] "Bench" "store" "Bench.store" sBStore 50 rfl (fun _ _ _ _ _ _ us hl => match us, hl with | [_], _ => rfl)
  obtain ⟨fd_bsteps, F_bsteps, B_bsteps⟩ := fn_of c.t.d ["self"] "Bench" "steps" "Bench.steps" sBSteps 51 rfl (fun _ _ _ _ _ _ us hl => match us, hl with | [_], _ => rfl)
  obtain ⟨fdL, FL⟩ := c.t.d.def_ 42 (d := mkD "law" sLaw) rfl
  have eL := hfa.symm.trans (He.glo_ok X G (c.t.d.fact 42 (f := .glo "law") rfl))
  cases eL
  refine ⟨fdL, tfL.map (He.cT K), spLaw K [((He.cT K ("_law_calls", none)).2, fun _ _ => qLam)], fun p hp => ?_, fun p hp => ?_, fun p hp => ?_, fun s u => FunD.bindsA (ps := ["_law_script"]) FL (fun _ _ _ _ _ _ us hl => match us, hl with | [_], _ => rfl) s [u] rfl, fun H a ns hl _ hT hS => ⟨a, ns, rfl, hS, Nat.le_trans hl (by decide), fun p hp => ?_, fun _ => rfl⟩, fun base KX BG TB => ?_⟩
  · obtain ⟨d, hd, rfl⟩ := List.mem_map.mp hp
    exact c.empty d hd
  · obtain ⟨d, hd, rfl⟩ := List.mem_map.mp hp
    exact c.out d hd
  · obtain ⟨d, hd, rfl⟩ := List.mem_map.mp hp
    exact PySem.W.codeHd_of_K X (c.hd d hd)
  · rw [List.mem_singleton] at hp
    subst hp
    exact TabN.nil (hT _ (List.mem_map.mpr ⟨("_law_calls", none), List.mem_singleton.mpr rfl, rfl⟩))
  have TB1 := TB _ (List.mem_map.mpr ⟨("_law_calls", none), List.mem_singleton.mpr rfl, rfl⟩)
  let P : Program := (PySem.Challenge.rw_leastout_k37_whole_asked_again).prog
  have c_both : Callee P w K mg base 1 "both" ["one", "other"] (spD K rBoth) := d_both.callee fun f fd F => ok_both F T
  have c_bad : Callee P w K mg base 1 "bad_place" ["heap", "far"] (spD K rBad) := d_bad_place.callee fun f fd F => ok_bad F T
  have c_needH : Callee P w K mg base 2 "need_heap" ["heap"] (spD K rNeedH) := d_need_heap.callee fun f fd F => ok_needH F T c_bad
  have c_without : Callee P w K mg base 1 "without" ["one", "other"] (spD K rWithout) := d_without.callee fun f fd F => ok_without F T
  have c_nums : Callee P w K mg base 1 "numbers_of" ["heap"] (spLs K rNums) := d_numbers_of.callee fun f fd F => ok_nums F T
  have c_size : Callee P w K mg base 1 "size_of" ["heap"] (spD K rSize) := d_size_of.callee fun f fd F => ok_size F T
  have c_parted : Callee P w K mg base 1 "parted" ["heap", "many"] (spD K rParted) := d_parted.callee fun f fd F => ok_parted F T
  have c_isStep : Callee P w K mg base 1 "is_step" ["step"] (spD K rIsStep) := d_is_step.callee fun f fd F => ok_isStep F T
  have c_needSt : Callee P w K mg base 4 "need_steps" ["steps", "deep", "number"] (spD K (rNeedSt 3)) := callee_needSt d_need_steps T c_isStep 3
  have c_needW : Callee P w K mg base 5 "need_work" ["work"] (spD K rNeedW) := d_need_work.callee fun f fd F => ok_needW F c_needSt
  have c_behind : Callee P w K mg base 2 "behind" ["one", "other"] (spD K rBehind) := d_behind.callee fun f fd F => ok_behind F T c_size c_both c_parted
  have c_power : Callee P w K mg base 3 "power" ["three", "many"] (spD K rPower) := d_power.callee fun f fd F => ok_power F T c_behind
  have c_three : Callee P w K mg base 6 "three_of" ["steps"] (spD K (rThree 3)) := callee_three d_three_of T c_behind c_power 3
  have c_done : Callee P w K mg base 3 "done" ["three", "store"] (spD K rDone) := d_done.callee fun f fd F => ok_done F c_behind
  have c_run : Callee P w K mg base 7 "run" ["work", "store"] (spD K rRun) := d_run.callee fun f fd F => ok_run F c_needW c_needH c_done c_three
  have c_came : Callee P w K mg base 7 "came" ["work", "store"] (spD K rCame) := d_came.callee fun f fd F => ok_came F c_needW c_needH c_done c_three
  have c_heaps : Callee P w K mg base 7 "heaps" ["work"] (spD K rHeaps) := d_heaps.callee fun f fd F => ok_heaps F c_needW c_three
  have c_rows : Callee P w K mg base 3 "rows_of" ["steps", "deep"] (spLs K (rRows 3)) := callee_rows d_rows_of T 3
  have c_written : Callee P w K mg base 6 "written" ["work"] (spD K rWritten) := d_written.callee fun f fd F => ok_written F c_needW c_rows
  have c_needT : Callee P w K mg base 2 "need_three" ["three"] (spD K rNeedT) := d_need_three.callee fun f fd F => ok_needT F T c_bad
  have c_beyond : Callee P w K mg base 1 "beyond" ["three", "bar"] (spD K rBeyond) := d_beyond.callee fun f fd F => ok_beyond F T
  have c_bars : Callee P w K mg base 1 "bars_of" ["one", "other"] (spLs K rBars) := d_bars_of.callee fun f fd F => ok_bars F T
  have c_parting : Callee P w K mg base 2 "parting" ["one", "other"] (spD K rParting) := d_parting.callee fun f fd F => ok_parting F T c_bars c_beyond
  have c_alike : Callee P w K mg base 7 "alike" ["one", "other"] (spD K rAlike) := d_alike.callee fun f fd F => ok_alike F c_needW c_three c_parting
  have c_crossed : Callee P w K mg base 7 "crossed" ["one", "other"] (spD K rCrossed) := d_crossed.callee fun f fd F => ok_crossed F c_needW c_three c_parting c_behind
  have c_source : Callee P w K mg base 7 "source" ["work", "store"] (spD K rSource) := d_source.callee fun f fd F => ok_source F T c_needW c_needH c_three c_without c_parted c_size c_both
  have c_between : Callee P w K mg base 3 "between" ["store", "goal"] (spD K rBetween) := d_between.callee fun f fd F => ok_between F T c_needH c_without c_parted
  have c_needFew : Callee P w K mg base 2 "need_few" ["three"] (spD K rNeedFew) := d_need_few.callee fun f fd F => ok_needFew F T c_size
  have c_needSing : Callee P w K mg base 1 "need_single" ["work"] (spD K rNeedSing) := d_need_single.callee fun f fd F => ok_needSing F T
  have GN := ok_nexts (P := P) (w := w) (base := base) F_cnexts T
  have mN := He.meth_ok (c.t.d.fact 89 (f := .meth "Counter" "nexts") rfl)
  have mW := He.meth_ok (c.t.d.fact 90 (f := .meth "Counter" "ways") rfl)
  have mR := He.meth_ok (c.t.d.fact 91 (f := .meth "Counter" "rank") rfl)
  have GW := ways_all (P := P) (w := w) (base := base) F_cways T CT GN B_cnexts mN B_cways mW 6
  have GI := ok_cinit (P := P) (w := w) (base := base) F_cinit T CT c_size c_both c_nums
  have GR := ok_rank (P := P) (w := w) (base := base) F_crank T CT (by decide) GN B_cnexts mN GW B_cways mW
  have CC : Ctr P w K mg base (He.ga K "Counter") := ⟨CT, _, _, _, _, _, _, He.mkr_ok (c.t.d.fact 82 (f := .mkr "Counter") rfl), GI, B_cinit, GW, B_cways, mW, GR, B_crank, mR⟩
  have c_howMany : Callee P w K mg base 8 "how_many" ["three"] (spD K rHowMany) := d_how_many.callee fun f fd F => ok_howMany F CC c_needT c_needFew
  have c_numberOf : Callee P w K mg base 9 "number_of" ["work"] (spD K rNumberOf) := d_number_of.callee fun f fd F => ok_numberOf F CC c_needW c_needSing c_needFew c_three
  have c_neigh : Callee P w K mg base 7 "neighbours" ["work", "three"] (spLs K rNeigh) := d_neighbours.callee fun f fd F => ok_neigh F T c_three
  have c_led : CalleeX P w K mg base 8 "led" ["one", "other"] (spLed K (He.ga K "Unlike")) := by
    obtain ⟨f, fd, F, hm, hb⟩ := d_led.ex
    exact ⟨f, fd, ok_led F T U c_needW c_needSing c_needFew c_three c_neigh, hm, F.kp, hb⟩
  have mG := He.meth_ok (c.t.d.fact 92 (f := .meth "Bench" "go") rfl)
  have mD := He.meth_ok (c.t.d.fact 93 (f := .meth "Bench" "do") rfl)
  have mS := He.meth_ok (c.t.d.fact 95 (f := .meth "Bench" "steps") rfl)
  have mT := He.meth_ok (c.t.d.fact 94 (f := .meth "Bench" "store") rfl)
  have GG := ok_bgo (P := P) (w := w) (base := base) F_bgo BT c_done c_three
  have BC : Bch P w K mg base (He.ga K "Bench") := ⟨BT, _, _, _, _, _, _, _, _, He.mkr_ok (c.t.d.fact 84 (f := .mkr "Bench") rfl), ok_binit F_binit BT c_needH, B_binit, ok_bdo F_bdo BT c_needW GG B_bgo mG, B_bdo, mD, ok_bsteps F_bsteps BT, B_bsteps, mS, ok_bstore F_bstore BT, B_bstore, mT⟩
  have c_dice : Callee P w K mg base 1 "_law_dice" ["_law_script"] (spDice K) := d__law_dice.callee fun f fd F => ok_dice F T
  have c_next : Callee P w K mg base 1 "_law_next" ["_law_dice_here", "_law_many"] (spNext K) := d__law_next.callee fun f fd F => ok_next F T
  have c_number : Callee P w K mg base 2 "_law_number" ["_law_d"] (spNumber K) := d__law_number.callee fun f fd F => ok_number F c_next
  have c_steps : Callee P w K mg base 5 "_law_steps" ["_law_d", "_law_room", "_law_deep"] (spSteps K 3) := callee_steps d__law_steps T c_next c_number 3
  have c_work : Callee P w K mg base 6 "_law_work" ["_law_d"] (spWork K) := d__law_work.callee fun f fd F => ok_work F c_next c_steps
  have c_single : Callee P w K mg base 2 "_law_single" ["_law_d", "_law_most_of"] (spSingle K) := d__law_single.callee fun f fd F => ok_single F T c_next
  have c_store : Callee P w K mg base 3 "_law_store" ["_law_d", "_law_far"] (spStore K) := d__law_store.callee fun f fd F => ok_store F T c_next c_number
  have c_told : Callee P w K mg base 11 "_law_told" ["_law_work_here"] (spTold P w K mg base (He.ga K "Unlike")) := d__law_told.callee fun f fd F => ok_told F T XT
  have c_calls : Callee P w K mg base 1 "_law_calls" ["_law_work_here", "_law_heap", "_law_single_here"] (spCalls [((He.cT K ("_law_calls", none)).2, fun _ _ => qLam)]) := by
    obtain ⟨fd, F⟩ := c.t.d.def_ 41 (d := mkD "_law_calls" sCalls) rfl
    obtain ⟨oc, od, dV, kV, doc, pm, an, cdv, ct, osl, e, lk, hcd, hD, hK⟩ := F.ex
    obtain ⟨cc, ec⟩ := He.codeIn_ref hcd
    have e2 : fd.code = .ref cc := by rw [e]; exact ec
    have e3 : He.codeOf K ("_law_calls", none) = cc := He.codeOf_eq lk e2
    exact ⟨_, fd, ok_calls (c := cc) (Pt := (He.cT K ("_law_calls", none)).2) (fun_of F) (by rw [← e3]; exact TB1) rfl e2, He.glo_ok X G (c.t.d.fact 41 (f := .glo "_law_calls") rfl), F.kp, FunD.bindsN F (fun _ _ _ _ _ _ us hl => match us, hl with | [_, _, _], _ => rfl)⟩
  have AS : Asks P w K mg base (He.ga K "Unlike") := ⟨c_run, c_came, c_heaps, c_alike, c_crossed, c_written, c_led, c_numberOf, c_source, c_between, c_howMany⟩
  exact ok_law (fun_of FL) T BC AS c_dice c_work c_store c_single c_calls c_told
end Lo
set_option Elab.async false
set_option linter.all false
set_option maxRecDepth 100000
set_option maxHeartbeats 8000000
/-! the end -/
open PySem PySem.W PySem.Calls PyProof.Rows
theorem PySem.Challenge.cw_leastout_k37_whole_asked_again_holds : PySem.Challenge.rw_leastout_k37_whole_asked_again.Holds := by
  w_on; o_law
  refine HandSHeadRun.head_any (r := OpenLaw.row PySem.Challenge.rw_leastout_k37_whole_asked_again) (q := Lo.hdQ) (H := Lo.hdH) (ob := Lo.hdO) (M := 8000) (loose := Lo.nmL) (d := HandSHeadRun.topDef (OpenLaw.row PySem.Challenge.rw_leastout_k37_whole_asked_again).prog 76) (kwd := []) Lo.hdO_eq
    (by kernel_rfl) (fun s => by kernel_rfl) Lo.hd_run (by kernel_rfl) (by kernel_rfl) (by kernel_rfl) (by rfl) (by first | assumption | decide +kernel) (by decide +kernel) ⟨rfl, rfl, rfl, rfl, rfl, by decide +kernel⟩ ?hw ?hc
  case hw => w_witness2
  case hc =>
    refine LamX.walk_ofTsE (l := PySem.Challenge.rw_leastout_k37_whole_asked_again) (n := 63) (k := 12) (x := "_law_script") (CX := fun _ => L2.CX0) rfl (by decide) (by kernel_rfl) ⟨rfl, by decide, by decide⟩ ?F (fun _ _ _ _ _ z => z)
    intro w mg fa h Y G hmg0
    obtain ⟨K, KX, c⟩ := Y
    have hmg : mg ("law" : PySem.Str) = some (.ref fa) := by
      have e : (HandSHeadRun.topDef (OpenLaw.row PySem.Challenge.rw_leastout_k37_whole_asked_again).prog 76).name = ("law" : PySem.Str) := by kernel_rfl
      rw [← e]
      exact hmg0
    exact ⟨K, KX, Lo.facts KX G hmg c⟩
