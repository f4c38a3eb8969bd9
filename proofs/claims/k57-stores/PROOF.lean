import PyProof.Rows.All
import Wide.All
import OpenK.AllK
import Wide.FinOn
import HandS.ForMost
import HandS.Deep
import HandS.More
import HandS.TupAny
import HandS.Lambda
import HandS.IsInst
import HandS.Zip
import HandS.DictTup
import HandS.TupLe
import HandS.SortInts
import HandS.SortKw
import HandS.Codes
import PyProof.NeKinds
import HandS.ListItems
import HandS.Style
import HandS.Head0
import HandS.Head1
import HandS.Head2
import HandS.HeadEnd
import HandS.HeadHook1
import HandS.HeadHook2
import HandS.HeadHook3
import HandS.HeadHook4
import HandS.HeadWalk
import HandS.EndTab
import HandS.SortOrd
import HandS.Small
import HandS.Defaults
import KE.KDictPairs
import KE.KDictZip
import HandS.TupSets
import HandS.SetTxt0
import PyProof.Rows.SortShellAny
import HandS.NamedTupSort
import KE.SortData
import KE.KLam
import KE.SortKeyHeap
import PySem.Challenge.RW_namesapart_k57_whole_stores_that_tell_or
set_option Elab.async false
set_option linter.all false
section
set_option maxRecDepth 100000
/-! Tuples that are made anew: they may be held as plain tuples, or as known objects without a dict. -/
namespace N57
open PySem PySem.Spec PyProof.Rows L2

def Pln (o : Obj) : Prop := o.cls = .type "tuple" ∧ o.dict = none
def TNew (H : Hp) (xs : List V) (Q : VK) : Prop := ∀ p, H p = none → Q (.ref p) (upd H p (.tup xs)) ∨ ∀ o, Pln o → Q (.ref p) (upd H p (.frz o (.tup xs)))
section
variable {X : Cx} {pins : List (Addr × Obj)} {σ : L2.St} {H : Hp} {s : Shared}
theorem tnew_ok {xs : List V} {its : List Value} {t' : Nat} {Q : VK} (I : Inv X pins σ H s) (hz : xs.length ≤ sizeLine) (r : Vals xs its) (q : TNew H xs Q) :
    EP X pins σ Q (.ref s.heap.objs.size) { s with heap := s.heap.push { cls := .type "tuple", data := .seq its.toArray }, toks := t' } := by
  have hf : H s.heap.objs.size = none := I.hok.fresh (Nat.le_refl _)
  have hg : (s.heap.push { cls := .type "tuple", data := .seq its.toArray }).get? s.heap.objs.size = some { cls := .type "tuple", data := .seq its.toArray } := Heap.get?_push_size _ rfl
  rcases q _ hf with q | q
  · exact ⟨.ref s.heap.objs.size, _, I.laid (t' := t') (o := .tup xs) (fun b u e => Heap.get?_push_of_some _ e) (Nat.le_refl _) ⟨hz, its, r, ⟨_, hg, rfl, _, rfl⟩⟩, rfl, q⟩
  · exact ⟨.ref s.heap.objs.size, _, I.laid (t' := t') (o := .frz { cls := .type "tuple", data := .seq its.toArray } (.tup xs)) (fun b u e => Heap.get?_push_of_some _ e) (Nat.le_refl _) ⟨hg, hz, its, r, ⟨_, hg, rfl, _, rfl⟩⟩, rfl, q _ ⟨rfl, rfl⟩⟩
/-- a display -/
def tTupC (t : TA) : TE := fun σ H Q => t σ H fun xs H1 => xs.length ≤ sizeLine ∧ TNew H1 xs Q
theorem pe_tupC {es : List Expr} {t : TA} {k : Nat} {pos : Pos} (h : PA X es t) : PE X (.Tuple es k pos) (tTupC t) := by
  refine ⟨fun pins s σ H Q I hq => ?_⟩
  refine wpAny_Tuple_spliced (thn (h.run pos pins s σ H _ I hq) fun us s1 ⟨xs, H1, I1, r, z, q⟩ => ⟨by rw [← r.length]; exact z, ?_⟩)
  exact tnew_ok (t' := s1.toks) I1 z r q
/-- t + u -/
def rCatC (K : PySem.W.Frag) : R2 := fun x y H Q => ∃ a b xs ys, x = .ref a ∧ y = .ref b ∧ SqT K H a xs ∧ SqT K H b ys ∧ xs.length + ys.length ≤ sizeLine ∧
  (xs = [] → Q (.ref b) H) ∧ (xs ≠ [] → ys = [] → Q (.ref a) H) ∧ (xs ≠ [] → ys ≠ [] → TNew H (xs ++ ys) Q)
theorem op_catC : OpR X (binaryOp .Add) (rCatC X.K) := by
  intro pins s σ H x y v u Q I rx ry h
  obtain ⟨a, b, xs, ys, rfl, rfl, ha, hb, hz, q0, q1, q2⟩ := h
  by_cases hx : xs = []
  · exact op_catA pins s σ H _ _ v u Q I rx ry ⟨a, b, xs, ys, rfl, rfl, ha, hb, hz, q0, q1, fun z => absurd hx z⟩
  · cases rx
    cases ry
    obtain ⟨its, r1, p1, _⟩ := I.tuple ha
    obtain ⟨its2, r2, p2, _⟩ := I.tuple hb
    refine HT.cat_tup p1 p2 (fun z => hx (r1.nil_iff.mp z)) (fun z => ⟨.ref a, H, I, rfl, q1 hx (r2.nil_iff.mp z)⟩) (fun z => ?_) (by rw [← r1.length, ← r2.length]; exact hz)
    exact tnew_ok (t' := s.toks) I (by rw [List.length_append]; exact hz) (r1.append r2) (q2 hx fun w => z (r2.nil_iff.mpr w))
/-- tuple(xs) -/
def rTupleC (K : PySem.W.Frag) : List V → Hp → VK → Prop := fun xs H Q => ∃ p ys, xs = [.ref p] ∧ ((SqL K H p ys ∧ TNew H ys Q) ∨ (SqT K H p ys ∧ Q (.ref p) H))
theorem call_tupleC : CallR X (.type "tuple") (rTupleC X.K) := by
  intro pins s σ H xs us Q I r h
  obtain ⟨p, ys, rfl, h⟩ := h
  obtain ⟨u, rfl, rx⟩ := vals1 r
  cases rx
  rcases h with ⟨hq, q⟩ | ⟨hq, q⟩
  · obtain ⟨its, r', pl, hz⟩ := I.list hq
    have hlen := r'.length
    refine call_tuple_list pl.isList (fun h' kp => ?_) (by simp only [List.size_toArray] <;> omega)
    have I1 : Inv X pins σ H { s with heap := h' } := I.kept (t' := s.toks) kp
    exact tnew_ok (t' := s.toks) I1 hz r' q
  · obtain ⟨its, r', pl, hz⟩ := I.tuple hq
    exact call_tuple_same pl ⟨.ref p, H, I, rfl, q⟩
/-- t[lo:hi] -/
def rSlC (K : PySem.W.Frag) : V → Option Int → Option Int → Hp → VK → Prop := fun x lo hi H Q => ∃ a xs, x = .ref a ∧ SqT K H a xs ∧
  (HT.sIx xs.length 0 lo = 0 ∧ HT.sIx xs.length xs.length hi = xs.length → Q (.ref a) H) ∧ (¬ (HT.sIx xs.length 0 lo = 0 ∧ HT.sIx xs.length xs.length hi = xs.length) → TNew H (cutV xs lo hi) Q)
theorem sl_tupC : SlR X (rSlC X.K) := by
  intro pins s σ H x v vl vu lo hi sl Q I rx hs pl pu h
  obtain ⟨a, xs, rfl, hx, q1, q2⟩ := h
  by_cases hw : HT.sIx xs.length 0 lo = 0 ∧ HT.sIx xs.length xs.length hi = xs.length
  · exact sl_tupA pins s σ H _ v vl vu lo hi sl Q I rx hs pl pu ⟨a, xs, rfl, hx, q1, fun z => absurd hw z⟩
  · cases rx
    obtain ⟨its, r, ht, hz⟩ := I.tuple hx
    have hlen : its.toArray.size = xs.length := by rw [List.size_toArray]; exact r.length.symm
    refine ⟨"tuple", _, PyProof.Rows.slot_tuple_getitem.lookup, ht.typeIs, ?_⟩
    refine HT.getItem_tuple_cut ht hs pl pu (by rw [hlen]; exact hw) ?_ (by rw [hlen]; exact hz)
    rw [hlen]
    exact tnew_ok (t' := s.toks) I (Nat.le_trans (cutV_length xs lo hi) hz) ((r.drop (HT.sIx xs.length 0 lo)).take (HT.sIx xs.length xs.length hi - HT.sIx xs.length 0 lo)) (q2 hw)
end
end N57
end
section
set_option maxRecDepth 100000
/-! Data of the program as plain Lean data; how the heap bears it. -/
namespace N57
open PySem PySem.Spec PyProof.Rows L2

/-- a text, by its code points -/
abbrev Wd := List Nat
def toS (w : Wd) : Str := ⟨w.toArray⟩
theorem toS_inj {a b : Wd} (h : toS a = toS b) : a = b := by
  have := congrArg Str.cps h
  simpa [toS] using this
theorem toS_length (w : Wd) : (toS w).length = w.length := by simp [toS, Str.length]
theorem toS_list (w : Wd) : (toS w).cps.toList = w := by simp [toS]
theorem toS_append (a b : Wd) : toS a ++ toS b = toS (a ++ b) := by
  show (⟨_⟩ : Str) = _
  simp [toS]

inductive D where
  | non | bl (b : Bool) | int (i : Int) | str (w : Wd)
  | tup (l : List D) | lst (l : List D)
  | dS (ks : List Wd) (vs : List D)
  | dP (ks : List (List Int)) (vs : List D)
  | wt (l : List Wd)
  | wd (n : Nat)
  | cup
  deriving Inhabited

/-- a text and an int; a row of such pairs (a store): held as a known object without a dict, so that dict(..) may be made of it -/
def pairSI : D → Bool
  | .tup [.str _, .int _] => true
  | _ => false
def isSto : List D → Bool
  | [] => false
  | d :: l => pairSI d && l.all pairSI
/-- not a table of code objects -/
def NT (o : HO) : Prop := ∀ ps, o ≠ .tbl ps
/-- a tuple in the heap -/
def TupAt (H : Hp) (a : Addr) (xs : List V) (ds : List D) : Prop := match isSto ds with
  | true => ∃ o, H a = some (.frz o (.tup xs)) ∧ Pln o
  | false => H a = some (.tup xs)
theorem TupAt.of {H : Hp} {a : Addr} {xs : List V} {ds : List D} (h : isSto ds = false) (e : H a = some (.tup xs)) : TupAt H a xs ds := by
  unfold TupAt; rw [h]; exact e
theorem TupAt.ofS {H : Hp} {a : Addr} {xs : List V} {ds : List D} {o : Obj} (h : isSto ds = true) (e : H a = some (.frz o (.tup xs))) (p : Pln o) : TupAt H a xs ds := by
  unfold TupAt; rw [h]; exact ⟨o, e, p⟩
theorem TupAt.not {H : Hp} {a : Addr} {xs : List V} {ds : List D} (h : isSto ds = false) (t : TupAt H a xs ds) : H a = some (.tup xs) := by
  unfold TupAt at t; rw [h] at t; exact t
theorem TupAt.sto {H : Hp} {a : Addr} {xs : List V} {ds : List D} (h : isSto ds = true) (t : TupAt H a xs ds) : ∃ o, H a = some (.frz o (.tup xs)) ∧ Pln o := by
  unfold TupAt at t; rw [h] at t; exact t
theorem TupAt.rd {H : Hp} {a : Addr} {xs : List V} {ds : List D} (t : TupAt H a xs ds) : Rd H a (.tup xs) := by
  cases h : isSto ds with
  | true => obtain ⟨o, e, _⟩ := t.sto h; exact .inr ⟨o, e⟩
  | false => exact .inl (t.not h)
theorem TupAt.sq {K : PySem.W.Frag} {H : Hp} {a : Addr} {xs : List V} {ds : List D} (t : TupAt H a xs ds) : SqT K H a xs := .inl t.rd
theorem TupAt.there {H : Hp} {a : Addr} {xs : List V} {ds : List D} (t : TupAt H a xs ds) : ∃ o, H a = some o := by
  rcases t.rd with e | ⟨o, e⟩
  · exact ⟨_, e⟩
  · exact ⟨_, e⟩
theorem TupAt.mono {H H' : Hp} {a : Addr} {xs : List V} {ds : List D} (k : ∀ o, NT o → H a = some o → H' a = some o) (t : TupAt H a xs ds) : TupAt H' a xs ds := by
  cases h : isSto ds with
  | true => obtain ⟨o, e, p⟩ := t.sto h; exact .ofS h (k _ (fun _ z => nomatch z) e) p
  | false => exact .of h (k _ (fun _ z => nomatch z) (t.not h))
theorem TupAt.ty {K : PySem.W.Frag} {H : Hp} {a : Addr} {xs : List V} {ds : List D} (t : TupAt H a xs ds) : TyX K H (.ref a) (.type "tuple") := by
  rcases t.rd with e | ⟨o, e⟩
  · exact .base (.tup e)
  · exact .fTuple e
theorem isSto_ints {ns : List Int} : isSto (ns.map D.int) = false := by
  cases ns <;> rfl

/-- what a written dict gives: an int or a written tuple of texts -/
inductive W0 where
  | int (i : Int) | wt (l : List Wd)
def W0.toD : W0 → D
  | .int i => .int i
  | .wt l => .wt l

/-- what stays the same through the law: the written part, the written dicts' tables -/
structure Gm where
  K : PySem.W.Frag
  w : World
  tbl : Nat → List (Wd × Option W0)
  tabs : List (Addr × Str)

/-- a written tuple of texts -/
def WtAt (K : PySem.W.Frag) (a : Addr) (l : List Wd) : Prop := ∃ (o : Obj) (its : Array Value) (n : Nat), K.lookup a = some o ∧ o.cls = .type "tuple" ∧ o.data = .seq its n ∧ its.size ≤ sizeLine ∧ Vals (l.map fun x => V.str (toS x)) its.toList
def W0At (K : PySem.W.Frag) (u : Value) : W0 → Prop
  | .int i => ∃ t, u = Value.int i t
  | .wt l => ∃ a, u = Value.ref a ∧ WtAt K a l
/-- a written dict with text keys: what it answers for the keys of a table -/
def WdAt (G : Gm) (a : Addr) (n : Nat) : Prop := ∃ es m, KDict G.K G.w a es m ∧ ∀ p ∈ G.tbl n, match p.2 with
  | none => PySem.W.nsIn G.K a (toS p.1) = some none
  | some z => ∃ u, PySem.W.nsIn G.K a (toS p.1) = some (some u) ∧ W0At G.K u z

/-- addresses that no datum touches; the cup -/
structure Cn where
  S : Addr → Prop
  m : Addr → Prop
  c : Option Addr

mutual
inductive Rep (G : Gm) (C : Cn) (H : Hp) : V → D → Prop
  | non : Rep G C H .non .non
  | bl (b : Bool) : Rep G C H (.bl b) (.bl b)
  | int (i : Int) : Rep G C H (.int i) (.int i)
  | str (x : Wd) : Rep G C H (.str (toS x)) (.str x)
  | tup {a : Addr} {xs : List V} {ds : List D} : TupAt H a xs ds → ¬ C.S a → RepL G C H xs ds → Rep G C H (.ref a) (.tup ds)
  | lst {a : Addr} {xs : List V} {ds : List D} : H a = some (.lst xs) → ¬ C.S a → RepL G C H xs ds → Rep G C H (.ref a) (.lst ds)
  | dS {a : Addr} {ks : List Wd} {xs : List V} {ds : List D} : H a = some (.dK ((ks.map fun x => (Sum.inr (toS x) : Key)).zip xs)) → ¬ C.S a → ks.length = ds.length → RepL G C H xs ds → Rep G C H (.ref a) (.dS ks ds)
  | dP {a : Addr} {ks : List (List Int)} {xs : List V} {ds : List D} : H a = some (.dT ((ks.map fun x => x.map (Sum.inl : Int → Key)).zip xs)) → ¬ C.S a → ks.length = ds.length → RepL G C H xs ds → Rep G C H (.ref a) (.dP ks ds)
  | wt {a : Addr} {l : List Wd} : WtAt G.K a l → Rep G C H (.ref a) (.wt l)
  | wd {a : Addr} {n : Nat} : WdAt G a n → Rep G C H (.ref a) (.wd n)
  | cup {a : Addr} : C.c = some a → Rep G C H (.ref a) .cup
inductive RepL (G : Gm) (C : Cn) (H : Hp) : List V → List D → Prop
  | nil : RepL G C H [] []
  | cons {v : V} {vs : List V} {d : D} {ds : List D} : Rep G C H v d → RepL G C H vs ds → RepL G C H (v :: vs) (d :: ds)
end

/-- the cup's content -/
abbrev Cup := Int × Int
def CupOk (c : Cup) : Prop := 0 ≤ c.2 ∧ c.2 < 2 ^ 40
/-- the heap grows; nothing but the cup changes -/
def Ext (C : Cn) (H H' : Hp) : Prop := ∀ b o, ¬ C.m b → NT o → H b = some o → H' b = some o
structure Held (G : Gm) (C : Cn) (st : Cup) (H : Hp) : Prop where
  trk : ∀ a, C.S a → (∃ o, H a = some o ∧ NT o) ∨ ∃ p ∈ G.tabs, p.1 = a
  ms : ∀ a, C.m a → C.S a
  cup : ∀ a, C.c = some a → C.m a ∧ H a = some (.lst [.int st.1, .int st.2]) ∧ CupOk st
  tabs : ∀ p ∈ G.tabs, C.m p.1 ∧ LamX.TabS H p.1 p.2

theorem Ext.refl (C : Cn) (H : Hp) : Ext C H H := fun _ _ _ _ h => h
theorem Ext.trans {C : Cn} {H H1 H2 : Hp} (a : Ext C H H1) (b : Ext C H1 H2) : Ext C H H2 := fun c o n t h => b c o n t (a c o n t h)
theorem Ext.new {C : Cn} {H : Hp} {p : Addr} {o : HO} (h : H p = none) : Ext C H (upd H p o) := fun b u _ _ e => by
  rw [upd_ne (ne_of_none e h)]; exact e
theorem Held.new {G : Gm} {C : Cn} {st : Cup} {H : Hp} {p : Addr} {o : HO} (h : Held G C st H) (hp : H p = none) : Held G C st (upd H p o) := by
  have k : ∀ b u, H b = some u → upd H p o b = some u := fun b u e => by rw [upd_ne (ne_of_none e hp)]; exact e
  refine ⟨fun a ha => (h.trk a ha).imp (fun ⟨u, e, n⟩ => ⟨u, k a u e, n⟩) id, h.ms, fun a ha => ?_, fun q hq => ⟨(h.tabs q hq).1, (h.tabs q hq).2.ext k⟩⟩
  obtain ⟨h1, h2, h3⟩ := h.cup a ha
  exact ⟨h1, k _ _ h2, h3⟩
theorem Held.there {G : Gm} {C : Cn} {st : Cup} {H : Hp} {p : Addr} (h : Held G C st H) (hs : C.S p) : H p ≠ none := by
  rcases h.trk p hs with ⟨o, e, _⟩ | ⟨q, hq, rfl⟩
  · rw [e]; simp
  · obtain ⟨_, ps, e, _⟩ := h.tabs q hq
    rw [e]; simp
theorem Held.notS {G : Gm} {C : Cn} {st : Cup} {H : Hp} {p : Addr} (h : Held G C st H) (hp : H p = none) : ¬ C.S p := fun z => h.there z hp
theorem Held.notM {G : Gm} {C : Cn} {st : Cup} {H : Hp} {p : Addr} (h : Held G C st H) (hp : H p = none) : ¬ C.m p := fun z => h.there (h.ms p z) hp

mutual
theorem Rep.extC {G : Gm} {C : Cn} {H H' : Hp} (hl : ∀ a, C.m a → C.S a) (e : Ext C H H') : ∀ (d : D) (v : V), Rep G C H v d → Rep G C H' v d
  | .non, _, h => by cases h; exact .non
  | .bl b, _, h => by cases h; exact .bl b
  | .int i, _, h => by cases h; exact .int i
  | .str x, _, h => by cases h; exact .str x
  | .tup ds, _, h => by
    cases h with
    | tup h1 h2 h3 => exact .tup (h1.mono fun o n q => e _ _ (fun z => h2 (hl _ z)) n q) h2 (RepL.extC hl e ds _ h3)
  | .lst ds, _, h => by
    cases h with
    | lst h1 h2 h3 => exact .lst (e _ _ (fun z => h2 (hl _ z)) (fun _ z => nomatch z) h1) h2 (RepL.extC hl e ds _ h3)
  | .dS ks ds, _, h => by
    cases h with
    | dS h1 h2 h3 h4 => exact .dS (e _ _ (fun z => h2 (hl _ z)) (fun _ z => nomatch z) h1) h2 h3 (RepL.extC hl e ds _ h4)
  | .dP ks ds, _, h => by
    cases h with
    | dP h1 h2 h3 h4 => exact .dP (e _ _ (fun z => h2 (hl _ z)) (fun _ z => nomatch z) h1) h2 h3 (RepL.extC hl e ds _ h4)
  | .wt l, _, h => by cases h with | wt h1 => exact .wt h1
  | .wd n, _, h => by cases h with | wd h1 => exact .wd h1
  | .cup, _, h => by cases h with | cup h1 => exact .cup h1
theorem RepL.extC {G : Gm} {C : Cn} {H H' : Hp} (hl : ∀ a, C.m a → C.S a) (e : Ext C H H') : ∀ (ds : List D) (vs : List V), RepL G C H vs ds → RepL G C H' vs ds
  | [], _, h => by cases h; exact .nil
  | d :: ds, _, h => by
    cases h with
    | cons h1 h2 => exact .cons (Rep.extC hl e d _ h1) (RepL.extC hl e ds _ h2)
end

theorem Held.cS {G : Gm} {C : Cn} {st : Cup} {H : Hp} (h : Held G C st H) : ∀ a, C.m a → C.S a := h.ms
theorem Rep.ext {G : Gm} {C : Cn} {st : Cup} {H H' : Hp} (hl : Held G C st H) (e : Ext C H H') (d : D) (v : V) (h : Rep G C H v d) : Rep G C H' v d := Rep.extC hl.cS e d v h
theorem RepL.ext {G : Gm} {C : Cn} {st : Cup} {H H' : Hp} (hl : Held G C st H) (e : Ext C H H') (ds : List D) (vs : List V) (h : RepL G C H vs ds) : RepL G C H' vs ds := RepL.extC hl.cS e ds vs h

section
variable {G : Gm} {C : Cn} {H : Hp}
theorem RepL.length : ∀ {vs : List V} {ds : List D}, RepL G C H vs ds → vs.length = ds.length
  | _, _, .nil => rfl
  | _, _, .cons _ t => by simp [RepL.length t]
theorem RepL.get : ∀ {vs : List V} {ds : List D} {i : Nat} {d : D}, RepL G C H vs ds → ds[i]? = some d → ∃ v, vs[i]? = some v ∧ Rep G C H v d
  | _, _, _, _, .nil, e => by simp at e
  | _, _, 0, _, .cons r _, e => by simp at e; subst e; exact ⟨_, rfl, r⟩
  | _, _, i + 1, d, .cons _ t, e => by
    obtain ⟨u, h1, h2⟩ := RepL.get (i := i) (d := d) t (by simpa using e)
    exact ⟨u, by simpa using h1, h2⟩
theorem RepL.getV : ∀ {vs : List V} {ds : List D} {i : Nat} {v : V}, RepL G C H vs ds → vs[i]? = some v → ∃ d, ds[i]? = some d ∧ Rep G C H v d
  | _, _, _, _, .nil, e => by simp at e
  | _, _, 0, _, .cons r _, e => by simp at e; subst e; exact ⟨_, rfl, r⟩
  | _, _, i + 1, d, .cons _ t, e => by
    obtain ⟨u, h1, h2⟩ := RepL.getV (i := i) (v := d) t (by simpa using e)
    exact ⟨u, by simpa using h1, h2⟩
theorem RepL.app : ∀ {vs ws : List V} {ds es : List D}, RepL G C H vs ds → RepL G C H ws es → RepL G C H (vs ++ ws) (ds ++ es)
  | _, _, _, _, .nil, s => s
  | _, _, _, _, .cons r t, s => .cons r (RepL.app t s)
theorem RepL.take : ∀ {vs : List V} {ds : List D} (n : Nat), RepL G C H vs ds → RepL G C H (vs.take n) (ds.take n)
  | _, _, 0, _ => .nil
  | _, _, _ + 1, .nil => .nil
  | _, _, n + 1, .cons r t => .cons r (RepL.take n t)
theorem RepL.drop : ∀ {vs : List V} {ds : List D} (n : Nat), RepL G C H vs ds → RepL G C H (vs.drop n) (ds.drop n)
  | _, _, 0, r => r
  | _, _, _ + 1, .nil => .nil
  | _, _, n + 1, .cons _ t => RepL.drop n t
theorem RepL.set : ∀ {vs : List V} {ds : List D} {v : V} {d : D} (n : Nat), Rep G C H v d → RepL G C H vs ds → RepL G C H (vs.set n v) (ds.set n d)
  | _, _, _, _, _, _, .nil => .nil
  | _, _, _, _, 0, q, .cons _ t => .cons q t
  | _, _, _, _, n + 1, q, .cons r t => .cons r (RepL.set n q t)
theorem RepL.one {v : V} {d : D} (h : Rep G C H v d) : RepL G C H [v] [d] := .cons h .nil
theorem RepL.inv1 {vs : List V} {d : D} (h : RepL G C H vs [d]) : ∃ v, vs = [v] ∧ Rep G C H v d := by
  cases h with
  | cons r t => cases t; exact ⟨_, rfl, r⟩
theorem RepL.inv2 {vs : List V} {d e : D} (h : RepL G C H vs [d, e]) : ∃ v u, vs = [v, u] ∧ Rep G C H v d ∧ Rep G C H u e := by
  cases h with
  | cons r t => obtain ⟨u, rfl, q⟩ := t.inv1; exact ⟨_, _, rfl, r, q⟩
theorem RepL.inv3 {vs : List V} {d e f : D} (h : RepL G C H vs [d, e, f]) : ∃ v u x, vs = [v, u, x] ∧ Rep G C H v d ∧ Rep G C H u e ∧ Rep G C H x f := by
  cases h with
  | cons r t => obtain ⟨u, x, rfl, q, q'⟩ := t.inv2; exact ⟨_, _, _, rfl, r, q, q'⟩
end
end N57
end
section
set_option maxRecDepth 100000
/-! A small pure language: its trees and what they come to. -/
namespace N57
open PySem PySem.Spec PyProof.Rows L2

/-! ### data operations -/
def natsEq : List Nat → List Nat → Bool
  | [], [] => true
  | a :: l, b :: m => Nat.beq a b && natsEq l m
  | _, _ => false
theorem natsEq_iff : ∀ {a b : List Nat}, natsEq a b = true ↔ a = b
  | [], [] => by simp [natsEq]
  | [], _ :: _ => by simp [natsEq]
  | _ :: _, [] => by simp [natsEq]
  | a :: l, b :: m => by
    have := natsEq_iff (a := l) (b := m)
    simp [natsEq, this, Nat.beq_eq]
/-- lexicographic, below -/
def ltW : List Nat → List Nat → Bool
  | [], [] => false
  | [], _ :: _ => true
  | _ :: _, [] => false
  | a :: l, b :: m => if Nat.beq a b then ltW l m else Nat.blt a b
def zipAll {α β : Type} (f : α → β → Bool) : List α → List β → Bool
  | [], [] => true
  | a :: l, b :: m => f a b && zipAll f l m
  | _, _ => false
/-- plain data of a depth -/
def okB : Nat → D → Bool
  | _, .non => true
  | _, .int _ => true
  | _, .str w => w.all (Nat.blt · 256)
  | n + 1, .tup l => l.all (okB n)
  | n + 1, .lst l => l.all (okB n)
  | _, _ => false
def eqB : Nat → D → D → Bool
  | _, .non, .non => true
  | _, .int i, .int j => decide (i = j)
  | _, .str a, .str b => natsEq a b
  | n + 1, .tup l, .tup m => zipAll (eqB n) l m
  | n + 1, .lst l, .lst m => zipAll (eqB n) l m
  | _, _, _ => false
def fitsL (n : Nat) : Bool := decide (n ≤ sizeLine)
def eqO (a b : D) : Option Bool := match a, b with
  | .tup [], .tup l => some l.isEmpty
  | .tup l, .tup [] => some l.isEmpty
  | .lst [], .lst l => some l.isEmpty
  | .lst l, .lst [] => some l.isEmpty
  | .bl x, .bl y => some (x == y)
  | a, b => if okB 62 a && okB 62 b then some (eqB 62 a b) else none
inductive O2 where | add | sub | mul | pow | mod | div
def small64 (i : Int) : Bool := decide (-(2 ^ 64) < i) && decide (i < 2 ^ 64)
def op2 : O2 → D → D → Option D
  | .add, .int i, .int j => some (.int (i + j))
  | .add, .str a, .str b => if fitsL (a.length + b.length) then some (.str (a ++ b)) else none
  | .add, .lst a, .lst b => if fitsL (a.length + b.length) then some (.lst (a ++ b)) else none
  | .add, .tup a, .tup b => if fitsL (a.length + b.length) then some (.tup (a ++ b)) else none
  | .sub, .int i, .int j => some (.int (i - j))
  | .mul, .int i, .int j => if small64 i || small64 j then some (.int (i * j)) else none
  | .pow, .int i, .int j => if decide (0 ≤ j) && decide (j ≤ 1000000) && decide (i.natAbs < 2 ^ 64) then some (.int (i ^ j.toNat)) else none
  | .mod, .int i, .int j => if decide (0 < j) then some (.int (i % j)) else none
  | .div, .int i, .int j => if decide (0 < j) && decide (j < 1073741824) then some (.int (i / j)) else none
  | _, _, _ => none
inductive C2 where | eq | ne | lt | le | gt | ge | inS | ninS | inQ | ninQ | inD | inT | ninT
/-- a text in a text; one sign: by a look -/
def oneIn (a b : Wd) : Bool := match a with
  | [c] => b.any (Nat.beq c)
  | _ => !(Builtin.Str.occurrences (toS b) (toS a) 0 (toS b).length 1).isEmpty
def flatD : D → Bool
  | .non => true | .int _ => true | .str _ => true | _ => false
def inFlat (x : D) (l : List D) : Option Bool := if flatD x && l.all flatD then some (l.any fun y => eqB 0 y x) else none
def inTbl (tbl : Nat → List (Wd × Option W0)) (x : Wd) : D → Option Bool
  | .dS ks _ => some (ks.any (natsEq x))
  | .wd n => match (tbl n).find? (fun p => natsEq x p.1) with
    | some p => some p.2.isSome
    | none => none
  | _ => none
def cmp2 (tbl : Nat → List (Wd × Option W0)) : C2 → D → D → Option Bool
  | .eq, a, b => eqO a b
  | .ne, a, b => (eqO a b).map (!·)
  | .lt, .int i, .int j => some (decide (i < j))
  | .le, .int i, .int j => some (decide (i ≤ j))
  | .gt, .int i, .int j => some (decide (j < i))
  | .ge, .int i, .int j => some (decide (j ≤ i))
  | .inS, .str a, .str b => some (oneIn a b)
  | .ninS, .str a, .str b => some (!oneIn a b)
  | .inQ, x, .tup l => inFlat x l
  | .inQ, x, .lst l => inFlat x l
  | .inQ, .str x, .wt l => some (l.any (natsEq x))
  | .ninQ, x, .tup l => (inFlat x l).map (!·)
  | .ninQ, x, .lst l => (inFlat x l).map (!·)
  | .ninQ, .str x, .wt l => some (!l.any (natsEq x))
  | .inD, x, .lst l => if okB 61 x && l.all (okB 61) then some (l.any fun z => eqB 61 z x) else none
  | .inT, .str x, d => inTbl tbl x d
  | .ninT, .str x, d => (inTbl tbl x d).map (!·)
  | _, _, _ => none
def lookS : List Wd → List D → Wd → Option D
  | k :: ks, v :: vs, x => if natsEq x k then some v else lookS ks vs x
  | _, _, _ => none
def intsEq : List Int → List Int → Bool
  | [], [] => true
  | a :: l, b :: m => decide (a = b) && intsEq l m
  | _, _ => false
def lookP : List (List Int) → List D → List Int → Option D
  | k :: ks, v :: vs, x => if intsEq x k then some v else lookP ks vs x
  | _, _, _ => none
def intOf : D → Option Int
  | .int i => some i
  | _ => none
def strOf : D → Option Wd
  | .str w => some w
  | _ => none
def intsOf : D → Option (List Int)
  | .tup l => l.mapM intOf
  | _ => none
def ixD (tbl : Nat → List (Wd × Option W0)) : D → D → Option D
  | .lst l, .int i => atI l i
  | .tup l, .int i => atI l i
  | .str w, .int i => if fitsL w.length then (atI w i).map fun c => .str [c] else none
  | .dS ks vs, .str x => lookS ks vs x
  | .dP ks vs, k => (intsOf k).bind fun x => lookP ks vs x
  | .wd n, .str x => match (tbl n).find? (fun p => natsEq x p.1) with
    | some (_, some z) => some z.toD
    | _ => none
  | _, _ => none
def cutG {α : Type} (xs : List α) (lo hi : Option Int) : List α := (xs.drop (HT.sIx xs.length 0 lo)).take (HT.sIx xs.length xs.length hi - HT.sIx xs.length 0 lo)
def slD : D → Option Int → Option Int → Option D
  | .lst l, lo, hi => some (.lst (cutG l lo hi))
  | .tup l, lo, hi => some (.tup (cutG l lo hi))
  | .str w, lo, hi => if fitsL w.length then some (.str (cutG w lo hi)) else none
  | _, _, _ => none
/-! sorting -/
def insBy {α : Type} (lt : α → α → Bool) (x : α) : List α → List α
  | [] => [x]
  | y :: l => if lt y x then y :: insBy lt x l else x :: y :: l
def sortBy {α : Type} (lt : α → α → Bool) : List α → List α
  | [] => []
  | x :: l => insBy lt x (sortBy lt l)
def dedupW : List Wd → List Wd
  | [] => []
  | x :: l => if l.any (natsEq x) then dedupW l else x :: dedupW l
def ltI : List Int → List Int → Bool
  | [], [] => false
  | [], _ :: _ => true
  | _ :: _, [] => false
  | a :: l, b :: m => if decide (a = b) then ltI l m else decide (a < b)
inductive Pr where
  | len | abs | int | max2 | maxL | sum | all | list | tuple | dict | dictZ | isi (T : String) | sortS | sortP | sortK | sortI | intT | splitA | items | get
def tyD : D → Option String
  | .non => none | .bl _ => some "bool" | .int _ => some "int" | .str _ => some "str" | .tup _ => some "tuple" | .lst _ => some "list" | .dS .. => some "dict" | .dP .. => some "dict"
  | _ => none
def isiB : String → String → Option Bool
  | "int", "int" => some true | "int", "bool" => some false | "int", "str" => some false | "int", "tuple" => some false | "int", "dict" => some false
  | "bool", "bool" => some true
  | "str", "str" => some true | "str", "int" => some false | "str", "tuple" => some false | "str", "bool" => some false | "str", "dict" => some false
  | "tuple", "tuple" => some true | "tuple", "str" => some false | "tuple", "int" => some false | "tuple", "dict" => some false
  | "dict", "dict" => some true | "dict", "str" => some false
  | _, _ => none
def pairS : D → Option (Wd × D)
  | .tup [.str k, v] => some (k, v)
  | _ => none
def nodupW : List Wd → Bool
  | [] => true
  | x :: l => !l.any (natsEq x) && nodupW l
def nodupI : List (List Int) → Bool
  | [] => true
  | x :: l => !l.any (intsEq x) && nodupI l
def blOf : D → Option Bool
  | .bl b => some b
  | _ => none
def maxI : Int → List Int → Int
  | m, [] => m
  | m, x :: l => maxI (if m < x then x else m) l
/-- figures -/
def digitsI : List Nat → Option Int
  | [] => none
  | l => if l.all (fun c => Nat.ble 48 c && Nat.ble c 57) && Nat.ble l.length 18 then some (l.foldl (fun (a : Int) c => a * 10 + ((c - 48 : Nat) : Int)) 0) else none
def pairK : D → Option (List Int × D)
  | .tup [k, v] => (intsOf k).map fun i => (i, .tup [k, v])
  | _ => none
def headNil : List (List Int) → Bool
  | [] => true
  | x :: _ => x.isEmpty
def prD (tbl : Nat → List (Wd × Option W0)) : Pr → List D → Option D
  | .len, [.str w] => if fitsL w.length then some (.int w.length) else none
  | .len, [.tup l] => some (.int l.length)
  | .len, [.lst l] => some (.int l.length)
  | .len, [.wt l] => some (.int l.length)
  | .abs, [.int i] => some (.int (if i < 0 then -i else i))
  | .int, [.int i] => some (.int i)
  | .max2, [.int i, .int j] => some (.int (if j > i then j else i))
  | .maxL, [.lst l] => match l.mapM intOf with
    | some (x :: m) => some (.int (maxI x m))
    | _ => none
  | .sum, [.lst l] => (l.mapM intOf).map fun m => .int m.sum
  | .all, [.lst l] => (l.mapM blOf).map fun m => .bl (m.all id)
  | .list, [.lst l] => some (.lst l)
  | .list, [.tup l] => some (.lst l)
  | .tuple, [.lst l] => some (.tup l)
  | .tuple, [.tup l] => some (.tup l)
  | .dict, [.tup l] => if isSto l then (l.mapM pairS).bind fun m => if nodupW (m.map (·.1)) && fitsL m.length then some (.dS (m.map (·.1)) (m.map (·.2))) else none else none
  | .dictZ, [.lst l, .lst m] => (l.mapM intsOf).bind fun k => if nodupI k && Nat.beq l.length m.length then some (.dP k m) else none
  | .isi T, [d] => (tyD d).bind fun t => (isiB t T).map .bl
  | .sortS, [.lst l] => (l.mapM strOf).bind fun m => if Nat.blt (dedupW m).length 64 then some (.lst ((sortBy ltW (dedupW m)).map .str)) else none
  | .sortP, [.lst l] => (l.mapM intsOf).bind fun m => if headNil m then some (.lst ((sortBy ltI m).map fun x => .tup (x.map .int))) else none
  | .sortK, [.lst l] => (l.mapM pairK).bind fun m => if headNil (m.map (·.1)) then some (.lst ((sortBy (fun a b => ltI a.1 b.1) m).map (·.2))) else none
  | .sortI, [.lst l] => (l.mapM pairS).bind fun m => if nodupW (m.map (·.1)) && l.all pairSI then some (.lst ((sortBy (fun a b => ltW a.1 b.1) m).map fun p => .tup [.str p.1, p.2])) else none
  | .intT, [.str w] => if Nat.ble w.length 640 then (PySem.intText? (toS w)).map .int else none
  | .splitA, [.str w] => if w.any (Nat.beq 64) || !fitsL (w.length + 2) then none else some (.lst [.str w])
  | .items, [.dS ks vs] => if nodupW ks && Nat.beq ks.length vs.length then some (.lst ((ks.zip vs).map fun p => .tup [.str p.1, p.2])) else none
  | .get, [.dS ks vs, .str x, d] => some ((lookS ks vs x).getD d)
  | .get, [.wd n, .str x, d] => match (tbl n).find? (fun p => natsEq x p.1) with
    | some (_, some z) => some z.toD
    | some (_, none) => some d
    | none => none
  | _, _ => none
/-! what is walked -/
inductive IK where | lst | tup | str | enum | zipT | rng | rngD
def enumD : Nat → List D → List D
  | _, [] => []
  | n, x :: l => .tup [.int n, x] :: enumD (n + 1) l
def itD : IK → D → D → Option (List D)
  | .lst, .lst l, _ => some l
  | .tup, .tup l, _ => some l
  | .str, .str w, _ => if fitsL w.length then some (w.map fun c => .str [c]) else none
  | .enum, .lst l, _ => some (enumD 0 l)
  | .zipT, .tup l, .tup m => if (l.zip m).any fun p => isSto [p.1, p.2] then none else some ((l.zip m).map fun p => .tup [p.1, p.2])
  | .zipT, .wt l, .tup m => some (((l.map D.str).zip m).map fun p => .tup [p.1, p.2])
  | .rng, .int n, _ => if decide (-(2 ^ 62) ≤ n) && decide (n < 2 ^ 62) then some ((List.range n.toNat).map fun (i : Nat) => .int i) else none
  | .rngD, .int n, _ => if decide (-1 ≤ n) && decide (n < 2 ^ 30) then some (((List.range (n + 1).toNat).map fun (i : Nat) => D.int (n - i))) else none
  | _, _, _ => none

/-! ### the language -/
inductive Tg where
  | slot (i : Nat) | nil | cons (a b : Tg) | tup (ts : Tg)
inductive Tm where
  | var (i : Nat) | con (d : D) | glb (g : Nat)
  | nil | cons (a b : Tm)
  | tup (as : Tm) | lst (as : Tm) | dic0 | dicS (ks : List Wd) (as : Tm)
  | op (o : O2) (a b : Tm) | neg (a : Tm)
  | isN (a : Tm) | notN (a : Tm)
  | cmp (o : C2) (a b : Tm) | chain (o p : C2) (a b c : Tm)
  | and (a b : Tm) | or (a b : Tm) | not (a : Tm)
  | ite (c a b : Tm)
  | ix (a b : Tm) | sl (a lo hi : Tm)
  | call (f : Nat) (as : Tm)
  | pr (p : Pr) (as : Tm)
  | comp (tg : Tg) (k : IK) (a b c e : Tm)
  | cg (a : Tm) (b : Bool)
  | bad
inductive Sm where
  | nil | cons (s r : Sm)
  | asg (tg : Tg) (e : Tm)
  | iff (c : Tm) (a b : Sm)
  | ret (e : Tm)
  | forr (tg : Tg) (k : IK) (a b : Tm) (body : Sm)
  | whl (c : Tm) (body : Sm)
  | exp (e : Tm)
  | cs (i : Nat) (b : Bool) (e : Tm)
  | mkL (i : Nat) (e ib : Tm) (f : Nat) (jb rest : Tm)
  | mkD (i : Nat) (e kb v : Tm)
  | bad

/-! ### what they come to -/
abbrev Ev := List (Option D)
def M (α : Type) := Cup → Option (α × Cup)
def M.ret {α : Type} (a : α) : M α := fun s => some (a, s)
def M.fail {α : Type} : M α := fun _ => none
def M.bnd {α β : Type} (m : M α) (f : α → M β) : M β := fun s => match m s with
  | none => none
  | some (a, s') => f a s'
def M.of {α : Type} (o : Option α) : M α := fun s => match o with
  | none => none
  | some a => some (a, s)
instance : Monad M where
  pure := M.ret
  bind := M.bnd
def asgT : Tg → D → Ev → Option Ev
  | .slot i, d, ρ => some (ρ.set i (some d))
  | .tup ts, .tup l, ρ => asgT ts (.lst l) ρ
  | .nil, .lst [], ρ => some ρ
  | .cons a b, .lst (d :: l), ρ => (asgT a d ρ).bind fun ρ' => asgT b (.lst l) ρ'
  | _, _, _ => none
def Tg.slots : Tg → List Nat
  | .slot i => [i]
  | .nil => []
  | .cons a b => a.slots ++ b.slots
  | .tup ts => ts.slots
def wipeE (ρ : Ev) : List Nat → Ev
  | [] => ρ
  | v :: vs => (wipeE ρ vs).set v none
/-- elements of a comprehension -/
def compM (f : D → M (Option D)) : List D → List D → M (List D)
  | [], acc => M.ret acc
  | x :: l, acc => M.bnd (f x) fun
    | none => compM f l acc
    | some y => if fitsL (acc.length + 1) then compM f l (acc ++ [y]) else M.fail
inductive Out where
  | nx (ρ : Ev) | rt (d : D)
def forM' (f : D → Ev → M Out) : List D → Ev → M Out
  | [], ρ => M.ret (.nx ρ)
  | x :: l, ρ => M.bnd (f x ρ) fun
    | .nx ρ' => forM' f l ρ'
    | .rt d => M.ret (.rt d)
def whlM (c : Ev → M Bool) (f : Ev → M Out) : Nat → Ev → M Out
  | 0, _ => M.fail
  | n + 1, ρ => M.bnd (c ρ) fun
    | false => M.ret (.nx ρ)
    | true => M.bnd (f ρ) fun
      | .nx ρ' => whlM c f n ρ'
      | .rt d => M.ret (.rt d)
def turns : Nat := 1000000
structure Env0' where
  cl : Nat → List D → M D
  gl : Nat → D
  tbl : Nat → List (Wd × Option W0)
def asBool : D → Option Bool := blOf
def isNon : D → Bool
  | .non => true
  | _ => false
def partOf : Tm → D → Option (Option Int)
  | .nil, _ => some none
  | _, .int i => some (some i)
  | _, _ => none
def unL : D → Option (List D)
  | .lst l => some l
  | _ => none
def cupAt : D → Bool → M D
  | .cup, b => fun s => some (.int (if b then s.2 else s.1), s)
  | _, _ => M.fail
def cupPut : D → Bool → Int → M Unit
  | .cup, true, v => fun s => if decide (0 ≤ v) && decide (v < 2 ^ 40) then some ((), (s.1, v)) else none
  | .cup, false, v => fun s => some ((), (v, s.2))
  | _, _, _ => M.fail
def setI {α : Type} (l : List α) (k : Int) (r : α) : Option (List α) := (ixN l.length k).map fun j => l.set j r
def dsOf : D → Option (List Wd × List D)
  | .dS ks vs => if fitsL (ks.length + 1) then some (ks, vs) else none
  | _ => none
def setS {α : Type} : List Wd → List α → Wd → α → List α
  | k :: ks, v :: vs, w, x => (if natsEq w k then x else v) :: setS ks vs w x
  | _, vs, _, _ => vs
def putS {α : Type} (ks : List Wd) (vs : List α) (w : Wd) (x : α) : Option (List α) := if ks.any (natsEq w) then some (setS ks vs w x) else none
section
variable (X : Env0')
def ev : Tm → Ev → M D
  | .var i, ρ => M.of (ρ[i]?.join)
  | .con d, _ => M.ret d
  | .glb g, _ => M.ret (X.gl g)
  | .nil, _ => M.ret (.lst [])
  | .cons a b, ρ => M.bnd (ev a ρ) fun x => M.bnd (ev b ρ) fun y => M.of ((unL y).map fun l => .lst (x :: l))
  | .tup as, ρ => M.bnd (ev as ρ) fun y => M.of ((unL y).map .tup)
  | .lst as, ρ => ev as ρ
  | .dic0, _ => M.ret (.dS [] [])
  | .dicS ks as, ρ => M.bnd (ev as ρ) fun y => M.of ((unL y).map fun l => .dS ks l)
  | .op o a b, ρ => M.bnd (ev a ρ) fun x => M.bnd (ev b ρ) fun y => M.of (op2 o x y)
  | .neg a, ρ => M.bnd (ev a ρ) fun x => M.of ((intOf x).map fun i => .int (-i))
  | .isN a, ρ => M.bnd (ev a ρ) fun x => M.ret (.bl (isNon x))
  | .notN a, ρ => M.bnd (ev a ρ) fun x => M.ret (.bl (!isNon x))
  | .cmp o a b, ρ => M.bnd (ev a ρ) fun x => M.bnd (ev b ρ) fun y => M.of ((cmp2 X.tbl o x y).map .bl)
  | .chain o p a b c, ρ => M.bnd (ev a ρ) fun x => M.bnd (ev b ρ) fun y => M.bnd (M.of (cmp2 X.tbl o x y)) fun
    | false => M.ret (.bl false)
    | true => M.bnd (ev c ρ) fun z => M.of ((cmp2 X.tbl p y z).map .bl)
  | .and a b, ρ => M.bnd (ev a ρ) fun x => M.bnd (M.of (asBool x)) fun
    | false => M.ret (.bl false)
    | true => M.bnd (ev b ρ) fun y => M.of ((asBool y).map .bl)
  | .or a b, ρ => M.bnd (ev a ρ) fun x => M.bnd (M.of (asBool x)) fun
    | true => M.ret (.bl true)
    | false => M.bnd (ev b ρ) fun y => M.of ((asBool y).map .bl)
  | .not a, ρ => M.bnd (ev a ρ) fun x => M.of ((asBool x).map fun b => .bl (!b))
  | .ite c a b, ρ => M.bnd (ev c ρ) fun x => M.bnd (M.of (asBool x)) fun
    | true => ev a ρ
    | false => ev b ρ
  | .ix a b, ρ => M.bnd (ev a ρ) fun x => M.bnd (ev b ρ) fun y => M.of (ixD X.tbl x y)
  | .sl a lo hi, ρ => M.bnd (ev a ρ) fun x => M.bnd (ev lo ρ) fun y => M.bnd (M.of (partOf lo y)) fun l => M.bnd (ev hi ρ) fun z => M.bnd (M.of (partOf hi z)) fun h => M.of (slD x l h)
  | .call f as, ρ => M.bnd (ev as ρ) fun y => M.bnd (M.of (unL y)) fun l => X.cl f l
  | .pr p as, ρ => M.bnd (ev as ρ) fun y => M.of ((unL y).bind fun l => prD X.tbl p l)
  | .comp tg k a b c e, ρ => M.bnd (ev a ρ) fun x => M.bnd (ev b ρ) fun y => M.bnd (M.of (itD k x y)) fun its =>
    M.bnd (compM (fun d => M.bnd (M.of (asgT tg d (wipeE ρ tg.slots))) fun ρ' => match c with
      | .nil => M.bnd (ev e ρ') fun r => M.ret (some r)
      | _ => M.bnd (ev c ρ') fun t => M.bnd (M.of (asBool t)) fun
        | false => M.ret none
        | true => M.bnd (ev e ρ') fun r => M.ret (some r)) its []) fun l => M.ret (.lst l)
  | .cg a b, ρ => M.bnd (ev a ρ) fun x => cupAt x b
  | .bad, _ => M.fail
def ex : Sm → Ev → M Out
  | .nil, ρ => M.ret (.nx ρ)
  | .cons s r, ρ => M.bnd (ex s ρ) fun
    | .nx ρ' => ex r ρ'
    | .rt d => M.ret (.rt d)
  | .asg tg e, ρ => M.bnd (ev X e ρ) fun d => M.of ((asgT tg d ρ).map .nx)
  | .iff c a b, ρ => M.bnd (ev X c ρ) fun x => M.bnd (M.of (asBool x)) fun
    | true => ex a ρ
    | false => ex b ρ
  | .ret e, ρ => M.bnd (ev X e ρ) fun d => M.ret (.rt d)
  | .forr tg k a b body, ρ => M.bnd (ev X a ρ) fun x => M.bnd (ev X b ρ) fun y => M.bnd (M.of (itD k x y)) fun its =>
    forM' (fun d ρ1 => M.bnd (M.of (asgT tg d ρ1)) fun ρ2 => ex body ρ2) its ρ
  | .whl c body, ρ => whlM (fun ρ1 => M.bnd (ev X c ρ1) fun x => M.of (asBool x)) (ex body) turns ρ
  | .exp e, ρ => M.bnd (ev X e ρ) fun _ => M.ret (.nx ρ)
  | .cs i b e, ρ => M.bnd (ev X e ρ) fun d => M.bnd (M.of (intOf d)) fun v => M.bnd (M.of (ρ[i]?.join)) fun c => M.bnd (cupPut c b v) fun _ => M.ret (.nx ρ)
  | .mkL i e ib f jb rest, ρ => M.bnd (M.of (ρ[i]?)) fun _ => M.bnd (ev X e ρ) fun y => M.bnd (M.of ((prD X.tbl .list [y]).bind unL)) fun l => M.bnd (ev X jb (ρ.set i none)) fun j => M.bnd (M.of ((intOf j).bind (atI l))) fun sub =>
    M.bnd (ev X rest (ρ.set i none)) fun rs => M.bnd (M.of (unL rs)) fun rl => M.bnd (X.cl f (sub :: rl)) fun r => M.bnd (ev X ib (ρ.set i none)) fun k => M.bnd (M.of ((intOf k).bind fun k => setI l k r)) fun l' => M.ret (.nx (ρ.set i (some (.lst l'))))
  | .mkD i e kb v, ρ => M.bnd (M.of (ρ[i]?)) fun _ => M.bnd (ev X e ρ) fun y => M.bnd (M.of (dsOf y)) fun kv => M.bnd (ev X v (ρ.set i none)) fun x => M.bnd (ev X kb (ρ.set i none)) fun k => M.bnd (M.of (strOf k)) fun w => M.bnd (M.of (putS kv.1 kv.2 w x)) fun vs => M.ret (.nx (ρ.set i (some (.dS kv.1 vs))))
  | .bad, _ => M.fail
end
/-- a def: how many parameters, how many names, its body -/
structure Df where
  ar : Nat
  nn : Nat
  body : Sm
def startE (n : Nat) (l : List D) : Ev := l.map some ++ List.replicate (n - l.length) none
def outD : Out → D
  | .nx _ => .non
  | .rt d => d
end N57
end
section
set_option maxRecDepth 100000
set_option maxHeartbeats 1000000
/-! The operations of the small language are the machine's. -/
namespace N57
open PySem PySem.Spec PyProof.Rows L2

/-- what is wanted of a value that bears d -/
def Fin (G : Gm) (C : Cn) (st : Cup) (H : Hp) (Q : VK) (d : D) : Prop := ∀ v H', Ext C H H' → Held G C st H' → Rep G C H' v d → Q v H'
section
variable {G : Gm} {C : Cn} {st : Cup} {H : Hp} {Q : VK}
theorem Fin.here {v : V} {d : D} (f : Fin G C st H Q d) (hl : Held G C st H) (r : Rep G C H v d) : Q v H := f v H (Ext.refl C H) hl r
theorem Fin.newT {xs : List V} {ds : List D} (f : Fin G C st H Q (.tup ds)) (hl : Held G C st H) (r : RepL G C H xs ds) : TNew H xs Q := fun p hp => by
  cases h : isSto ds with
  | false => exact .inl (f (.ref p) _ (Ext.new hp) (hl.new hp) (.tup (.of h upd_same) (hl.notS hp) (r.ext hl (Ext.new hp))))
  | true => exact .inr fun o ho => f (.ref p) _ (Ext.new hp) (hl.new hp) (.tup (.ofS h upd_same ho) (hl.notS hp) (r.ext hl (Ext.new hp)))
theorem Fin.newT0 {xs : List V} {ds : List D} (f : Fin G C st H Q (.tup ds)) (hl : Held G C st H) (r : RepL G C H xs ds) (h : isSto ds = false) : ∀ p, H p = none → Q (.ref p) (upd H p (.tup xs)) := fun p hp =>
  f (.ref p) _ (Ext.new hp) (hl.new hp) (.tup (.of h upd_same) (hl.notS hp) (r.ext hl (Ext.new hp)))
theorem Fin.newL {xs : List V} {ds : List D} (f : Fin G C st H Q (.lst ds)) (hl : Held G C st H) (r : RepL G C H xs ds) : ∀ p, H p = none → Q (.ref p) (upd H p (.lst xs)) := fun p hp =>
  f (.ref p) _ (Ext.new hp) (hl.new hp) (.lst upd_same (hl.notS hp) (r.ext hl (Ext.new hp)))
end

theorem fitsL_le {n : Nat} (h : fitsL n = true) : n ≤ sizeLine := of_decide_eq_true h
theorem small64_and {i : Int} (h : small64 i = true) : -(2 ^ 64) < i ∧ i < 2 ^ 64 := by
  unfold small64 at h
  simp only [Bool.and_eq_true, decide_eq_true_eq] at h
  exact h

/-! ### two-place operators -/
def O2.ast : O2 → Operator
  | .add => .Add | .sub => .Sub | .mul => .Mult | .pow => .Pow | .mod => .Mod | .div => .FloorDiv
def rO2 (K : PySem.W.Frag) : O2 → R2
  | .add => fun x y H Q => rI0 (fun i j => .int (i + j)) x y H Q ∨ (∃ i j, x = .str i ∧ y = .str j ∧ i.length + j.length ≤ sizeLine ∧ Q (.str (i ++ j)) H) ∨ rCat x y H Q ∨ rCatC K x y H Q
  | .sub => rI0 fun i j => .int (i - j)
  | .mul => rI CMul fun i j => .int (i * j)
  | .pow => rI CPow fun i j => .int (i ^ j.toNat)
  | .mod => rI (fun _ j => 0 < j) fun i j => .int (i % j)
  | .div => rI CDiv fun i j => .int (i / j)
theorem op_O2 {X : Cx} : ∀ o : O2, OpR X (binaryOp o.ast) (rO2 X.K o)
  | .add => op_add.or (op_add_str.or (op_cat.or op_catC))
  | .sub => op_sub
  | .mul => op_mul
  | .pow => op_pow
  | .mod => op_mod
  | .div => op_fdiv
section
variable {G : Gm} {C : Cn} {st : Cup} {H : Hp} {Q : VK}
theorem o2_ok {o : O2} {v u : V} {x y d : D} (hl : Held G C st H) (r : Rep G C H v x) (q : Rep G C H u y) (e : op2 o x y = some d) (f : Fin G C st H Q d) : rO2 G.K o v u H Q := by
  unfold op2 at e
  split at e
  · cases r; cases q; cases e
    exact .inl ⟨_, _, rfl, rfl, f.here hl (.int _)⟩
  · cases r; cases q
    split at e
    · rename_i hz
      cases e
      refine .inr (.inl ⟨_, _, rfl, rfl, ?_, ?_⟩)
      · rw [toS_length, toS_length]; exact fitsL_le hz
      · rw [toS_append]; exact f.here hl (.str _)
    · cases e
  · cases r with
    | lst r1 r2 r3 =>
    cases q with
    | lst q1 q2 q3 =>
    split at e
    · rename_i hz
      cases e
      exact .inr (.inr (.inl ⟨_, _, _, _, rfl, rfl, r1, q1, by rw [r3.length, q3.length]; exact fitsL_le hz, f.newL hl (r3.app q3)⟩))
    · cases e
  · cases r with
    | tup r1 r2 r3 =>
    cases q with
    | tup q1 q2 q3 =>
    split at e
    · rename_i hz
      cases e
      refine .inr (.inr (.inr ⟨_, _, _, _, rfl, rfl, r1.sq, q1.sq, by rw [r3.length, q3.length]; exact fitsL_le hz, fun z => ?_, fun z z2 => ?_, fun z z2 => f.newT hl (r3.app q3)⟩))
      · subst z
        cases r3
        exact f.here hl (.tup q1 q2 q3)
      · subst z2
        cases q3
        exact f.here hl (.tup (by rw [List.append_nil]; exact r1) r2 (by rw [List.append_nil]; exact r3))
    · cases e
  · cases r; cases q; cases e
    exact ⟨_, _, rfl, rfl, f.here hl (.int _)⟩
  · cases r; cases q
    split at e
    · rename_i hz
      cases e
      refine ⟨_, _, rfl, rfl, ?_, f.here hl (.int _)⟩
      rcases Bool.or_eq_true_iff.mp hz with h | h
      · exact .inl (small64_and h)
      · exact .inr (small64_and h)
    · cases e
  · cases r; cases q
    split at e
    · rename_i hz
      cases e
      simp only [Bool.and_eq_true, decide_eq_true_eq] at hz
      exact ⟨_, _, rfl, rfl, ⟨hz.1.1, hz.1.2, hz.2⟩, f.here hl (.int _)⟩
    · cases e
  · cases r; cases q
    split at e
    · rename_i hz
      cases e
      exact ⟨_, _, rfl, rfl, of_decide_eq_true hz, f.here hl (.int _)⟩
    · cases e
  · cases r; cases q
    split at e
    · rename_i hz
      cases e
      simp only [Bool.and_eq_true, decide_eq_true_eq] at hz
      exact ⟨_, _, rfl, rfl, ⟨hz.1, hz.2⟩, f.here hl (.int _)⟩
    · cases e
  · cases e
end

/-! ### == -/
/-- a sequence beside an empty one -/
def rNil (K : PySem.W.Frag) (g : Bool → Bool) : R2 := fun x y H Q => ∃ a b xs ys, x = .ref a ∧ y = .ref b ∧ ((SqL K H a xs ∧ SqL K H b ys) ∨ (SqT K H a xs ∧ SqT K H b ys)) ∧ (xs = [] ∨ ys = []) ∧ Q (.bl (g (xs.isEmpty && ys.isEmpty))) H
theorem nil_all {xs ys : List V} {us ws : List Value} (r : Vals xs us) (q : Vals ys ws) (h : xs = [] ∨ ys = []) (e : Nat → Bool) : ((List.range (min us.toArray.size ws.toArray.size)).all e && us.toArray.size == ws.toArray.size) = (xs.isEmpty && ys.isEmpty) := by
  have h1 := r.length
  have h2 := q.length
  rcases h with rfl | rfl
  · cases r
    cases q with
    | nil => rfl
    | cons _ _ => simp
  · cases q
    cases r with
    | nil => rfl
    | cons _ _ => simp
theorem op_eqNil {X : Cx} (hu : X.A.units < cLine) : OpR X (compareOp .Eq) (rNil X.K id) := by
  intro pins s σ H x y v u Q I rx ry h
  obtain ⟨a, b, xs, ys, rfl, rfl, hab, hn, q⟩ := h
  cases rx
  cases ry
  rcases hab with ⟨ha, hb⟩ | ⟨ha, hb⟩
  · obtain ⟨us, r1, p1, _⟩ := I.list ha
    obtain ⟨ws, r2, p2, _⟩ := I.list hb
    have h1 := r1.length
    have h2 := r2.length
    by_cases hz : xs = [] ∧ ys = []
    · obtain ⟨rfl, rfl⟩ := hz
      cases r1; cases r2
      refine SeqAt.eq_listAt (e := fun _ => true) p1.isList p2.isList rfl hu (fun j h1 _ => absurd h1 (by simp)) ⟨.bl _, H, I, ?_, q⟩
      simp [L2.RelV]
    · refine SeqAt.eq_list_lengthsAt p1.isList p2.isList ?_ hu ⟨.bl _, H, I, ?_, q⟩
      · rcases hn with rfl | rfl
        · cases r1
          cases ys with
          | nil => exact absurd ⟨rfl, rfl⟩ hz
          | cons y ys => cases r2; simp
        · cases r2
          cases xs with
          | nil => exact absurd ⟨rfl, rfl⟩ hz
          | cons y ys => cases r1; simp
      · rcases hn with rfl | rfl
        · cases ys with
          | nil => exact absurd ⟨rfl, rfl⟩ hz
          | cons y ys => simp [L2.RelV]
        · cases xs with
          | nil => exact absurd ⟨rfl, rfl⟩ hz
          | cons y ys => simp [L2.RelV]
  · obtain ⟨us, r1, p1, _⟩ := I.tuple ha
    obtain ⟨ws, r2, p2, _⟩ := I.tuple hb
    refine SeqAt.eq_tupleAt (e := fun _ => true) (show s.heap.IsTuple a us.toArray from p1) (show s.heap.IsTuple b ws.toArray from p2) hu (fun j h1 h2 => ?_) ⟨.bl _, H, I, ?_, q⟩
    · rcases hn with rfl | rfl
      · cases r1; exact absurd h1 (by simp)
      · cases r2; exact absurd h2 (by simp)
    · rw [nil_all r1 r2 hn]; rfl
theorem op_neNil {X : Cx} (hu : X.A.units < cLine) : OpR X (compareOp .NotEq) (rNil X.K not) := by
  intro pins s σ H x y v u Q I rx ry h
  obtain ⟨a, b, xs, ys, rfl, rfl, hab, hn, q⟩ := h
  cases rx
  cases ry
  rcases hab with ⟨ha, hb⟩ | ⟨ha, hb⟩
  · obtain ⟨us, r1, p1, _⟩ := I.list ha
    obtain ⟨ws, r2, p2, _⟩ := I.list hb
    have h1 := r1.length
    have h2 := r2.length
    by_cases hz : xs = [] ∧ ys = []
    · obtain ⟨rfl, rfl⟩ := hz
      cases r1; cases r2
      refine SeqAt.RcNeAt.lists (e := fun _ => true) p1.isList p2.isList rfl hu (fun j h1 _ => absurd h1 (by simp)) X.prog X.w X.xe _ ⟨.bl _, H, I, ?_, q⟩
      simp [L2.RelV]
    · refine SeqAt.RcNeAt.lists_lengths p1.isList p2.isList ?_ hu X.prog X.w X.xe _ ⟨.bl _, H, I, ?_, q⟩
      · rcases hn with rfl | rfl
        · cases r1
          cases ys with
          | nil => exact absurd ⟨rfl, rfl⟩ hz
          | cons y ys => cases r2; simp
        · cases r2
          cases xs with
          | nil => exact absurd ⟨rfl, rfl⟩ hz
          | cons y ys => cases r1; simp
      · rcases hn with rfl | rfl
        · cases ys with
          | nil => exact absurd ⟨rfl, rfl⟩ hz
          | cons y ys => simp [L2.RelV]
        · cases xs with
          | nil => exact absurd ⟨rfl, rfl⟩ hz
          | cons y ys => simp [L2.RelV]
  · obtain ⟨us, r1, p1, _⟩ := I.tuple ha
    obtain ⟨ws, r2, p2, _⟩ := I.tuple hb
    refine SeqAt.RcNeAt.tuples (e := fun _ => true) (show s.heap.IsTuple a us.toArray from p1) (show s.heap.IsTuple b ws.toArray from p2) hu (fun j h1 h2 => ?_) X.prog X.w X.xe _ ⟨.bl _, H, I, ?_, q⟩
    · rcases hn with rfl | rfl
      · cases r1; exact absurd h1 (by simp)
      · cases r2; exact absurd h2 (by simp)
    · rw [nil_all r1 r2 hn]; rfl

/-! plain data as the library's -/
def toPy : Nat → D → PyData
  | _, .non => .none
  | _, .int i => .int i
  | _, .str w => .str (toS w)
  | n + 1, .tup l => .tuple (l.map (toPy n))
  | n + 1, .lst l => .list (l.map (toPy n))
  | _, _ => .none
theorem str_beq (a b : Wd) : (toS a == toS b) = natsEq a b := by
  rw [Bool.eq_iff_iff, natsEq_iff, beq_iff_eq]
  exact ⟨toS_inj, fun h => by rw [h]⟩
theorem eqvAll_zip {n : Nat} (ih : ∀ a b, okB n a = true → okB n b = true → PyData.eqv (toPy n a) (toPy n b) = eqB n a b) : ∀ l m : List D, l.all (okB n) = true → m.all (okB n) = true →
    PyData.eqvAll (l.map (toPy n)) (m.map (toPy n)) = zipAll (eqB n) l m
  | [], [], _, _ => rfl
  | [], _ :: _, _, _ => rfl
  | _ :: _, [], _, _ => rfl
  | a :: l, b :: m, h1, h2 => by
    rw [List.all_cons, Bool.and_eq_true] at h1 h2
    simp only [List.map_cons, PyData.eqvAll, zipAll, ih a b h1.1 h2.1, eqvAll_zip ih l m h1.2 h2.2]
theorem eqv_eqB : ∀ (n : Nat) (a b : D), okB n a = true → okB n b = true → PyData.eqv (toPy n a) (toPy n b) = eqB n a b := by
  have ib : ∀ i j : Int, (i == j) = decide (i = j) := fun i j => by rw [Bool.eq_iff_iff]; simp
  intro n
  induction n with
  | zero =>
    intro a b h1 h2
    cases a <;> first | (cases h1; done) | skip
    all_goals (cases b <;> first | (cases h2; done) | simp [toPy, PyData.eqv, eqB, str_beq, ib])
  | succ n ih =>
    intro a b h1 h2
    cases a <;> first | (cases h1; done) | skip
    all_goals (cases b <;> first | (cases h2; done) | skip)
    all_goals first
      | exact eqvAll_zip ih _ _ h1 h2
      | simp [toPy, PyData.eqv, eqB, str_beq, ib]
theorem canLayAll_map {n : Nat} : ∀ l : List D, (∀ a ∈ l, (toPy n a).canLay0 = true) → PyData.canLayAll0 (l.map (toPy n)) = true
  | [], _ => by simp [PyData.canLayAll0]
  | a :: l, h => by
    simp only [List.map_cons, PyData.canLayAll0, Bool.and_eq_true]
    exact ⟨h a List.mem_cons_self, canLayAll_map l fun b hb => h b (List.mem_cons_of_mem _ hb)⟩
theorem strOk_of {w : Wd} (h : w.all (Nat.blt · 256) = true) : PyData.strOk (toS w) = true := by
  unfold PyData.strOk toS
  simp only [List.all_toArray]
  refine List.all_eq_true.mpr fun c hc => ?_
  have h2 : c + 1 ≤ 256 := Nat.le_of_ble_eq_true (List.all_eq_true.mp h c hc)
  exact decide_eq_true (show c < 0x110000 by omega)
theorem canLay_toPy : ∀ (n : Nat) (a : D), okB n a = true → (toPy n a).canLay0 = true := by
  intro n
  induction n with
  | zero =>
    intro a h
    cases a <;> first | (cases h; done) | (simp only [toPy, PyData.canLay0]; done) | exact strOk_of h
  | succ n ih =>
    intro a h
    cases a <;> first | (cases h; done) | (simp only [toPy, PyData.canLay0]; done) | exact strOk_of h | skip
    all_goals simp only [toPy, PyData.canLay0]
    all_goals exact canLayAll_map _ fun b hb => ih b (List.all_eq_true.mp h b hb)
theorem depthAll_map {n k : Nat} : ∀ l : List D, (∀ a ∈ l, (toPy n a).depth ≤ k) → PyData.depthAll (l.map (toPy n)) ≤ k
  | [], _ => by simp [PyData.depthAll]
  | a :: l, h => by
    simp only [List.map_cons, PyData.depthAll]
    have h1 := h a List.mem_cons_self
    have h2 := depthAll_map l fun b hb => h b (List.mem_cons_of_mem _ hb)
    omega
theorem depth_toPy : ∀ (n : Nat) (a : D), (toPy n a).depth ≤ n + 1 := by
  intro n
  induction n with
  | zero => intro a; cases a <;> simp [toPy, PyData.depth]
  | succ n ih =>
    intro a
    cases a with
    | tup l =>
      have := depthAll_map (n := n) (k := n + 1) l fun b _ => ih b
      simp only [toPy, PyData.depth]; omega
    | lst l =>
      have := depthAll_map (n := n) (k := n + 1) l fun b _ => ih b
      simp only [toPy, PyData.depth]; omega
    | _ => simp only [toPy, PyData.depth]; omega
theorem shaped_toPy {n : Nat} {a : D} (hn : n ≤ 62) (h : okB n a = true) : SeqAt.shaped (toPy n a) = true := by
  unfold SeqAt.shaped
  rw [Bool.and_eq_true]
  have := depth_toPy n a
  exact ⟨canLay_toPy n a h, decide_eq_true (by omega)⟩
section
variable {G : Gm} {C : Cn} {H : Hp}
theorem dpAll_of {n : Nat} (ih : ∀ (d : D) (v : V), okB n d = true → Rep G C H v d → Dp G.K H v (toPy n d)) : ∀ (l : List D) (xs : List V), l.all (okB n) = true → RepL G C H xs l → DpAll G.K H xs (l.map (toPy n))
  | [], _, _, h => by cases h; exact .nil
  | a :: l, _, h1, h => by
    cases h with
    | cons r q =>
      rw [List.all_cons, Bool.and_eq_true] at h1
      exact .cons (ih a _ h1.1 r) (dpAll_of ih l _ h1.2 q)
theorem dp_of : ∀ (n : Nat) (d : D) (v : V), okB n d = true → Rep G C H v d → Dp G.K H v (toPy n d) := by
  intro n
  induction n with
  | zero =>
    intro d v h r
    cases d <;> first | (cases h; done) | skip
    · cases r; exact .non
    · cases r; exact .int _
    · cases r; exact .str _
  | succ n ih =>
    intro d v h r
    cases d <;> first | (cases h; done) | skip
    · cases r; exact .non
    · cases r; exact .int _
    · cases r; exact .str _
    · cases r with
      | tup h1 h2 h3 => exact .tup h1.sq (dpAll_of ih _ _ h h3)
    · cases r with
      | lst h1 h2 h3 => exact .lst (SqL.of h1) (dpAll_of ih _ _ h h3)
end
end N57
end
section
set_option maxRecDepth 100000
set_option maxHeartbeats 1000000
namespace N57
open PySem PySem.Spec PyProof.Rows L2

def C2.ast : C2 → CmpOp
  | .eq => .Eq | .ne => .NotEq | .lt => .Lt | .le => .LtE | .gt => .Gt | .ge => .GtE
  | .inS => .In | .ninS => .NotIn | .inQ => .In | .ninQ => .NotIn | .inD => .In | .inT => .In | .ninT => .NotIn
/-- a key in a dict -/
def rInT (K : PySem.W.Frag) (w : World) (g : Bool → Bool) : R2 := fun x y H Q =>
  (∃ a o, y = .ref a ∧ DGet H a x o ∧ Q (.bl (g o.isSome)) H) ∨
  ∃ d es n z r, x = .str z ∧ y = .ref d ∧ KDict K w d es n ∧ PySem.W.nsIn K d z = some r ∧ Q (.bl (g r.isSome)) H
theorem op_inT {X : Cx} (hu : X.A.units + 1 < cLine) : OpR X (compareOp .In) (rInT X.K X.w id) := by
  intro pins s σ H x y v u Q I rx ry h
  rcases h with ⟨a, o, rfl, g, q⟩ | ⟨d, es, n, z, r, rfl, rfl, kd, e, q⟩
  · cases ry
    exact d_in hu I g rx fun s' I' => ⟨.bl _, H, I', rfl, q⟩
  · exact op_in_kd kd pins s σ H _ _ v u Q I rx ry ⟨z, r, rfl, rfl, e, q⟩
theorem op_ninT {X : Cx} (hu : X.A.units + 1 < cLine) : OpR X (compareOp .NotIn) (rInT X.K X.w not) := by
  intro pins s σ H x y v u Q I rx ry h
  rcases h with ⟨a, o, rfl, g, q⟩ | ⟨d, es, n, z, r, rfl, rfl, kd, e, q⟩
  · cases ry
    exact d_notIn hu I g rx fun s' I' => ⟨.bl _, H, I', rfl, q⟩
  · exact op_notIn_kd kd pins s σ H _ _ v u Q I rx ry ⟨z, r, rfl, rfl, e, q⟩
def rStr (g : Bool → Bool) : R2 := fun x y H Q => ∃ i j, x = .str i ∧ y = .str j ∧ Q (.bl (g (!(Builtin.Str.occurrences j i 0 j.length 1).isEmpty))) H
def rC2 (K : PySem.W.Frag) (w : World) : C2 → R2
  | .eq => fun x y H Q => rEq x y H Q ∨ rNil K id x y H Q ∨ rEqD K x y H Q
  | .ne => fun x y H Q => rNe x y H Q ∨ rNil K not x y H Q ∨ rNeD K x y H Q
  | .lt => rI0 fun i j => .bl (decide (i < j))
  | .le => rI0 fun i j => .bl (decide (i ≤ j))
  | .gt => rI0 fun i j => .bl (decide (j < i))
  | .ge => rI0 fun i j => .bl (decide (j ≤ i))
  | .inS => rStr id
  | .ninS => rStr not
  | .inQ => rIn K false
  | .ninQ => rIn K true
  | .inD => rInD K
  | .inT => rInT K w id
  | .ninT => rInT K w not
theorem op_C2 {X : Cx} (hu : X.A.units + 100 < cLine) : ∀ o : C2, OpR X (compareOp o.ast) (rC2 X.K X.w o)
  | .eq => op_eq.or ((op_eqNil (by omega)).or (op_eqD (by omega)))
  | .ne => op_ne.or ((op_neNil (by omega)).or (op_neD (by omega)))
  | .lt => op_lt
  | .le => op_le
  | .gt => op_gt
  | .ge => op_ge
  | .inS => op_in_str
  | .ninS => op_notin_str
  | .inQ => op_in_seq
  | .ninQ => op_notIn_seq
  | .inD => op_inD (by omega)
  | .inT => op_inT (by omega)
  | .ninT => op_ninT (by omega)

theorem any_eq {α : Type} {f g : α → Bool} : ∀ {l : List α}, (∀ a ∈ l, f a = g a) → l.any f = l.any g
  | [], _ => rfl
  | a :: l, h => by rw [List.any_cons, List.any_cons, h a List.mem_cons_self, any_eq fun b hb => h b (List.mem_cons_of_mem _ hb)]
section
variable {G : Gm} {C : Cn} {st : Cup} {H : Hp} {Q : VK}
theorem RepL.isEmpty {xs : List V} {l : List D} (r : RepL G C H xs l) : xs.isEmpty = l.isEmpty := by
  cases r <;> rfl
theorem nilcase {g : Bool → Bool} {b : Bool} {v u : V} {x y : D} (hl : Held G C st H) (r : Rep G C H v x) (q : Rep G C H u y)
    (h : (∃ l m, x = .tup l ∧ y = .tup m ∧ (l = [] ∨ m = []) ∧ b = (l.isEmpty && m.isEmpty)) ∨ ∃ l m, x = .lst l ∧ y = .lst m ∧ (l = [] ∨ m = []) ∧ b = (l.isEmpty && m.isEmpty)) (f : Q (.bl (g b)) H) : rNil G.K g v u H Q := by
  rcases h with ⟨l, m, rfl, rfl, hn, rfl⟩ | ⟨l, m, rfl, rfl, hn, rfl⟩
  · cases r with
    | tup r1 r2 r3 =>
    cases q with
    | tup q1 q2 q3 =>
    refine ⟨_, _, _, _, rfl, rfl, .inr ⟨r1.sq, q1.sq⟩, ?_, ?_⟩
    · rcases hn with rfl | rfl
      · cases r3; exact .inl rfl
      · cases q3; exact .inr rfl
    · rw [r3.isEmpty, q3.isEmpty]
      exact f
  · cases r with
    | lst r1 r2 r3 =>
    cases q with
    | lst q1 q2 q3 =>
    refine ⟨_, _, _, _, rfl, rfl, .inl ⟨SqL.of r1, SqL.of q1⟩, ?_, ?_⟩
    · rcases hn with rfl | rfl
      · cases r3; exact .inl rfl
      · cases q3; exact .inr rfl
    · rw [r3.isEmpty, q3.isEmpty]
      exact f
/-- what eqO says, by its ways -/
theorem eqO_cases {x y : D} {b : Bool} (e : eqO x y = some b) :
    ((∃ l m, x = .tup l ∧ y = .tup m ∧ (l = [] ∨ m = []) ∧ b = (l.isEmpty && m.isEmpty)) ∨ ∃ l m, x = .lst l ∧ y = .lst m ∧ (l = [] ∨ m = []) ∧ b = (l.isEmpty && m.isEmpty)) ∨
    (∃ p q, x = .bl p ∧ y = .bl q ∧ b = (p == q)) ∨ (okB 62 x = true ∧ okB 62 y = true ∧ b = eqB 62 x y) := by
  unfold eqO at e
  split at e
  · cases e; exact .inl (.inl ⟨_, _, rfl, rfl, .inl rfl, by simp⟩)
  · cases e; exact .inl (.inl ⟨_, _, rfl, rfl, .inr rfl, by simp⟩)
  · cases e; exact .inl (.inr ⟨_, _, rfl, rfl, .inl rfl, by simp⟩)
  · cases e; exact .inl (.inr ⟨_, _, rfl, rfl, .inr rfl, by simp⟩)
  · cases e; exact .inr (.inl ⟨_, _, rfl, rfl, rfl⟩)
  · split at e
    · rename_i h
      cases e
      rw [Bool.and_eq_true] at h
      exact .inr (.inr ⟨h.1, h.2, rfl⟩)
    · cases e
theorem flat_ok {x : D} {v : V} (f : flatD x = true) (r : Rep G C H v x) : flatV v = true := by
  cases x <;> first | (cases f; done) | (cases r; rfl)
theorem eqV_ok {x y : D} {v u : V} (f : flatD x = true) (f' : flatD y = true) (r : Rep G C H v x) (q : Rep G C H u y) : eqV v u = eqB 0 x y := by
  have ib : ∀ i j : Int, (i == j) = decide (i = j) := fun i j => by rw [Bool.eq_iff_iff]; simp
  cases x <;> first | (cases f; done) | skip
  all_goals (cases y <;> first | (cases f'; done) | skip)
  all_goals (cases r; cases q)
  all_goals simp [eqV, eqB, ib, str_beq]
theorem flatAll_ok : ∀ {l : List D} {xs : List V}, l.all flatD = true → RepL G C H xs l → xs.all flatV = true
  | [], _, _, h => by cases h; rfl
  | a :: l, _, f, h => by
    cases h with
    | cons r q =>
      rw [List.all_cons, Bool.and_eq_true] at f
      rw [List.all_cons, flat_ok f.1 r, flatAll_ok f.2 q]; rfl
theorem inV_ok {x : D} {v : V} (f : flatD x = true) (r : Rep G C H v x) : ∀ {l : List D} {xs : List V}, l.all flatD = true → RepL G C H xs l → inV v xs = l.any fun y => eqB 0 y x
  | [], _, _, h => by cases h; rfl
  | a :: l, _, f', h => by
    cases h with
    | cons r' q =>
      rw [List.all_cons, Bool.and_eq_true] at f'
      have := inV_ok f r f'.2 q
      unfold inV at this ⊢
      rw [List.any_cons, List.any_cons, eqV_ok f'.1 f r' r, this]
theorem inFlat_of {x : D} {l : List D} {b : Bool} (e : inFlat x l = some b) : flatD x = true ∧ l.all flatD = true ∧ b = l.any fun y => eqB 0 y x := by
  unfold inFlat at e
  split at e
  · rename_i h
    cases e
    rw [Bool.and_eq_true] at h
    exact ⟨h.1, h.2, rfl⟩
  · cases e
theorem wt_in {l : List Wd} {x : Wd} : inV (.str (toS x)) (l.map fun z => V.str (toS z)) = l.any (natsEq x) := by
  unfold inV
  rw [List.any_map]
  congr 1
  funext z
  show (toS z == toS x) = natsEq x z
  rw [str_beq, Bool.eq_iff_iff, natsEq_iff, natsEq_iff]
  exact eq_comm
theorem wt_flat {l : List Wd} : (l.map fun z => V.str (toS z)).all flatV = true := by
  rw [List.all_map]
  exact List.all_eq_true.mpr fun _ _ => rfl
theorem wt_sq {a : Addr} {l : List Wd} (h : WtAt G.K a l) : SqT G.K H a (l.map fun z => V.str (toS z)) := .inr h
/-- a dict with text keys: what is found -/
theorem valS_ok : ∀ {ks : List Wd} {xs : List V} {ds : List D} {x : Wd}, ks.length = ds.length → RepL G C H xs ds →
    (ks.any (natsEq x) = (valV ((ks.map fun x => (Sum.inr (toS x) : Key)).zip xs) (.inr (toS x))).isSome) ∧
    ∀ d, lookS ks ds x = some d → ∃ v, valV ((ks.map fun x => (Sum.inr (toS x) : Key)).zip xs) (.inr (toS x)) = some v ∧ Rep G C H v d
  | [], _, [], x, _, r => by cases r; exact ⟨rfl, fun d h => by cases h⟩
  | [], _, _ :: _, _, h, _ => by cases h
  | _ :: _, _, [], _, h, _ => by cases h
  | k :: ks, _, d :: ds, x, h, r => by
    cases r with
    | cons r q =>
    rename_i v vs
    have ih := valS_ok (x := x) (by simpa using h) q
    simp only [List.map_cons, List.zip_cons_cons]
    by_cases hk : k = x
    · subst hk
      rw [valV_pos rfl]
      have e : natsEq k k = true := natsEq_iff.mpr rfl
      refine ⟨by simp [e], fun d' h' => ?_⟩
      simp only [lookS, e, if_pos] at h'
      cases h'
      exact ⟨v, rfl, r⟩
    · have ne : ¬ (Sum.inr (toS k) : Key) = .inr (toS x) := fun z => hk (toS_inj (Sum.inr.inj z))
      rw [valV_neg ne]
      have e : natsEq x k = false := by
        cases z : natsEq x k with
        | false => rfl
        | true => exact absurd (natsEq_iff.mp z).symm hk
      refine ⟨by simp [e, ih.1], fun d' h' => ih.2 d' ?_⟩
      simpa [lookS, e] using h'
theorem valS_none : ∀ {ks : List Wd} {xs : List V} {ds : List D} {x : Wd}, ks.length = ds.length → RepL G C H xs ds → lookS ks ds x = none → valV ((ks.map fun x => (Sum.inr (toS x) : Key)).zip xs) (.inr (toS x)) = none
  | [], _, [], x, _, r, _ => by cases r; rfl
  | [], _, _ :: _, _, h, _, _ => by cases h
  | _ :: _, _, [], _, h, _, _ => by cases h
  | k :: ks, _, d :: ds, x, h, r, hn => by
    cases r with
    | cons r q =>
    simp only [List.map_cons, List.zip_cons_cons]
    by_cases hk : k = x
    · subst hk
      have e : natsEq k k = true := natsEq_iff.mpr rfl
      simp [lookS, e] at hn
    · have ne : ¬ (Sum.inr (toS k) : Key) = .inr (toS x) := fun z => hk (toS_inj (Sum.inr.inj z))
      rw [valV_neg ne]
      have e : natsEq x k = false := by
        cases z : natsEq x k with
        | false => rfl
        | true => exact absurd (natsEq_iff.mp z).symm hk
      exact valS_none (by simpa using h) q (by simpa [lookS, e] using hn)
theorem occ_one {c : Nat} {b : Wd} : (!(Builtin.Str.occurrences (toS b) (toS [c]) 0 (toS b).length 1).isEmpty) = b.any (Nat.beq c) := by
  have h := PySem.StrLaws.found_one (toS b) c
  have e : (toS [c]) = ⟨#[c]⟩ := rfl
  rw [e, h, toS_list, Bool.eq_iff_iff, decide_eq_true_eq, List.any_eq_true]
  constructor
  · intro hm; exact ⟨c, hm, Nat.beq_refl c⟩
  · rintro ⟨z, hz, hb⟩; rw [Nat.eq_of_beq_eq_true hb]; exact hz
theorem oneIn_eq {a b : Wd} : (!(Builtin.Str.occurrences (toS b) (toS a) 0 (toS b).length 1).isEmpty) = oneIn a b := by
  unfold oneIn
  split
  · exact occ_one
  · rfl
theorem find_tbl {n : Nat} {x : Wd} {p : Wd × Option W0} (e : (G.tbl n).find? (fun p => natsEq x p.1) = some p) : p ∈ G.tbl n ∧ p.1 = x :=
  ⟨List.mem_of_find?_eq_some e, (natsEq_iff.mp (List.find?_some (p := fun (p : Wd × Option W0) => natsEq x p.1) e)).symm⟩
theorem inTbl_ok {x : Wd} {y : D} {u : V} {b : Bool} {g : Bool → Bool} (q : Rep G C H u y) (e : inTbl G.tbl x y = some b) (f : Q (.bl (g b)) H) : rInT G.K G.w g (.str (toS x)) u H Q := by
  unfold inTbl at e
  split at e
  · cases e
    cases q with
    | dS q1 q2 q3 q4 =>
    refine .inl ⟨_, _, rfl, DGet.k (k := .inr (toS x)) q1, ?_⟩
    rw [← (valS_ok q3 q4).1]
    exact f
  · split at e
    · rename_i p hp
      cases e
      obtain ⟨hm, hx⟩ := find_tbl hp
      cases q with
      | wd q1 =>
      obtain ⟨es, m, kd, ht⟩ := q1
      have h := ht _ hm
      rw [hx] at h
      cases hp2 : p.2 with
      | none =>
        rw [hp2] at h f
        exact .inr ⟨_, es, m, _, none, rfl, rfl, kd, h, f⟩
      | some z =>
        rw [hp2] at h f
        obtain ⟨u0, h1, _⟩ := h
        exact .inr ⟨_, es, m, _, some u0, rfl, rfl, kd, h1, f⟩
    · cases e
  · cases e
theorem c2_ok {o : C2} {v u : V} {x y : D} {b : Bool} (hl : Held G C st H) (r : Rep G C H v x) (q : Rep G C H u y) (e : cmp2 G.tbl o x y = some b) (f : Q (.bl b) H) : rC2 G.K G.w o v u H Q := by
  unfold cmp2 at e
  split at e
  · rcases eqO_cases e with h | ⟨p, t, rfl, rfl, rfl⟩ | ⟨h1, h2, rfl⟩
    · exact .inr (.inl (nilcase (g := id) hl r q h f))
    · cases r; cases q
      refine .inl ⟨rfl, ?_⟩
      rw [dec_bl]; exact f
    · refine .inr (.inr ⟨_, _, dp_of 62 _ _ h1 r, dp_of 62 _ _ h2 q, shaped_toPy (by omega) h1, shaped_toPy (by omega) h2, ?_⟩)
      rw [eqv_eqB 62 _ _ h1 h2]; exact f
  · rw [Option.map_eq_some_iff] at e
    obtain ⟨b', e, rfl⟩ := e
    rcases eqO_cases e with h | ⟨p, t, rfl, rfl, rfl⟩ | ⟨h1, h2, rfl⟩
    · exact .inr (.inl (nilcase (g := not) hl r q h f))
    · cases r; cases q
      refine .inl ⟨rfl, ?_⟩
      rw [dec_bl]; exact f
    · refine .inr (.inr ⟨_, _, dp_of 62 _ _ h1 r, dp_of 62 _ _ h2 q, shaped_toPy (by omega) h1, shaped_toPy (by omega) h2, ?_⟩)
      rw [eqv_eqB 62 _ _ h1 h2]; exact f
  · cases r; cases q; cases e; exact ⟨_, _, rfl, rfl, f⟩
  · cases r; cases q; cases e; exact ⟨_, _, rfl, rfl, f⟩
  · cases r; cases q; cases e; exact ⟨_, _, rfl, rfl, f⟩
  · cases r; cases q; cases e; exact ⟨_, _, rfl, rfl, f⟩
  · cases r; cases q; cases e
    refine ⟨_, _, rfl, rfl, ?_⟩
    rw [oneIn_eq]; exact f
  · cases r; cases q; cases e
    refine ⟨_, _, rfl, rfl, ?_⟩
    rw [oneIn_eq]; exact f
  · obtain ⟨h1, h2, rfl⟩ := inFlat_of e
    cases q with
    | tup q1 q2 q3 => exact ⟨_, _, rfl, .inr q1.sq, flat_ok h1 r, flatAll_ok h2 q3, by rw [inV_ok h1 r h2 q3]; exact f⟩
  · obtain ⟨h1, h2, rfl⟩ := inFlat_of e
    cases q with
    | lst q1 q2 q3 => exact ⟨_, _, rfl, .inl (SqL.of q1), flat_ok h1 r, flatAll_ok h2 q3, by rw [inV_ok h1 r h2 q3]; exact f⟩
  · cases r; cases e
    cases q with
    | wt q1 => exact ⟨_, _, rfl, .inr (wt_sq q1), rfl, wt_flat, by rw [wt_in]; exact f⟩
  · rw [Option.map_eq_some_iff] at e
    obtain ⟨b', e, rfl⟩ := e
    obtain ⟨h1, h2, rfl⟩ := inFlat_of e
    cases q with
    | tup q1 q2 q3 => exact ⟨_, _, rfl, .inr q1.sq, flat_ok h1 r, flatAll_ok h2 q3, by rw [inV_ok h1 r h2 q3]; exact f⟩
  · rw [Option.map_eq_some_iff] at e
    obtain ⟨b', e, rfl⟩ := e
    obtain ⟨h1, h2, rfl⟩ := inFlat_of e
    cases q with
    | lst q1 q2 q3 => exact ⟨_, _, rfl, .inl (SqL.of q1), flat_ok h1 r, flatAll_ok h2 q3, by rw [inV_ok h1 r h2 q3]; exact f⟩
  · cases r; cases e
    cases q with
    | wt q1 => exact ⟨_, _, rfl, .inr (wt_sq q1), rfl, wt_flat, by rw [wt_in]; exact f⟩
  · split at e
    · rename_i h
      cases e
      rw [Bool.and_eq_true] at h
      cases q with
      | lst q1 q2 q3 =>
        rename_i l _ _
        have hs : okB 62 (.lst l) = true := h.2
        have hd : Dp G.K H (.ref _) (toPy 62 (.lst l)) := dp_of 62 _ _ hs (.lst q1 q2 q3)
        refine ⟨_, _, dp_of 61 _ _ h.1 r, hd, shaped_toPy (by omega) h.1, shaped_toPy (by omega) hs, ?_⟩
        rw [List.any_map]
        have e2 : (l.any ((fun z => PyData.eqv z (toPy 61 x)) ∘ toPy 61)) = l.any fun z => eqB 61 z x := by
          exact any_eq fun z hz => eqv_eqB 61 z x (List.all_eq_true.mp h.2 z hz) h.1
        rw [e2]; exact f
    · cases e
  · cases r
    exact inTbl_ok (g := id) q e f
  · rw [Option.map_eq_some_iff] at e
    obtain ⟨b', e, rfl⟩ := e
    cases r
    exact inTbl_ok (g := not) q e f
  · cases e
end
end N57
end
section
set_option maxRecDepth 100000
set_option maxHeartbeats 1000000
namespace N57
open PySem PySem.Spec PyProof.Rows L2

/-! ### subscripts -/
def rIxG (K : PySem.W.Frag) : R2 := fun x y H Q => ∃ a v, x = .ref a ∧ DGet H a y (some v) ∧ Q v H
theorem ix_dget {X : Cx} (hu : X.A.units + 1 < cLine) : IxR X (rIxG X.K) := by
  intro value slice pins s σ H x y v u Q I rx ry h hs
  obtain ⟨a, v0, rfl, g, q⟩ := h
  obtain rfl : v = Value.ref a := rx
  exact tail_any (dict_typeIs I g) slot_dict_getitem.lookup (d_getItem hu I g ry fun w' s' I' r' => ⟨v0, H, I', r', q⟩) hs
def rIxK (K : PySem.W.Frag) (w : World) : R2 := fun x y H Q => ∃ d es n z u0 v0, x = .ref d ∧ y = .str z ∧ KDict K w d es n ∧ PySem.W.nsIn K d z = some (some u0) ∧ L2.RelV v0 u0 ∧ Q v0 H
theorem ix_kd {X : Cx} : IxR X (rIxK X.K X.w) := by
  intro value slice pins s σ H x y v u Q I rx ry h hs
  obtain ⟨d, es, n, z, u0, v0, rfl, rfl, kd, e, r, q⟩ := h
  obtain rfl : v = Value.ref d := rx
  exact tail_any (kd_type kd I) slot_dict_getitem.lookup (op_item_kd kd pins s σ H (.ref d) (.str z) _ u Q I rfl ry ⟨z, u0, v0, rfl, rfl, e, r, q⟩) hs
def rIxA (K : PySem.W.Frag) (w : World) : R2 := fun x y H Q => rIx K x y H Q ∨ rIxG K x y H Q ∨ rIxK K w x y H Q
theorem ix_any {X : Cx} (hu : X.A.units + 1 < cLine) : IxR X (rIxA X.K X.w) := ix_seq.or ((ix_dget hu).or ix_kd)
theorem atI_some {α : Type} {xs : List α} {i : Int} {v : α} (h : atI xs i = some v) : ∃ j, xs[j]? = some v ∧ ixN xs.length i = some j := by
  unfold atI at h
  rw [Option.bind_eq_some_iff] at h
  obtain ⟨j, h1, h2⟩ := h
  exact ⟨j, h2, h1⟩
section
variable {G : Gm} {C : Cn} {st : Cup} {H : Hp} {Q : VK}
theorem RepL.atI {xs : List V} {l : List D} {i : Int} {d : D} (r : RepL G C H xs l) (h : atI l i = some d) : ∃ v, L2.atI xs i = some v ∧ Rep G C H v d := by
  obtain ⟨j, h1, h2⟩ := atI_some h
  obtain ⟨v, h3, h4⟩ := r.get h1
  refine ⟨v, ?_, h4⟩
  unfold L2.atI
  rw [r.length, h2]
  exact h3
theorem mapM_int {l : List D} {ns : List Int} (h : l.mapM intOf = some ns) : l = ns.map D.int := by
  induction l generalizing ns with
  | nil => simp at h; subst h; rfl
  | cons a l ih =>
    simp only [List.mapM_cons, Option.pure_def, Option.bind_eq_bind, Option.bind_eq_some_iff, Option.some.injEq] at h
    obtain ⟨i, h1, m, h2, rfl⟩ := h
    cases a <;> first | (cases h1; done) | skip
    cases h1
    rw [ih h2]; rfl
theorem intsOf_tup {d : D} {ns : List Int} (h : intsOf d = some ns) : d = .tup (ns.map D.int) := by
  unfold intsOf at h
  split at h
  · rw [mapM_int h]
  · cases h
theorem repInts : ∀ {ns : List Int} {xs : List V}, RepL G C H xs (ns.map D.int) → xs = ns.map V.int
  | [], _, h => by cases h; rfl
  | n :: ns, _, h => by
    cases h with
    | cons r q => cases r; rw [repInts q]; rfl
theorem repInts' : ∀ (ns : List Int), RepL G C H (ns.map V.int) (ns.map D.int)
  | [] => .nil
  | n :: ns => .cons (.int n) (repInts' ns)
theorem kVs_ints (ns : List Int) : (ns.map (Sum.inl : Int → Key)).map kV = ns.map V.int := by
  rw [List.map_map]; rfl
theorem intsEq_iff : ∀ {a b : List Int}, intsEq a b = true ↔ a = b
  | [], [] => by simp [intsEq]
  | [], _ :: _ => by simp [intsEq]
  | _ :: _, [] => by simp [intsEq]
  | a :: l, b :: m => by
    have := intsEq_iff (a := l) (b := m)
    simp [intsEq, this]
theorem inl_inj {a b : List Int} (h : a.map (Sum.inl : Int → Key) = b.map Sum.inl) : a = b := by
  induction a generalizing b with
  | nil => cases b with
    | nil => rfl
    | cons _ _ => cases h
  | cons x a ih =>
    cases b with
    | nil => cases h
    | cons y b =>
      simp only [List.map_cons, List.cons.injEq] at h
      rw [Sum.inl.inj h.1, ih h.2]
theorem valP_ok : ∀ {ks : List (List Int)} {xs : List V} {ds : List D} {x : List Int}, ks.length = ds.length → RepL G C H xs ds →
    ∀ d, lookP ks ds x = some d → ∃ v, valV ((ks.map fun x => x.map (Sum.inl : Int → Key)).zip xs) (x.map Sum.inl) = some v ∧ Rep G C H v d
  | [], _, [], x, _, r => by cases r; exact fun d h => by cases h
  | [], _, _ :: _, _, h, _ => by cases h
  | _ :: _, _, [], _, h, _ => by cases h
  | k :: ks, _, d :: ds, x, h, r => by
    cases r with
    | cons r q =>
    rename_i v vs
    have ih := valP_ok (x := x) (by simpa using h) q
    simp only [List.map_cons, List.zip_cons_cons]
    intro d' h'
    by_cases hk : k = x
    · subst hk
      rw [valV_pos rfl]
      have e : intsEq k k = true := intsEq_iff.mpr rfl
      simp only [lookP, e, if_pos] at h'
      cases h'
      exact ⟨v, rfl, r⟩
    · have ne : ¬ (k.map (Sum.inl : Int → Key)) = x.map Sum.inl := fun z => hk (inl_inj z)
      rw [valV_neg ne]
      have e : intsEq x k = false := by
        cases z : intsEq x k with
        | false => rfl
        | true => exact absurd (intsEq_iff.mp z).symm hk
      exact ih d' (by simpa [lookP, e] using h')
theorem w0_ok {u : Value} {z : W0} (h : W0At G.K u z) : ∃ v, L2.RelV v u ∧ Rep G C H v z.toD := by
  cases z with
  | int i => obtain ⟨t, rfl⟩ := h; exact ⟨.int i, ⟨t, rfl⟩, .int i⟩
  | wt l => obtain ⟨a, rfl, h⟩ := h; exact ⟨.ref a, rfl, .wt h⟩
theorem ix_ok {v u : V} {x y d : D} (hl : Held G C st H) (r : Rep G C H v x) (q : Rep G C H u y) (e : ixD G.tbl x y = some d) (f : Fin G C st H Q d) : rIxA G.K G.w v u H Q := by
  unfold ixD at e
  split at e
  · cases q
    cases r with
    | lst r1 r2 r3 =>
    obtain ⟨w', h1, h2⟩ := r3.atI e
    exact .inl (.inl ⟨_, _, _, _, rfl, rfl, SqL.of r1, h1, f.here hl h2⟩)
  · cases q
    cases r with
    | tup r1 r2 r3 =>
    obtain ⟨w', h1, h2⟩ := r3.atI e
    exact .inl (.inr (.inl ⟨_, _, _, _, rfl, rfl, r1.sq, h1, f.here hl h2⟩))
  · cases q; cases r
    split at e
    · rename_i hz
      rw [Option.map_eq_some_iff] at e
      obtain ⟨c, e, rfl⟩ := e
      exact .inl (.inr (.inr ⟨_, _, c, rfl, rfl, by rw [toS_length]; exact fitsL_le hz, by rw [toS_list]; exact e, f.here hl (.str [c])⟩))
    · cases e
  · cases q
    cases r with
    | dS r1 r2 r3 r4 =>
    obtain ⟨w', h1, h2⟩ := (valS_ok r3 r4).2 _ e
    exact .inr (.inl ⟨_, w', rfl, by rw [← h1]; exact DGet.k (k := .inr _) r1, f.here hl h2⟩)
  · rw [Option.bind_eq_some_iff] at e
    obtain ⟨ns, hn, e⟩ := e
    rw [intsOf_tup hn] at q
    cases q with
    | tup q1 q2 q3 =>
    have ex := repInts q3
    subst ex
    cases r with
    | dP r1 r2 r3 r4 =>
    obtain ⟨w', h1, h2⟩ := valP_ok r3 r4 _ e
    refine .inr (.inl ⟨_, w', rfl, ?_, f.here hl h2⟩)
    rw [← h1]
    exact DGet.t (k := ns.map Sum.inl) r1 (by rw [kVs_ints]; exact q1.not isSto_ints)
  · cases q
    split at e
    · rename_i p z hp
      cases e
      obtain ⟨hm, hx⟩ := find_tbl hp
      cases r with
      | wd r1 =>
      obtain ⟨es, m, kd, ht⟩ := r1
      have h := ht _ hm
      obtain ⟨u0, h1, h2⟩ := h
      have hx' : p = _ := hx
      rw [hx'] at h1
      obtain ⟨v0, h3, h4⟩ := w0_ok (C := C) (H := H) h2
      exact .inr (.inr ⟨_, es, m, _, u0, v0, rfl, rfl, kd, h1, h3, f.here hl h4⟩)
    · cases e
  · cases e

/-! ### slices -/
def rSlG (K : PySem.W.Frag) : V → Option Int → Option Int → Hp → VK → Prop := fun x lo hi H Q => rSlL K x lo hi H Q ∨ rSlC K x lo hi H Q ∨ rSlS x lo hi H Q
theorem sl_any {X : Cx} : SlR X (rSlG X.K) := sl_list.or (sl_tupC.or sl_str)
theorem cut_len {xs : List V} {l : List D} (r : RepL G C H xs l) (lo hi : Option Int) : RepL G C H (cutV xs lo hi) (cutG l lo hi) := by
  unfold cutV cutG
  rw [r.length]
  exact (r.drop _).take _
theorem sl_ok {v : V} {x d : D} {lo hi : Option Int} (hl : Held G C st H) (r : Rep G C H v x) (e : slD x lo hi = some d) (f : Fin G C st H Q d) : rSlG G.K v lo hi H Q := by
  unfold slD at e
  split at e
  · cases e
    cases r with
    | lst r1 r2 r3 => exact .inl ⟨_, _, rfl, SqL.of r1, f.newL hl (cut_len r3 _ _)⟩
  · cases e
    cases r with
    | tup r1 r2 r3 =>
    rename_i l _ _
    refine .inr (.inl ⟨_, _, rfl, r1.sq, fun hw => ?_, fun hw => f.newT hl (cut_len r3 _ _)⟩)
    have e : cutG l lo hi = l := by
      unfold cutG
      rw [← r3.length, hw.1, hw.2]
      simp [r3.length]
    exact f.here hl (.tup (by rw [e]; exact r1) r2 (by rw [e]; exact r3))
  · cases r
    split at e
    · rename_i w hz
      cases e
      refine .inr (.inr ⟨_, rfl, by rw [toS_length]; exact fitsL_le hz, ?_⟩)
      have e : cutS (toS w) lo hi = toS (cutG w lo hi) := by
        unfold cutS cutG toS Str.length
        simp
      rw [e]; exact f.here hl (.str _)
    · cases e
  · cases e
end

/-! ### calls of built-ins -/
inductive Bk where | b (id : String) | t (id : String)
def Bk.val : Bk → Value
  | .b id => .builtin id
  | .t id => .type id
/-- the plain calls: name and what stands there -/
def Pr.callee : Pr → Option (String × Bk)
  | .len => some ("len", .b "len") | .abs => some ("abs", .b "abs") | .int => some ("int", .t "int") | .max2 => some ("max", .b "max") | .maxL => some ("max", .b "max")
  | .sum => some ("sum", .b "sum") | .all => some ("all", .b "all") | .list => some ("list", .t "list") | .tuple => some ("tuple", .t "tuple")
  | _ => none
def rPr (K : PySem.W.Frag) : Pr → List V → Hp → VK → Prop
  | .len => fun xs H Q => ∃ x n, xs = [x] ∧ LenV K x H n ∧ Q (.int n) H
  | .abs => fun xs H Q => ∃ i, xs = [.int i] ∧ Q (.int (if i < 0 then -i else i)) H
  | .int => fun xs H Q => (∃ i, xs = [.int i] ∧ Q (.int i) H) ∨ ∃ k, xs = [.bl k] ∧ Q (.int (if k then 1 else 0)) H
  | .max2 => fun xs H Q => ∃ i j, xs = [.int i, .int j] ∧ Q (.int (if j > i then j else i)) H
  | .maxL => rMax K
  | .sum => rSum K
  | .all => rAll K
  | .list => fun xs H Q => ∃ p ys, xs = [.ref p] ∧ (SqL K H p ys ∨ SqT K H p ys) ∧ ∀ l, H l = none → Q (.ref l) (upd H l (.lst ys))
  | .tuple => rTupleC K
  | _ => fun _ _ _ => False
theorem call_Pr {X : Cx} (hc : X.calm = true) : ∀ (p : Pr) {n : String} {b : Bk}, p.callee = some (n, b) → CallR X b.val (rPr X.K p)
  | .len, _, _, e => by cases e; exact call_len
  | .abs, _, _, e => by cases e; exact call_abs
  | .int, _, _, e => by cases e; exact call_int1
  | .max2, _, _, e => by cases e; exact call_max2 hc
  | .maxL, _, _, e => by cases e; exact cr_max hc
  | .sum, _, _, e => by cases e; exact cr_sum hc
  | .all, _, _, e => by cases e; exact cr_all hc
  | .list, _, _, e => by cases e; exact call_list_of
  | .tuple, _, _, e => by cases e; exact call_tupleC
  | .dict, _, _, e => by cases e
  | .dictZ, _, _, e => by cases e
  | .isi _, _, _, e => by cases e
  | .sortS, _, _, e => by cases e
  | .sortP, _, _, e => by cases e
  | .sortK, _, _, e => by cases e
  | .sortI, _, _, e => by cases e
  | .intT, _, _, e => by cases e
  | .splitA, _, _, e => by cases e
  | .items, _, _, e => by cases e
  | .get, _, _, e => by cases e
section
variable {G : Gm} {C : Cn} {st : Cup} {H : Hp} {Q : VK}
theorem mapM_bl {l : List D} {bs : List Bool} (h : l.mapM blOf = some bs) : l = bs.map D.bl := by
  induction l generalizing bs with
  | nil => simp at h; subst h; rfl
  | cons a l ih =>
    simp only [List.mapM_cons, Option.pure_def, Option.bind_eq_bind, Option.bind_eq_some_iff, Option.some.injEq] at h
    obtain ⟨i, h1, m, h2, rfl⟩ := h
    cases a <;> first | (cases h1; done) | skip
    cases h1
    rw [ih h2]; rfl
theorem repBls : ∀ {ns : List Bool} {xs : List V}, RepL G C H xs (ns.map D.bl) → xs = ns.map V.bl
  | [], _, h => by cases h; rfl
  | n :: ns, _, h => by
    cases h with
    | cons r q => cases r; rw [repBls q]; rfl
theorem maxI_max : ∀ (l : List Int) (m : Int), m ≤ maxI m l ∧ (∀ x ∈ l, x ≤ maxI m l) ∧ (maxI m l = m ∨ maxI m l ∈ l)
  | [], m => ⟨Int.le_refl _, (fun _ h => absurd h (by simp)), .inl rfl⟩
  | x :: l, m => by
    unfold maxI
    by_cases h : m < x
    · rw [if_pos h]
      obtain ⟨h1, h2, h3⟩ := maxI_max l x
      refine ⟨by omega, fun y hy => ?_, ?_⟩
      · rcases List.mem_cons.mp hy with rfl | hy
        · exact h1
        · exact h2 y hy
      · rcases h3 with e | e
        · rw [e]; exact .inr List.mem_cons_self
        · exact .inr (List.mem_cons_of_mem _ e)
    · rw [if_neg h]
      obtain ⟨h1, h2, h3⟩ := maxI_max l m
      refine ⟨h1, fun y hy => ?_, ?_⟩
      · rcases List.mem_cons.mp hy with rfl | hy
        · omega
        · exact h2 y hy
      · rcases h3 with e | e
        · exact .inl e
        · exact .inr (List.mem_cons_of_mem _ e)
theorem pr_ok {p : Pr} {n : String} {b : Bk} {vs : List V} {ds : List D} {d : D} (hp : p.callee = some (n, b)) (hl : Held G C st H) (r : RepL G C H vs ds) (e : prD G.tbl p ds = some d) (f : Fin G C st H Q d) : rPr G.K p vs H Q := by
  unfold prD at e
  split at e <;> first | (cases hp; done) | skip
  · split at e
    · rename_i hz
      cases e
      replace r := r.inv1
      obtain ⟨v, rfl, r⟩ := r
      cases r
      exact ⟨.str _, _, rfl, (show _ ∧ _ from ⟨by rw [toS_length]; exact fitsL_le hz, (toS_length _).symm⟩), f.here hl (.int _)⟩
    · cases e
  · cases e
    replace r := r.inv1
    obtain ⟨v, rfl, r⟩ := r
    cases r with
    | tup r1 r2 r3 => exact ⟨.ref _, _, rfl, (show _ ∨ _ from .inr ⟨_, r1.sq, r3.length.symm⟩), f.here hl (.int _)⟩
  · cases e
    replace r := r.inv1
    obtain ⟨v, rfl, r⟩ := r
    cases r with
    | lst r1 r2 r3 => exact ⟨.ref _, _, rfl, (show _ ∨ _ from .inl ⟨_, SqL.of r1, r3.length.symm⟩), f.here hl (.int _)⟩
  · cases e
    replace r := r.inv1
    obtain ⟨v, rfl, r⟩ := r
    cases r with
    | wt r1 => exact ⟨.ref _, _, rfl, (show _ ∨ _ from .inr ⟨_, wt_sq r1, (List.length_map _).symm⟩), f.here hl (.int _)⟩
  · cases e
    replace r := r.inv1
    obtain ⟨v, rfl, r⟩ := r
    cases r
    exact ⟨_, rfl, f.here hl (.int _)⟩
  · cases e
    replace r := r.inv1
    obtain ⟨v, rfl, r⟩ := r
    cases r
    exact .inl ⟨_, rfl, f.here hl (.int _)⟩
  · cases e
    replace r := r.inv2
    obtain ⟨v, u, rfl, r, q⟩ := r
    cases r; cases q
    exact ⟨_, _, rfl, f.here hl (.int _)⟩
  · split at e
    · rename_i l x m hm
      cases e
      replace r := r.inv1
      obtain ⟨v, rfl, r⟩ := r
      rw [mapM_int hm] at r
      cases r with
      | lst r1 r2 r3 =>
      have ex := repInts r3
      subst ex
      obtain ⟨h1, h2, h3⟩ := maxI_max m x
      refine ⟨_, _, rfl, SqL.of r1, by simp, fun k hk hk2 => ?_⟩
      have e : k = maxI x m := by
        refine Int.le_antisymm ?_ ?_
        · rcases List.mem_cons.mp hk with rfl | hk
          · exact h1
          · exact h2 k hk
        · refine hk2 _ ?_
          rcases h3 with e | e
          · rw [e]; exact List.mem_cons_self
          · exact List.mem_cons_of_mem _ e
      rw [e]; exact f.here hl (.int _)
    · cases e
  · rw [Option.map_eq_some_iff] at e
    obtain ⟨m, hm, rfl⟩ := e
    replace r := r.inv1
    obtain ⟨v, rfl, r⟩ := r
    rw [mapM_int hm] at r
    cases r with
    | lst r1 r2 r3 =>
    have ex := repInts r3
    subst ex
    exact ⟨_, _, rfl, SqL.of r1, f.here hl (.int _)⟩
  · rw [Option.map_eq_some_iff] at e
    obtain ⟨m, hm, rfl⟩ := e
    replace r := r.inv1
    obtain ⟨v, rfl, r⟩ := r
    rw [mapM_bl hm] at r
    cases r with
    | lst r1 r2 r3 =>
    have ex := repBls r3
    subst ex
    exact ⟨_, _, rfl, SqL.of r1, f.here hl (.bl _)⟩
  · cases e
    replace r := r.inv1
    obtain ⟨v, rfl, r⟩ := r
    cases r with
    | lst r1 r2 r3 => exact ⟨_, _, rfl, .inl (SqL.of r1), f.newL hl r3⟩
  · cases e
    replace r := r.inv1
    obtain ⟨v, rfl, r⟩ := r
    cases r with
    | tup r1 r2 r3 => exact ⟨_, _, rfl, .inr r1.sq, f.newL hl r3⟩
  · cases e
    replace r := r.inv1
    obtain ⟨v, rfl, r⟩ := r
    cases r with
    | lst r1 r2 r3 => exact ⟨_, _, rfl, .inl ⟨SqL.of r1, f.newT hl r3⟩⟩
  · cases e
    replace r := r.inv1
    obtain ⟨v, rfl, r⟩ := r
    cases r with
    | tup r1 r2 r3 => exact ⟨_, _, rfl, .inr ⟨r1.sq, f.here hl (.tup r1 r2 r3)⟩⟩
  · cases e
end
/-! isinstance -/
theorem isi_kit {K : PySem.W.Frag} : ∀ {a b : String} {r : Bool}, isiB a b = some r → PySem.W.kitOne K (.type a) (.type b) = some r := by
  intro a b r h
  unfold isiB at h
  split at h <;> first | (cases h; done) | skip
  all_goals (cases h; exact kit_ty (by decide +kernel))
section
variable {G : Gm} {C : Cn} {st : Cup} {H : Hp} {Q : VK}
theorem tyD_ok {v : V} {x : D} {T : String} (r : Rep G C H v x) (e : tyD x = some T) : TyX G.K H v (.type T) := by
  unfold tyD at e
  split at e <;> first | (cases e; done) | skip
  · cases e; cases r; exact .base (.bl _)
  · cases e; cases r; exact .base (.int _)
  · cases e; cases r; exact .base (.str _)
  · cases e
    cases r with
    | tup r1 r2 r3 => exact r1.ty
  · cases e
    cases r with
    | lst r1 r2 r3 => exact .base (.lst r1)
  · cases e
    cases r with
    | dS r1 r2 r3 => exact .base (.dK r1)
  · cases e
    cases r with
    | dP r1 r2 r3 => exact .base (.dT r1)
theorem isi_ok {T : String} {v : V} {x d : D} (hl : Held G C st H) (r : Rep G C H v x) (e : prD G.tbl (.isi T) [x] = some d) (f : Fin G C st H Q d) : rIsi G.K [v, .ty T] H Q := by
  unfold prD at e
  simp only [Option.bind_eq_some_iff, Option.map_eq_some_iff] at e
  obtain ⟨t, h1, b, h2, rfl⟩ := e
  exact ⟨v, .ty T, .type t, .type T, b, rfl, .ty T, tyD_ok r h1, isi_kit h2, f.here hl (.bl b)⟩
end
end N57
end
section
set_option maxRecDepth 100000
set_option maxHeartbeats 1000000
namespace N57
open PySem PySem.Spec PyProof.Rows L2

/-! ### readings by what the small language says -/
def RepS (G : Gm) (C : Cn) (H : Hp) (σ : L2.St) (ρ : Ev) : Prop := σ.length = ρ.length ∧ ∀ (i : Nat) (d : D), ρ[i]? = some (some d) → ∃ v, σ[i]? = some (some v) ∧ Rep G C H v d
def tE (G : Gm) (m : Ev → M D) : TE := fun σ H Q => ∃ C st ρ d st', Held G C st H ∧ RepS G C H σ ρ ∧ m ρ st = some (d, st') ∧ Fin G C st' H Q d
def tB (G : Gm) (m : Ev → M D) : TT := fun σ H Q => ∃ C st ρ b st', Held G C st H ∧ RepS G C H σ ρ ∧ m ρ st = some (.bl b, st') ∧ ∀ H', Ext C H H' → Held G C st' H' → Q b H'
def tA (G : Gm) (m : Ev → M D) : TA := fun σ H Q => ∃ C st ρ ds st', Held G C st H ∧ RepS G C H σ ρ ∧ m ρ st = some (.lst ds, st') ∧ ∀ vs H', Ext C H H' → Held G C st' H' → RepL G C H' vs ds → Q vs H'
def Ended (G : Gm) (C : Cn) (st : Cup) (H : Hp) (E : Ends) : Out → Prop
  | .nx ρ => ∀ σ' H', Ext C H H' → Held G C st H' → RepS G C H' σ' ρ → E.nx σ' H'
  | .rt d => ∀ v H', Ext C H H' → Held G C st H' → Rep G C H' v d → E.rt v H'
def tS (G : Gm) (m : Ev → M Out) : TS := fun E σ H => ∃ C st ρ o st', Held G C st H ∧ RepS G C H σ ρ ∧ m ρ st = some (o, st') ∧ Ended G C st' H E o

theorem bnd_some {α β : Type} {m : M α} {f : α → M β} {s : Cup} {r : β × Cup} (h : M.bnd m f s = some r) : ∃ a s', m s = some (a, s') ∧ f a s' = some r := by
  unfold M.bnd at h
  split at h
  · cases h
  · exact ⟨_, _, by assumption, h⟩
theorem of_some {α : Type} {o : Option α} {s : Cup} {a : α} {s' : Cup} (h : M.of o s = some (a, s')) : o = some a ∧ s' = s := by
  unfold M.of at h
  split at h
  · cases h
  · cases h; exact ⟨rfl, rfl⟩
theorem ret_some {α : Type} {a b : α} {s s' : Cup} (h : M.ret a s = some (b, s')) : b = a ∧ s' = s := by
  unfold M.ret at h
  cases h
  exact ⟨rfl, rfl⟩
section
variable {G : Gm} {C : Cn} {st st' : Cup} {H H' : Hp} {σ : L2.St} {ρ : Ev}
theorem RepS.ext (r : RepS G C H σ ρ) (hl : Held G C st H) (e : Ext C H H') : RepS G C H' σ ρ := ⟨r.1, fun i d h => by
  obtain ⟨v, h1, h2⟩ := r.2 i d h
  exact ⟨v, h1, h2.ext hl e⟩⟩
theorem RepS.set {v : V} {d : D} (r : RepS G C H σ ρ) (q : Rep G C H v d) (i : Nat) : RepS G C H (σ.set i (some v)) (ρ.set i (some d)) := ⟨by simpa using r.1, fun j e h => by
  by_cases hj : i = j
  · subst hj
    by_cases hi : i < ρ.length
    · rw [List.getElem?_set_self hi] at h
      cases h
      exact ⟨v, List.getElem?_set_self (by rw [r.1]; exact hi), q⟩
    · rw [List.getElem?_eq_none (by simpa using hi)] at h
      cases h
  · rw [List.getElem?_set_ne hj] at h
    rw [List.getElem?_set_ne hj]
    exact r.2 j e h⟩
theorem RepS.wipe (r : RepS G C H σ ρ) : ∀ vs : List Nat, RepS G C H (L2.wipe σ vs) (wipeE ρ vs)
  | [] => r
  | v :: vs => by
    have ih := RepS.wipe r vs
    refine ⟨?_, fun j e h => ?_⟩
    · show ((L2.wipe σ vs).set v none).length = ((wipeE ρ vs).set v none).length
      rw [List.length_set, List.length_set]; exact ih.1
    · have h' : ((wipeE ρ vs).set v none)[j]? = some (some e) := h
      show ∃ u, ((L2.wipe σ vs).set v none)[j]? = some (some u) ∧ _
      by_cases hj : v = j
      · subst hj
        by_cases hi : v < (wipeE ρ vs).length
        · rw [List.getElem?_set_self hi] at h'; cases h'
        · rw [List.getElem?_eq_none (by simpa using hi)] at h'; cases h'
      · rw [List.getElem?_set_ne hj] at h' ⊢
        exact ih.2 j e h'
theorem Fin.ext {Q : VK} {d : D} (f : Fin G C st' H Q d) (e : Ext C H H') : Fin G C st' H' Q d := fun v H2 e2 h2 r => f v H2 (e.trans e2) h2 r
end
theorem _root_.L2.PE.imp {X : Cx} {e : Expr} {t t' : TE} (h : PE X e t) (i : ∀ σ H Q, t' σ H Q → t σ H Q) : PE X e t' := ⟨fun pins s σ H Q I q => h.run pins s σ H Q I (i σ H Q q)⟩
theorem _root_.L2.PT.imp {X : Cx} {e : Expr} {t t' : TT} (h : PT X e t) (i : ∀ σ H Q, t' σ H Q → t σ H Q) : PT X e t' := ⟨fun pins s σ H Q I q => h.run pins s σ H Q I (i σ H Q q)⟩
theorem _root_.L2.PW.imp {X : Cx} {e : Expr} {t t' : TT} (h : PW X e t) (i : ∀ σ H Q, t' σ H Q → t σ H Q) : PW X e t' := ⟨fun wh pins s σ H Q I q => h.run wh pins s σ H Q I (i σ H Q q)⟩
theorem _root_.L2.PA.imp {X : Cx} {e : List Expr} {t t' : TA} (h : PA X e t) (i : ∀ σ H Q, t' σ H Q → t σ H Q) : PA X e t' := ⟨fun pos pins s σ H Q I q => h.run pos pins s σ H Q I (i σ H Q q)⟩
theorem _root_.L2.PS.imp {X : Cx} {e : Stmt} {t t' : TS} (h : PS X e t) (i : ∀ E σ H, t' E σ H → t E σ H) : PS X e t' := ⟨fun pins s σ H D I q => h.run pins s σ H D I (i D σ H q)⟩
theorem _root_.L2.PSs.imp {X : Cx} {e : List Stmt} {t t' : TS} (h : PSs X e t) (i : ∀ E σ H, t' E σ H → t E σ H) : PSs X e t' := ⟨fun pins s σ H D I q => h.run pins s σ H D I (i D σ H q)⟩

section
variable {G : Gm} {X : Cx} {a b c : Expr} {ma mb mc : Ev → M D} {pos : Pos}
/-! ### expressions -/
theorem s_var {i : Nat} {x : Str} (hN : X.N[i]? = some x) (hv : Vis X.env.scope x) (hd : (x == ("__debug__" : Str)) = false) (hcd : (x == ("__classdict__" : Str)) = false) : PE X (.Name x pos) (tE G fun ρ => M.of (ρ[i]?.join)) :=
  (pe_var (i := i) hN hv hd hcd).imp fun σ H Q ⟨C, st, ρ, d, st', hl, r, e, f⟩ => by
    replace e := of_some e
    obtain ⟨e, rfl⟩ := e
    have e2 : ρ[i]? = some (some d) := by
      cases h : ρ[i]? with
      | none => rw [h] at e; cases e
      | some o =>
        rw [h] at e
        cases o with
        | none => cases e
        | some d' => cases e; rfl
    obtain ⟨v, h1, h2⟩ := r.2 i d e2
    exact ⟨v, h1, f.here hl h2⟩
theorem s_const {e : Expr} {v : V} {d : D} (h : PE X e (tC v)) (hr : ∀ C H, Rep G C H v d) : PE X e (tE G fun _ => M.ret d) :=
  h.imp fun σ H Q ⟨C, st, ρ, d', st', hl, r, e, f⟩ => by
    replace e := ret_some e
    obtain ⟨rfl, rfl⟩ := e
    exact f.here hl (hr C H)
theorem s_nil : PA X [] (tA G fun _ => M.ret (.lst [])) := pa_nil.imp fun σ H Q ⟨C, st, ρ, ds, st', hl, r, e, f⟩ => by
  replace e := ret_some e
  obtain ⟨e, rfl⟩ := e
  cases e
  exact f [] H (Ext.refl C H) hl .nil
theorem s_cons {es : List Expr} (ha : PE X a (tE G ma)) (hr : PA X es (tA G mb)) (hs : starEach (a :: es) X.env = (false, eval a X.env) :: starEach es X.env) :
    PA X (a :: es) (tA G fun ρ => M.bnd (ma ρ) fun x => M.bnd (mb ρ) fun y => M.of ((unL y).map fun l => .lst (x :: l))) :=
  (pa_cons ha hr hs).imp fun σ H Q ⟨C, st, ρ, ds, st', hl, r, e, f⟩ => by
    replace e := bnd_some e
    obtain ⟨x, s1, e1, e⟩ := e
    replace e := bnd_some e
    obtain ⟨y, s2, e2, e⟩ := e
    replace e := of_some e
    obtain ⟨e, rfl⟩ := e
    rw [Option.map_eq_some_iff] at e
    obtain ⟨l, e3, e4⟩ := e
    cases e4
    cases y <;> first | (cases e3; done) | skip
    cases e3
    refine ⟨C, st, ρ, x, s1, hl, r, e1, fun v H1 x1 h1 r1 => ⟨C, s1, ρ, _, _, h1, r.ext hl x1, e2, fun vs H2 x2 h2 r2 => ?_⟩⟩
    exact f _ H2 (x1.trans x2) h2 (.cons (r1.ext h1 x2) r2)
theorem s_tup {es : List Expr} {k : Nat} (h : PA X es (tA G ma)) (hz : es.length ≤ 1000) (hn : ∀ ρ st ds st', ma ρ st = some (.lst ds, st') → ds.length = es.length) : PE X (.Tuple es k pos) (tE G fun ρ => M.bnd (ma ρ) fun y => M.of ((unL y).map .tup)) :=
  (pe_tupC h).imp fun σ H Q ⟨C, st, ρ, d, st', hl, r, e, f⟩ => by
    replace e := bnd_some e
    obtain ⟨y, s1, e1, e⟩ := e
    replace e := of_some e
    obtain ⟨e, rfl⟩ := e
    rw [Option.map_eq_some_iff] at e
    obtain ⟨l, e3, rfl⟩ := e
    cases y <;> first | (cases e3; done) | skip
    cases e3
    refine ⟨C, st, ρ, _, _, hl, r, e1, fun vs H1 x1 h1 r1 => ⟨?_, (f.ext x1).newT h1 r1⟩⟩
    rw [r1.length, hn _ _ _ _ e1]
    exact Nat.le_of_lt (small1000 hz)
theorem s_lst {es : List Expr} (h : PA X es (tA G ma)) (hz : es.length ≤ 1000) (hn : ∀ ρ st ds st', ma ρ st = some (.lst ds, st') → ds.length = es.length) (hn2 : ∀ ρ st d st', ma ρ st = some (d, st') → ∃ l, d = .lst l) : PE X (.List es pos) (tE G ma) :=
  (pe_lst h).imp fun σ H Q ⟨C, st, ρ, d, st', hl, r, e, f⟩ => by
    obtain ⟨l, rfl⟩ := hn2 _ _ _ _ e
    refine ⟨C, st, ρ, _, _, hl, r, e, fun vs H1 x1 h1 r1 => ⟨?_, (f.ext x1).newL h1 r1⟩⟩
    rw [r1.length, hn _ _ _ _ e]
    exact Nat.le_of_lt (small1000 hz)
theorem s_dic0 : PE X (.Dict [] [] pos) (tE G fun _ => M.ret (.dS [] [])) :=
  pe_dnewK.imp fun σ H Q ⟨C, st, ρ, d, st', hl, r, e, f⟩ => by
    replace e := ret_some e
    obtain ⟨rfl, rfl⟩ := e
    intro p hp
    exact f _ _ (Ext.new hp) (hl.new hp) (.dS (xs := []) upd_same (hl.notS hp) rfl .nil)
/-- two places and a rule -/
theorem two {r : R2} {g : D → D → Option D} (hg : ∀ {C st H Q v u x y d}, Held G C st H → Rep G C H v x → Rep G C H u y → g x y = some d → Fin G C st H Q d → r v u H Q) {σ : L2.St} {H : Hp} {Q : VK}
    (h : tE G (fun ρ => M.bnd (ma ρ) fun x => M.bnd (mb ρ) fun y => M.of (g x y)) σ H Q) : tOp r (tE G ma) (tE G mb) σ H Q := by
  obtain ⟨C, st, ρ, d, st', hl, rs, e, f⟩ := h
  replace e := bnd_some e
  obtain ⟨x, s1, e1, e⟩ := e
  replace e := bnd_some e
  obtain ⟨y, s2, e2, e⟩ := e
  replace e := of_some e
  obtain ⟨e, rfl⟩ := e
  refine ⟨C, st, ρ, x, s1, hl, rs, e1, fun v H1 x1 h1 r1 => ⟨C, s1, ρ, y, _, h1, rs.ext hl x1, e2, fun u H2 x2 h2 r2 => ?_⟩⟩
  exact hg h2 (r1.ext h1 x2) r2 e (f.ext (x1.trans x2))
theorem s_op {o : O2} (hK : X.K = G.K) (ha : PE X a (tE G ma)) (hb : PE X b (tE G mb)) : PE X (.BinOp a o.ast b pos) (tE G fun ρ => M.bnd (ma ρ) fun x => M.bnd (mb ρ) fun y => M.of (op2 o x y)) :=
  (pe_op (op_O2 o) ha hb).imp fun σ H Q h => by rw [hK]; exact two (fun h1 h2 h3 h4 h5 => o2_ok h1 h2 h3 h4 h5) h
theorem s_neg (ha : PE X a (tE G ma)) : PE X (.UnaryOp .USub a pos) (tE G fun ρ => M.bnd (ma ρ) fun x => M.of ((intOf x).map fun i => .int (-i))) :=
  (pe_un un_neg ha).imp fun σ H Q ⟨C, st, ρ, d, st', hl, rs, e, f⟩ => by
    replace e := bnd_some e
    obtain ⟨x, s1, e1, e⟩ := e
    replace e := of_some e
    obtain ⟨e, rfl⟩ := e
    rw [Option.map_eq_some_iff] at e
    obtain ⟨i, e3, rfl⟩ := e
    cases x <;> first | (cases e3; done) | skip
    cases e3
    refine ⟨C, st, ρ, _, _, hl, rs, e1, fun v H1 x1 h1 r1 => ?_⟩
    cases r1
    exact ⟨_, rfl, (f.ext x1).here h1 (.int _)⟩
theorem rep_non {C : Cn} {H : Hp} {v : V} {x : D} (r : Rep G C H v x) : decide (v = V.non) = (isNon x) := by
  cases r <;> simp [isNon]
theorem s_isN {j : Nat} {p2 : Pos} (ha : PE X a (tE G ma)) : PE X (.Compare a [.Is] [.Constant .none j p2] pos) (tE G fun ρ => M.bnd (ma ρ) fun x => M.ret (.bl (isNon x))) :=
  (pe_cmp (pc_isN ha)).imp fun σ H Q ⟨C, st, ρ, d, st', hl, rs, e, f⟩ => by
    replace e := bnd_some e
    obtain ⟨x, s1, e1, e⟩ := e
    replace e := ret_some e
    obtain ⟨rfl, rfl⟩ := e
    refine ⟨C, st, ρ, _, _, hl, rs, e1, fun v H1 x1 h1 r1 => ?_⟩
    show Q (.bl (decide (v = V.non))) H1
    rw [rep_non r1]
    exact (f.ext x1).here h1 (.bl _)
theorem s_isNt {j : Nat} {p2 : Pos} (ha : PE X a (tE G ma)) : PT X (.Compare a [.Is] [.Constant .none j p2] pos) (tB G fun ρ => M.bnd (ma ρ) fun x => M.ret (.bl (isNon x))) :=
  (pt_cmp (pc_isN ha)).imp fun σ H Q ⟨C, st, ρ, b, st', hl, rs, e, f⟩ => by
    replace e := bnd_some e
    obtain ⟨x, s1, e1, e⟩ := e
    replace e := ret_some e
    obtain ⟨e, rfl⟩ := e
    cases e
    refine ⟨C, st, ρ, _, _, hl, rs, e1, fun v H1 x1 h1 r1 => ⟨_, rfl, ?_⟩⟩
    rw [rep_non r1]
    exact f H1 x1 h1
theorem s_notN {j : Nat} {p2 : Pos} (ha : PE X a (tE G ma)) : PE X (.Compare a [.IsNot] [.Constant .none j p2] pos) (tE G fun ρ => M.bnd (ma ρ) fun x => M.ret (.bl (!isNon x))) :=
  (pe_cmp (pc_notN ha)).imp fun σ H Q ⟨C, st, ρ, d, st', hl, rs, e, f⟩ => by
    replace e := bnd_some e
    obtain ⟨x, s1, e1, e⟩ := e
    replace e := ret_some e
    obtain ⟨rfl, rfl⟩ := e
    refine ⟨C, st, ρ, _, _, hl, rs, e1, fun v H1 x1 h1 r1 => ?_⟩
    show Q (.bl (!decide (v = V.non))) H1
    rw [rep_non r1]
    exact (f.ext x1).here h1 (.bl _)
theorem s_notNt {j : Nat} {p2 : Pos} (ha : PE X a (tE G ma)) : PT X (.Compare a [.IsNot] [.Constant .none j p2] pos) (tB G fun ρ => M.bnd (ma ρ) fun x => M.ret (.bl (!isNon x))) :=
  (pt_cmp (pc_notN ha)).imp fun σ H Q ⟨C, st, ρ, b, st', hl, rs, e, f⟩ => by
    replace e := bnd_some e
    obtain ⟨x, s1, e1, e⟩ := e
    replace e := ret_some e
    obtain ⟨e, rfl⟩ := e
    cases e
    refine ⟨C, st, ρ, _, _, hl, rs, e1, fun v H1 x1 h1 r1 => ⟨_, rfl, ?_⟩⟩
    rw [rep_non r1]
    exact f H1 x1 h1
/-- comparing -/
theorem s_cmp {o : C2} (hK : X.K = G.K) (hw : X.w = G.w) (hu : X.A.units + 100 < cLine) (ha : PE X a (tE G ma)) (hb : PE X b (tE G mb)) (hm : behindInMarks o.ast b = false) :
    PE X (.Compare a [o.ast] [b] pos) (tE G fun ρ => M.bnd (ma ρ) fun x => M.bnd (mb ρ) fun y => M.of ((cmp2 G.tbl o x y).map .bl)) :=
  (pe_cmpR (op_C2 hu o) ha hb hm).imp fun σ H Q h => by
    rw [hK, hw]
    refine two (g := fun x y => (cmp2 G.tbl o x y).map D.bl) (fun {C st H Q v u x y d} h1 h2 h3 h4 h5 => ?_) h
    rw [Option.map_eq_some_iff] at h4
    obtain ⟨b, h4, rfl⟩ := h4
    exact c2_ok h1 h2 h3 h4 (h5.here h1 (.bl b))
theorem two_t {r : R2} {g : D → D → Option Bool} (hg : ∀ {C st H Q v u x y b}, Held G C st H → Rep G C H v x → Rep G C H u y → g x y = some b → Q (.bl b) H → r v u H Q) {σ : L2.St} {H : Hp} {Q : Bool → Hp → Prop}
    (h : tB G (fun ρ => M.bnd (ma ρ) fun x => M.bnd (mb ρ) fun y => M.of ((g x y).map .bl)) σ H Q) : tTest (tOp r (tE G ma) (tE G mb)) σ H Q := by
  obtain ⟨C, st, ρ, b, st', hl, rs, e, f⟩ := h
  replace e := bnd_some e
  obtain ⟨x, s1, e1, e⟩ := e
  replace e := bnd_some e
  obtain ⟨y, s2, e2, e⟩ := e
  replace e := of_some e
  obtain ⟨e, rfl⟩ := e
  rw [Option.map_eq_some_iff] at e
  obtain ⟨b', e, e'⟩ := e
  cases e'
  refine ⟨C, st, ρ, x, s1, hl, rs, e1, fun v H1 x1 h1 r1 => ⟨C, s1, ρ, y, _, h1, rs.ext hl x1, e2, fun u H2 x2 h2 r2 => ?_⟩⟩
  exact hg h2 (r1.ext h1 x2) r2 e ⟨b, rfl, f H2 (x1.trans x2) h2⟩
theorem s_cmpt {o : C2} (hK : X.K = G.K) (hw : X.w = G.w) (hu : X.A.units + 100 < cLine) (ha : PE X a (tE G ma)) (hb : PE X b (tE G mb)) (hm : behindInMarks o.ast b = false) :
    PT X (.Compare a [o.ast] [b] pos) (tB G fun ρ => M.bnd (ma ρ) fun x => M.bnd (mb ρ) fun y => M.of ((cmp2 G.tbl o x y).map .bl)) :=
  (pt_cmpR (op_C2 hu o) ha hb hm).imp fun σ H Q h => by
    rw [hK, hw]
    exact two_t (g := cmp2 G.tbl o) (fun h1 h2 h3 h4 h5 => c2_ok h1 h2 h3 h4 h5) h
/-- a chain -/
def mCh (G : Gm) (o p : C2) (ma mb mc : Ev → M D) : Ev → M D := fun ρ => M.bnd (ma ρ) fun x => M.bnd (mb ρ) fun y => M.bnd (M.of (cmp2 G.tbl o x y)) fun
    | false => M.ret (.bl false)
    | true => M.bnd (mc ρ) fun z => M.of ((cmp2 G.tbl p y z).map .bl)
theorem ch_ok {o p : C2} {σ : L2.St} {H : Hp} {Q : VK} (h : tE G (mCh G o p ma mb mc) σ H Q) : tChain (rC2 G.K G.w o) (rC2 G.K G.w p) (tE G ma) (tE G mb) (tE G mc) σ H Q := by
  obtain ⟨C, st, ρ, d, st', hl, rs, e, f⟩ := h
  replace e := bnd_some e
  obtain ⟨x, s1, e1, e⟩ := e
  replace e := bnd_some e
  obtain ⟨y, s2, e2, e⟩ := e
  replace e := bnd_some e
  obtain ⟨k, s3, e3, e⟩ := e
  replace e3 := of_some e3
  obtain ⟨e3, rfl⟩ := e3
  refine ⟨C, st, ρ, x, s1, hl, rs, e1, fun v H1 x1 h1 r1 => ⟨C, s1, ρ, y, _, h1, rs.ext hl x1, e2, fun u H2 x2 h2 r2 => ?_⟩⟩
  refine c2_ok h2 (r1.ext h1 x2) r2 e3 ⟨k, rfl, ?_⟩
  cases k with
  | false =>
    replace e := ret_some e
    obtain ⟨rfl, rfl⟩ := e
    rw [if_neg (by decide)]
    exact (f.ext (x1.trans x2)).here h2 (.bl _)
  | true =>
    replace e := bnd_some e
    obtain ⟨z, s4, e4, e⟩ := e
    replace e := of_some e
    obtain ⟨e, rfl⟩ := e
    rw [Option.map_eq_some_iff] at e
    obtain ⟨b', e, rfl⟩ := e
    rw [if_pos rfl]
    refine ⟨C, s3, ρ, z, _, h2, rs.ext hl (x1.trans x2), e4, fun w' H3 x3 h3 r3 => ?_⟩
    exact c2_ok h3 (r2.ext h2 x3) r3 e ((f.ext ((x1.trans x2).trans x3)).here h3 (.bl _))
theorem s_chain {o p : C2} (hK : X.K = G.K) (hw : X.w = G.w) (hu : X.A.units + 100 < cLine) (ha : PE X a (tE G ma)) (hb : PE X b (tE G mb)) (hc : PE X c (tE G mc)) (hm : lastMarks [o.ast, p.ast] [b, c] = false) :
    PE X (.Compare a [o.ast, p.ast] [b, c] pos) (tE G (mCh G o p ma mb mc)) :=
  (pe_chain (op_C2 hu o) (op_C2 hu p) ha hb hc hm).imp fun σ H Q h => by rw [hK, hw]; exact ch_ok h
theorem tB_tE {m : Ev → M D} {σ : L2.St} {H : Hp} {Q : Bool → Hp → Prop} (h : tB G m σ H Q) : tE G m σ H fun x H' => ∃ k, x = .bl k ∧ Q k H' := by
  obtain ⟨C, st, ρ, b, st', hl, rs, e, f⟩ := h
  refine ⟨C, st, ρ, _, _, hl, rs, e, fun v H1 x1 h1 r1 => ?_⟩
  cases r1
  exact ⟨b, rfl, f H1 x1 h1⟩
theorem s_chaint {o p : C2} (hK : X.K = G.K) (hw : X.w = G.w) (hu : X.A.units + 100 < cLine) (ha : PE X a (tE G ma)) (hb : PE X b (tE G mb)) (hc : PE X c (tE G mc)) (hm : lastMarks [o.ast, p.ast] [b, c] = false) :
    PT X (.Compare a [o.ast, p.ast] [b, c] pos) (tB G (mCh G o p ma mb mc)) :=
  (pt_chain (op_C2 hu o) (op_C2 hu p) ha hb hc hm).imp fun σ H Q h => by
    rw [hK, hw]
    exact ch_ok (tB_tE h)
/-- an expression of the plain kind as a test -/
theorem s_val {e : Expr} {m : Ev → M D} (h : PE X e (tE G m)) (he : ∀ whole, isTrue e X.env whole = (do let v ← whole; standAt e.pos; holding [v] (truthy v))) : PT X e (tB G m) :=
  (pt_val h he).imp fun σ H Q h => tB_tE h
/-- and, or, not -/
def mAnd (ma mb : Ev → M D) : Ev → M D := fun ρ => M.bnd (ma ρ) fun x => M.bnd (M.of (asBool x)) fun
    | false => M.ret (.bl false)
    | true => M.bnd (mb ρ) fun y => M.of ((asBool y).map .bl)
def mOr (ma mb : Ev → M D) : Ev → M D := fun ρ => M.bnd (ma ρ) fun x => M.bnd (M.of (asBool x)) fun
    | true => M.ret (.bl true)
    | false => M.bnd (mb ρ) fun y => M.of ((asBool y).map .bl)
theorem asBool_some {x : D} {k : Bool} (h : asBool x = some k) : x = .bl k := by
  cases x <;> first | (cases h; done) | (cases h; rfl)
theorem toB {m : Ev → M D} {ρ : Ev} {st : Cup} {d : D} {st' : Cup} (h : M.bnd (m ρ) (fun y => M.of ((asBool y).map .bl)) st = some (d, st')) : m ρ st = some (d, st') ∧ ∃ b, d = .bl b := by
  replace h := bnd_some h
  obtain ⟨y, s1, e1, e⟩ := h
  replace e := of_some e
  obtain ⟨e, rfl⟩ := e
  rw [Option.map_eq_some_iff] at e
  obtain ⟨b, e, rfl⟩ := e
  rw [asBool_some e] at e1
  exact ⟨e1, b, rfl⟩
theorem s_and {rest : List Expr} (ha : PE X a (tE G ma)) (hb : PE X (.BoolOp .And (b :: rest) pos) (tE G mb)) : PE X (.BoolOp .And (a :: b :: rest) pos) (tE G (mAnd ma mb)) :=
  (pe_and ha hb).imp fun σ H Q ⟨C, st, ρ, d, st', hl, rs, e, f⟩ => by
    replace e := bnd_some e
    obtain ⟨x, s1, e1, e⟩ := e
    replace e := bnd_some e
    obtain ⟨k, s2, e2, e⟩ := e
    replace e2 := of_some e2
    obtain ⟨e2, rfl⟩ := e2
    rw [asBool_some e2] at e1
    refine ⟨C, st, ρ, _, _, hl, rs, e1, fun v H1 x1 h1 r1 => ?_⟩
    cases r1
    refine ⟨k, rfl, ?_⟩
    cases k with
    | false =>
      replace e := ret_some e
      obtain ⟨rfl, rfl⟩ := e
      rw [if_neg (by decide)]
      exact (f.ext x1).here h1 (.bl _)
    | true =>
      rw [if_pos rfl]
      exact ⟨C, _, ρ, d, st', h1, rs.ext hl x1, (toB e).1, f.ext x1⟩
theorem s_or {rest : List Expr} (ha : PE X a (tE G ma)) (hb : PE X (.BoolOp .Or (b :: rest) pos) (tE G mb)) : PE X (.BoolOp .Or (a :: b :: rest) pos) (tE G (mOr ma mb)) :=
  (pe_or ha hb).imp fun σ H Q ⟨C, st, ρ, d, st', hl, rs, e, f⟩ => by
    replace e := bnd_some e
    obtain ⟨x, s1, e1, e⟩ := e
    replace e := bnd_some e
    obtain ⟨k, s2, e2, e⟩ := e
    replace e2 := of_some e2
    obtain ⟨e2, rfl⟩ := e2
    rw [asBool_some e2] at e1
    refine ⟨C, st, ρ, _, _, hl, rs, e1, fun v H1 x1 h1 r1 => ?_⟩
    cases r1
    refine ⟨k, rfl, ?_⟩
    cases k with
    | true =>
      replace e := ret_some e
      obtain ⟨rfl, rfl⟩ := e
      rw [if_pos rfl]
      exact (f.ext x1).here h1 (.bl _)
    | false =>
      rw [if_neg (by decide)]
      exact ⟨C, _, ρ, d, st', h1, rs.ext hl x1, (toB e).1, f.ext x1⟩
theorem s_andt {rest : List Expr} (ha : PT X a (tB G ma)) (hb : PW X (.BoolOp .And (b :: rest) pos) (tB G mb)) : PW X (.BoolOp .And (a :: b :: rest) pos) (tB G (mAnd ma mb)) :=
  (pw_and ha hb).imp fun σ H Q ⟨C, st, ρ, d, st', hl, rs, e, f⟩ => by
    replace e := bnd_some e
    obtain ⟨x, s1, e1, e⟩ := e
    replace e := bnd_some e
    obtain ⟨k, s2, e2, e⟩ := e
    replace e2 := of_some e2
    obtain ⟨e2, rfl⟩ := e2
    rw [asBool_some e2] at e1
    refine ⟨C, st, ρ, k, _, hl, rs, e1, fun H1 x1 h1 => ?_⟩
    cases k with
    | false =>
      replace e := ret_some e
      obtain ⟨e, rfl⟩ := e
      cases e
      rw [if_neg (by decide)]
      exact f H1 x1 h1
    | true =>
      rw [if_pos rfl]
      exact ⟨C, _, ρ, d, st', h1, rs.ext hl x1, (toB e).1, fun H2 x2 h2 => f H2 (x1.trans x2) h2⟩
theorem s_ort {rest : List Expr} (ha : PT X a (tB G ma)) (hb : PW X (.BoolOp .Or (b :: rest) pos) (tB G mb)) : PW X (.BoolOp .Or (a :: b :: rest) pos) (tB G (mOr ma mb)) :=
  (pw_or ha hb).imp fun σ H Q ⟨C, st, ρ, d, st', hl, rs, e, f⟩ => by
    replace e := bnd_some e
    obtain ⟨x, s1, e1, e⟩ := e
    replace e := bnd_some e
    obtain ⟨k, s2, e2, e⟩ := e
    replace e2 := of_some e2
    obtain ⟨e2, rfl⟩ := e2
    rw [asBool_some e2] at e1
    refine ⟨C, st, ρ, k, _, hl, rs, e1, fun H1 x1 h1 => ?_⟩
    cases k with
    | true =>
      replace e := ret_some e
      obtain ⟨e, rfl⟩ := e
      cases e
      rw [if_pos rfl]
      exact f H1 x1 h1
    | false =>
      rw [if_neg (by decide)]
      exact ⟨C, _, ρ, d, st', h1, rs.ext hl x1, (toB e).1, fun H2 x2 h2 => f H2 (x1.trans x2) h2⟩
theorem s_not (ha : PE X a (tE G ma)) : PE X (.UnaryOp .Not a pos) (tE G fun ρ => M.bnd (ma ρ) fun x => M.of ((asBool x).map fun b => .bl (!b))) :=
  (pe_not ha).imp fun σ H Q ⟨C, st, ρ, d, st', hl, rs, e, f⟩ => by
    replace e := bnd_some e
    obtain ⟨x, s1, e1, e⟩ := e
    replace e := of_some e
    obtain ⟨e, rfl⟩ := e
    rw [Option.map_eq_some_iff] at e
    obtain ⟨k, e2, rfl⟩ := e
    rw [asBool_some e2] at e1
    refine ⟨C, st, ρ, _, _, hl, rs, e1, fun v H1 x1 h1 r1 => ?_⟩
    cases r1
    exact ⟨k, rfl, (f.ext x1).here h1 (.bl _)⟩
theorem s_nott (ha : PT X a (tB G ma)) : PT X (.UnaryOp .Not a pos) (tB G fun ρ => M.bnd (ma ρ) fun x => M.of ((asBool x).map fun b => .bl (!b))) :=
  (pt_not ha).imp fun σ H Q ⟨C, st, ρ, d, st', hl, rs, e, f⟩ => by
    replace e := bnd_some e
    obtain ⟨x, s1, e1, e⟩ := e
    replace e := of_some e
    obtain ⟨e, rfl⟩ := e
    rw [Option.map_eq_some_iff] at e
    obtain ⟨k, e2, e3⟩ := e
    cases e3
    rw [asBool_some e2] at e1
    exact ⟨C, st, ρ, k, _, hl, rs, e1, fun H1 x1 h1 => f H1 x1 h1⟩
theorem s_ite (hc : PT X c (tB G mc)) (ha : PE X a (tE G ma)) (hb : PE X b (tE G mb)) : PE X (.IfExp c a b pos) (tE G fun ρ => M.bnd (mc ρ) fun x => M.bnd (M.of (asBool x)) fun
    | true => ma ρ
    | false => mb ρ) :=
  (pe_ifExp hc ha hb).imp fun σ H Q ⟨C, st, ρ, d, st', hl, rs, e, f⟩ => by
    replace e := bnd_some e
    obtain ⟨x, s1, e1, e⟩ := e
    replace e := bnd_some e
    obtain ⟨k, s2, e2, e⟩ := e
    replace e2 := of_some e2
    obtain ⟨e2, rfl⟩ := e2
    rw [asBool_some e2] at e1
    refine ⟨C, st, ρ, k, _, hl, rs, e1, fun H1 x1 h1 => ?_⟩
    cases k with
    | true =>
      rw [if_pos rfl]
      exact ⟨C, _, ρ, d, st', h1, rs.ext hl x1, e, f.ext x1⟩
    | false =>
      rw [if_neg (by decide)]
      exact ⟨C, _, ρ, d, st', h1, rs.ext hl x1, e, f.ext x1⟩
theorem s_ix (hK : X.K = G.K) (hw : X.w = G.w) (hu : X.A.units + 100 < cLine) (ha : PE X a (tE G ma)) (hb : PE X b (tE G mb)) (hs : PlainIx b) :
    PE X (.Subscript a b pos) (tE G fun ρ => M.bnd (ma ρ) fun x => M.bnd (mb ρ) fun y => M.of (ixD G.tbl x y)) :=
  (pe_ix (ix_any (by omega)) ha hb hs).imp fun σ H Q h => by rw [hK, hw]; exact two (fun h1 h2 h3 h4 h5 => ix_ok h1 h2 h3 h4 h5) h
/-- a slice's part -/
def tP (G : Gm) (t : Tm) (m : Ev → M D) : TO := fun σ H Q => ∃ C st ρ o st', Held G C st H ∧ RepS G C H σ ρ ∧ M.bnd (m ρ) (fun y => M.of (partOf t y)) st = some (o, st') ∧ ∀ H', Ext C H H' → Held G C st' H' → Q o H'
theorem _root_.L2.PO.imp {e : Option Expr} {t t' : TO} (h : PO X e t) (i : ∀ σ H Q, t' σ H Q → t σ H Q) : PO X e t' := ⟨fun pins s σ H Q I q => h.run pins s σ H Q I (i σ H Q q)⟩
theorem s_noPart : PO X none (tP G .nil fun _ => M.ret (.lst [])) := PO.imp po_none fun σ H Q ⟨C, st, ρ, o, st', hl, rs, e, f⟩ => by
  replace e := bnd_some e
  obtain ⟨y, s1, e1, e⟩ := e
  replace e1 := ret_some e1
  obtain ⟨rfl, rfl⟩ := e1
  replace e := of_some e
  obtain ⟨e, rfl⟩ := e
  cases e
  exact f H (Ext.refl C H) hl
theorem partOf_int {t : Tm} {y : D} {o : Option Int} (ht : t ≠ .nil) (h : partOf t y = some o) : ∃ i, y = .int i ∧ o = some i := by
  unfold partOf at h
  split at h
  · exact absurd rfl ht
  · cases h; exact ⟨_, rfl, rfl⟩
  · cases h
theorem s_part {t : Tm} (ht : t ≠ .nil) (ha : PE X a (tE G ma)) : PO X (some a) (tP G t ma) := PO.imp (po_some ha) fun σ H Q ⟨C, st, ρ, o, st', hl, rs, e, f⟩ => by
  replace e := bnd_some e
  obtain ⟨y, s1, e1, e⟩ := e
  replace e := of_some e
  obtain ⟨e, rfl⟩ := e
  obtain ⟨i, rfl, rfl⟩ := partOf_int ht e
  refine ⟨C, st, ρ, _, _, hl, rs, e1, fun v H1 x1 h1 r1 => ?_⟩
  cases r1
  exact ⟨i, rfl, f H1 x1 h1⟩
theorem s_sl {lo hi : Option Expr} {tl th : Tm} {ml mh : Ev → M D} {p2 : Pos} (hK : X.K = G.K) (ha : PE X a (tE G ma)) (hlo : PO X lo (tP G tl ml)) (hhi : PO X hi (tP G th mh)) :
    PE X (.Subscript a (.Slice lo hi none p2) pos) (tE G fun ρ => M.bnd (ma ρ) fun x => M.bnd (ml ρ) fun y => M.bnd (M.of (partOf tl y)) fun l => M.bnd (mh ρ) fun z => M.bnd (M.of (partOf th z)) fun h => M.of (slD x l h)) :=
  (pe_slice sl_any ha hlo hhi).imp fun σ H Q ⟨C, st, ρ, d, st', hl, rs, e, f⟩ => by
    replace e := bnd_some e
    obtain ⟨x, s1, e1, e⟩ := e
    replace e := bnd_some e
    obtain ⟨y, s2, e2, e⟩ := e
    replace e := bnd_some e
    obtain ⟨l, s3, e3, e⟩ := e
    replace e := bnd_some e
    obtain ⟨z, s4, e4, e⟩ := e
    replace e := bnd_some e
    obtain ⟨u, s5, e5, e⟩ := e
    replace e := of_some e
    obtain ⟨e, rfl⟩ := e
    refine ⟨C, st, ρ, _, _, hl, rs, e1, fun v H1 x1 h1 r1 => ?_⟩
    refine ⟨C, s1, ρ, l, s3, h1, rs.ext hl x1, (by unfold M.bnd; rw [e2]; exact e3), fun H2 x2 h2 => ?_⟩
    refine ⟨C, s3, ρ, u, _, h2, rs.ext hl (x1.trans x2), (by unfold M.bnd; rw [e4]; exact e5), fun H3 x3 h3 => ?_⟩
    rw [hK]
    exact sl_ok h3 (r1.ext h1 (x2.trans x3)) e (f.ext ((x1.trans x2).trans x3))
/-- a built-in called by its name -/
theorem s_pr {p : Pr} {n : String} {bk : Bk} {es : List Expr} {q : Pos} {e0 : Expr} (hK : X.K = G.K) (hc : X.calm = true) (hp : p.callee = some (n, bk)) (hg : Gl X (Str.ofString n)) (hm : X.mg (Str.ofString n) = none) (hv : bootBuiltins (Str.ofString n) = some bk.val)
    (hn : Str.ofString n ≠ "__name__") (hdb : (Str.ofString n == ("__debug__" : Str)) = false) (ha : PA X (e0 :: es) (tA G ma))
    (he : starEach (e0 :: es) X.env = (false, eval e0 X.env) :: starEach es X.env) (hpl : (backTo pos (starEach es X.env)).any (·.1) = false) :
    PE X (.Call (.Name (Str.ofString n) q) (e0 :: es) [] pos) (tE G fun ρ => M.bnd (ma ρ) fun y => M.of ((unL y).bind fun l => prD G.tbl p l)) := by
  have h : PE X (.Call (.Name (Str.ofString n) q) (e0 :: es) [] pos) (tCB (rPr X.K p) (tA G ma)) := by
    cases bk with
    | b id => exact pe_callB (call_Pr hc p hp) hg hm hv ha hn hdb he hpl
    | t id => exact pe_callTy (call_Pr hc p hp) hg hm hv ha hn hdb he hpl
  refine h.imp fun σ H Q ⟨C, st, ρ, d, st', hl, rs, e, f⟩ => ?_
  replace e := bnd_some e
  obtain ⟨y, s1, e1, e⟩ := e
  replace e := of_some e
  obtain ⟨e, rfl⟩ := e
  rw [Option.bind_eq_some_iff] at e
  obtain ⟨l, e2, e⟩ := e
  cases y <;> first | (cases e2; done) | skip
  cases e2
  refine ⟨C, st, ρ, _, _, hl, rs, e1, fun vs H1 x1 h1 r1 => ?_⟩
  rw [hK]
  exact pr_ok hp h1 r1 e (f.ext x1)
end
end N57
end
section
set_option maxRecDepth 100000
set_option maxHeartbeats 1000000
namespace N57
open PySem PySem.Spec PyProof.Rows L2

/-! ### other sets of shunned addresses -/
/-- C2 shuns more: what C shuns, and things not tracked at H -/
structure Over (C C2 : Cn) (H : Hp) : Prop where
  c : C2.c = C.c
  m : C2.m = C.m
  sub : ∀ a, C.S a → C2.S a
  new : ∀ a, C2.S a → C.S a ∨ H a = none
theorem Over.refl (C : Cn) (H : Hp) : Over C C H := ⟨rfl, rfl, fun _ h => h, fun _ h => .inl h⟩
theorem Over.ext {C C2 : Cn} {H H' : Hp} (o : Over C C2 H) : Ext C2 H H' ↔ Ext C H H' := by unfold Ext; rw [o.m]
section
variable {G : Gm} {C C2 : Cn} {H : Hp}
mutual
theorem Rep.over (o : Over C C2 H) : ∀ (d : D) (v : V), Rep G C H v d → Rep G C2 H v d
  | .non, _, h => by cases h; exact .non
  | .bl b, _, h => by cases h; exact .bl b
  | .int i, _, h => by cases h; exact .int i
  | .str x, _, h => by cases h; exact .str x
  | .tup ds, _, h => by
    cases h with
    | tup h1 h2 h3 => exact .tup h1 (fun z => (o.new _ z).elim h2 fun e => by obtain ⟨q, hq⟩ := h1.there; rw [hq] at e; cases e) (RepL.over o ds _ h3)
  | .lst ds, _, h => by
    cases h with
    | lst h1 h2 h3 => exact .lst h1 (fun z => (o.new _ z).elim h2 fun e => by rw [h1] at e; cases e) (RepL.over o ds _ h3)
  | .dS ks ds, _, h => by
    cases h with
    | dS h1 h2 h3 h4 => exact .dS h1 (fun z => (o.new _ z).elim h2 fun e => by rw [h1] at e; cases e) h3 (RepL.over o ds _ h4)
  | .dP ks ds, _, h => by
    cases h with
    | dP h1 h2 h3 h4 => exact .dP h1 (fun z => (o.new _ z).elim h2 fun e => by rw [h1] at e; cases e) h3 (RepL.over o ds _ h4)
  | .wt l, _, h => by cases h with | wt h1 => exact .wt h1
  | .wd n, _, h => by cases h with | wd h1 => exact .wd h1
  | .cup, _, h => by cases h with | cup h1 => exact .cup (by rw [o.c]; exact h1)
theorem RepL.over (o : Over C C2 H) : ∀ (ds : List D) (vs : List V), RepL G C H vs ds → RepL G C2 H vs ds
  | [], _, h => by cases h; exact .nil
  | d :: ds, _, h => by
    cases h with
    | cons h1 h2 => exact .cons (Rep.over o d _ h1) (RepL.over o ds _ h2)
end
mutual
/-- shunning less -/
theorem Rep.less (hc : C2.c = C.c) (sub : ∀ a, C.S a → C2.S a) : ∀ (d : D) (v : V), Rep G C2 H v d → Rep G C H v d
  | .non, _, h => by cases h; exact .non
  | .bl b, _, h => by cases h; exact .bl b
  | .int i, _, h => by cases h; exact .int i
  | .str x, _, h => by cases h; exact .str x
  | .tup ds, _, h => by
    cases h with
    | tup h1 h2 h3 => exact .tup h1 (fun z => h2 (sub _ z)) (RepL.less hc sub ds _ h3)
  | .lst ds, _, h => by
    cases h with
    | lst h1 h2 h3 => exact .lst h1 (fun z => h2 (sub _ z)) (RepL.less hc sub ds _ h3)
  | .dS ks ds, _, h => by
    cases h with
    | dS h1 h2 h3 h4 => exact .dS h1 (fun z => h2 (sub _ z)) h3 (RepL.less hc sub ds _ h4)
  | .dP ks ds, _, h => by
    cases h with
    | dP h1 h2 h3 h4 => exact .dP h1 (fun z => h2 (sub _ z)) h3 (RepL.less hc sub ds _ h4)
  | .wt l, _, h => by cases h with | wt h1 => exact .wt h1
  | .wd n, _, h => by cases h with | wd h1 => exact .wd h1
  | .cup, _, h => by cases h with | cup h1 => exact .cup (by rw [← hc]; exact h1)
theorem RepL.less (hc : C2.c = C.c) (sub : ∀ a, C.S a → C2.S a) : ∀ (ds : List D) (vs : List V), RepL G C2 H vs ds → RepL G C H vs ds
  | [], _, h => by cases h; exact .nil
  | d :: ds, _, h => by
    cases h with
    | cons h1 h2 => exact .cons (Rep.less hc sub d _ h1) (RepL.less hc sub ds _ h2)
end
variable {p : Addr} {o : HO}
mutual
/-- a shunned object is written -/
theorem Rep.put (hp : C.S p) : ∀ (d : D) (v : V), Rep G C H v d → Rep G C (upd H p o) v d
  | .non, _, h => by cases h; exact .non
  | .bl b, _, h => by cases h; exact .bl b
  | .int i, _, h => by cases h; exact .int i
  | .str x, _, h => by cases h; exact .str x
  | .tup ds, _, h => by
    cases h with
    | tup h1 h2 h3 => exact .tup (h1.mono fun q _ hq => (upd_ne (show _ ≠ p from fun z => h2 (by rw [z]; exact hp))).trans hq) h2 (RepL.put hp ds _ h3)
  | .lst ds, _, h => by
    cases h with
    | lst h1 h2 h3 => exact .lst ((upd_ne (show _ ≠ p from fun z => h2 (by rw [z]; exact hp))).trans h1) h2 (RepL.put hp ds _ h3)
  | .dS ks ds, _, h => by
    cases h with
    | dS h1 h2 h3 h4 => exact .dS ((upd_ne (show _ ≠ p from fun z => h2 (by rw [z]; exact hp))).trans h1) h2 h3 (RepL.put hp ds _ h4)
  | .dP ks ds, _, h => by
    cases h with
    | dP h1 h2 h3 h4 => exact .dP ((upd_ne (show _ ≠ p from fun z => h2 (by rw [z]; exact hp))).trans h1) h2 h3 (RepL.put hp ds _ h4)
  | .wt l, _, h => by cases h with | wt h1 => exact .wt h1
  | .wd n, _, h => by cases h with | wd h1 => exact .wd h1
  | .cup, _, h => by cases h with | cup h1 => exact .cup h1
theorem RepL.put (hp : C.S p) : ∀ (ds : List D) (vs : List V), RepL G C H vs ds → RepL G C (upd H p o) vs ds
  | [], _, h => by cases h; exact .nil
  | d :: ds, _, h => by
    cases h with
    | cons h1 h2 => exact .cons (Rep.put hp d _ h1) (RepL.put hp ds _ h2)
end
end
/-- one more address is shunned -/
def Cn.and (C : Cn) (p : Addr) : Cn := ⟨fun a => C.S a ∨ a = p, C.m, C.c⟩
theorem Cn.and_over {C : Cn} {H : Hp} {p : Addr} (hp : H p = none) : Over C (C.and p) H := ⟨rfl, rfl, fun _ h => .inl h, fun a h => h.elim .inl fun e => .inr (e ▸ hp)⟩
theorem Held.and {G : Gm} {C : Cn} {st : Cup} {H : Hp} {p : Addr} {o : HO} (h : Held G C st H) (hp : H p = some o) (n : NT o := by exact fun _ z => nomatch z) : Held G (C.and p) st H :=
  ⟨fun a ha => ha.elim (h.trk a) fun e => .inl ⟨o, by rw [e]; exact hp, n⟩, fun a ha => .inl (h.ms a ha), h.cup, h.tabs⟩
theorem Held.unand {G : Gm} {C : Cn} {st : Cup} {H : Hp} {p : Addr} (h : Held G (C.and p) st H) (h0 : ∀ a, C.m a → C.S a) : Held G C st H := ⟨fun a ha => h.trk a (.inl ha), h0, h.cup, h.tabs⟩
theorem nc_lst {xs : List V} : ∀ c q, HO.lst xs ≠ LamX.CodeO c q := fun c q z => by unfold LamX.CodeO at z; cases z
theorem nc_dK {xs : List (Key × V)} : ∀ c q, HO.dK xs ≠ LamX.CodeO c q := fun c q z => by unfold LamX.CodeO at z; cases z
/-- an object that is not mutable in this sense is written -/
theorem Held.put {G : Gm} {C : Cn} {st : Cup} {H : Hp} {p : Addr} {o o0 : HO} (h : Held G C st H) (hp : ¬ C.m p) (h0 : H p = some o0) (nc : ∀ c q, o0 ≠ LamX.CodeO c q) (n : NT o) : Held G C st (upd H p o) := by
  refine ⟨fun a ha => ?_, h.ms, fun a ha => ?_, fun q hq => ?_⟩
  · by_cases z : a = p
    · exact .inl ⟨o, by rw [z, upd_same], n⟩
    · exact (h.trk a ha).imp (fun ⟨u, e, k⟩ => ⟨u, by rw [upd_ne z]; exact e, k⟩) id
  · obtain ⟨a1, a2, a3⟩ := h.cup a ha
    exact ⟨a1, by rw [upd_ne (show a ≠ p from fun z => hp (by rw [← z]; exact a1))]; exact a2, a3⟩
  · obtain ⟨a1, ps, a2, a3, a4⟩ := h.tabs q hq
    refine ⟨a1, ps, by rw [upd_ne (show q.1 ≠ p from fun z => hp (by rw [← z]; exact a1))]; exact a2, a3, fun pos cv hcv => ?_⟩
    obtain ⟨c, e1, e2⟩ := a4 pos cv hcv
    refine ⟨c, e1, ?_⟩
    rw [upd_ne (show c ≠ p from fun z => by rw [z, h0] at e2; exact nc _ _ (Option.some.inj e2))]
    exact e2
theorem RepS.over {G : Gm} {C C2 : Cn} {H : Hp} {σ : L2.St} {ρ : Ev} (r : RepS G C H σ ρ) (o : Over C C2 H) : RepS G C2 H σ ρ := ⟨r.1, fun i d h => by
  obtain ⟨v, h1, h2⟩ := r.2 i d h
  exact ⟨v, h1, Rep.over o d v h2⟩⟩

/-! ### what is walked -/
def Wlk (G : Gm) (C : Cn) (J : It) (its : List D) (H1 : Hp) : Prop := ∀ (C2 : Cn) (st : Cup) (H : Hp), Over C C2 H1 → Ext C2 H1 H → Held G C2 st H →
  J.stop its.length H ∧ ∀ (i : Nat) (d : D), its[i]? = some d → J.go i H ∧ ∀ x H', J.yld i H x H' → Ext C2 H H' ∧ Held G C2 st H' ∧ Rep G C2 H' x d
def tI (G : Gm) (k : IK) (ma mb : Ev → M D) : TI := fun σ H R => ∃ C st ρ its st', Held G C st H ∧ RepS G C H σ ρ ∧ (M.bnd (ma ρ) fun x => M.bnd (mb ρ) fun y => M.of (itD k x y)) st = some (its, st') ∧
  ∀ J H', Ext C H H' → Held G C st' H' → Wlk G C J its H' → R J H'
theorem _root_.L2.PI.imp {X : Cx} {tg iter : Expr} {t t' : TI} (h : PI X tg iter t) (i : ∀ σ H R, t' σ H R → t σ H R) : PI X tg iter t' := ⟨fun pins s σ H R I q => h.run pins s σ H R I (i σ H R q)⟩
section
variable {G : Gm} {C C2 : Cn} {H H1 : Hp} {st : Cup}
theorem carry {v : V} {d : D} (o : Over C C2 H1) (x : Ext C2 H1 H) (h : Held G C2 st H) (r : Rep G C H1 v d) : Rep G C2 H v d := Rep.extC h.cS x d v (Rep.over o d v r)
theorem carryL {v : List V} {d : List D} (o : Over C C2 H1) (x : Ext C2 H1 H) (h : Held G C2 st H) (r : RepL G C H1 v d) : RepL G C2 H v d := RepL.extC h.cS x d v (RepL.over o d v r)
theorem sqL_at {a : Addr} {xs ys : List V} (e : H a = some (.lst xs)) (h : SqL G.K H a ys) (hk : G.K.lookup a = none) : ys = xs := by
  rcases h with h | ⟨o, _, _, h, _⟩
  · rcases h with h | ⟨o, h⟩
    · rw [e] at h; cases h; rfl
    · rw [e] at h; cases h
  · rw [hk] at h; cases h
theorem wlk_list {a : Addr} {xs : List V} {ds : List D} (e : H1 a = some (.lst xs)) (hc : ¬ C.m a) (r : RepL G C H1 xs ds) : Wlk G C (Itl G.K a) ds H1 := by
  intro C2 st2 H o x h
  have e2 : H a = some (.lst xs) := x a _ (by rw [o.m]; exact hc) (fun _ z => nomatch z) e
  have r2 := carryL o x h r
  refine ⟨⟨xs, SqL.of e2, by rw [r.length]; exact Nat.le_refl _⟩, fun i d hd => ?_⟩
  obtain ⟨v, h1, h2⟩ := r2.get hd
  refine ⟨⟨xs, v, SqL.of e2, h1⟩, fun y H' hy => ?_⟩
  obtain ⟨rfl, hy⟩ := hy
  have := hy xs (SqL.of e2)
  rw [h1] at this; cases this
  exact ⟨Ext.refl _ _, h, h2⟩
theorem wlk_tup {a : Addr} {xs : List V} {ds : List D} (e : TupAt H1 a xs ds) (hc : ¬ C.m a) (r : RepL G C H1 xs ds) : Wlk G C (Itt G.K a) ds H1 := by
  intro C2 st2 H o x h
  have e2 : TupAt H a xs ds := e.mono fun q n hq => x a _ (by rw [o.m]; exact hc) n hq
  have r2 := carryL o x h r
  refine ⟨⟨xs, e2.sq, by rw [r.length]; exact Nat.le_refl _⟩, fun i d hd => ?_⟩
  obtain ⟨v, h1, h2⟩ := r2.get hd
  refine ⟨⟨xs, v, e2.sq, h1⟩, fun y H' hy => ?_⟩
  obtain ⟨rfl, hy⟩ := hy
  have := hy xs e2.sq
  rw [h1] at this; cases this
  exact ⟨Ext.refl _ _, h, h2⟩
theorem wlk_str {w : Wd} : Wlk G C (Its (toS w)) (w.map fun c => .str [c]) H1 := by
  intro C2 st2 H o x h
  refine ⟨?_, fun i d hd => ?_⟩
  · show (toS w).cps.size ≤ _
    simp [toS]
  · rw [List.getElem?_map, Option.map_eq_some_iff] at hd
    obtain ⟨c, hc, rfl⟩ := hd
    have hi : i < w.length := (List.getElem?_eq_some_iff.mp hc).1
    refine ⟨?_, fun y H' hy => ?_⟩
    · show i < (toS w).cps.size
      simpa [toS] using hi
    · obtain ⟨rfl, c', h1, rfl⟩ := hy
      have : c' = c := by
        have h2 : w[i]? = some c' := by simpa [toS] using h1
        rw [hc] at h2; cases h2; rfl
      subst this
      exact ⟨Ext.refl _ _, h, .str [c']⟩
theorem enumD_get : ∀ (l : List D) (n i : Nat), (enumD n l)[i]? = (l[i]?).map fun d => .tup [.int ((n + i : Nat) : Int), d]
  | [], _, _ => by simp [enumD]
  | x :: l, n, 0 => by simp [enumD]
  | x :: l, n, i + 1 => by
    simp only [enumD, List.getElem?_cons_succ]
    rw [enumD_get l (n + 1) i]
    have : n + 1 + i = n + (i + 1) := by omega
    rw [this]
theorem enumD_len : ∀ (l : List D) (n : Nat), (enumD n l).length = l.length
  | [], _ => rfl
  | x :: l, n => by simp [enumD, enumD_len l (n + 1)]
theorem wlk_enum {a : Addr} {xs : List V} {ds : List D} (e : H1 a = some (.lst xs)) (hc : ¬ C.m a) (r : RepL G C H1 xs ds) : Wlk G C (Ite G.K a) (enumD 0 ds) H1 := by
  intro C2 st2 H o x h
  have e2 : H a = some (.lst xs) := x a _ (by rw [o.m]; exact hc) (fun _ z => nomatch z) e
  have r2 := carryL o x h r
  refine ⟨⟨xs, SqL.of e2, by rw [r.length, enumD_len]; exact Nat.le_refl _⟩, fun i d hd => ?_⟩
  rw [enumD_get, Option.map_eq_some_iff] at hd
  obtain ⟨d', hd, rfl⟩ := hd
  obtain ⟨v, h1, h2⟩ := r2.get hd
  refine ⟨⟨xs, v, SqL.of e2, h1⟩, fun y H' hy => ?_⟩
  obtain ⟨T, z, rfl, hT, rfl, hy⟩ := hy
  have := hy xs (SqL.of e2)
  rw [h1] at this; cases this
  have xT : Ext C2 H (upd H T (.tup [.int (i : Nat), v])) := Ext.new hT
  refine ⟨xT, h.new hT, .tup (.of rfl upd_same) (h.notS hT) (.cons ?_ (.one (Rep.extC h.cS xT _ _ h2)))⟩
  rw [Nat.zero_add]; exact .int _
theorem wlk_zipT {a b : Addr} {xs ys : List V} {ds es : List D} (hl : Held G C st H1) (ha : ∀ C2 st H, Over C C2 H1 → Ext C2 H1 H → Held G C2 st H → SqT G.K H a xs ∧ RepL G C2 H xs ds) (hb : ∀ C2 st H, Over C C2 H1 → Ext C2 H1 H → Held G C2 st H → SqT G.K H b ys ∧ RepL G C2 H ys es) (hns : ∀ p ∈ ds.zip es, isSto [p.1, p.2] = false) :
    Wlk G C (RZ.ItzT G.K a b) ((ds.zip es).map fun p => .tup [p.1, p.2]) H1 := by
  intro C2 st2 H o x h
  obtain ⟨a1, a2⟩ := ha C2 st2 H o x h
  obtain ⟨b1, b2⟩ := hb C2 st2 H o x h
  refine ⟨⟨xs, ys, a1, b1, ?_⟩, fun i d hd => ?_⟩
  · rw [List.length_map, List.length_zip, a2.length, b2.length]; omega
  · rw [List.getElem?_map, Option.map_eq_some_iff] at hd
    obtain ⟨p, hp, rfl⟩ := hd
    have hmem := hns p (List.mem_of_getElem? hp)
    rw [List.getElem?_zip_eq_some] at hp
    obtain ⟨v, h1, h2⟩ := a2.get hp.1
    obtain ⟨u, h3, h4⟩ := b2.get hp.2
    refine ⟨⟨xs, ys, v, u, a1, b1, h1, h3⟩, fun y H' hy => ?_⟩
    obtain ⟨T, z, z', rfl, hT, rfl, hy, hy'⟩ := hy
    have q1 := hy xs a1
    have q2 := hy' ys b1
    rw [h1] at q1; cases q1
    rw [h3] at q2; cases q2
    have xT : Ext C2 H (upd H T (.tup [v, u])) := Ext.new hT
    exact ⟨xT, h.new hT, .tup (.of hmem upd_same) (h.notS hT) (.cons (Rep.extC h.cS xT _ _ h2) (.one (Rep.extC h.cS xT _ _ h4)))⟩
theorem wlk_rng {n : Nat} : Wlk G C (Itr 0 n) ((List.range n).map fun (i : Nat) => .int i) H1 := by
  intro C2 st2 H o x h
  refine ⟨by show n ≤ _; simp, fun i d hd => ?_⟩
  rw [List.getElem?_map, Option.map_eq_some_iff] at hd
  obtain ⟨j, hj, rfl⟩ := hd
  obtain ⟨hj1, hj2⟩ := List.getElem?_eq_some_iff.mp hj
  rw [List.getElem_range] at hj2
  subst hj2
  refine ⟨(by have := hj1; simp at this; exact this), fun y H' hy => ?_⟩
  obtain ⟨rfl, rfl⟩ := hy
  refine ⟨Ext.refl _ _, h, ?_⟩
  rw [Int.zero_add]; exact .int _
theorem wlk_rngD {m : Int} {n : Nat} : Wlk G C (Itc m (-1) n) ((List.range n).map fun (i : Nat) => D.int (m - i)) H1 := by
  intro C2 st2 H o x h
  refine ⟨by show n ≤ _; simp, fun i d hd => ?_⟩
  rw [List.getElem?_map, Option.map_eq_some_iff] at hd
  obtain ⟨j, hj, rfl⟩ := hd
  obtain ⟨hj1, hj2⟩ := List.getElem?_eq_some_iff.mp hj
  rw [List.getElem_range] at hj2
  subst hj2
  refine ⟨(by have := hj1; simp at this; exact this), fun y H' hy => ?_⟩
  obtain ⟨rfl, rfl⟩ := hy
  refine ⟨Ext.refl _ _, h, ?_⟩
  have e : m + (i : Int) * -1 = m - i := by omega
  rw [e]; exact .int _
end
/-! ways of itD -/
theorem itD_lst {x y : D} {its : List D} (h : itD .lst x y = some its) : x = .lst its := by
  cases x <;> first | (cases h; done) | (cases h; rfl)
theorem itD_tup {x y : D} {its : List D} (h : itD .tup x y = some its) : x = .tup its := by
  cases x <;> first | (cases h; done) | (cases h; rfl)
theorem itD_str {x y : D} {its : List D} (h : itD .str x y = some its) : ∃ w, x = .str w ∧ its = w.map fun c => .str [c] := by
  cases x <;> first | (cases h; done) | skip
  simp only [itD] at h
  split at h
  · cases h; exact ⟨_, rfl, rfl⟩
  · cases h
theorem itD_enum {x y : D} {its : List D} (h : itD .enum x y = some its) : ∃ l, x = .lst l ∧ its = enumD 0 l := by
  cases x <;> first | (cases h; done) | (cases h; exact ⟨_, rfl, rfl⟩)
theorem itD_zip {x y : D} {its : List D} (h : itD .zipT x y = some its) : (∃ l m, x = .tup l ∧ y = .tup m ∧ its = ((l.zip m).map fun p => .tup [p.1, p.2]) ∧ ∀ p ∈ l.zip m, isSto [p.1, p.2] = false) ∨ ∃ l m, x = .wt l ∧ y = .tup m ∧ its = ((l.map D.str).zip m).map fun p => .tup [p.1, p.2] := by
  cases x <;> first | (cases h; done) | skip
  · cases y <;> first | (cases h; done) | skip
    rename_i l m
    have h' : (if (l.zip m).any fun p => isSto [p.1, p.2] then none else some ((l.zip m).map fun p => D.tup [p.1, p.2])) = some its := h
    split at h'
    · cases h'
    · rename_i hz
      cases h'
      refine .inl ⟨_, _, rfl, rfl, rfl, fun p hp => ?_⟩
      cases hb : isSto [p.1, p.2] with
      | false => rfl
      | true => exact absurd (List.any_eq_true.mpr ⟨p, hp, hb⟩) hz
  · cases y <;> first | (cases h; done) | (cases h; exact .inr ⟨_, _, rfl, rfl, rfl⟩)
theorem itD_rng {x y : D} {its : List D} (h : itD .rng x y = some its) : ∃ n, x = .int n ∧ -(2 ^ 62) ≤ n ∧ n < 2 ^ 62 ∧ its = (List.range n.toNat).map fun (i : Nat) => .int i := by
  cases x <;> first | (cases h; done) | skip
  simp only [itD] at h
  split at h
  · rename_i hz
    cases h
    rw [Bool.and_eq_true, decide_eq_true_eq, decide_eq_true_eq] at hz
    exact ⟨_, rfl, hz.1, hz.2, rfl⟩
  · cases h
theorem itD_rngD {x y : D} {its : List D} (h : itD .rngD x y = some its) : ∃ n, x = .int n ∧ -1 ≤ n ∧ n < 2 ^ 30 ∧ its = (List.range (n + 1).toNat).map fun (i : Nat) => D.int (n - i) := by
  cases x <;> first | (cases h; done) | skip
  simp only [itD] at h
  split at h
  · rename_i hz
    cases h
    rw [Bool.and_eq_true, decide_eq_true_eq, decide_eq_true_eq] at hz
    exact ⟨_, rfl, hz.1, hz.2, rfl⟩
  · cases h
theorem zip_str : ∀ (l : List Wd) (m : List D), ∀ p ∈ (l.map D.str).zip m, isSto [p.1, p.2] = false
  | [], _, p, h => by simp at h
  | _ :: _, [], p, h => by simp at h
  | x :: l, d :: m, p, h => by
    simp only [List.map_cons, List.zip_cons_cons, List.mem_cons] at h
    rcases h with rfl | h
    · rfl
    · exact zip_str l m p h
theorem repStrs {G : Gm} {C : Cn} {H : Hp} : ∀ l : List Wd, RepL G C H (l.map fun z => V.str (toS z)) (l.map D.str)
  | [] => .nil
  | w :: l => .cons (.str w) (repStrs l)
section
variable {G : Gm} {X : Cx} {a b : Expr} {ma mb : Ev → M D} {pos : Pos} {tg : Expr}
/-- one walked value -/
theorem i_one {σ : L2.St} {H : Hp} {R : It → Hp → Prop} {k : IK} (h : tI G k ma (fun _ => M.ret (.lst [])) σ H R) :
    ∃ C st ρ x its st', Held G C st H ∧ RepS G C H σ ρ ∧ ma ρ st = some (x, st') ∧ itD k x (.lst []) = some its ∧ ∀ J H', Ext C H H' → Held G C st' H' → Wlk G C J its H' → R J H' := by
  obtain ⟨C, st, ρ, its, st', hl, rs, e, f⟩ := h
  replace e := bnd_some e
  obtain ⟨x, s1, e1, e⟩ := e
  replace e := bnd_some e
  obtain ⟨y, s2, e2, e⟩ := e
  obtain ⟨rfl, rfl⟩ := ret_some e2
  replace e := of_some e
  obtain ⟨e, rfl⟩ := e
  exact ⟨C, st, ρ, x, its, _, hl, rs, e1, e, f⟩
theorem pi_lst (hK : X.K = G.K) (ha : PE X a (tE G ma)) : PI X tg a (tI G .lst ma fun _ => M.ret (.lst [])) :=
  (pi_list ha).imp fun σ H R h => by
    obtain ⟨C, st, ρ, x, its, st', hl, rs, e1, e, f⟩ := i_one h
    obtain rfl := itD_lst e
    refine ⟨C, st, ρ, _, _, hl, rs, e1, fun v H1 x1 h1 r1 => ?_⟩
    cases r1 with
    | lst q1 q2 q3 =>
    rw [hK]
    exact ⟨_, rfl, ⟨_, SqL.of q1⟩, f _ _ x1 h1 (wlk_list q1 (fun z => q2 (h1.cS _ z)) q3)⟩
theorem pi_tpl (hK : X.K = G.K) (ha : PE X a (tE G ma)) : PI X tg a (tI G .tup ma fun _ => M.ret (.lst [])) :=
  (pi_tup ha).imp fun σ H R h => by
    obtain ⟨C, st, ρ, x, its, st', hl, rs, e1, e, f⟩ := i_one h
    obtain rfl := itD_tup e
    refine ⟨C, st, ρ, _, _, hl, rs, e1, fun v H1 x1 h1 r1 => ?_⟩
    cases r1 with
    | tup q1 q2 q3 =>
    rw [hK]
    exact ⟨_, rfl, ⟨_, q1.sq⟩, f _ _ x1 h1 (wlk_tup q1 (fun z => q2 (h1.cS _ z)) q3)⟩
theorem pi_txt (ha : PE X a (tE G ma)) : PI X tg a (tI G .str ma fun _ => M.ret (.lst [])) :=
  (pi_str ha).imp fun σ H R h => by
    obtain ⟨C, st, ρ, x, its, st', hl, rs, e1, e, f⟩ := i_one h
    obtain ⟨w, rfl, rfl⟩ := itD_str e
    refine ⟨C, st, ρ, _, _, hl, rs, e1, fun v H1 x1 h1 r1 => ?_⟩
    cases r1
    exact ⟨_, rfl, f _ _ x1 h1 wlk_str⟩
theorem pi_enu {elts : List Expr} {kk : Nat} {tpos p : Pos} (hK : X.K = G.K) (hg : Gl X "enumerate") (hm : X.mg "enumerate" = none) (hs : starEach [a] X.env = [(false, eval a X.env)]) (ha : PE X a (tE G ma)) :
    PI X (.Tuple elts kk tpos) (.Call (.Name "enumerate" p) [a] [] pos) (tI G .enum ma fun _ => M.ret (.lst [])) :=
  (pi_enum hg hm (pa_cons ha pa_nil hs) hs).imp fun σ H R h => by
    obtain ⟨C, st, ρ, x, its, st', hl, rs, e1, e, f⟩ := i_one h
    obtain ⟨l, rfl, rfl⟩ := itD_enum e
    refine ⟨C, st, ρ, _, _, hl, rs, e1, fun v H1 x1 h1 r1 => ?_⟩
    cases r1 with
    | lst q1 q2 q3 =>
    rw [hK]
    exact ⟨_, _, rfl, SqL.of q1, f _ _ x1 h1 (wlk_enum q1 (fun z => q2 (h1.cS _ z)) q3)⟩
theorem pi_rngU {p : Pos} (hg : Gl X "range") (hm : X.mg "range" = none) (hs : starEach [a] X.env = [(false, eval a X.env)]) (ha : PE X a (tE G ma)) :
    PI X tg (.Call (.Name "range" p) [a] [] pos) (tI G .rng ma fun _ => M.ret (.lst [])) :=
  (pi_range1 hg hm (pa_cons ha pa_nil hs) hs).imp fun σ H R h => by
    obtain ⟨C, st, ρ, x, its, st', hl, rs, e1, e, f⟩ := i_one h
    obtain ⟨n, rfl, n1, n2, rfl⟩ := itD_rng e
    refine ⟨C, st, ρ, _, _, hl, rs, e1, fun v H1 x1 h1 r1 => ?_⟩
    cases r1
    exact ⟨n, rfl, n1, n2, f _ _ x1 h1 wlk_rng⟩
theorem pi_rngN {p q1 q2 q3 q4 : Pos} {j1 j2 : Nat} (hg : Gl X "range") (hm : X.mg "range" = none) (hs : starEach [a, .UnaryOp .USub (.Constant (.int 1) j1 q1) q2, .UnaryOp .USub (.Constant (.int 1) j2 q3) q4] X.env = (false, eval a X.env) :: starEach [.UnaryOp .USub (.Constant (.int 1) j1 q1) q2, .UnaryOp .USub (.Constant (.int 1) j2 q3) q4] X.env) (ha : PE X a (tE G ma)) :
    PI X tg (.Call (.Name "range" p) [a, .UnaryOp .USub (.Constant (.int 1) j1 q1) q2, .UnaryOp .USub (.Constant (.int 1) j2 q3) q4] [] pos) (tI G .rngD ma fun _ => M.ret (.lst [])) :=
  (pi_range3 hg hm (pa_cons ha (pa_cons (pe_un un_neg pe_int) (pa_cons (pe_un un_neg pe_int) pa_nil)) hs) hs).imp fun σ H R h => by
    obtain ⟨C, st, ρ, x, its, st', hl, rs, e1, e, f⟩ := i_one h
    obtain ⟨n, rfl, n1, n2, rfl⟩ := itD_rngD e
    refine ⟨C, st, ρ, _, _, hl, rs, e1, fun v H1 x1 h1 r1 => ?_⟩
    cases r1
    refine ⟨1, rfl, 1, rfl, n, -1, -1, (n + 1).toNat, rfl, ?_, f _ _ x1 h1 wlk_rngD⟩
    have := RgC.neg (i := n) (j := -1) (by omega) (by omega) (by omega) (by omega)
    have e : n - -1 = n + 1 := by omega
    rw [e] at this
    exact this
theorem pi_zipTT {elts : List Expr} {kk : Nat} {tpos p : Pos} (hK : X.K = G.K) (hg : Gl X "zip") (hm : X.mg "zip" = none) (hs : starEach [a, b] X.env = (false, eval a X.env) :: starEach [b] X.env) (hs2 : starEach [b] X.env = [(false, eval b X.env)]) (ha : PE X a (tE G ma)) (hb : PE X b (tE G mb)) :
    PI X (.Tuple elts kk tpos) (.Call (.Name "zip" p) [a, b] [] pos) (tI G .zipT ma mb) :=
  (RZ.pi_zipA hg hm (pa_cons ha (pa_cons hb pa_nil hs2) hs) hs (by rw [hs2]; rfl)).imp fun σ H R ⟨C, st, ρ, its, st', hl, rs, e, f⟩ => by
    replace e := bnd_some e
    obtain ⟨x, s1, e1, e⟩ := e
    replace e := bnd_some e
    obtain ⟨y, s2, e2, e⟩ := e
    replace e := of_some e
    obtain ⟨e, rfl⟩ := e
    refine ⟨C, st, ρ, _, _, hl, rs, e1, fun v H1 x1 h1 r1 => ⟨C, s1, ρ, _, _, h1, rs.ext hl x1, e2, fun u H2 x2 h2 r2 => ?_⟩⟩
    have r1' := Rep.ext h1 x2 _ _ r1
    rcases itD_zip e with ⟨l, m, rfl, rfl, rfl, hns⟩ | ⟨l, m, rfl, rfl, rfl⟩
    · cases r1' with
      | tup q1 q2 q3 =>
      cases r2 with
      | tup q4 q5 q6 =>
      rw [hK]
      refine ⟨_, _, _, _, rfl, .inr ⟨q1.sq, q4.sq, f _ _ (x1.trans x2) h2 (wlk_zipT h2 (fun C2 st2 H3 o x3 h3 => ⟨(q1.mono fun q n hq => x3 _ _ (by rw [o.m]; exact fun z => q2 (h2.cS _ z)) n hq).sq, carryL o x3 h3 q3⟩) (fun C2 st2 H3 o x3 h3 => ⟨(q4.mono fun q n hq => x3 _ _ (by rw [o.m]; exact fun z => q5 (h2.cS _ z)) n hq).sq, carryL o x3 h3 q6⟩) hns)⟩⟩
    · cases r1' with
      | wt q1 =>
      cases r2 with
      | tup q4 q5 q6 =>
      rw [hK]
      refine ⟨_, _, _, _, rfl, .inr ⟨wt_sq q1, q4.sq, f _ _ (x1.trans x2) h2 (wlk_zipT h2 (fun C2 st2 H3 o x3 h3 => ⟨wt_sq q1, repStrs l⟩) (fun C2 st2 H3 o x3 h3 => ⟨(q4.mono fun q n hq => x3 _ _ (by rw [o.m]; exact fun z => q5 (h2.cS _ z)) n hq).sq, carryL o x3 h3 q6⟩) (zip_str l m))⟩⟩
end
end N57
end
section
set_option maxRecDepth 100000
set_option maxHeartbeats 1000000
namespace N57
open PySem PySem.Spec PyProof.Rows L2

/-! ### targets -/
def Off (vs : List Nat) (σ σ' : L2.St) : Prop := σ'.length = σ.length ∧ ∀ i, i ∉ vs → σ'[i]? = σ[i]?
theorem Off.refl (vs : List Nat) (σ : L2.St) : Off vs σ σ := ⟨rfl, fun _ _ => rfl⟩
theorem Off.trans {vs ws : List Nat} {σ σ1 σ2 : L2.St} (h : Off vs σ σ1) (h' : Off ws σ1 σ2) : Off (vs ++ ws) σ σ2 := ⟨h'.1.trans h.1, fun i hi => by
  rw [List.mem_append, not_or] at hi
  rw [h'.2 i hi.2, h.2 i hi.1]⟩
theorem wipe_get (σ : L2.St) (i : Nat) : ∀ vs : List Nat, i ∈ vs → i < σ.length → (L2.wipe σ vs)[i]? = some none
  | [], h, _ => absurd h (by simp)
  | v :: vs, h, hi => by
    show ((L2.wipe σ vs).set v none)[i]? = some none
    by_cases e : v = i
    · subst e
      rw [List.getElem?_set_self (by rw [wipe_length]; exact hi)]
    · rw [List.getElem?_set_ne e]
      exact wipe_get σ i vs ((List.mem_cons.mp h).resolve_left fun z => e z.symm) hi
theorem wipe_off (σ : L2.St) (i : Nat) : ∀ vs : List Nat, i ∉ vs → (L2.wipe σ vs)[i]? = σ[i]?
  | [], _ => rfl
  | v :: vs, h => by
    show ((L2.wipe σ vs).set v none)[i]? = σ[i]?
    rw [List.mem_cons, not_or] at h
    rw [List.getElem?_set_ne (fun z => h.1 z.symm)]
    exact wipe_off σ i vs h.2
theorem Off.wipe {vs : List Nat} {σ σ' : L2.St} (h : Off vs σ σ') : L2.wipe σ' vs = L2.wipe σ vs := by
  apply List.ext_getElem?
  intro i
  by_cases hi : i ∈ vs
  · by_cases hl : i < σ.length
    · rw [wipe_get σ i vs hi hl, wipe_get σ' i vs hi (by rw [h.1]; exact hl)]
    · rw [List.getElem?_eq_none (by rw [wipe_length, h.1]; omega), List.getElem?_eq_none (by rw [wipe_length]; omega)]
  · rw [wipe_off σ i vs hi, wipe_off σ' i vs hi, h.2 i hi]
theorem wipe_wipe (σ : L2.St) (vs : List Nat) : L2.wipe (L2.wipe σ vs) vs = L2.wipe σ vs := by
  have : Off vs σ (L2.wipe σ vs) := ⟨wipe_length σ vs, fun i hi => wipe_off σ i vs hi⟩
  exact this.wipe
def gT (G : Gm) (t : Tg) : TG := fun v σ H Q => ∃ C st ρ d ρ', Held G C st H ∧ RepS G C H σ ρ ∧ Rep G C H v d ∧ asgT t d ρ = some ρ' ∧ ∀ σ', RepS G C H σ' ρ' → Off t.slots σ σ' → Q σ' H
def gTs (G : Gm) (t : Tg) : TGs := fun vs σ H Q => ∃ C st ρ ds ρ', Held G C st H ∧ RepS G C H σ ρ ∧ RepL G C H vs ds ∧ asgT t (.lst ds) ρ = some ρ' ∧ ∀ σ', RepS G C H σ' ρ' → Off t.slots σ σ' → Q σ' H
theorem _root_.L2.PG.imp {X : Cx} {e : Expr} {t t' : TG} (h : PG X e t) (i : ∀ v σ H Q, t' v σ H Q → t v σ H Q) : PG X e t' := ⟨fun pins s σ H v u Q I r q => h.run pins s σ H v u Q I r (i v σ H Q q)⟩
theorem _root_.L2.PGs.imp {X : Cx} {e : List Expr} {t t' : TGs} (h : PGs X e t) (i : ∀ v σ H Q, t' v σ H Q → t v σ H Q) : PGs X e t' := ⟨fun pins s σ H v u Q I r q => h.run pins s σ H v u Q I r (i v σ H Q q)⟩
section
variable {G : Gm} {X : Cx} {e : Expr} {es : List Expr} {pos : Pos}
theorem g_slot {i : Nat} {x : Str} (hN : X.N.Nodup) (hi : X.N[i]? = some x) (hx : Loc X.env.scope x) (hf : X.fn x = true ∨ X.env.scope.names.lookup x = some .local) : PG X (.Name x pos) (gT G (.slot i)) :=
  (pg_name hN hi hx hf).imp fun v σ H Q ⟨C, st, ρ, d, ρ', hl, rs, r, e, f⟩ => by
    cases e
    refine f _ (rs.set r i) ⟨by simp, fun j hj => ?_⟩
    have : i ≠ j := fun z => hj (by rw [z]; exact List.mem_singleton.mpr rfl)
    rw [List.getElem?_set_ne this]
theorem g_nil : PGs X [] (gTs G .nil) := pgs_nil.imp fun v σ H Q ⟨C, st, ρ, d, ρ', hl, rs, r, e, f⟩ => by
  cases d with
  | nil =>
    cases e
    cases r
    exact ⟨rfl, f σ rs (Off.refl _ _)⟩
  | cons _ _ => cases e
theorem g_cons {a b : Tg} (h1 : PG X e (gT G a)) (h2 : PGs X es (gTs G b)) (hs : (assignEach (e :: es) X.env).map (·.2) = assign e X.env :: (assignEach es X.env).map (·.2)) : PGs X (e :: es) (gTs G (.cons a b)) :=
  (pgs_cons h1 h2 hs).imp fun v σ H Q ⟨C, st, ρ, ds, ρ', hl, rs, r, e, f⟩ => by
    cases ds with
    | nil => cases e
    | cons d ds =>
      simp only [asgT] at e
      rw [Option.bind_eq_some_iff] at e
      obtain ⟨ρ1, e1, e⟩ := e
      cases r with
      | cons r q =>
      exact ⟨_, _, rfl, C, st, ρ, d, ρ1, hl, rs, r, e1, fun σ1 rs1 o1 => ⟨C, st, ρ1, ds, ρ', hl, rs1, q, e, fun σ2 rs2 o2 => f σ2 rs2 (o1.trans o2)⟩⟩
theorem g_tup {t : Tg} {k n : Nat} (hK : X.K = G.K) (hc : X.calm = true) (h : PGs X es (gTs G t)) (hn : (assignEach es X.env).length = n) (hst : (assignEach es X.env).findIdx? (·.1) = none)
    (hl : ∀ l ρ ρ', asgT t (.lst l) ρ = some ρ' → l.length = n) : PG X (.Tuple es k pos) (gT G (.tup t)) :=
  (pg_tup hc h hn hst).imp fun v σ H Q ⟨C, st, ρ, d, ρ', hd, rs, r, e, f⟩ => by
    cases d <;> first | (cases e; done) | skip
    rename_i l
    have e' : asgT t (.lst l) ρ = some ρ' := e
    cases r with
    | tup q1 q2 q3 =>
    rw [hK]
    exact ⟨_, _, rfl, q1.sq, by rw [q3.length]; exact hl _ _ _ e', C, st, ρ, l, ρ', hd, rs, q3, e', f⟩
end

/-! ### a list comprehension -/
def tTs (G : Gm) (c : Tm) (m : Ev → M D) : TT := fun σ H Q => match c with
  | .nil => Q true H
  | _ => tB G m σ H Q
/-- one turn -/
def turnM (tg : Tg) (c : Tm) (mc me : Ev → M D) (ρ : Ev) (d : D) : M (Option D) := M.bnd (M.of (asgT tg d (wipeE ρ tg.slots))) fun ρ' => match c with
      | .nil => M.bnd (me ρ') fun r => M.ret (some r)
      | _ => M.bnd (mc ρ') fun t => M.bnd (M.of (asBool t)) fun
        | false => M.ret none
        | true => M.bnd (me ρ') fun r => M.ret (some r)
theorem compM_nil {f : D → M (Option D)} {acc l : List D} {s s' : Cup} (h : compM f [] acc s = some (l, s')) : l = acc ∧ s' = s := by
  have h' : M.ret acc s = some (l, s') := h
  exact ret_some h'
theorem compM_cons {f : D → M (Option D)} {x : D} {r acc l : List D} {s s' : Cup} (h : compM f (x :: r) acc s = some (l, s')) :
    ∃ o s1, f x s = some (o, s1) ∧ match o with
      | none => compM f r acc s1 = some (l, s')
      | some y => fitsL (acc.length + 1) = true ∧ compM f r (acc ++ [y]) s1 = some (l, s') := by
  have h' : M.bnd (f x) (fun
    | none => compM f r acc
    | some y => if fitsL (acc.length + 1) then compM f r (acc ++ [y]) else M.fail) s = some (l, s') := h
  obtain ⟨o, s1, e1, e⟩ := bnd_some h'
  refine ⟨o, s1, e1, ?_⟩
  cases o with
  | none => exact e
  | some y =>
    show _ ∧ _
    replace e : (if fitsL (acc.length + 1) = true then compM f r (acc ++ [y]) else M.fail) s1 = some (l, s') := e
    by_cases hz : fitsL (acc.length + 1) = true
    · rw [if_pos hz] at e
      exact ⟨hz, e⟩
    · rw [if_neg hz] at e
      cases e
section
variable {G : Gm} {X : Cx} {elt tg iter : Expr} {ifs : List Expr} {scope : Scope} {own : List (Str × Nat)} {pos : Pos} {k : IK} {ma mb mc me : Ev → M D} {t : Tg} {c : Tm}
theorem s_comp (hc : X.calm = true) (hN : X.N.Nodup) (hi : PI X tg iter (tI G k ma mb)) (ok : BlkOk X.N X.env.scope scope own) (hown : own.map (·.2) = t.slots)
    (hg : ∀ (s : Shared) (H : Hp) (C : Addr) (cl : List (Str × Addr)) (fp : List Addr), PG (X.blk s H scope (compEnvC scope cl C X.env) fp) tg (gT G t))
    (ht : ∀ (s : Shared) (H : Hp) (C : Addr) (cl : List (Str × Addr)) (fp : List Addr), PTs (X.blk s H scope (compEnvC scope cl C X.env) fp) ifs (tTs G c mc))
    (he : ∀ (s : Shared) (H : Hp) (C : Addr) (cl : List (Str × Addr)) (fp : List Addr), PE (X.blk s H scope (compEnvC scope cl C X.env) fp) elt (tE G me)) (hs : ∀ x, foldedSetIterable iter X.env x = pure x)
    {σ : L2.St} {H : Hp} {Q : VK}
    (h : tE G (fun ρ => M.bnd (ma ρ) fun x => M.bnd (mb ρ) fun y => M.bnd (M.of (itD k x y)) fun its => M.bnd (compM (turnM t c mc me ρ) its []) fun l => M.ret (.lst l)) σ H Q) :
    tLc (tI G k ma mb) (gT G t) (tTs G c mc) (tE G me) (own.map (·.2)) σ H Q := by
  obtain ⟨C, st, ρ, d, st', hl, rs, e, f⟩ := h
  replace e := bnd_some e
  obtain ⟨x, s1, e1, e⟩ := e
  replace e := bnd_some e
  obtain ⟨y, s2, e2, e⟩ := e
  replace e := bnd_some e
  obtain ⟨its, s3, e3, e⟩ := e
  replace e3 := of_some e3
  obtain ⟨e3, rfl⟩ := e3
  replace e := bnd_some e
  obtain ⟨l, s4, e4, e⟩ := e
  obtain ⟨rfl, rfl⟩ := ret_some e
  rw [hown]
  refine ⟨C, st, ρ, its, s3, hl, rs, ?_, fun J H1 x1 h1 wk => ?_⟩
  · unfold M.bnd M.of
    rw [e1]
    simp only [e2, e3]
  intro p hp
  have over : Over C (C.and p) H1 := Cn.and_over hp
  have rs1 := (rs.ext hl x1)
  refine ⟨fun i m H2 => m = its.length - i ∧ i ≤ its.length ∧ ∃ stc acc accV, Ext C H1 H2 ∧ Held G (C.and p) stc H2 ∧ H2 p = some (.lst accV) ∧ RepL G (C.and p) H2 accV acc ∧ compM (turnM t c mc me ρ) (its.drop i) acc stc = some (l, st'), ⟨its.length, rfl, Nat.zero_le _, s3, [], [], Ext.new hp, (h1.new hp).and upd_same, upd_same, .nil, e4⟩, ?_⟩
  rintro i m H2 ⟨rfl, hi, stc, acc, accV, x2, h2, hD, ra, e5⟩
  obtain ⟨stop, step⟩ := wk (C.and p) stc H2 over ((Over.ext over).mpr x2) h2
  by_cases hlt : i < its.length
  · have hget : its[i]? = some its[i] := List.getElem?_eq_getElem hlt
    obtain ⟨go, yl⟩ := step i _ hget
    have hdrop : its.drop i = its[i] :: its.drop (i + 1) := (List.getElem_cons_drop hlt).symm
    rw [hdrop] at e5
    obtain ⟨o, s5, e6, e7⟩ := compM_cons e5
    refine .inr ⟨go, fun H' => ∃ stc acc accV, Ext C H1 H' ∧ Held G (C.and p) stc H' ∧ H' p = some (.lst accV) ∧ RepL G (C.and p) H' accV acc ∧ compM (turnM t c mc me ρ) (its.drop (i + 1)) acc stc = some (l, st'), fun H' hN' => ⟨its.length - (i + 1), by omega, rfl, hlt, hN'⟩, fun v H3 hy => ?_⟩
    obtain ⟨x3, h3, r3⟩ := yl v H3 hy
    have npc : ¬ (C.and p).m p := h1.notM hp
    have keepD : ∀ {Ha Hb : Hp}, Ext (C.and p) Ha Hb → Ha p = some (.lst accV) → Hb p = some (.lst accV) := fun hx he => hx p _ npc (fun _ z => nomatch z) he
    -- the environment in the block
    have rsw : RepS G (C.and p) H3 (L2.wipe σ t.slots) (wipeE ρ t.slots) := by
      have q1 : RepS G (C.and p) H1 σ ρ := rs1.over over
      have q2 : RepS G (C.and p) H3 σ ρ := ⟨q1.1, fun j dj hj => by
        obtain ⟨u, a1, a2⟩ := q1.2 j dj hj
        exact ⟨u, a1, Rep.extC h3.cS (((Over.ext over).mpr x2).trans x3) _ _ a2⟩⟩
      exact q2.wipe _
    have e6' : turnM t c mc me ρ its[i] stc = some (o, s5) := e6
    unfold turnM at e6'
    replace e6' := bnd_some e6'
    obtain ⟨ρ1, s6, e8, e9⟩ := e6'
    replace e8 := of_some e8
    obtain ⟨e8, rfl⟩ := e8
    refine ⟨C.and p, s6, _, _, ρ1, h3, rsw, r3, e8, fun σ2 rs2 off => ⟨?_, ?_⟩⟩
    · rw [off.wipe]; exact wipe_wipe σ t.slots
    -- what follows the tests
    have elem : ∀ {s7 : Cup} {H4 : Hp}, Ext (C.and p) H3 H4 → Held G (C.and p) s7 H4 → M.bnd (me ρ1) (fun r => M.ret (some r)) s7 = some (o, s5) →
        tE G me σ2 H4 fun y H5 => ∃ acc0, H5 p = some (.lst acc0) ∧ acc0.length < sizeLine ∧ ∃ stc acc accV, Ext C H1 (upd H5 p (.lst (acc0 ++ [y]))) ∧ Held G (C.and p) stc (upd H5 p (.lst (acc0 ++ [y]))) ∧ (upd H5 p (.lst (acc0 ++ [y]))) p = some (.lst accV) ∧ RepL G (C.and p) (upd H5 p (.lst (acc0 ++ [y]))) accV acc ∧ compM (turnM t c mc me ρ) (its.drop (i + 1)) acc stc = some (l, st') := by
      intro s7 H4 x4 h4 e10
      replace e10 := bnd_some e10
      obtain ⟨r, s8, e11, e12⟩ := e10
      obtain ⟨rfl, rfl⟩ := ret_some e12
      obtain ⟨hz, e13⟩ := e7
      have rs4 : RepS G (C.and p) H4 σ2 ρ1 := rs2.ext h3 x4
      refine ⟨C.and p, s7, ρ1, r, s5, h4, rs4, e11, fun w H5 x5 h5 r5 => ?_⟩
      have hD5 : H5 p = some (.lst accV) := keepD ((x3.trans x4).trans x5) hD
      have ra5 : RepL G (C.and p) H5 accV acc := RepL.extC h2.cS ((x3.trans x4).trans x5) _ _ ra
      have hSp : (C.and p).S p := .inr rfl
      refine ⟨accV, hD5, ?_, s5, acc ++ [r], accV ++ [w], ?_, ?_, upd_same, ?_, e13⟩
      · rw [ra5.length]
        have := fitsL_le hz
        omega
      · intro b ob hb nt hob
        have nb : b ≠ p := fun z => by rw [z, hp] at hob; cases hob
        rw [upd_ne nb]
        exact x5 b ob hb nt (x4 b ob hb nt (x3 b ob hb nt (x2 b ob hb nt hob)))
      · exact h5.put npc hD5 nc_lst (fun _ z => nomatch z)
      · exact (RepL.put hSp _ _ ra5).app (.one (Rep.put hSp _ _ r5))
    cases c with
    | nil =>
      have z := elem (Ext.refl _ _) h3 e9
      unfold tTs
      exact iteT z
    | _ =>
      replace e9 := bnd_some e9
      obtain ⟨tv, s7, e10, e11⟩ := e9
      replace e11 := bnd_some e11
      obtain ⟨b, s8, e12, e13⟩ := e11
      replace e12 := of_some e12
      obtain ⟨e12, rfl⟩ := e12
      rw [asBool_some e12] at e10
      refine ⟨C.and p, s6, ρ1, b, _, h3, rs2, e10, fun H4 x4 h4 => ?_⟩
      cases b with
      | false =>
        rw [if_neg (by decide)]
        obtain ⟨rfl, rfl⟩ := ret_some e13
        exact ⟨_, acc, accV, fun b ob hb nt hob => x4 b ob hb nt (x3 b ob hb nt (x2 b ob hb nt hob)), h4, keepD (x3.trans x4) hD, RepL.extC h2.cS (x3.trans x4) _ _ ra, e7⟩
      | true =>
        rw [if_pos rfl]
        exact elem x4 h4 e13
  · have ei : i = its.length := by omega
    subst ei
    rw [List.drop_length] at e5
    obtain ⟨rfl, rfl⟩ := compM_nil e5
    refine .inl ⟨stop, ?_⟩
    have hC : Held G C st' H2 := h2.unand h1.cS
    have ra' : RepL G C H2 accV l := RepL.less (C := C) (C2 := C.and p) rfl (fun _ z => Or.inl z) _ _ ra
    exact f (.ref p) H2 (x1.trans x2) hC (.lst hD (h1.notS hp) ra')
end
end N57
end
section
set_option maxRecDepth 100000
set_option maxHeartbeats 1000000
namespace N57
open PySem PySem.Spec PyProof.Rows L2

/-! ### the defs' table, and what they come to -/
structure Tab where
  nf : Nat
  fnm : Nat → Str
  ps : Nat → List Str
  ns : Nat → List Str
  df : Nat → Df
  lamN : List Str
  ng : Nat
  gnm : Nat → Str
  gval : Nat → D
  tbl : Nat → List (Wd × Option W0)
def env0 (T : Tab) (cl : Nat → List D → M D) : Env0' := ⟨cl, T.gval, T.tbl⟩
def run (T : Tab) : Nat → Nat → List D → M D
  | 0, _, _ => M.fail
  | k + 1, f, l => if Nat.beq l.length (T.df f).ar then M.bnd (ex (env0 T (run T k)) (T.df f).body (startE (T.df f).nn l)) fun o => M.ret (outD o)
    else M.fail
def spF (T : Tab) (G : Gm) (k f : Nat) : Sp := fun vs H Q _ => ∃ C st ds d st', Held G C st H ∧ RepL G C H vs ds ∧ vs.length = (T.ps f).length ∧ run T k f ds st = some (d, st') ∧ Fin G C st' H Q d
section
variable {G : Gm} {X : Cx} {ma mb mc : Ev → M D} {pos : Pos}
/-- a def called by its name -/
theorem s_call {T : Tab} {k n f : Nat} {a : Addr} {fd : FuncData} {x : Str} {p : Pos} {e0 : Expr} {es : List Expr} (F : FnOk X.prog X.w X.K X.mg X.base CX0 n a fd (T.ps f) (spF T G k f)) (hr : Room n X.A) (hg : Gl X x) (hm : X.mg x = some (.ref a)) (hk : PySem.W.keepIn X.K (.ref a) = true) (hb : Binds X.K fd (T.ps f) [])
    (ha : PA X (e0 :: es) (tA G ma)) (hdb : (x == ("__debug__" : Str)) = false) (he : starEach (e0 :: es) X.env = (false, eval e0 X.env) :: starEach es X.env) (hpl : (backTo pos (starEach es X.env)).any (·.1) = false)
    (hn : ∀ ρ st ds st', ma ρ st = some (.lst ds, st') → ds.length = (T.ps f).length) :
    PE X (.Call (.Name x p) (e0 :: es) [] pos) (tE G fun ρ => M.bnd (ma ρ) fun y => M.bnd (M.of (unL y)) fun l => run T k f l) :=
  (pe_call F hr hg hm hk hb .nil pass0 ha hdb he hpl).imp fun σ H Q ⟨C, st, ρ, d, st', hl, rs, e, f'⟩ => by
    replace e := bnd_some e
    obtain ⟨y, s1, e1, e⟩ := e
    replace e := bnd_some e
    obtain ⟨l, s2, e2, e⟩ := e
    replace e2 := of_some e2
    obtain ⟨e2, rfl⟩ := e2
    cases y <;> first | (cases e2; done) | skip
    cases e2
    refine ⟨C, st, ρ, _, _, hl, rs, e1, fun vs H1 x1 h1 r1 => ?_⟩
    show spF T G k f (vs ++ []) H1 Q E0
    rw [List.append_nil]
    exact ⟨C, _, l, d, st', h1, r1, by rw [r1.length]; exact hn _ _ _ _ e1, e, f'.ext x1⟩

/-! ### statements -/
theorem Ended.ext {C : Cn} {st : Cup} {H H1 : Hp} {E : Ends} {o : Out} (h : Ended G C st H E o) (x : Ext C H H1) : Ended G C st H1 E o := by
  cases o with
  | nx ρ => exact fun σ' H' x' h' r => h σ' H' (x.trans x') h' r
  | rt d => exact fun v H' x' h' r => h v H' (x.trans x') h' r
theorem Ended.same {C : Cn} {st : Cup} {H : Hp} {E E' : Ends} {o : Out} (h : Ended G C st H E o) (h1 : E.nx = E'.nx) (h2 : E.rt = E'.rt) : Ended G C st H E' o := by
  cases o with
  | nx ρ => exact fun σ' H' x' h' r => by rw [← h1]; exact h σ' H' x' h' r
  | rt d => exact fun v H' x' h' r => by rw [← h2]; exact h v H' x' h' r
variable {st0 : Stmt} {sts : List Stmt} {m1 m2 : Ev → M Out}
theorem st_nil : PSs X [] (tS G fun ρ => M.ret (.nx ρ)) := pss_nil.imp fun E σ H ⟨C, st, ρ, o, st', hl, rs, e, f⟩ => by
  obtain ⟨rfl, rfl⟩ := ret_some e
  exact f σ H (Ext.refl _ _) hl rs
def mSeq (m1 m2 : Ev → M Out) : Ev → M Out := fun ρ => M.bnd (m1 ρ) fun
    | .nx ρ' => m2 ρ'
    | .rt d => M.ret (.rt d)
theorem st_cons (h1 : PS X st0 (tS G m1)) (h2 : PSs X sts (tS G m2)) : PSs X (st0 :: sts) (tS G (mSeq m1 m2)) := (pss_cons h1 h2).imp fun E σ H ⟨C, st, ρ, o, st', hl, rs, e, f⟩ => by
  unfold mSeq at e
  replace e := bnd_some e
  obtain ⟨o1, s1, e1, e⟩ := e
  cases o1 with
  | nx ρ1 => exact ⟨C, st, ρ, .nx ρ1, s1, hl, rs, e1, fun σ1 H1 x1 hl1 rs1 => ⟨C, s1, ρ1, o, st', hl1, rs1, e, f.ext x1⟩⟩
  | rt d =>
    obtain ⟨rfl, rfl⟩ := ret_some e
    exact ⟨C, st, ρ, .rt d, _, hl, rs, e1, f⟩
theorem st_ret {e : Expr} (h : PE X e (tE G ma)) : PS X (.Return (some e) pos) (tS G fun ρ => M.bnd (ma ρ) fun d => M.ret (.rt d)) := (ps_ret h).imp fun E σ H ⟨C, st, ρ, o, st', hl, rs, e, f⟩ => by
  replace e := bnd_some e
  obtain ⟨d, s1, e1, e⟩ := e
  obtain ⟨rfl, rfl⟩ := ret_some e
  exact ⟨C, st, ρ, d, _, hl, rs, e1, f⟩
theorem st_exp {e : Expr} (h : PE X e (tE G ma)) (hs : swapsWith e none pos.line X.env = pure false) : PS X (.Expr e pos) (tS G fun ρ => M.bnd (ma ρ) fun _ => M.ret (.nx ρ)) := (ps_expr h hs).imp fun E σ H ⟨C, st, ρ, o, st', hl, rs, e, f⟩ => by
  replace e := bnd_some e
  obtain ⟨d, s1, e1, e⟩ := e
  obtain ⟨rfl, rfl⟩ := ret_some e
  exact ⟨C, st, ρ, d, _, hl, rs, e1, fun v H1 x1 h1 r1 => f σ H1 x1 h1 (rs.ext hl x1)⟩
theorem st_if {c : Expr} {a b : List Stmt} (hc : PT X c (tB G mc)) (ha : PSs X a (tS G m1)) (hb : PSs X b (tS G m2)) : PS X (.If c a b pos) (tS G fun ρ => M.bnd (mc ρ) fun x => M.bnd (M.of (asBool x)) fun
    | true => m1 ρ
    | false => m2 ρ) := (ps_if hc ha hb).imp fun E σ H ⟨C, st, ρ, o, st', hl, rs, e, f⟩ => by
  replace e := bnd_some e
  obtain ⟨x, s1, e1, e⟩ := e
  replace e := bnd_some e
  obtain ⟨k, s2, e2, e⟩ := e
  replace e2 := of_some e2
  obtain ⟨e2, rfl⟩ := e2
  rw [asBool_some e2] at e1
  refine ⟨C, st, ρ, k, _, hl, rs, e1, fun H1 x1 h1 => ?_⟩
  cases k with
  | true => exact iteT ⟨C, _, ρ, o, st', h1, rs.ext hl x1, e, f.ext x1⟩
  | false => exact iteF ⟨C, _, ρ, o, st', h1, rs.ext hl x1, e, f.ext x1⟩
def mAsg (t : Tg) (ma : Ev → M D) : Ev → M Out := fun ρ => M.bnd (ma ρ) fun d => M.of ((asgT t d ρ).map .nx)
theorem asg_end {t : Tg} {E : Ends} {σ : L2.St} {H : Hp} (h : tS G (mAsg t ma) E σ H) : tE G ma σ H fun x H1 => gT G t x σ H1 E.nx := by
  obtain ⟨C, st, ρ, o, st', hl, rs, e, f⟩ := h
  unfold mAsg at e
  replace e := bnd_some e
  obtain ⟨d, s1, e1, e⟩ := e
  replace e := of_some e
  obtain ⟨e, rfl⟩ := e
  rw [Option.map_eq_some_iff] at e
  obtain ⟨ρ', e2, rfl⟩ := e
  exact ⟨C, st, ρ, d, _, hl, rs, e1, fun v H1 x1 h1 r1 => ⟨C, _, ρ, d, ρ', h1, rs.ext hl x1, r1, e2, fun σ' rs' off => f σ' H1 x1 h1 rs'⟩⟩
theorem st_asg {tg e : Expr} {t : Tg} (he : PE X e (tE G ma)) (hg : PG X tg (gT G t)) (hs : swapsWithSole [tg] e pos.line X.env = pure false) (hw : swappedStores [tg] e X.env = pure none)
    (h1 : (assignEach [tg] X.env).map (·.2) = [assign tg X.env]) : PS X (.Assign [tg] e pos) (tS G (mAsg t ma)) := (ps_asg he hg hs hw h1).imp fun E σ H h => asg_end h
/-- a name takes a comprehension made on the same row -/
theorem st_asgLc {i : Nat} {y : Str} {py : Pos} {elt tg iter : Expr} {ifs : List Expr} {scope : Scope} {own : List (Str × Nat)} {pos' : Pos} {k : IK} {me : Ev → M D} {t : Tg} {c : Tm} (hc : X.calm = true) (hN : X.N.Nodup) (hy : X.N[i]? = some y) (hyl : X.env.scope.names.lookup y = some .local)
    (hsw : swapsWith (.ListComp elt [⟨tg, iter, ifs, 0⟩] scope pos) (some (.Name y py)) pos'.line X.env = pure true) (hi : PI X tg iter (tI G k ma mb)) (ok : BlkOk X.N X.env.scope scope own) (hown : own.map (·.2) = t.slots)
    (hg : ∀ (s : Shared) (H : Hp) (C : Addr) (cl : List (Str × Addr)) (fp : List Addr), PG (X.blk s H scope (compEnvC scope cl C X.env) fp) tg (gT G t))
    (ht : ∀ (s : Shared) (H : Hp) (C : Addr) (cl : List (Str × Addr)) (fp : List Addr), PTs (X.blk s H scope (compEnvC scope cl C X.env) fp) ifs (tTs G c mc))
    (he : ∀ (s : Shared) (H : Hp) (C : Addr) (cl : List (Str × Addr)) (fp : List Addr), PE (X.blk s H scope (compEnvC scope cl C X.env) fp) elt (tE G me)) (hs : ∀ x, foldedSetIterable iter X.env x = pure x) :
    PS X (.Assign [.Name y py] (.ListComp elt [⟨tg, iter, ifs, 0⟩] scope pos) pos') (tS G (mAsg (.slot i) fun ρ => M.bnd (ma ρ) fun x => M.bnd (mb ρ) fun y => M.bnd (M.of (itD k x y)) fun its => M.bnd (compM (turnM t c mc me ρ) its []) fun l => M.ret (.lst l))) :=
  (ps_setLc hc hN hy hyl hsw hi ok hg ht he hs).imp fun E σ H h => by
    refine s_comp hc hN hi ok hown hg ht he hs ?_
    obtain ⟨C, st, ρ, d, st', hl, rs, e, f⟩ := asg_end h
    refine ⟨C, st, ρ, d, st', hl, rs, e, fun v H1 x1 h1 r1 => ?_⟩
    obtain ⟨C2, st2, ρ2, d2, ρ', hl2, rs2, r2, e2, f2⟩ := f v H1 x1 h1 r1
    cases e2
    refine f2 _ (rs2.set r2 i) ⟨by simp, fun j hj => ?_⟩
    have : i ≠ j := fun z => hj (by rw [z]; exact List.mem_singleton.mpr rfl)
    rw [List.getElem?_set_ne this]
/-- two names, stored from the right -/
theorem st_par2 {i j : Nat} {x y : Str} {a b : Expr} {px py pt : Pos} {kt k2 : Nat} {pt2 : Pos} (hc : X.calm = true) (hN : X.N.Nodup) (hi : X.N[i]? = some x) (hj : X.N[j]? = some y) (hij : i ≠ j)
    (hx : X.env.scope.names.lookup x = some .local) (hy : X.env.scope.names.lookup y = some .local) (ha : PA X [a, b] (tA G ma))
    (hw : swappedStores [.Tuple [.Name x px, .Name y py] kt pt] (.Tuple [a, b] k2 pt2) X.env = pure (some [x, y])) (hs : swapsWithSole [.Tuple [.Name x px, .Name y py] kt pt] (.Tuple [a, b] k2 pt2) pos.line X.env = pure false) :
    PS X (.Assign [.Tuple [.Name x px, .Name y py] kt pt] (.Tuple [a, b] k2 pt2) pos) (tS G (mAsg (.tup (.cons (.slot i) (.cons (.slot j) .nil))) fun ρ => M.bnd (ma ρ) fun y => M.of ((unL y).map .tup))) :=
  (ps_par hc hN hi hj hij hx hy ha hw hs).imp fun E σ H ⟨C, st, ρ, o, st', hl, rs, e, f⟩ => by
    unfold mAsg at e
    replace e := bnd_some e
    obtain ⟨d, s1, e1, e⟩ := e
    replace e := of_some e
    obtain ⟨e, rfl⟩ := e
    rw [Option.map_eq_some_iff] at e
    obtain ⟨ρ', e2, rfl⟩ := e
    replace e1 := bnd_some e1
    obtain ⟨y, s2, e3, e4⟩ := e1
    replace e4 := of_some e4
    obtain ⟨e4, rfl⟩ := e4
    rw [Option.map_eq_some_iff] at e4
    obtain ⟨l, e5, rfl⟩ := e4
    cases y <;> first | (cases e5; done) | skip
    cases e5
    refine ⟨C, st, ρ, l, _, hl, rs, e3, fun vs H1 x1 h1 r1 => ?_⟩
    match l, e2, r1 with
    | [], e2, _ => cases e2
    | [_], e2, _ => cases e2
    | _ :: _ :: _ :: _, e2, _ => cases e2
    | [d1, d2], e2, r1 =>
      cases e2
      obtain ⟨v, w, rfl, q1, q2⟩ := r1.inv2
      exact ⟨v, w, rfl, f _ H1 x1 h1 (((rs.ext hl x1).set q1 i).set q2 j)⟩
theorem st_par3 {i j n : Nat} {x y z : Str} {a b c : Expr} {px py pz pt : Pos} {kt k2 : Nat} {pt2 : Pos} (hc : X.calm = true) (hN : X.N.Nodup) (hi : X.N[i]? = some x) (hj : X.N[j]? = some y) (hn : X.N[n]? = some z) (hij : i ≠ j) (hin : i ≠ n) (hjn : j ≠ n)
    (hx : X.env.scope.names.lookup x = some .local) (hy : X.env.scope.names.lookup y = some .local) (hz : X.env.scope.names.lookup z = some .local) (ha : PA X [a, b, c] (tA G ma))
    (hw : swappedStores [.Tuple [.Name x px, .Name y py, .Name z pz] kt pt] (.Tuple [a, b, c] k2 pt2) X.env = pure (some [x, y, z])) (hs : swapsWithSole [.Tuple [.Name x px, .Name y py, .Name z pz] kt pt] (.Tuple [a, b, c] k2 pt2) pos.line X.env = pure false) :
    PS X (.Assign [.Tuple [.Name x px, .Name y py, .Name z pz] kt pt] (.Tuple [a, b, c] k2 pt2) pos) (tS G (mAsg (.tup (.cons (.slot i) (.cons (.slot j) (.cons (.slot n) .nil)))) fun ρ => M.bnd (ma ρ) fun y => M.of ((unL y).map .tup))) :=
  (ps_par3 hc hN hi hj hn hij hin hjn hx hy hz ha hw hs).imp fun E σ H ⟨C, st, ρ, o, st', hl, rs, e, f⟩ => by
    unfold mAsg at e
    replace e := bnd_some e
    obtain ⟨d, s1, e1, e⟩ := e
    replace e := of_some e
    obtain ⟨e, rfl⟩ := e
    rw [Option.map_eq_some_iff] at e
    obtain ⟨ρ', e2, rfl⟩ := e
    replace e1 := bnd_some e1
    obtain ⟨y, s2, e3, e4⟩ := e1
    replace e4 := of_some e4
    obtain ⟨e4, rfl⟩ := e4
    rw [Option.map_eq_some_iff] at e4
    obtain ⟨l, e5, rfl⟩ := e4
    cases y <;> first | (cases e5; done) | skip
    cases e5
    refine ⟨C, st, ρ, l, _, hl, rs, e3, fun vs H1 x1 h1 r1 => ?_⟩
    match l, e2, r1 with
    | [], e2, _ => cases e2
    | [_], e2, _ => cases e2
    | [_, _], e2, _ => cases e2
    | _ :: _ :: _ :: _ :: _, e2, _ => cases e2
    | [d1, d2, d3], e2, r1 =>
      cases e2
      obtain ⟨v, w, u, rfl, q1, q2, q3⟩ := r1.inv3
      exact ⟨v, w, u, rfl, f _ H1 x1 h1 ((((rs.ext hl x1).set q1 i).set q2 j).set q3 n)⟩
/-! loops -/
theorem forM_nil {f : D → Ev → M Out} {ρ : Ev} {o : Out} {s s' : Cup} (h : forM' f [] ρ s = some (o, s')) : o = .nx ρ ∧ s' = s := by
  have h' : M.ret (.nx ρ) s = some (o, s') := h
  exact ret_some h'
theorem forM_cons {f : D → Ev → M Out} {x : D} {r : List D} {ρ : Ev} {o : Out} {s s' : Cup} (h : forM' f (x :: r) ρ s = some (o, s')) :
    ∃ o1 s1, f x ρ s = some (o1, s1) ∧ match o1 with
      | .nx ρ' => forM' f r ρ' s1 = some (o, s')
      | .rt d => o = .rt d ∧ s' = s1 := by
  have h' : M.bnd (f x ρ) (fun
    | .nx ρ' => forM' f r ρ'
    | .rt d => M.ret (.rt d)) s = some (o, s') := h
  obtain ⟨o1, s1, e1, e⟩ := bnd_some h'
  refine ⟨o1, s1, e1, ?_⟩
  cases o1 with
  | nx ρ' => exact e
  | rt d => exact ret_some e
theorem st_for {tg iter : Expr} {body : List Stmt} {k : IK} {t : Tg} {mbd : Ev → M Out} (hp : PassesOwn (model X.prog X.w) X.A X.env X.xe) (hc : X.calm = true) (hi : PI X tg iter (tI G k ma mb)) (hg : PG X tg (gT G t)) (hb : PSs X body (tS G mbd))
    (hs : ∀ x, foldedSetIterable iter X.env x = pure x) : PS X (.For tg iter body [] pos) (tS G fun ρ => M.bnd (ma ρ) fun x => M.bnd (mb ρ) fun y => M.bnd (M.of (itD k x y)) fun its => forM' (fun d ρ1 => M.bnd (M.of (asgT t d ρ1)) fun ρ2 => mbd ρ2) its ρ) :=
  (ps_for hp hc hi hg hb hs).imp fun E σ H ⟨C, st, ρ, o, st', hl, rs, e, f⟩ => by
    replace e := bnd_some e
    obtain ⟨x, s1, e1, e⟩ := e
    replace e := bnd_some e
    obtain ⟨y, s2, e2, e⟩ := e
    replace e := bnd_some e
    obtain ⟨its, s3, e3, e⟩ := e
    replace e3 := of_some e3
    obtain ⟨e3, rfl⟩ := e3
    refine ⟨C, st, ρ, its, s3, hl, rs, ?_, fun J H1 x1 h1 wk => ?_⟩
    · unfold M.bnd M.of
      rw [e1]
      simp only [e2, e3]
    refine ⟨fun i m σ2 H2 => m = its.length - i ∧ i ≤ its.length ∧ ∃ stc ρc, Ext C H1 H2 ∧ Held G C stc H2 ∧ RepS G C H2 σ2 ρc ∧ forM' (fun d ρ1 => M.bnd (M.of (asgT t d ρ1)) fun ρ2 => mbd ρ2) (its.drop i) ρc stc = some (o, st'), ⟨its.length, rfl, Nat.zero_le _, s3, ρ, Ext.refl _ _, h1, rs.ext hl x1, e⟩, ?_⟩
    rintro i m σ2 H2 ⟨rfl, hi, stc, ρc, x2, h2, rs2, e5⟩
    obtain ⟨stop, step⟩ := wk C stc H2 (Over.refl _ _) x2 h2
    by_cases hlt : i < its.length
    · obtain ⟨go, yl⟩ := step i _ (List.getElem?_eq_getElem hlt)
      have hdrop : its.drop i = its[i] :: its.drop (i + 1) := (List.getElem_cons_drop hlt).symm
      rw [hdrop] at e5
      obtain ⟨o1, s5, e6, e7⟩ := forM_cons e5
      replace e6 := bnd_some e6
      obtain ⟨ρ1, s6, e8, e9⟩ := e6
      replace e8 := of_some e8
      obtain ⟨e8, rfl⟩ := e8
      refine .inr ⟨go, fun σ' H' => ∃ stc ρc, Ext C H1 H' ∧ Held G C stc H' ∧ RepS G C H' σ' ρc ∧ forM' (fun d ρ1 => M.bnd (M.of (asgT t d ρ1)) fun ρ2 => mbd ρ2) (its.drop (i + 1)) ρc stc = some (o, st'), fun σ' H' hN' => ⟨its.length - (i + 1), by omega, rfl, hlt, hN'⟩, fun v H3 hy => ?_⟩
      obtain ⟨x3, h3, r3⟩ := yl v H3 hy
      refine ⟨C, s6, ρc, _, ρ1, h3, rs2.ext h2 x3, r3, e8, fun σ4 rs4 off => ⟨C, s6, ρ1, o1, s5, h3, rs4, e9, ?_⟩⟩
      cases o1 with
      | nx ρ' => exact fun σ' H' x' h' r' => ⟨s5, ρ', (x2.trans x3).trans x', h', r', e7⟩
      | rt d =>
        obtain ⟨rfl, rfl⟩ := e7
        exact fun v' H' x' h' r' => f v' H' (((x1.trans x2).trans x3).trans x') h' r'
    · have ei : i = its.length := by omega
      subst ei
      rw [List.drop_length] at e5
      obtain ⟨rfl, rfl⟩ := forM_nil e5
      exact .inl ⟨stop, f σ2 H2 (x1.trans x2) h2 rs2⟩
theorem st_while {c : Expr} {body : List Stmt} {mbd : Ev → M Out} {n : Nat} (hp : PassesOwn (model X.prog X.w) X.A X.env X.xe) (hc : PT X c (tB G mc)) (hb : PSs X body (tS G mbd)) : PS X (.While c body [] pos) (tS G fun ρ => whlM (fun ρ1 => M.bnd (mc ρ1) fun x => M.of (asBool x)) mbd n ρ) :=
  (ps_while hp hc hb).imp fun E σ H ⟨C, st, ρ, o, st', hl, rs, e, f⟩ => by
    refine ⟨fun m σ2 H2 => ∃ stc ρc, Ext C H H2 ∧ Held G C stc H2 ∧ RepS G C H2 σ2 ρc ∧ whlM (fun ρ1 => M.bnd (mc ρ1) fun x => M.of (asBool x)) mbd m ρc stc = some (o, st'), ⟨n, st, ρ, Ext.refl _ _, hl, rs, e⟩, ?_⟩
    rintro m σ2 H2 ⟨stc, ρc, x2, h2, rs2, e5⟩
    cases m with
    | zero => cases e5
    | succ m =>
    have e6 : M.bnd (M.bnd (mc ρc) fun x => M.of (asBool x)) (fun
      | false => M.ret (.nx ρc)
      | true => M.bnd (mbd ρc) fun
        | .nx ρ' => whlM (fun ρ1 => M.bnd (mc ρ1) fun x => M.of (asBool x)) mbd m ρ'
        | .rt d => M.ret (.rt d)) stc = some (o, st') := e5
    obtain ⟨b, s1, e7, e8⟩ := bnd_some e6
    replace e7 := bnd_some e7
    obtain ⟨x, s2, e9, e10⟩ := e7
    replace e10 := of_some e10
    obtain ⟨e10, rfl⟩ := e10
    rw [asBool_some e10] at e9
    refine ⟨C, stc, ρc, b, _, h2, rs2, e9, fun H3 x3 h3 => ?_⟩
    cases b with
    | false =>
      obtain ⟨rfl, rfl⟩ := ret_some e8
      exact iteF (f σ2 H3 (x2.trans x3) h3 (rs2.ext h2 x3))
    | true =>
      obtain ⟨o1, s3, e11, e12⟩ := bnd_some e8
      refine iteT ⟨fun σ' H' => ∃ stc ρc, Ext C H H' ∧ Held G C stc H' ∧ RepS G C H' σ' ρc ∧ whlM (fun ρ1 => M.bnd (mc ρ1) fun x => M.of (asBool x)) mbd m ρc stc = some (o, st'), fun σ' H' hN => ⟨m, Nat.lt_succ_self m, hN⟩, ⟨C, _, ρc, o1, s3, h3, rs2.ext h2 x3, e11, ?_⟩⟩
      cases o1 with
      | nx ρ' => exact fun σ' H' x' h' r' => ⟨s3, ρ', (x2.trans x3).trans x', h', r', e12⟩
      | rt d =>
        obtain ⟨rfl, rfl⟩ := ret_some e12
        exact fun v' H' x' h' r' => f v' H' ((x2.trans x3).trans x') h' r'
end
end N57
end
section
set_option maxRecDepth 100000
/-! The linked text's defs as trees; printed by gen.py. -/
namespace N57
open PySem

/-! is_whole: 0 value, 1 low, 2 high -/
abbrev b_is_whole_0 : Sm := (.ret (.and (.pr (.isi "int") (.cons (.var 0) .nil)) (.and (.not (.pr (.isi "bool") (.cons (.var 0) .nil))) (.chain .le .le (.var 1) (.var 0) (.var 2)))))
abbrev b_is_whole : Sm := (.cons b_is_whole_0 .nil)
abbrev f_is_whole : Nat := 0
/-! is_row_of: 0 value, 1 low, 2 high -/
abbrev b_is_row_of_0 : Sm := (.ret (.and (.pr (.isi "tuple") (.cons (.var 0) .nil)) (.chain .le .le (.var 1) (.pr .len (.cons (.var 0) .nil)) (.var 2))))
abbrev b_is_row_of : Sm := (.cons b_is_row_of_0 .nil)
abbrev f_is_row_of : Nat := 1
/-! fits_word: 0 value, 1 letter -/
abbrev b_fits_word_0 : Sm := (.iff (.or (.not (.pr (.isi "str") (.cons (.var 0) .nil))) (.or (.not (.chain .le .le (.con (.int 1)) (.pr .len (.cons (.var 0) .nil)) (.con (.int 6)))) (.cmp .inQ (.var 0) (.glb 5)))) (.cons (.ret (.con (.bl false))) .nil) .nil)
abbrev b_fits_word_1 : Sm := (.ret (.pr .all (.cons (.comp (.slot 1) .str (.var 0) .nil .nil (.cmp .inS (.var 1) (.glb 4))) .nil)))
abbrev b_fits_word : Sm := (.cons b_fits_word_0 (.cons b_fits_word_1 .nil))
abbrev f_fits_word : Nat := 2
/-! fits_name: 0 value, 1 marks, 2 mark, 3 one, 4 two -/
abbrev b_fits_name_0 : Sm := (.iff (.or (.not (.call 1 (.cons (.var 0) (.cons (.con (.int 2)) (.cons (.con (.int 2)) .nil))))) (.or (.not (.call 2 (.cons (.ix (.var 0) (.con (.int 0))) .nil))) (.not (.call 1 (.cons (.ix (.var 0) (.con (.int 1))) (.cons (.con (.int 0)) (.cons (.glb 3) .nil))))))) (.cons (.ret (.con (.bl false))) .nil) .nil)
abbrev b_fits_name_1 : Sm := (.asg (.slot 1) (.ix (.var 0) (.con (.int 1))))
abbrev b_fits_name_2 : Sm := (.ret (.and (.pr .all (.cons (.comp (.slot 2) .tup (.var 1) .nil .nil (.call 0 (.cons (.var 2) (.cons (.con (.int 1)) (.cons (.glb 3) .nil))))) .nil)) (.pr .all (.cons (.comp (.tup (.cons (.slot 3) (.cons (.slot 4) .nil))) .zipT (.var 1) (.sl (.var 1) (.con (.int 1)) .nil) .nil (.cmp .lt (.var 3) (.var 4))) .nil))))
abbrev b_fits_name : Sm := (.cons b_fits_name_0 (.cons b_fits_name_1 (.cons b_fits_name_2 .nil)))
abbrev f_fits_name : Nat := 3
/-! things_in: 0 kind, 1 item, 2 holes, 3 one -/
abbrev b_things_in_0 : Sm := (.iff (.cmp .eq (.var 0) (.con (.str [116, 114, 101, 101]))) (.cons (.ret (.lst (.cons (.tup (.cons (.var 1) (.cons (.var 2) .nil))) .nil))) .nil) .nil)
abbrev b_things_in_1 : Sm := (.iff (.cmp .eq (.var 0) (.con (.str [116, 114, 101, 101, 115]))) (.cons (.ret (.ite (.call 1 (.cons (.var 1) (.cons (.con (.int 0)) (.cons (.con (.int 6)) .nil)))) (.comp (.slot 3) .tup (.var 1) .nil .nil (.tup (.cons (.var 3) (.cons (.var 2) .nil)))) (.con .non))) .nil) .nil)
abbrev b_things_in_2 : Sm := (.iff (.cmp .eq (.var 0) (.con (.str [114, 111, 119, 115]))) (.cons .bad .nil) .nil)
abbrev b_things_in_3 : Sm := (.iff (.cmp .eq (.var 0) (.con (.str [104, 111, 108, 101]))) (.cons (.ret (.ite (.and (.pr (.isi "str") (.cons (.var 1) .nil)) (.cmp .inT (.var 1) (.var 2))) (.lst .nil) (.con .non))) .nil) .nil)
abbrev b_things_in_4 : Sm := (.iff (.cmp .eq (.var 0) (.con (.str [97, 109, 111, 117, 110, 116]))) (.cons (.ret (.ite (.call 0 (.cons (.var 1) (.cons (.neg (.glb 2)) (.cons (.glb 2) .nil)))) (.lst .nil) (.con .non))) .nil) .nil)
abbrev b_things_in_5 : Sm := (.iff (.cmp .eq (.var 0) (.con (.str [115, 105, 103, 110]))) (.cons (.ret (.ite (.and (.pr (.isi "str") (.cons (.var 1) .nil)) (.cmp .inQ (.var 1) (.glb 6))) (.lst .nil) (.con .non))) .nil) .nil)
abbrev b_things_in_6 : Sm := (.iff (.and (.cmp .eq (.var 0) (.con (.str [98, 105, 110, 100, 101, 114]))) (.and (.call 1 (.cons (.var 1) (.cons (.con (.int 2)) (.cons (.con (.int 2)) .nil)))) (.cmp .eq (.ix (.var 1) (.con (.int 0))) (.con (.str [102, 105, 108, 108]))))) (.cons (.ret (.ite (.and (.pr (.isi "str") (.cons (.ix (.var 1) (.con (.int 1))) .nil)) (.cmp .eq (.pr .get (.cons (.var 2) (.cons (.ix (.var 1) (.con (.int 1))) (.cons (.con .non) .nil)))) (.con (.str [110, 97, 109, 101])))) (.lst .nil) (.con .non))) .nil) .nil)
abbrev b_things_in_7 : Sm := (.ret (.ite (.call 3 (.cons (.var 1) .nil)) (.lst .nil) (.con .non)))
abbrev b_things_in : Sm := (.cons b_things_in_0 (.cons b_things_in_1 (.cons b_things_in_2 (.cons b_things_in_3 (.cons b_things_in_4 (.cons b_things_in_5 (.cons b_things_in_6 (.cons b_things_in_7 .nil))))))))
abbrev f_things_in : Nat := 4
/-! things_of: 0 value, 1 holes, 2 kinds, 3 found, 4 kind, 5 item, 6 some -/
abbrev b_things_of_L0b : Sm := (.cons (.asg (.slot 6) (.call 4 (.cons (.var 4) (.cons (.var 5) (.cons (.var 1) .nil))))) (.cons (.iff (.isN (.var 6)) (.cons (.ret (.con .non)) .nil) .nil) (.cons (.asg (.slot 3) (.op .add (.var 3) (.var 6))) .nil)))
abbrev b_things_of_0 : Sm := (.iff (.or (.not (.pr (.isi "tuple") (.cons (.var 0) .nil))) (.or (.cmp .eq (.var 0) (.tup .nil)) (.or (.not (.pr (.isi "str") (.cons (.ix (.var 0) (.con (.int 0))) .nil))) (.cmp .ninT (.ix (.var 0) (.con (.int 0))) (.glb 7))))) (.cons (.ret (.con .non)) .nil) .nil)
abbrev b_things_of_1 : Sm := (.asg (.tup (.cons (.slot 2) (.cons (.slot 3) .nil))) (.tup (.cons (.ix (.glb 7) (.ix (.var 0) (.con (.int 0)))) (.cons (.lst .nil) .nil))))
abbrev b_things_of_2 : Sm := (.iff (.cmp .ne (.pr .len (.cons (.var 0) .nil)) (.op .add (.pr .len (.cons (.var 2) .nil)) (.con (.int 1)))) (.cons (.ret (.con .non)) .nil) .nil)
abbrev b_things_of_3 : Sm := (.forr (.tup (.cons (.slot 4) (.cons (.slot 5) .nil))) .zipT (.var 2) (.sl (.var 0) (.con (.int 1)) .nil) b_things_of_L0b)
abbrev b_things_of_4 : Sm := (.ret (.var 3))
abbrev b_things_of : Sm := (.cons b_things_of_0 (.cons b_things_of_1 (.cons b_things_of_2 (.cons b_things_of_3 (.cons b_things_of_4 .nil)))))
abbrev f_things_of : Nat := 5
/-! pieces_in: 0 tree, 1 row -/
abbrev b_pieces_in_0 : Sm := (.ret (.ite (.cmp .eq (.ix (.var 0) (.con (.int 0))) (.con (.str [109, 97, 107, 101, 114]))) (.pr .sum (.cons (.comp (.slot 1) .tup (.ix (.var 0) (.con (.int 2))) .nil .nil (.pr .len (.cons (.ix (.var 1) (.con (.int 0))) .nil))) .nil)) (.con (.int 0))))
abbrev b_pieces_in : Sm := (.cons b_pieces_in_0 .nil)
abbrev f_pieces_in : Nat := 6
/-! measured: 0 value, 1 line, 2 size, 3 deepest, 4 here, 5 holes, 6 depth, 7 some, 8 one, 9 inner -/
abbrev b_measured_L0c : Tm := (.cmp .ne (.var 1) (.lst .nil))
abbrev b_measured_L0b : Sm := (.cons (.asg (.tup (.cons (.tup (.cons (.slot 4) (.cons (.slot 5) (.cons (.slot 6) .nil)))) (.cons (.slot 1) .nil))) (.tup (.cons (.ix (.var 1) (.neg (.con (.int 1)))) (.cons (.sl (.var 1) .nil (.neg (.con (.int 1)))) .nil)))) (.cons (.asg (.slot 7) (.call 5 (.cons (.var 4) (.cons (.var 5) .nil)))) (.cons (.iff (.or (.isN (.var 7)) (.cmp .gt (.var 6) (.glb 1))) (.cons (.ret (.con .non)) .nil) .nil) (.cons (.asg (.tup (.cons (.slot 2) (.cons (.slot 3) .nil))) (.tup (.cons (.op .add (.op .add (.var 2) (.con (.int 1))) (.call 6 (.cons (.var 4) .nil))) (.cons (.pr .max2 (.cons (.var 3) (.cons (.var 6) .nil))) .nil)))) (.cons (.iff (.cmp .gt (.var 2) (.glb 0)) (.cons (.ret (.con .non)) .nil) .nil) (.cons (.asg (.slot 1) (.op .add (.var 1) (.comp (.tup (.cons (.slot 8) (.cons (.slot 9) .nil))) .lst (.var 7) .nil .nil (.tup (.cons (.var 8) (.cons (.var 9) (.cons (.op .add (.var 6) (.con (.int 1))) .nil))))))) .nil))))))
abbrev b_measured_0 : Sm := (.asg (.tup (.cons (.slot 1) (.cons (.slot 2) (.cons (.slot 3) .nil)))) (.tup (.cons (.lst (.cons (.tup (.cons (.var 0) (.cons .dic0 (.cons (.con (.int 1)) .nil)))) .nil)) (.cons (.con (.int 0)) (.cons (.con (.int 0)) .nil)))))
abbrev b_measured_1 : Sm := (.whl b_measured_L0c b_measured_L0b)
abbrev b_measured_2 : Sm := (.ret (.tup (.cons (.var 2) (.cons (.var 3) .nil))))
abbrev b_measured : Sm := (.cons b_measured_0 (.cons b_measured_1 (.cons b_measured_2 .nil)))
abbrev f_measured : Nat := 7
/-! parts_in: 0 tree, 1 row -/
abbrev b_parts_in_0 : Sm := (.iff (.cmp .eq (.ix (.var 0) (.con (.int 0))) (.con (.str [109, 97, 107, 101, 114]))) (.cons (.ret (.op .add (.comp (.slot 1) .tup (.ix (.var 0) (.con (.int 2))) .nil .nil (.ix (.var 1) (.con (.int 1)))) (.lst (.cons (.ix (.var 0) (.con (.int 3))) .nil)))) .nil) .nil)
abbrev b_parts_in_1 : Sm := (.iff (.cmp .eq (.ix (.var 0) (.con (.int 0))) (.con (.str [109, 97, 107, 101]))) (.cons (.ret (.pr .list (.cons (.ix (.var 0) (.con (.int 2))) .nil))) .nil) .nil)
abbrev b_parts_in_2 : Sm := (.iff (.cmp .inQ (.ix (.var 0) (.con (.int 0))) (.tup (.cons (.con (.str [97, 109, 111, 117, 110, 116])) (.cons (.con (.str [117, 115, 101])) (.cons (.con (.str [102, 105, 108, 108])) .nil))))) (.cons (.ret (.lst .nil)) .nil) .nil)
abbrev b_parts_in_3 : Sm := (.ret (.ite (.cmp .inQ (.ix (.var 0) (.con (.int 0))) (.tup (.cons (.con (.str [103, 105, 118, 101, 110])) (.cons (.con (.str [104, 111, 108, 100])) (.cons (.con (.str [114, 101, 99, 107, 111, 110])) .nil))))) (.pr .list (.cons (.sl (.var 0) (.con (.int 2)) .nil) .nil)) (.pr .list (.cons (.sl (.var 0) (.con (.int 1)) .nil) .nil))))
abbrev b_parts_in : Sm := (.cons b_parts_in_0 (.cons b_parts_in_1 (.cons b_parts_in_2 (.cons b_parts_in_3 .nil))))
abbrev f_parts_in : Nat := 8
/-! with_parts: 0 tree, 1 parts, 2 rows, 3 row, 4 form -/
abbrev b_with_parts_0 : Sm := (.iff (.cmp .eq (.ix (.var 0) (.con (.int 0))) (.con (.str [109, 97, 107, 101, 114]))) (.cons (.asg (.slot 2) (.pr .tuple (.cons (.comp (.tup (.cons (.slot 3) (.cons (.slot 4) .nil))) .zipT (.ix (.var 0) (.con (.int 2))) (.var 1) .nil (.tup (.cons (.ix (.var 3) (.con (.int 0))) (.cons (.var 4) .nil)))) .nil))) (.cons (.ret (.op .add (.sl (.var 0) .nil (.con (.int 2))) (.tup (.cons (.var 2) (.cons (.ix (.var 1) (.neg (.con (.int 1)))) .nil))))) .nil)) .nil)
abbrev b_with_parts_1 : Sm := (.iff (.cmp .eq (.ix (.var 0) (.con (.int 0))) (.con (.str [109, 97, 107, 101]))) (.cons (.ret (.op .add (.sl (.var 0) .nil (.con (.int 2))) (.tup (.cons (.pr .tuple (.cons (.var 1) .nil)) .nil)))) .nil) .nil)
abbrev b_with_parts_2 : Sm := (.ret (.op .add (.sl (.var 0) .nil (.op .sub (.pr .len (.cons (.var 0) .nil)) (.pr .len (.cons (.var 1) .nil)))) (.pr .tuple (.cons (.var 1) .nil))))
abbrev b_with_parts : Sm := (.cons b_with_parts_0 (.cons b_with_parts_1 (.cons b_with_parts_2 .nil)))
abbrev f_with_parts : Nat := 9
/-! led_to: 0 tree, 1 path, 2 at -/
abbrev b_led_to_L0b : Sm := (.cons (.asg (.slot 0) (.ix (.call 8 (.cons (.var 0) .nil)) (.var 2))) .nil)
abbrev b_led_to_0 : Sm := (.forr (.slot 2) .tup (.var 1) .nil b_led_to_L0b)
abbrev b_led_to_1 : Sm := (.ret (.var 0))
abbrev b_led_to : Sm := (.cons b_led_to_0 (.cons b_led_to_1 .nil))
abbrev f_led_to : Nat := 10
/-! line_to: 0 tree, 1 path, 2 found, 3 at -/
abbrev b_line_to_L0b : Sm := (.cons (.asg (.slot 2) (.op .add (.var 2) (.lst (.cons (.ix (.call 8 (.cons (.ix (.var 2) (.neg (.con (.int 1)))) .nil)) (.var 3)) .nil)))) .nil)
abbrev b_line_to_0 : Sm := (.asg (.slot 2) (.lst (.cons (.var 0) .nil)))
abbrev b_line_to_1 : Sm := (.forr (.slot 3) .tup (.var 1) .nil b_line_to_L0b)
abbrev b_line_to_2 : Sm := (.ret (.var 2))
abbrev b_line_to : Sm := (.cons b_line_to_0 (.cons b_line_to_1 (.cons b_line_to_2 .nil)))
abbrev f_line_to : Nat := 11
/-! rebuilt: 0 tree, 1 path, 2 other, 3 line, 4 found, 5 place, 6 parts -/
abbrev b_rebuilt_L0b : Sm := (.cons (.asg (.slot 6) (.call 8 (.cons (.ix (.var 3) (.var 5)) .nil))) (.cons (.asg (.slot 4) (.call 9 (.cons (.ix (.var 3) (.var 5)) (.cons (.op .add (.op .add (.sl (.var 6) .nil (.ix (.var 1) (.var 5))) (.lst (.cons (.var 4) .nil))) (.sl (.var 6) (.op .add (.ix (.var 1) (.var 5)) (.con (.int 1))) .nil)) .nil)))) .nil))
abbrev b_rebuilt_0 : Sm := (.asg (.tup (.cons (.slot 3) (.cons (.slot 4) .nil))) (.tup (.cons (.call 11 (.cons (.var 0) (.cons (.var 1) .nil))) (.cons (.var 2) .nil))))
abbrev b_rebuilt_1 : Sm := (.forr (.slot 5) .rngD (.op .sub (.pr .len (.cons (.var 1) .nil)) (.con (.int 1))) .nil b_rebuilt_L0b)
abbrev b_rebuilt_2 : Sm := (.ret (.var 4))
abbrev b_rebuilt : Sm := (.cons b_rebuilt_0 (.cons b_rebuilt_1 (.cons b_rebuilt_2 .nil)))
abbrev f_rebuilt : Nat := 12
/-! paths_in: 0 tree, 1 found, 2 line, 3 path, 4 here, 5 at, 6 part -/
abbrev b_paths_in_L0c : Tm := (.cmp .ne (.var 2) (.lst .nil))
abbrev b_paths_in_L0b : Sm := (.cons (.asg (.tup (.cons (.tup (.cons (.slot 3) (.cons (.slot 4) .nil))) (.cons (.slot 2) .nil))) (.tup (.cons (.ix (.var 2) (.neg (.con (.int 1)))) (.cons (.sl (.var 2) .nil (.neg (.con (.int 1)))) .nil)))) (.cons (.asg (.slot 1) (.op .add (.var 1) (.lst (.cons (.var 3) .nil)))) (.cons (.asg (.slot 2) (.op .add (.var 2) (.comp (.tup (.cons (.slot 5) (.cons (.slot 6) .nil))) .enum (.call 8 (.cons (.var 4) .nil)) .nil .nil (.tup (.cons (.op .add (.var 3) (.tup (.cons (.var 5) .nil))) (.cons (.var 6) .nil)))))) .nil)))
abbrev b_paths_in_0 : Sm := (.asg (.tup (.cons (.slot 1) (.cons (.slot 2) .nil))) (.tup (.cons (.lst .nil) (.cons (.lst (.cons (.tup (.cons (.tup .nil) (.cons (.var 0) .nil))) .nil)) .nil))))
abbrev b_paths_in_1 : Sm := (.whl b_paths_in_L0c b_paths_in_L0b)
abbrev b_paths_in_2 : Sm := (.ret (.pr .sortP (.cons (.var 1) .nil)))
abbrev b_paths_in : Sm := (.cons b_paths_in_0 (.cons b_paths_in_1 (.cons b_paths_in_2 .nil)))
abbrev f_paths_in : Nat := 13
/-! names_at: 0 tree, 1 found, 2 pattern, 3 form, 4 piece -/
abbrev b_names_at_L0b : Sm := (.cons (.asg (.slot 1) (.op .add (.var 1) (.comp (.slot 4) .tup (.var 2) .nil (.cmp .eq (.ix (.var 4) (.con (.int 0))) (.con (.str [119, 111, 114, 100]))) (.ix (.var 4) (.con (.int 1)))))) .nil)
abbrev b_names_at_0 : Sm := (.asg (.slot 1) (.ite (.and (.cmp .inQ (.ix (.var 0) (.con (.int 0))) (.tup (.cons (.con (.str [117, 115, 101])) (.cons (.con (.str [103, 105, 118, 101, 110])) (.cons (.con (.str [104, 111, 108, 100])) (.cons (.con (.str [109, 97, 107, 101, 114])) (.cons (.con (.str [109, 97, 107, 101])) .nil))))))) (.cmp .ne (.ix (.ix (.var 0) (.con (.int 1))) (.con (.int 0))) (.con (.str [102, 105, 108, 108])))) (.lst (.cons (.ix (.var 0) (.con (.int 1))) .nil)) (.lst .nil)))
abbrev b_names_at_1 : Sm := (.iff (.cmp .eq (.ix (.var 0) (.con (.int 0))) (.con (.str [109, 97, 107, 101, 114]))) (.cons (.forr (.tup (.cons (.slot 2) (.cons (.slot 3) .nil))) .tup (.ix (.var 0) (.con (.int 2))) .nil b_names_at_L0b) .nil) .nil)
abbrev b_names_at_2 : Sm := (.ret (.var 1))
abbrev b_names_at : Sm := (.cons b_names_at_0 (.cons b_names_at_1 (.cons b_names_at_2 .nil)))
abbrev f_names_at : Nat := 14
/-! is_all_plain: 0 tree, 1 path, 2 here, 3 name -/
abbrev b_is_all_plain_L0b : Sm := (.cons (.asg (.slot 2) (.call 10 (.cons (.var 0) (.cons (.var 1) .nil)))) (.cons (.iff (.or (.cmp .inQ (.ix (.var 2) (.con (.int 0))) (.tup (.cons (.con (.str [109, 97, 107, 101, 114])) (.cons (.con (.str [109, 97, 107, 101])) (.cons (.con (.str [102, 105, 108, 108])) .nil))))) (.cmp .ne (.comp (.slot 3) .lst (.call 14 (.cons (.var 2) .nil)) .nil (.cmp .ne (.ix (.var 3) (.con (.int 1))) (.tup .nil)) (.var 3)) (.lst .nil))) (.cons (.ret (.con (.bl false))) .nil) .nil) .nil))
abbrev b_is_all_plain_0 : Sm := (.forr (.slot 1) .lst (.call 13 (.cons (.var 0) .nil)) .nil b_is_all_plain_L0b)
abbrev b_is_all_plain_1 : Sm := (.ret (.con (.bl true)))
abbrev b_is_all_plain : Sm := (.cons b_is_all_plain_0 (.cons b_is_all_plain_1 .nil))
abbrev f_is_all_plain : Nat := 15
/-! binds_in: 0 tree, 1 at -/
abbrev b_binds_in_0 : Sm := (.iff (.or (.cmp .eq (.ix (.var 0) (.con (.int 0))) (.con (.str [103, 105, 118, 101, 110]))) (.cmp .eq (.ix (.var 0) (.con (.int 0))) (.con (.str [109, 97, 107, 101, 114])))) (.cons (.ret (.con (.bl true))) .nil) .nil)
abbrev b_binds_in_1 : Sm := (.ret (.and (.cmp .eq (.ix (.var 0) (.con (.int 0))) (.con (.str [104, 111, 108, 100]))) (.cmp .eq (.var 1) (.con (.int 1)))))
abbrev b_binds_in : Sm := (.cons b_binds_in_0 (.cons b_binds_in_1 .nil))
abbrev f_binds_in : Nat := 16
/-! nearest: 0 tree, 1 path, 2 name, 3 line, 4 place, 5 here -/
abbrev b_nearest_L0b : Sm := (.cons (.asg (.slot 5) (.ix (.var 3) (.var 4))) (.cons (.iff (.and (.cmp .inQ (.ix (.var 5) (.con (.int 0))) (.tup (.cons (.con (.str [103, 105, 118, 101, 110])) (.cons (.con (.str [104, 111, 108, 100])) (.cons (.con (.str [109, 97, 107, 101, 114])) .nil))))) (.and (.cmp .eq (.ix (.var 5) (.con (.int 1))) (.var 2)) (.call 16 (.cons (.var 5) (.cons (.ix (.var 1) (.var 4)) .nil))))) (.cons (.ret (.sl (.var 1) .nil (.var 4))) .nil) .nil) .nil))
abbrev b_nearest_0 : Sm := (.asg (.slot 3) (.call 11 (.cons (.var 0) (.cons (.var 1) .nil))))
abbrev b_nearest_1 : Sm := (.forr (.slot 4) .rngD (.op .sub (.pr .len (.cons (.var 1) .nil)) (.con (.int 1))) .nil b_nearest_L0b)
abbrev b_nearest_2 : Sm := (.ret (.con .non))
abbrev b_nearest : Sm := (.cons b_nearest_0 (.cons b_nearest_1 (.cons b_nearest_2 .nil)))
abbrev f_nearest : Nat := 17
/-! meant: 0 work, 1 path, 2 name, 3 tree, 4 makings, 5 found -/
abbrev b_meant_L0c : Tm := (.and (.isN (.var 5)) (.cmp .ne (.ix (.var 2) (.con (.int 1))) (.tup .nil)))
abbrev b_meant_L0b : Sm := (.cons (.iff (.cmp .gt (.ix (.ix (.var 2) (.con (.int 1))) (.neg (.con (.int 1)))) (.pr .len (.cons (.var 4) .nil))) (.cons (.ret (.tup (.cons (.con .non) (.cons (.ix (.var 2) (.con (.int 0))) .nil)))) .nil) .nil) (.cons (.asg (.tup (.cons (.slot 1) (.cons (.slot 2) .nil))) (.tup (.cons (.op .add (.ix (.var 4) (.op .sub (.ix (.ix (.var 2) (.con (.int 1))) (.neg (.con (.int 1)))) (.con (.int 1)))) (.tup (.cons (.con (.int 0)) .nil))) (.cons (.tup (.cons (.ix (.var 2) (.con (.int 0))) (.cons (.sl (.ix (.var 2) (.con (.int 1))) .nil (.neg (.con (.int 1)))) .nil))) .nil)))) (.cons (.asg (.slot 5) (.call 17 (.cons (.var 3) (.cons (.var 1) (.cons (.var 2) .nil))))) .nil)))
abbrev b_meant_0 : Sm := (.asg (.tup (.cons (.slot 3) (.cons (.slot 4) .nil))) (.var 0))
abbrev b_meant_1 : Sm := (.asg (.slot 5) (.call 17 (.cons (.var 3) (.cons (.var 1) (.cons (.var 2) .nil)))))
abbrev b_meant_2 : Sm := (.whl b_meant_L0c b_meant_L0b)
abbrev b_meant_3 : Sm := (.ret (.tup (.cons (.var 5) (.cons (.ix (.var 2) (.con (.int 0))) .nil))))
abbrev b_meant : Sm := (.cons b_meant_0 (.cons b_meant_1 (.cons b_meant_2 (.cons b_meant_3 .nil))))
abbrev f_meant : Nat := 18
/-! outer_places: 0 tree, 1 found, 2 line, 3 path, 4 here, 5 skipped, 6 at, 7 part -/
abbrev b_outer_places_L0c : Tm := (.cmp .ne (.var 2) (.lst .nil))
abbrev b_outer_places_L0b : Sm := (.cons (.asg (.tup (.cons (.tup (.cons (.slot 3) (.cons (.slot 4) .nil))) (.cons (.slot 2) .nil))) (.tup (.cons (.ix (.var 2) (.neg (.con (.int 1)))) (.cons (.sl (.var 2) .nil (.neg (.con (.int 1)))) .nil)))) (.cons (.asg (.slot 1) (.op .add (.var 1) (.lst (.cons (.tup (.cons (.var 3) (.cons (.var 4) .nil))) .nil)))) (.cons (.asg (.slot 5) (.ite (.cmp .eq (.ix (.var 4) (.con (.int 0))) (.con (.str [109, 97, 107, 101, 114]))) (.pr .len (.cons (.ix (.var 4) (.con (.int 2))) .nil)) (.con (.int 0)))) (.cons (.asg (.slot 2) (.op .add (.var 2) (.comp (.tup (.cons (.slot 6) (.cons (.slot 7) .nil))) .enum (.call 8 (.cons (.var 4) .nil)) .nil (.cmp .ge (.var 6) (.var 5)) (.tup (.cons (.op .add (.var 3) (.tup (.cons (.var 6) .nil))) (.cons (.var 7) .nil)))))) .nil))))
abbrev b_outer_places_0 : Sm := (.asg (.tup (.cons (.slot 1) (.cons (.slot 2) .nil))) (.tup (.cons (.lst .nil) (.cons (.lst (.cons (.tup (.cons (.tup .nil) (.cons (.var 0) .nil))) .nil)) .nil))))
abbrev b_outer_places_1 : Sm := (.whl b_outer_places_L0c b_outer_places_L0b)
abbrev b_outer_places_2 : Sm := (.ret (.pr .sortK (.cons (.var 1) .nil)))
abbrev b_outer_places : Sm := (.cons b_outer_places_0 (.cons b_outer_places_1 (.cons b_outer_places_2 .nil)))
abbrev f_outer_places : Nat := 19
/-! frees_in: 0 work, 1 found, 2 path, 3 here, 4 binder, 5 word -/
abbrev b_frees_in_L0b : Sm := (.cons (.iff (.cmp .inQ (.ix (.var 3) (.con (.int 0))) (.tup (.cons (.con (.str [117, 115, 101])) (.cons (.con (.str [109, 97, 107, 101])) .nil)))) (.cons (.asg (.tup (.cons (.slot 4) (.cons (.slot 5) .nil))) (.call 18 (.cons (.var 0) (.cons (.var 2) (.cons (.ix (.var 3) (.con (.int 1))) .nil))))) (.cons (.asg (.slot 1) (.op .add (.var 1) (.ite (.isN (.var 4)) (.lst (.cons (.var 5) .nil)) (.lst .nil)))) .nil)) .nil) .nil)
abbrev b_frees_in_0 : Sm := (.asg (.slot 1) (.lst .nil))
abbrev b_frees_in_1 : Sm := (.forr (.tup (.cons (.slot 2) (.cons (.slot 3) .nil))) .lst (.call 19 (.cons (.ix (.var 0) (.con (.int 0))) .nil)) .nil b_frees_in_L0b)
abbrev b_frees_in_2 : Sm := (.ret (.pr .sortS (.cons (.var 1) .nil)))
abbrev b_frees_in : Sm := (.cons b_frees_in_0 (.cons b_frees_in_1 (.cons b_frees_in_2 .nil)))
abbrev f_frees_in : Nat := 20
/-! words_from: 0 many, 1 taken, 2 found, 3 line, 4 longer, 5 ahead, 6 letter, 7 one -/
abbrev b_words_from_L1b : Sm := (.cons (.asg (.slot 4) (.op .add (.var 4) (.comp (.slot 6) .str (.glb 4) .nil .nil (.op .add (.var 5) (.var 6))))) .nil)
abbrev b_words_from_L0c : Tm := (.cmp .lt (.pr .len (.cons (.var 2) .nil)) (.var 0))
abbrev b_words_from_L0b : Sm := (.cons (.asg (.slot 4) (.lst .nil)) (.cons (.forr (.slot 5) .lst (.var 3) .nil b_words_from_L1b) (.cons (.asg (.slot 3) (.var 4)) (.cons (.asg (.slot 2) (.op .add (.var 2) (.comp (.slot 7) .lst (.var 3) .nil (.and (.call 2 (.cons (.var 7) .nil)) (.cmp .ninQ (.var 7) (.var 1))) (.var 7)))) .nil))))
abbrev b_words_from_0 : Sm := (.asg (.tup (.cons (.slot 2) (.cons (.slot 3) .nil))) (.tup (.cons (.lst .nil) (.cons (.lst (.cons (.con (.str [])) .nil)) .nil))))
abbrev b_words_from_1 : Sm := (.whl b_words_from_L0c b_words_from_L0b)
abbrev b_words_from_2 : Sm := (.ret (.sl (.var 2) .nil (.var 0)))
abbrev b_words_from : Sm := (.cons b_words_from_0 (.cons b_words_from_1 (.cons b_words_from_2 .nil)))
abbrev f_words_from : Nat := 21
/-! renamed: 0 work, 1 path, 2 words, 3 here, 4 binder, 5 word, 6 parts, 7 at -/
abbrev b_renamed_0 : Sm := (.asg (.slot 3) (.call 10 (.cons (.ix (.var 0) (.con (.int 0))) (.cons (.var 1) .nil))))
abbrev b_renamed_1 : Sm := (.iff (.cmp .eq (.ix (.var 3) (.con (.int 0))) (.con (.str [117, 115, 101]))) (.cons (.asg (.tup (.cons (.slot 4) (.cons (.slot 5) .nil))) (.call 18 (.cons (.var 0) (.cons (.var 1) (.cons (.ix (.var 3) (.con (.int 1))) .nil))))) (.cons (.ret (.tup (.cons (.con (.str [117, 115, 101])) (.cons (.tup (.cons (.ite (.isN (.var 4)) (.var 5) (.ix (.var 2) (.var 4))) (.cons (.tup .nil) .nil))) .nil)))) .nil)) .nil)
abbrev b_renamed_2 : Sm := (.iff (.cmp .eq (.ix (.var 3) (.con (.int 0))) (.con (.str [109, 97, 107, 101, 114]))) (.cons (.ret (.call 22 (.cons (.var 0) (.cons (.op .add (.var 1) (.tup (.cons (.pr .len (.cons (.ix (.var 3) (.con (.int 2))) .nil)) .nil))) (.cons (.var 2) .nil))))) .nil) .nil)
abbrev b_renamed_3 : Sm := (.asg (.slot 6) (.comp (.slot 7) .rng (.pr .len (.cons (.call 8 (.cons (.var 3) .nil)) .nil)) .nil .nil (.call 22 (.cons (.var 0) (.cons (.op .add (.var 1) (.tup (.cons (.var 7) .nil))) (.cons (.var 2) .nil))))))
abbrev b_renamed_4 : Sm := (.iff (.cmp .inQ (.ix (.var 3) (.con (.int 0))) (.tup (.cons (.con (.str [103, 105, 118, 101, 110])) (.cons (.con (.str [104, 111, 108, 100])) .nil)))) (.cons (.asg (.slot 3) (.op .add (.tup (.cons (.ix (.var 3) (.con (.int 0))) (.cons (.tup (.cons (.ix (.var 2) (.var 1)) (.cons (.tup .nil) .nil))) .nil))) (.sl (.var 3) (.con (.int 2)) .nil))) .nil) .nil)
abbrev b_renamed_5 : Sm := (.ret (.ite (.cmp .ne (.var 6) (.lst .nil)) (.call 9 (.cons (.var 3) (.cons (.var 6) .nil))) (.var 3)))
abbrev b_renamed : Sm := (.cons b_renamed_0 (.cons b_renamed_1 (.cons b_renamed_2 (.cons b_renamed_3 (.cons b_renamed_4 (.cons b_renamed_5 .nil))))))
abbrev f_renamed : Nat := 22
/-! plainly: 0 work, 1 binders, 2 path, 3 here -/
abbrev b_plainly_0 : Sm := (.asg (.slot 1) (.comp (.tup (.cons (.slot 2) (.cons (.slot 3) .nil))) .lst (.call 19 (.cons (.ix (.var 0) (.con (.int 0))) .nil)) .nil (.cmp .inQ (.ix (.var 3) (.con (.int 0))) (.tup (.cons (.con (.str [103, 105, 118, 101, 110])) (.cons (.con (.str [104, 111, 108, 100])) .nil)))) (.var 2)))
abbrev b_plainly_1 : Sm := (.ret (.call 22 (.cons (.var 0) (.cons (.tup .nil) (.cons (.pr .dictZ (.cons (.var 1) (.cons (.call 21 (.cons (.pr .len (.cons (.var 1) .nil)) (.cons (.call 20 (.cons (.var 0) .nil)) .nil))) .nil))) .nil)))))
abbrev b_plainly : Sm := (.cons b_plainly_0 (.cons b_plainly_1 .nil))
abbrev f_plainly : Nat := 23
/-! shape_plain: 0 tree -/
abbrev b_shape_plain_0 : Sm := (.ret (.call 23 (.cons (.tup (.cons (.var 0) (.cons (.tup .nil) .nil))) .nil)))
abbrev b_shape_plain : Sm := (.cons b_shape_plain_0 .nil)
abbrev f_shape_plain : Nat := 24
/-! need_bare: 0 value -/
abbrev b_need_bare_0 : Sm := (.iff (.or (.isN (.call 7 (.cons (.var 0) .nil))) (.not (.call 15 (.cons (.var 0) .nil)))) (.cons .bad .nil) .nil)
abbrev b_need_bare : Sm := (.cons b_need_bare_0 .nil)
abbrev f_need_bare : Nat := 25
/-! with_plain_names: 0 tree -/
abbrev b_with_plain_names_0 : Sm := (.exp (.call 25 (.cons (.var 0) .nil)))
abbrev b_with_plain_names_1 : Sm := (.ret (.call 24 (.cons (.var 0) .nil)))
abbrev b_with_plain_names : Sm := (.cons b_with_plain_names_0 (.cons b_with_plain_names_1 .nil))
abbrev f_with_plain_names : Nat := 26
/-! is_done: 0 tree -/
abbrev b_is_done_0 : Sm := (.ret (.cmp .inQ (.ix (.var 0) (.con (.int 0))) (.tup (.cons (.con (.str [97, 109, 111, 117, 110, 116])) (.cons (.con (.str [103, 105, 118, 101, 110])) .nil)))))
abbrev b_is_done : Sm := (.cons b_is_done_0 .nil)
abbrev f_is_done : Nat := 27
/-! first_undone: 0 tree, 1 at, 2 part -/
abbrev b_first_undone_L0b : Sm := (.cons (.iff (.not (.call 27 (.cons (.var 2) .nil))) (.cons (.ret (.var 1)) .nil) .nil) .nil)
abbrev b_first_undone_0 : Sm := (.forr (.tup (.cons (.slot 1) (.cons (.slot 2) .nil))) .enum (.sl (.call 8 (.cons (.var 0) .nil)) .nil (.pr .get (.cons (.glb 8) (.cons (.ix (.var 0) (.con (.int 0))) (.cons (.con (.int 0)) .nil))))) .nil b_first_undone_L0b)
abbrev b_first_undone_1 : Sm := (.ret (.con .non))
abbrev b_first_undone : Sm := (.cons b_first_undone_0 (.cons b_first_undone_1 .nil))
abbrev f_first_undone : Nat := 28
/-! put_in: 0 tree, 1 name, 2 value, 3 parts, 4 found, 5 at, 6 part, 7 is_bound -/
abbrev b_put_in_L0b : Sm := (.cons (.asg (.slot 7) (.or (.and (.cmp .eq (.ix (.var 0) (.con (.int 0))) (.con (.str [103, 105, 118, 101, 110]))) (.cmp .eq (.ix (.var 0) (.con (.int 1))) (.var 1))) (.and (.cmp .eq (.ix (.var 0) (.con (.int 0))) (.con (.str [104, 111, 108, 100]))) (.and (.cmp .eq (.ix (.var 0) (.con (.int 1))) (.var 1)) (.cmp .eq (.var 5) (.con (.int 1))))))) (.cons (.asg (.slot 4) (.op .add (.var 4) (.lst (.cons (.ite (.var 7) (.var 6) (.call 29 (.cons (.var 6) (.cons (.var 1) (.cons (.var 2) .nil))))) .nil)))) .nil))
abbrev b_put_in_0 : Sm := (.iff (.cmp .eq (.ix (.var 0) (.con (.int 0))) (.con (.str [117, 115, 101]))) (.cons (.ret (.ite (.cmp .eq (.ix (.var 0) (.con (.int 1))) (.var 1)) (.var 2) (.var 0))) .nil) .nil)
abbrev b_put_in_1 : Sm := (.asg (.tup (.cons (.slot 3) (.cons (.slot 4) .nil))) (.tup (.cons (.call 8 (.cons (.var 0) .nil)) (.cons (.lst .nil) .nil))))
abbrev b_put_in_2 : Sm := (.forr (.tup (.cons (.slot 5) (.cons (.slot 6) .nil))) .enum (.var 3) .nil b_put_in_L0b)
abbrev b_put_in_3 : Sm := (.ret (.ite (.cmp .ne (.var 3) (.lst .nil)) (.call 9 (.cons (.var 0) (.cons (.var 4) .nil))) (.var 0)))
abbrev b_put_in : Sm := (.cons b_put_in_0 (.cons b_put_in_1 (.cons b_put_in_2 (.cons b_put_in_3 .nil))))
abbrev f_put_in : Nat := 29
/-! reckoned: 0 tree, 1 sign, 2 one, 3 two, 4 found -/
abbrev b_reckoned_0 : Sm := (.asg (.tup (.cons (.slot 1) (.cons (.slot 2) (.cons (.slot 3) .nil)))) (.sl (.var 0) (.con (.int 1)) .nil))
abbrev b_reckoned_1 : Sm := (.iff (.or (.cmp .ne (.ix (.var 2) (.con (.int 0))) (.con (.str [97, 109, 111, 117, 110, 116]))) (.cmp .ne (.ix (.var 3) (.con (.int 0))) (.con (.str [97, 109, 111, 117, 110, 116])))) (.cons (.ret (.tup (.cons (.con (.str [115, 116, 117, 99, 107])) (.cons (.con (.str [114, 101, 99, 107, 111, 110])) .nil)))) .nil) .nil)
abbrev b_reckoned_2 : Sm := (.asg (.slot 4) (.ite (.cmp .eq (.var 1) (.con (.str [43]))) (.op .add (.ix (.var 2) (.con (.int 1))) (.ix (.var 3) (.con (.int 1)))) (.ite (.cmp .eq (.var 1) (.con (.str [45]))) (.op .sub (.ix (.var 2) (.con (.int 1))) (.ix (.var 3) (.con (.int 1)))) (.op .mul (.ix (.var 2) (.con (.int 1))) (.ix (.var 3) (.con (.int 1)))))))
abbrev b_reckoned_3 : Sm := (.ret (.ite (.chain .le .le (.neg (.glb 2)) (.var 4) (.glb 2)) (.tup (.cons (.con (.str [115, 116, 101, 112])) (.cons (.tup (.cons (.con (.str [97, 109, 111, 117, 110, 116])) (.cons (.var 4) .nil))) .nil))) (.tup (.cons (.con (.str [115, 116, 117, 99, 107])) (.cons (.con (.str [103, 114, 101, 97, 116])) .nil)))))
abbrev b_reckoned : Sm := (.cons b_reckoned_0 (.cons b_reckoned_1 (.cons b_reckoned_2 (.cons b_reckoned_3 .nil))))
abbrev f_reckoned : Nat := 30
/-! done_here: 0 tree, 1 one, 2 two -/
abbrev b_done_here_0 : Sm := (.iff (.cmp .eq (.ix (.var 0) (.con (.int 0))) (.con (.str [97, 112, 112, 108, 121]))) (.cons (.asg (.tup (.cons (.slot 1) (.cons (.slot 2) .nil))) (.sl (.var 0) (.con (.int 1)) .nil)) (.cons (.ret (.ite (.cmp .eq (.ix (.var 1) (.con (.int 0))) (.con (.str [103, 105, 118, 101, 110]))) (.tup (.cons (.con (.str [115, 116, 101, 112])) (.cons (.call 29 (.cons (.ix (.var 1) (.con (.int 2))) (.cons (.ix (.var 1) (.con (.int 1))) (.cons (.var 2) .nil)))) .nil))) (.tup (.cons (.con (.str [115, 116, 117, 99, 107])) (.cons (.con (.str [97, 112, 112, 108, 121])) .nil))))) .nil)) .nil)
abbrev b_done_here_1 : Sm := (.iff (.cmp .eq (.ix (.var 0) (.con (.int 0))) (.con (.str [104, 111, 108, 100]))) (.cons (.ret (.tup (.cons (.con (.str [115, 116, 101, 112])) (.cons (.call 29 (.cons (.ix (.var 0) (.con (.int 3))) (.cons (.ix (.var 0) (.con (.int 1))) (.cons (.ix (.var 0) (.con (.int 2))) .nil)))) .nil)))) .nil) .nil)
abbrev b_done_here_2 : Sm := (.iff (.cmp .eq (.ix (.var 0) (.con (.int 0))) (.con (.str [114, 101, 99, 107, 111, 110]))) (.cons (.ret (.call 30 (.cons (.var 0) .nil))) .nil) .nil)
abbrev b_done_here_3 : Sm := (.iff (.cmp .eq (.ix (.ix (.var 0) (.con (.int 1))) (.con (.int 0))) (.con (.str [103, 105, 118, 101, 110]))) (.cons (.ret (.tup (.cons (.con (.str [115, 116, 117, 99, 107])) (.cons (.con (.str [116, 101, 115, 116])) .nil)))) .nil) .nil)
abbrev b_done_here_4 : Sm := (.ret (.tup (.cons (.con (.str [115, 116, 101, 112])) (.cons (.ite (.cmp .ne (.ix (.ix (.var 0) (.con (.int 1))) (.con (.int 1))) (.con (.int 0))) (.ix (.var 0) (.con (.int 2))) (.ix (.var 0) (.con (.int 3)))) .nil))))
abbrev b_done_here : Sm := (.cons b_done_here_0 (.cons b_done_here_1 (.cons b_done_here_2 (.cons b_done_here_3 (.cons b_done_here_4 .nil)))))
abbrev f_done_here : Nat := 31
/-! fits_open: 0 value -/
abbrev b_fits_open_0 : Sm := (.ret (.and (.notN (.call 7 (.cons (.var 0) .nil))) (.and (.call 15 (.cons (.var 0) .nil)) (.cmp .eq (.call 24 (.cons (.var 0) .nil)) (.var 0)))))
abbrev b_fits_open : Sm := (.cons b_fits_open_0 .nil)
abbrev f_fits_open : Nat := 32
/-! fits_cell_deed: 0 value -/
abbrev b_fits_cell_deed_0 : Sm := (.ret (.and (.call 1 (.cons (.var 0) (.cons (.con (.int 2)) (.cons (.con (.int 2)) .nil)))) (.and (.call 2 (.cons (.ix (.var 0) (.con (.int 0))) .nil)) (.call 32 (.cons (.ix (.var 0) (.con (.int 1))) .nil)))))
abbrev b_fits_cell_deed : Sm := (.cons b_fits_cell_deed_0 .nil)
abbrev f_fits_cell_deed : Nat := 33
/-! need_deed: 0 value -/
abbrev b_need_deed_0 : Sm := (.iff (.not (.call 33 (.cons (.var 0) .nil))) (.cons .bad .nil) .nil)
abbrev b_need_deed : Sm := (.cons b_need_deed_0 .nil)
abbrev f_need_deed : Nat := 34
/-! turn_of: 0 tree, 1 path, 2 here, 3 at -/
abbrev b_turn_of_L0c : Tm := (.notN (.var 3))
abbrev b_turn_of_L0b : Sm := (.cons (.asg (.tup (.cons (.slot 1) (.cons (.slot 2) .nil))) (.tup (.cons (.op .add (.var 1) (.tup (.cons (.var 3) .nil))) (.cons (.ix (.call 8 (.cons (.var 2) .nil)) (.var 3)) .nil)))) (.cons (.asg (.slot 3) (.call 28 (.cons (.var 2) .nil))) .nil))
abbrev b_turn_of_0 : Sm := (.asg (.tup (.cons (.slot 1) (.cons (.slot 2) .nil))) (.tup (.cons (.tup .nil) (.cons (.var 0) .nil))))
abbrev b_turn_of_1 : Sm := (.asg (.slot 3) (.call 28 (.cons (.var 2) .nil)))
abbrev b_turn_of_2 : Sm := (.whl b_turn_of_L0c b_turn_of_L0b)
abbrev b_turn_of_3 : Sm := (.ret (.tup (.cons (.var 1) (.cons (.var 2) .nil))))
abbrev b_turn_of : Sm := (.cons b_turn_of_0 (.cons b_turn_of_1 (.cons b_turn_of_2 (.cons b_turn_of_3 .nil))))
abbrev f_turn_of : Nat := 35
/-! worked_in: 0 store, 1 tree, 2 cells, 3 asked, 4 many, 5 path, 6 here, 7 word, 8 found -/
abbrev b_worked_in_L0c : Tm := (.not (.call 27 (.cons (.var 1) .nil)))
abbrev b_worked_in_L0b : Sm := (.cons (.asg (.tup (.cons (.slot 5) (.cons (.slot 6) .nil))) (.call 35 (.cons (.var 1) .nil))) (.cons (.iff (.cmp .eq (.ix (.var 6) (.con (.int 0))) (.con (.str [117, 115, 101]))) (.cons (.asg (.slot 7) (.ix (.ix (.var 6) (.con (.int 1))) (.con (.int 0)))) (.cons (.iff (.cmp .ninT (.var 7) (.var 2)) (.cons (.ret (.tup (.cons (.tup (.cons (.con (.str [115, 116, 117, 99, 107])) (.cons (.con (.str [102, 114, 101, 101])) .nil))) (.cons (.var 3) .nil)))) .nil) .nil) (.cons (.asg (.tup (.cons (.slot 3) (.cons (.slot 1) .nil))) (.tup (.cons (.op .add (.var 3) (.lst (.cons (.var 7) .nil))) (.cons (.call 12 (.cons (.var 1) (.cons (.var 5) (.cons (.tup (.cons (.con (.str [97, 109, 111, 117, 110, 116])) (.cons (.ix (.var 2) (.var 7)) .nil))) .nil)))) .nil)))) .nil))) (.cons (.asg (.slot 8) (.call 31 (.cons (.var 6) .nil))) (.cons (.iff (.cmp .eq (.ix (.var 8) (.con (.int 0))) (.con (.str [115, 116, 117, 99, 107]))) (.cons (.ret (.tup (.cons (.var 8) (.cons (.var 3) .nil)))) .nil) .nil) (.cons (.asg (.tup (.cons (.slot 1) (.cons (.slot 4) .nil))) (.tup (.cons (.call 12 (.cons (.var 1) (.cons (.var 5) (.cons (.ix (.var 8) (.con (.int 1))) .nil)))) (.cons (.op .add (.var 4) (.con (.int 1))) .nil)))) (.cons (.iff (.isN (.call 7 (.cons (.var 1) .nil))) (.cons (.ret (.tup (.cons (.tup (.cons (.con (.str [115, 116, 117, 99, 107])) (.cons (.con (.str [103, 114, 101, 97, 116])) .nil))) (.cons (.var 3) .nil)))) .nil) .nil) (.cons (.iff (.cmp .gt (.var 4) (.glb 10)) (.cons (.ret (.tup (.cons (.tup (.cons (.con (.str [109, 111, 114, 101])) .nil)) (.cons (.var 3) .nil)))) .nil) .nil) .nil)))))) .nil))
abbrev b_worked_in_0 : Sm := (.asg (.tup (.cons (.slot 2) (.cons (.slot 3) (.cons (.slot 4) .nil)))) (.tup (.cons (.pr .dict (.cons (.var 0) .nil)) (.cons (.lst .nil) (.cons (.con (.int 0)) .nil)))))
abbrev b_worked_in_1 : Sm := (.whl b_worked_in_L0c b_worked_in_L0b)
abbrev b_worked_in_2 : Sm := (.ret (.tup (.cons (.tup (.cons (.con (.str [118, 97, 108, 117, 101])) (.cons (.ite (.cmp .eq (.ix (.var 1) (.con (.int 0))) (.con (.str [97, 109, 111, 117, 110, 116]))) (.ix (.var 1) (.con (.int 1))) (.con (.str [103, 105, 118, 101, 110]))) .nil))) (.cons (.var 3) .nil))))
abbrev b_worked_in : Sm := (.cons b_worked_in_0 (.cons b_worked_in_1 (.cons b_worked_in_2 .nil)))
abbrev f_worked_in : Nat := 36
/-! done_by: 0 store, 1 deed, 2 word, 3 tree, 4 end, 5 one, 6 amount -/
abbrev b_done_by_0 : Sm := (.asg (.tup (.cons (.slot 2) (.cons (.slot 3) .nil))) (.var 1))
abbrev b_done_by_1 : Sm := (.iff (.cmp .ninT (.var 2) (.pr .dict (.cons (.var 0) .nil))) (.cons (.ret (.tup (.cons (.con (.str [115, 116, 111, 112, 112, 101, 100])) (.cons (.tup (.cons (.con (.str [115, 116, 117, 99, 107])) (.cons (.con (.str [99, 101, 108, 108])) .nil))) .nil)))) .nil) .nil)
abbrev b_done_by_2 : Sm := (.asg (.slot 4) (.ix (.call 36 (.cons (.var 0) (.cons (.var 3) .nil))) (.con (.int 0))))
abbrev b_done_by_3 : Sm := (.iff (.or (.cmp .ne (.ix (.var 4) (.con (.int 0))) (.con (.str [118, 97, 108, 117, 101]))) (.cmp .eq (.ix (.var 4) (.con (.int 1))) (.con (.str [103, 105, 118, 101, 110])))) (.cons (.ret (.tup (.cons (.con (.str [115, 116, 111, 112, 112, 101, 100])) (.cons (.var 4) .nil)))) .nil) .nil)
abbrev b_done_by_4 : Sm := (.ret (.tup (.cons (.con (.str [100, 111, 110, 101])) (.cons (.pr .tuple (.cons (.comp (.tup (.cons (.slot 5) (.cons (.slot 6) .nil))) .tup (.var 0) .nil .nil (.tup (.cons (.var 5) (.cons (.ite (.cmp .eq (.var 5) (.var 2)) (.ix (.var 4) (.con (.int 1))) (.var 6)) .nil)))) .nil)) .nil))))
abbrev b_done_by : Sm := (.cons b_done_by_0 (.cons b_done_by_1 (.cons b_done_by_2 (.cons b_done_by_3 (.cons b_done_by_4 .nil)))))
abbrev f_done_by : Nat := 37
/-! done_all: 0 store, 1 deeds, 2 deed, 3 found -/
abbrev b_done_all_L0b : Sm := (.cons (.asg (.slot 3) (.call 37 (.cons (.var 0) (.cons (.var 2) .nil)))) (.cons (.iff (.cmp .eq (.ix (.var 3) (.con (.int 0))) (.con (.str [115, 116, 111, 112, 112, 101, 100]))) (.cons (.ret (.var 3)) .nil) .nil) (.cons (.asg (.slot 0) (.ix (.var 3) (.con (.int 1)))) .nil)))
abbrev b_done_all_0 : Sm := (.forr (.slot 2) .tup (.var 1) .nil b_done_all_L0b)
abbrev b_done_all_1 : Sm := (.ret (.tup (.cons (.con (.str [100, 111, 110, 101])) (.cons (.var 0) .nil))))
abbrev b_done_all : Sm := (.cons b_done_all_0 (.cons b_done_all_1 .nil))
abbrev f_done_all : Nat := 38
/-! words_of_deed: 0 deed -/
abbrev b_words_of_deed_0 : Sm := (.ret (.call 20 (.cons (.tup (.cons (.ix (.var 0) (.con (.int 1))) (.cons (.tup .nil) .nil))) .nil)))
abbrev b_words_of_deed : Sm := (.cons b_words_of_deed_0 .nil)
abbrev f_words_of_deed : Nat := 39
/-! stores_of: 0 words, 1 most, 2 found, 3 word, 4 longer, 5 store, 6 amount -/
abbrev b_stores_of_L1b : Sm := (.cons (.asg (.slot 4) (.op .add (.var 4) (.comp (.slot 6) .rng (.op .add (.var 1) (.con (.int 1))) .nil .nil (.op .add (.var 5) (.tup (.cons (.tup (.cons (.var 3) (.cons (.var 6) .nil))) .nil)))))) .nil)
abbrev b_stores_of_L0b : Sm := (.cons (.asg (.slot 4) (.lst .nil)) (.cons (.forr (.slot 5) .lst (.var 2) .nil b_stores_of_L1b) (.cons (.asg (.slot 2) (.var 4)) .nil)))
abbrev b_stores_of_0 : Sm := (.asg (.slot 2) (.lst (.cons (.tup .nil) .nil)))
abbrev b_stores_of_1 : Sm := (.forr (.slot 3) .lst (.var 0) .nil b_stores_of_L0b)
abbrev b_stores_of_2 : Sm := (.ret (.var 2))
abbrev b_stores_of : Sm := (.cons b_stores_of_0 (.cons b_stores_of_1 (.cons b_stores_of_2 .nil)))
abbrev f_stores_of : Nat := 40
/-! need_amount: 0 value -/
abbrev b_need_amount_0 : Sm := (.iff (.not (.call 0 (.cons (.var 0) (.cons (.con (.int 0)) (.cons (.glb 12) .nil))))) (.cons .bad .nil) .nil)
abbrev b_need_amount : Sm := (.cons b_need_amount_0 .nil)
abbrev f_need_amount : Nat := 41
/-! unlike_store: 0 deed, 1 other_deed, 2 most, 3 words, 4 store -/
abbrev b_unlike_store_L0b : Sm := (.cons (.iff (.cmp .ne (.call 38 (.cons (.var 4) (.cons (.tup (.cons (.var 0) (.cons (.var 1) .nil))) .nil))) (.call 38 (.cons (.var 4) (.cons (.tup (.cons (.var 1) (.cons (.var 0) .nil))) .nil)))) (.cons (.ret (.var 4)) .nil) .nil) .nil)
abbrev b_unlike_store_0 : Sm := (.exp (.call 34 (.cons (.var 0) .nil)))
abbrev b_unlike_store_1 : Sm := (.exp (.call 34 (.cons (.var 1) .nil)))
abbrev b_unlike_store_2 : Sm := (.exp (.call 41 (.cons (.var 2) .nil)))
abbrev b_unlike_store_3 : Sm := (.asg (.slot 3) (.pr .sortS (.cons (.op .add (.op .add (.lst (.cons (.ix (.var 0) (.con (.int 0))) (.cons (.ix (.var 1) (.con (.int 0))) .nil))) (.call 39 (.cons (.var 0) .nil))) (.call 39 (.cons (.var 1) .nil))) .nil)))
abbrev b_unlike_store_4 : Sm := (.iff (.cmp .gt (.pr .len (.cons (.var 3) .nil)) (.glb 9)) (.cons .bad .nil) .nil)
abbrev b_unlike_store_5 : Sm := (.iff (.cmp .gt (.var 2) (.glb 11)) (.cons .bad .nil) .nil)
abbrev b_unlike_store_6 : Sm := (.forr (.slot 4) .lst (.call 40 (.cons (.var 3) (.cons (.var 2) .nil))) .nil b_unlike_store_L0b)
abbrev b_unlike_store_7 : Sm := (.ret (.con .non))
abbrev b_unlike_store : Sm := (.cons b_unlike_store_0 (.cons b_unlike_store_1 (.cons b_unlike_store_2 (.cons b_unlike_store_3 (.cons b_unlike_store_4 (.cons b_unlike_store_5 (.cons b_unlike_store_6 (.cons b_unlike_store_7 .nil))))))))
abbrev f_unlike_store : Nat := 42
/-! items_of: 0 text, 1 found, 2 here, 3 sign -/
abbrev b_items_of_L0b : Sm := (.cons (.iff (.cmp .inS (.var 3) (.con (.str [40, 41, 32, 10]))) (.cons (.asg (.slot 1) (.op .add (.op .add (.var 1) (.ite (.cmp .ne (.var 2) (.con (.str []))) (.lst (.cons (.var 2) .nil)) (.lst .nil))) (.ite (.cmp .inS (.var 3) (.con (.str [40, 41]))) (.lst (.cons (.var 3) .nil)) (.lst .nil)))) (.cons (.asg (.slot 2) (.con (.str []))) .nil)) (.cons (.asg (.slot 2) (.op .add (.var 2) (.var 3))) .nil)) .nil)
abbrev b_items_of_0 : Sm := (.asg (.tup (.cons (.slot 1) (.cons (.slot 2) .nil))) (.tup (.cons (.lst .nil) (.cons (.con (.str [])) .nil))))
abbrev b_items_of_1 : Sm := (.forr (.slot 3) .str (.var 0) .nil b_items_of_L0b)
abbrev b_items_of_2 : Sm := (.ret (.op .add (.var 1) (.ite (.cmp .ne (.var 2) (.con (.str []))) (.lst (.cons (.var 2) .nil)) (.lst .nil))))
abbrev b_items_of : Sm := (.cons b_items_of_0 (.cons b_items_of_1 (.cons b_items_of_2 .nil)))
abbrev f_items_of : Nat := 43
/-! nested: 0 items, 1 line, 2 item -/
abbrev b_nested_L0b : Sm := (.cons (.iff (.cmp .eq (.var 2) (.con (.str [40]))) (.cons (.asg (.slot 1) (.op .add (.var 1) (.lst (.cons (.tup .nil) .nil)))) .nil) (.cons (.iff (.and (.cmp .eq (.var 2) (.con (.str [41]))) (.cmp .eq (.pr .len (.cons (.var 1) .nil)) (.con (.int 1)))) (.cons .bad .nil) (.cons (.iff (.cmp .eq (.var 2) (.con (.str [41]))) (.cons (.asg (.slot 1) (.op .add (.sl (.var 1) .nil (.neg (.con (.int 2)))) (.lst (.cons (.op .add (.ix (.var 1) (.neg (.con (.int 2)))) (.tup (.cons (.ix (.var 1) (.neg (.con (.int 1)))) .nil))) .nil)))) .nil) (.cons (.asg (.slot 1) (.op .add (.sl (.var 1) .nil (.neg (.con (.int 1)))) (.lst (.cons (.op .add (.ix (.var 1) (.neg (.con (.int 1)))) (.tup (.cons (.var 2) .nil))) .nil)))) .nil)) .nil)) .nil)) .nil)
abbrev b_nested_0 : Sm := (.asg (.slot 1) (.lst (.cons (.tup .nil) .nil)))
abbrev b_nested_1 : Sm := (.forr (.slot 2) .lst (.var 0) .nil b_nested_L0b)
abbrev b_nested_2 : Sm := (.iff (.or (.cmp .ne (.pr .len (.cons (.var 1) .nil)) (.con (.int 1))) (.cmp .ne (.pr .len (.cons (.ix (.var 1) (.con (.int 0))) .nil)) (.con (.int 1)))) (.cons .bad .nil) .nil)
abbrev b_nested_3 : Sm := (.ret (.ix (.ix (.var 1) (.con (.int 0))) (.con (.int 0))))
abbrev b_nested : Sm := (.cons b_nested_0 (.cons b_nested_1 (.cons b_nested_2 (.cons b_nested_3 .nil))))
abbrev f_nested : Nat := 44
/-! is_made_of: 0 text, 1 signs, 2 sign -/
abbrev b_is_made_of_0 : Sm := (.ret (.and (.cmp .ne (.var 0) (.con (.str []))) (.pr .all (.cons (.comp (.slot 2) .str (.var 0) .nil .nil (.cmp .inS (.var 2) (.var 1))) .nil))))
abbrev b_is_made_of : Sm := (.cons b_is_made_of_0 .nil)
abbrev f_is_made_of : Nat := 45
/-! amount_by: 0 text, 1 figures -/
abbrev b_amount_by_0 : Sm := (.asg (.slot 1) (.ite (.cmp .eq (.sl (.var 0) .nil (.con (.int 1))) (.con (.str [45]))) (.sl (.var 0) (.con (.int 1)) .nil) (.var 0)))
abbrev b_amount_by_1 : Sm := (.iff (.or (.not (.call 45 (.cons (.var 1) (.cons (.glb 14) .nil)))) (.and (.cmp .eq (.ix (.var 1) (.con (.int 0))) (.con (.str [48]))) (.cmp .ne (.var 0) (.con (.str [48]))))) (.cons (.ret (.con .non)) .nil) .nil)
abbrev b_amount_by_2 : Sm := (.ret (.ite (.cmp .lt (.pr .len (.cons (.var 1) .nil)) (.con (.int 20))) (.pr .intT (.cons (.var 0) .nil)) (.op .pow (.con (.int 10)) (.con (.int 20)))))
abbrev b_amount_by : Sm := (.cons b_amount_by_0 (.cons b_amount_by_1 (.cons b_amount_by_2 .nil)))
abbrev f_amount_by : Nat := 46
/-! name_by: 0 item, 1 pieces, 2 marks, 3 piece -/
abbrev b_name_by_0 : Sm := (.iff (.not (.pr (.isi "str") (.cons (.var 0) .nil))) (.cons .bad .nil) .nil)
abbrev b_name_by_1 : Sm := (.asg (.slot 1) (.pr .splitA (.cons (.var 0) .nil)))
abbrev b_name_by_2 : Sm := (.asg (.slot 2) (.comp (.slot 3) .lst (.sl (.var 1) (.con (.int 1)) .nil) .nil .nil (.call 46 (.cons (.var 3) .nil))))
abbrev b_name_by_3 : Sm := (.iff (.or (.not (.call 45 (.cons (.ix (.var 1) (.con (.int 0))) (.cons (.glb 4) .nil)))) (.cmp .inQ (.con .non) (.var 2))) (.cons .bad .nil) .nil)
abbrev b_name_by_4 : Sm := (.ret (.tup (.cons (.ix (.var 1) (.con (.int 0))) (.cons (.pr .tuple (.cons (.var 2) .nil)) .nil))))
abbrev b_name_by : Sm := (.cons b_name_by_0 (.cons b_name_by_1 (.cons b_name_by_2 (.cons b_name_by_3 (.cons b_name_by_4 .nil)))))
abbrev f_name_by : Nat := 47
/-! word_by: 0 text -/
abbrev b_word_by_0 : Sm := (.iff (.not (.call 45 (.cons (.var 0) (.cons (.glb 4) .nil)))) (.cons .bad .nil) .nil)
abbrev b_word_by_1 : Sm := (.ret (.var 0))
abbrev b_word_by : Sm := (.cons b_word_by_0 (.cons b_word_by_1 .nil))
abbrev f_word_by : Nat := 48
/-! binder_by: 0 item -/
abbrev b_binder_by_0 : Sm := (.iff (.and (.pr (.isi "str") (.cons (.var 0) .nil)) (.cmp .eq (.sl (.var 0) .nil (.con (.int 1))) (.con (.str [63])))) (.cons (.ret (.tup (.cons (.con (.str [102, 105, 108, 108])) (.cons (.call 48 (.cons (.sl (.var 0) (.con (.int 1)) .nil) .nil)) .nil)))) .nil) .nil)
abbrev b_binder_by_1 : Sm := (.ret (.call 47 (.cons (.var 0) .nil)))
abbrev b_binder_by : Sm := (.cons b_binder_by_0 (.cons b_binder_by_1 .nil))
abbrev f_binder_by : Nat := 49
/-! leaf_by: 0 item -/
abbrev b_leaf_by_0 : Sm := (.iff (.notN (.call 46 (.cons (.var 0) .nil))) (.cons (.ret (.tup (.cons (.con (.str [97, 109, 111, 117, 110, 116])) (.cons (.call 46 (.cons (.var 0) .nil)) .nil)))) .nil) .nil)
abbrev b_leaf_by_1 : Sm := (.ret (.ite (.cmp .eq (.sl (.var 0) .nil (.con (.int 1))) (.con (.str [63]))) (.tup (.cons (.con (.str [102, 105, 108, 108])) (.cons (.call 48 (.cons (.sl (.var 0) (.con (.int 1)) .nil) .nil)) .nil))) (.tup (.cons (.con (.str [117, 115, 101])) (.cons (.call 47 (.cons (.var 0) .nil)) .nil)))))
abbrev b_leaf_by : Sm := (.cons b_leaf_by_0 (.cons b_leaf_by_1 .nil))
abbrev f_leaf_by : Nat := 50
/-! made_by_head: 0 head, 1 item, 2 one, 3 inner -/
abbrev b_made_by_head_0 : Sm := (.iff (.cmp .inQ (.var 0) (.tup (.cons (.con (.str [103, 105, 118, 101, 110])) (.cons (.con (.str [104, 111, 108, 100])) .nil)))) (.cons (.ret (.op .add (.tup (.cons (.var 0) (.cons (.call 49 (.cons (.ix (.var 1) (.con (.int 1))) .nil)) .nil))) (.pr .tuple (.cons (.comp (.slot 2) .tup (.sl (.var 1) (.con (.int 2)) .nil) .nil .nil (.call 52 (.cons (.var 2) .nil))) .nil)))) .nil) .nil)
abbrev b_made_by_head_1 : Sm := (.asg (.slot 3) (.pr .tuple (.cons (.comp (.slot 2) .tup (.sl (.var 1) (.con (.int 1)) .nil) .nil .nil (.call 52 (.cons (.var 2) .nil))) .nil)))
abbrev b_made_by_head_2 : Sm := (.ret (.ite (.cmp .inS (.var 0) (.con (.str [43, 45, 42]))) (.op .add (.tup (.cons (.con (.str [114, 101, 99, 107, 111, 110])) (.cons (.var 0) .nil))) (.var 3)) (.op .add (.tup (.cons (.var 0) .nil)) (.var 3))))
abbrev b_made_by_head : Sm := (.cons b_made_by_head_0 (.cons b_made_by_head_1 (.cons b_made_by_head_2 .nil)))
abbrev f_made_by_head : Nat := 51
/-! tree_by: 0 item, 1 head, 2 one, 3 rows -/
abbrev b_tree_by_0 : Sm := (.iff (.pr (.isi "str") (.cons (.var 0) .nil)) (.cons (.ret (.call 50 (.cons (.var 0) .nil))) .nil) .nil)
abbrev b_tree_by_1 : Sm := (.asg (.slot 1) (.ite (.cmp .ne (.var 0) (.tup .nil)) (.ix (.var 0) (.con (.int 0))) (.con (.str []))))
abbrev b_tree_by_2 : Sm := (.iff (.and (.pr (.isi "str") (.cons (.var 1) .nil)) (.cmp .eq (.pr .get (.cons (.glb 15) (.cons (.var 1) (.cons (.con .non) .nil)))) (.pr .len (.cons (.var 0) .nil)))) (.cons (.ret (.call 51 (.cons (.var 1) (.cons (.var 0) .nil)))) .nil) .nil)
abbrev b_tree_by_3 : Sm := (.iff (.and (.cmp .eq (.var 1) (.con (.str [109, 97, 107, 101]))) (.cmp .gt (.pr .len (.cons (.var 0) .nil)) (.con (.int 1)))) (.cons (.ret (.tup (.cons (.con (.str [109, 97, 107, 101])) (.cons (.call 47 (.cons (.ix (.var 0) (.con (.int 1))) .nil)) (.cons (.pr .tuple (.cons (.comp (.slot 2) .tup (.sl (.var 0) (.con (.int 2)) .nil) .nil .nil (.call 52 (.cons (.var 2) .nil))) .nil)) .nil))))) .nil) .nil)
abbrev b_tree_by_4 : Sm := (.iff (.and (.cmp .eq (.var 1) (.con (.str [109, 97, 107, 101, 114]))) (.cmp .gt (.pr .len (.cons (.var 0) .nil)) (.con (.int 3)))) (.cons .bad (.cons (.ret (.tup (.cons (.con (.str [109, 97, 107, 101, 114])) (.cons (.call 49 (.cons (.ix (.var 0) (.con (.int 1))) .nil)) (.cons (.var 3) (.cons (.call 52 (.cons (.ix (.var 0) (.neg (.con (.int 1)))) .nil)) .nil)))))) .nil)) .nil)
abbrev b_tree_by_5 : Sm := .bad
abbrev b_tree_by : Sm := (.cons b_tree_by_0 (.cons b_tree_by_1 (.cons b_tree_by_2 (.cons b_tree_by_3 (.cons b_tree_by_4 (.cons b_tree_by_5 .nil))))))
abbrev f_tree_by : Nat := 52
/-! need_shallow: 0 items, 1 now, 2 item -/
abbrev b_need_shallow_L0b : Sm := (.cons (.asg (.slot 1) (.ite (.cmp .eq (.var 2) (.con (.str [40]))) (.op .add (.var 1) (.con (.int 1))) (.ite (.cmp .eq (.var 2) (.con (.str [41]))) (.pr .max2 (.cons (.con (.int 0)) (.cons (.op .sub (.var 1) (.con (.int 1))) .nil))) (.var 1)))) (.cons (.iff (.cmp .gt (.var 1) (.glb 13)) (.cons .bad .nil) .nil) .nil))
abbrev b_need_shallow_0 : Sm := (.asg (.slot 1) (.con (.int 0)))
abbrev b_need_shallow_1 : Sm := (.forr (.slot 2) .lst (.var 0) .nil b_need_shallow_L0b)
abbrev b_need_shallow : Sm := (.cons b_need_shallow_0 (.cons b_need_shallow_1 .nil))
abbrev f_need_shallow : Nat := 53
/-! read_tree: 0 text, 1 items, 2 tree -/
abbrev b_read_tree_0 : Sm := (.iff (.not (.pr (.isi "str") (.cons (.var 0) .nil))) (.cons .bad .nil) .nil)
abbrev b_read_tree_1 : Sm := (.asg (.slot 1) (.call 43 (.cons (.var 0) .nil)))
abbrev b_read_tree_2 : Sm := (.exp (.call 53 (.cons (.var 1) .nil)))
abbrev b_read_tree_3 : Sm := (.asg (.slot 2) (.call 52 (.cons (.call 44 (.cons (.var 1) .nil)) .nil)))
abbrev b_read_tree_4 : Sm := (.iff (.isN (.call 7 (.cons (.var 2) .nil))) (.cons .bad .nil) .nil)
abbrev b_read_tree_5 : Sm := (.ret (.var 2))
abbrev b_read_tree : Sm := (.cons b_read_tree_0 (.cons b_read_tree_1 (.cons b_read_tree_2 (.cons b_read_tree_3 (.cons b_read_tree_4 (.cons b_read_tree_5 .nil))))))
abbrev f_read_tree : Nat := 54
/-! _law_cup: 0 _law_script, 1 _law_cell, 2 _law_great -/
abbrev b_law_cup_0 : Sm := (.asg (.slot 1) (.pr .abs (.cons (.ix (.op .add (.pr .list (.cons (.var 0) .nil)) (.lst (.cons (.con (.int 0)) .nil))) (.con (.int 0))) .nil)))
abbrev b_law_cup_1 : Sm := (.asg (.slot 2) (.ite (.cmp .ge (.var 1) (.op .pow (.con (.int 10)) (.con (.int 18)))) (.op .div (.var 1) (.con (.int 11))) (.con (.int 0))))
abbrev b_law_cup_2 : Sm := (.ret (.lst (.cons (.var 2) (.cons (.op .add (.op .mod (.pr .int (.cons (.op .add (.op .mul (.var 1) (.con (.int 193))) (.con (.int 1201))) .nil)) (.con (.int 2077504273))) (.con (.int 89))) .nil))))
abbrev b_law_cup : Sm := (.cons b_law_cup_0 (.cons b_law_cup_1 (.cons b_law_cup_2 .nil)))
abbrev f_law_cup : Nat := 55
/-! _law_roll: 0 _law_cup_here, 1 _law_many, 2 _law_found, 3 _law_deep_here -/
abbrev b_law_roll_0 : Sm := (.iff (.cmp .gt (.cg (.var 0) false) (.con (.int 0))) (.cons (.asg (.slot 2) (.op .mod (.pr .int (.cons (.cg (.var 0) false) .nil)) (.var 1))) (.cons (.cs 0 false (.op .div (.cg (.var 0) false) (.var 1))) (.cons (.ret (.var 2)) .nil))) .nil)
abbrev b_law_roll_1 : Sm := (.cs 0 true (.op .mod (.pr .int (.cons (.op .add (.op .mul (.cg (.var 0) true) (.con (.int 30671))) (.con (.int 7919))) .nil)) (.con (.int 2147483549))))
abbrev b_law_roll_2 : Sm := (.asg (.slot 3) (.op .mod (.pr .int (.cons (.op .mul (.cg (.var 0) true) (.op .add (.cg (.var 0) true) (.con (.int 131)))) .nil)) (.con (.int 2147483587))))
abbrev b_law_roll_3 : Sm := (.ret (.op .mod (.pr .int (.cons (.op .div (.var 3) (.con (.int 709))) .nil)) (.var 1)))
abbrev b_law_roll : Sm := (.cons b_law_roll_0 (.cons b_law_roll_1 (.cons b_law_roll_2 (.cons b_law_roll_3 .nil))))
abbrev f_law_roll : Nat := 56
/-! _law_some: 0 _law_cup_here, 1 _law_things -/
abbrev b_law_some_0 : Sm := (.ret (.ix (.var 1) (.call 56 (.cons (.var 0) (.cons (.pr .len (.cons (.var 1) .nil)) .nil)))))
abbrev b_law_some : Sm := (.cons b_law_some_0 .nil)
abbrev f_law_some : Nat := 57
/-! _law_parts: 0 _law_tree, 1 _law_form, 2 _law_row -/
abbrev b_law_parts_0 : Sm := (.asg (.slot 1) (.ix (.var 0) (.con (.int 0))))
abbrev b_law_parts_1 : Sm := (.iff (.cmp .inQ (.var 1) (.tup (.cons (.con (.str [97, 109, 111, 117, 110, 116])) (.cons (.con (.str [117, 115, 101])) (.cons (.con (.str [102, 105, 108, 108])) .nil))))) (.cons (.ret (.lst .nil)) .nil) .nil)
abbrev b_law_parts_2 : Sm := (.iff (.cmp .eq (.var 1) (.con (.str [109, 97, 107, 101, 114]))) (.cons (.ret (.op .add (.comp (.slot 2) .tup (.ix (.var 0) (.con (.int 2))) .nil .nil (.ix (.var 2) (.con (.int 1)))) (.lst (.cons (.ix (.var 0) (.con (.int 3))) .nil)))) .nil) .nil)
abbrev b_law_parts_3 : Sm := (.iff (.cmp .eq (.var 1) (.con (.str [109, 97, 107, 101]))) (.cons (.ret (.pr .list (.cons (.ix (.var 0) (.con (.int 2))) .nil))) .nil) .nil)
abbrev b_law_parts_4 : Sm := (.ret (.ite (.cmp .inQ (.var 1) (.tup (.cons (.con (.str [103, 105, 118, 101, 110])) (.cons (.con (.str [104, 111, 108, 100])) (.cons (.con (.str [114, 101, 99, 107, 111, 110])) .nil))))) (.pr .list (.cons (.sl (.var 0) (.con (.int 2)) .nil) .nil)) (.pr .list (.cons (.sl (.var 0) (.con (.int 1)) .nil) .nil))))
abbrev b_law_parts : Sm := (.cons b_law_parts_0 (.cons b_law_parts_1 (.cons b_law_parts_2 (.cons b_law_parts_3 (.cons b_law_parts_4 .nil)))))
abbrev f_law_parts : Nat := 58
/-! _law_with: 0 _law_tree, 1 _law_parts_here, 2 _law_row, 3 _law_form -/
abbrev b_law_with_0 : Sm := (.iff (.cmp .eq (.ix (.var 0) (.con (.int 0))) (.con (.str [109, 97, 107, 101, 114]))) (.cons (.ret (.op .add (.sl (.var 0) .nil (.con (.int 2))) (.tup (.cons (.pr .tuple (.cons (.comp (.tup (.cons (.slot 2) (.cons (.slot 3) .nil))) .zipT (.ix (.var 0) (.con (.int 2))) (.var 1) .nil (.tup (.cons (.ix (.var 2) (.con (.int 0))) (.cons (.var 3) .nil)))) .nil)) (.cons (.ix (.var 1) (.neg (.con (.int 1)))) .nil))))) .nil) .nil)
abbrev b_law_with_1 : Sm := (.iff (.cmp .eq (.ix (.var 0) (.con (.int 0))) (.con (.str [109, 97, 107, 101]))) (.cons (.ret (.op .add (.sl (.var 0) .nil (.con (.int 2))) (.tup (.cons (.pr .tuple (.cons (.var 1) .nil)) .nil)))) .nil) .nil)
abbrev b_law_with_2 : Sm := (.ret (.op .add (.sl (.var 0) .nil (.op .sub (.pr .len (.cons (.var 0) .nil)) (.pr .len (.cons (.var 1) .nil)))) (.pr .tuple (.cons (.var 1) .nil))))
abbrev b_law_with : Sm := (.cons b_law_with_0 (.cons b_law_with_1 (.cons b_law_with_2 .nil)))
abbrev f_law_with : Nat := 59
/-! _law_size: 0 _law_tree, 1 _law_part -/
abbrev b_law_size_0 : Sm := (.ret (.op .add (.con (.int 1)) (.pr .sum (.cons (.comp (.slot 1) .lst (.call 58 (.cons (.var 0) .nil)) .nil .nil (.call 60 (.cons (.var 1) .nil))) .nil))))
abbrev b_law_size : Sm := (.cons b_law_size_0 .nil)
abbrev f_law_size : Nat := 60
/-! _law_deep: 0 _law_tree, 1 _law_part -/
abbrev b_law_deep_0 : Sm := (.ret (.op .add (.con (.int 1)) (.pr .maxL (.cons (.op .add (.lst (.cons (.con (.int 0)) .nil)) (.comp (.slot 1) .lst (.call 58 (.cons (.var 0) .nil)) .nil .nil (.call 61 (.cons (.var 1) .nil)))) .nil))))
abbrev b_law_deep : Sm := (.cons b_law_deep_0 .nil)
abbrev f_law_deep : Nat := 61
/-! _law_fits: 0 _law_tree -/
abbrev b_law_fits_0 : Sm := (.ret (.and (.cmp .le (.call 61 (.cons (.var 0) .nil)) (.con (.int 60))) (.cmp .le (.call 60 (.cons (.var 0) .nil)) (.con (.int 1000)))))
abbrev b_law_fits : Sm := (.cons b_law_fits_0 .nil)
abbrev f_law_fits : Nat := 62
/-! _law_frees: 0 _law_tree, 1 _law_bound, 2 _law_found, 3 _law_parts_here, 4 _law_at, 5 _law_part, 6 _law_inner -/
abbrev b_law_frees_L0b : Sm := (.cons (.asg (.slot 6) (.op .add (.var 1) (.ite (.and (.cmp .inQ (.ix (.var 0) (.con (.int 0))) (.tup (.cons (.con (.str [103, 105, 118, 101, 110])) (.cons (.con (.str [104, 111, 108, 100])) .nil)))) (.cmp .eq (.var 4) (.op .sub (.pr .len (.cons (.var 3) .nil)) (.con (.int 1))))) (.lst (.cons (.ix (.ix (.var 0) (.con (.int 1))) (.con (.int 0))) .nil)) (.lst .nil)))) (.cons (.asg (.slot 2) (.op .add (.var 2) (.call 63 (.cons (.var 5) (.cons (.var 6) .nil))))) .nil))
abbrev b_law_frees_0 : Sm := (.iff (.cmp .eq (.ix (.var 0) (.con (.int 0))) (.con (.str [117, 115, 101]))) (.cons (.ret (.ite (.cmp .inQ (.ix (.ix (.var 0) (.con (.int 1))) (.con (.int 0))) (.var 1)) (.lst .nil) (.lst (.cons (.ix (.ix (.var 0) (.con (.int 1))) (.con (.int 0))) .nil)))) .nil) .nil)
abbrev b_law_frees_1 : Sm := (.asg (.tup (.cons (.slot 2) (.cons (.slot 3) .nil))) (.tup (.cons (.lst .nil) (.cons (.call 58 (.cons (.var 0) .nil)) .nil))))
abbrev b_law_frees_2 : Sm := (.forr (.tup (.cons (.slot 4) (.cons (.slot 5) .nil))) .enum (.var 3) .nil b_law_frees_L0b)
abbrev b_law_frees_3 : Sm := (.ret (.pr .sortS (.cons (.var 2) .nil)))
abbrev b_law_frees : Sm := (.cons b_law_frees_0 (.cons b_law_frees_1 (.cons b_law_frees_2 (.cons b_law_frees_3 .nil))))
abbrev f_law_frees : Nat := 63
/-! _law_put: 0 _law_tree, 1 _law_name, 2 _law_value, 3 _law_parts_here, 4 _law_found, 5 _law_part -/
abbrev b_law_put_0 : Sm := (.iff (.cmp .eq (.ix (.var 0) (.con (.int 0))) (.con (.str [117, 115, 101]))) (.cons (.ret (.ite (.cmp .eq (.ix (.var 0) (.con (.int 1))) (.var 1)) (.var 2) (.var 0))) .nil) .nil)
abbrev b_law_put_1 : Sm := (.asg (.slot 3) (.call 58 (.cons (.var 0) .nil)))
abbrev b_law_put_2 : Sm := (.iff (.cmp .eq (.pr .len (.cons (.var 3) .nil)) (.con (.int 0))) (.cons (.ret (.var 0)) .nil) .nil)
abbrev b_law_put_3 : Sm := (.asg (.slot 4) (.comp (.slot 5) .lst (.var 3) .nil .nil (.call 64 (.cons (.var 5) (.cons (.var 1) (.cons (.var 2) .nil))))))
abbrev b_law_put_4 : Sm := (.iff (.and (.cmp .inQ (.ix (.var 0) (.con (.int 0))) (.tup (.cons (.con (.str [103, 105, 118, 101, 110])) (.cons (.con (.str [104, 111, 108, 100])) .nil)))) (.cmp .eq (.ix (.var 0) (.con (.int 1))) (.var 1))) (.cons (.asg (.slot 4) (.op .add (.sl (.var 4) .nil (.neg (.con (.int 1)))) (.lst (.cons (.ix (.var 3) (.neg (.con (.int 1)))) .nil)))) .nil) .nil)
abbrev b_law_put_5 : Sm := (.ret (.call 59 (.cons (.var 0) (.cons (.var 4) .nil))))
abbrev b_law_put : Sm := (.cons b_law_put_0 (.cons b_law_put_1 (.cons b_law_put_2 (.cons b_law_put_3 (.cons b_law_put_4 (.cons b_law_put_5 .nil))))))
abbrev f_law_put : Nat := 64
/-! _law_turn: 0 _law_tree, 1 _law_waits, 2 _law_at, 3 _law_part -/
abbrev b_law_turn_L0b : Sm := (.cons (.iff (.cmp .ninQ (.ix (.var 3) (.con (.int 0))) (.tup (.cons (.con (.str [97, 109, 111, 117, 110, 116])) (.cons (.con (.str [103, 105, 118, 101, 110])) .nil)))) (.cons (.ret (.op .add (.tup (.cons (.var 2) .nil)) (.call 65 (.cons (.var 3) .nil)))) .nil) .nil) .nil)
abbrev b_law_turn_0 : Sm := (.asg (.slot 1) (.dicS [[97, 112, 112, 108, 121], [114, 101, 99, 107, 111, 110], [104, 111, 108, 100], [116, 101, 115, 116]] (.cons (.con (.int 2)) (.cons (.con (.int 2)) (.cons (.con (.int 1)) (.cons (.con (.int 1)) .nil))))))
abbrev b_law_turn_1 : Sm := (.forr (.tup (.cons (.slot 2) (.cons (.slot 3) .nil))) .enum (.sl (.call 58 (.cons (.var 0) .nil)) .nil (.pr .get (.cons (.var 1) (.cons (.ix (.var 0) (.con (.int 0))) (.cons (.con (.int 0)) .nil))))) .nil b_law_turn_L0b)
abbrev b_law_turn_2 : Sm := (.ret (.tup .nil))
abbrev b_law_turn : Sm := (.cons b_law_turn_0 (.cons b_law_turn_1 (.cons b_law_turn_2 .nil)))
abbrev f_law_turn : Nat := 65
/-! _law_there: 0 _law_tree, 1 _law_path, 2 _law_at -/
abbrev b_law_there_L0b : Sm := (.cons (.asg (.slot 0) (.ix (.call 58 (.cons (.var 0) .nil)) (.var 2))) .nil)
abbrev b_law_there_0 : Sm := (.forr (.slot 2) .tup (.var 1) .nil b_law_there_L0b)
abbrev b_law_there_1 : Sm := (.ret (.var 0))
abbrev b_law_there : Sm := (.cons b_law_there_0 (.cons b_law_there_1 .nil))
abbrev f_law_there : Nat := 66
/-! _law_rebuilt: 0 _law_tree, 1 _law_path, 2 _law_other, 3 _law_parts_here -/
abbrev b_law_rebuilt_0 : Sm := (.iff (.cmp .eq (.var 1) (.tup .nil)) (.cons (.ret (.var 2)) .nil) .nil)
abbrev b_law_rebuilt_1 : Sm := (.mkL 3 (.call 58 (.cons (.var 0) .nil)) (.ix (.var 1) (.con (.int 0))) 67 (.ix (.var 1) (.con (.int 0))) (.cons (.sl (.var 1) (.con (.int 1)) .nil) (.cons (.var 2) .nil)))
abbrev b_law_rebuilt_2 : Sm := (.ret (.call 59 (.cons (.var 0) (.cons (.var 3) .nil))))
abbrev b_law_rebuilt : Sm := (.cons b_law_rebuilt_0 (.cons b_law_rebuilt_1 (.cons b_law_rebuilt_2 .nil)))
abbrev f_law_rebuilt : Nat := 67
/-! _law_reckoned: 0 _law_sign, 1 _law_one, 2 _law_two -/
abbrev b_law_reckoned_0 : Sm := (.ret (.ite (.cmp .eq (.var 0) (.con (.str [43]))) (.op .add (.var 1) (.var 2)) (.ite (.cmp .eq (.var 0) (.con (.str [45]))) (.op .sub (.var 1) (.var 2)) (.op .mul (.var 1) (.var 2)))))
abbrev b_law_reckoned : Sm := (.cons b_law_reckoned_0 .nil)
abbrev f_law_reckoned : Nat := 68
/-! _law_moved: 0 _law_here, 1 _law_found -/
abbrev b_law_moved_0 : Sm := (.iff (.cmp .eq (.ix (.var 0) (.con (.int 0))) (.con (.str [97, 112, 112, 108, 121]))) (.cons (.ret (.ite (.cmp .eq (.ix (.ix (.var 0) (.con (.int 1))) (.con (.int 0))) (.con (.str [103, 105, 118, 101, 110]))) (.call 64 (.cons (.ix (.ix (.var 0) (.con (.int 1))) (.con (.int 2))) (.cons (.ix (.ix (.var 0) (.con (.int 1))) (.con (.int 1))) (.cons (.ix (.var 0) (.con (.int 2))) .nil)))) (.con (.str [97, 112, 112, 108, 121])))) .nil) .nil)
abbrev b_law_moved_1 : Sm := (.iff (.cmp .eq (.ix (.var 0) (.con (.int 0))) (.con (.str [104, 111, 108, 100]))) (.cons (.ret (.call 64 (.cons (.ix (.var 0) (.con (.int 3))) (.cons (.ix (.var 0) (.con (.int 1))) (.cons (.ix (.var 0) (.con (.int 2))) .nil))))) .nil) .nil)
abbrev b_law_moved_2 : Sm := (.iff (.cmp .eq (.ix (.var 0) (.con (.int 0))) (.con (.str [116, 101, 115, 116]))) (.cons (.ret (.ite (.cmp .eq (.ix (.ix (.var 0) (.con (.int 1))) (.con (.int 0))) (.con (.str [103, 105, 118, 101, 110]))) (.con (.str [116, 101, 115, 116])) (.ite (.cmp .ne (.ix (.ix (.var 0) (.con (.int 1))) (.con (.int 1))) (.con (.int 0))) (.ix (.var 0) (.con (.int 2))) (.ix (.var 0) (.con (.int 3)))))) .nil) .nil)
abbrev b_law_moved_3 : Sm := (.iff (.or (.cmp .ne (.ix (.ix (.var 0) (.con (.int 2))) (.con (.int 0))) (.con (.str [97, 109, 111, 117, 110, 116]))) (.cmp .ne (.ix (.ix (.var 0) (.con (.int 3))) (.con (.int 0))) (.con (.str [97, 109, 111, 117, 110, 116])))) (.cons (.ret (.con (.str [114, 101, 99, 107, 111, 110]))) .nil) .nil)
abbrev b_law_moved_4 : Sm := (.asg (.slot 1) (.call 68 (.cons (.ix (.var 0) (.con (.int 1))) (.cons (.ix (.ix (.var 0) (.con (.int 2))) (.con (.int 1))) (.cons (.ix (.ix (.var 0) (.con (.int 3))) (.con (.int 1))) .nil)))))
abbrev b_law_moved_5 : Sm := (.ret (.ite (.cmp .le (.pr .abs (.cons (.var 1) .nil)) (.op .pow (.con (.int 10)) (.con (.int 12)))) (.tup (.cons (.con (.str [97, 109, 111, 117, 110, 116])) (.cons (.var 1) .nil))) (.con (.str [103, 114, 101, 97, 116]))))
abbrev b_law_moved : Sm := (.cons b_law_moved_0 (.cons b_law_moved_1 (.cons b_law_moved_2 (.cons b_law_moved_3 (.cons b_law_moved_4 (.cons b_law_moved_5 .nil))))))
abbrev f_law_moved : Nat := 69
/-! _law_worked_out: 0 _law_cells, 1 _law_tree, 2 _law_asked, 3 _law_many, 4 _law_path, 5 _law_here, 6 _law_later -/
abbrev b_law_worked_out_L0c : Tm := (.and (.cmp .ninQ (.ix (.var 1) (.con (.int 0))) (.tup (.cons (.con (.str [97, 109, 111, 117, 110, 116])) (.cons (.con (.str [103, 105, 118, 101, 110])) .nil)))) (.cmp .le (.var 3) (.con (.int 400))))
abbrev b_law_worked_out_L0b : Sm := (.cons (.asg (.slot 4) (.call 65 (.cons (.var 1) .nil))) (.cons (.asg (.slot 5) (.call 66 (.cons (.var 1) (.cons (.var 4) .nil)))) (.cons (.iff (.and (.cmp .eq (.ix (.var 5) (.con (.int 0))) (.con (.str [117, 115, 101]))) (.cmp .ninT (.ix (.ix (.var 5) (.con (.int 1))) (.con (.int 0))) (.var 0))) (.cons (.ret (.tup (.cons (.tup (.cons (.con (.str [115, 116, 117, 99, 107])) (.cons (.con (.str [102, 114, 101, 101])) .nil))) (.cons (.pr .sortS (.cons (.var 2) .nil)) .nil)))) .nil) .nil) (.cons (.iff (.cmp .eq (.ix (.var 5) (.con (.int 0))) (.con (.str [117, 115, 101]))) (.cons (.asg (.tup (.cons (.slot 2) (.cons (.slot 6) .nil))) (.tup (.cons (.op .add (.var 2) (.lst (.cons (.ix (.ix (.var 5) (.con (.int 1))) (.con (.int 0))) .nil))) (.cons (.tup (.cons (.con (.str [97, 109, 111, 117, 110, 116])) (.cons (.ix (.var 0) (.ix (.ix (.var 5) (.con (.int 1))) (.con (.int 0)))) .nil))) .nil)))) .nil) (.cons (.asg (.tup (.cons (.slot 6) (.cons (.slot 3) .nil))) (.tup (.cons (.call 69 (.cons (.var 5) .nil)) (.cons (.op .add (.var 3) (.con (.int 1))) .nil)))) .nil)) (.cons (.iff (.pr (.isi "str") (.cons (.var 6) .nil)) (.cons (.ret (.tup (.cons (.tup (.cons (.con (.str [115, 116, 117, 99, 107])) (.cons (.var 6) .nil))) (.cons (.pr .sortS (.cons (.var 2) .nil)) .nil)))) .nil) .nil) (.cons (.asg (.slot 1) (.call 67 (.cons (.var 1) (.cons (.var 4) (.cons (.var 6) .nil))))) (.cons (.iff (.not (.call 62 (.cons (.var 1) .nil))) (.cons (.ret (.tup (.cons (.tup (.cons (.con (.str [115, 116, 117, 99, 107])) (.cons (.con (.str [103, 114, 101, 97, 116])) .nil))) (.cons (.pr .sortS (.cons (.var 2) .nil)) .nil)))) .nil) .nil) .nil)))))))
abbrev b_law_worked_out_0 : Sm := (.asg (.tup (.cons (.slot 2) (.cons (.slot 3) .nil))) (.tup (.cons (.lst .nil) (.cons (.con (.int 0)) .nil))))
abbrev b_law_worked_out_1 : Sm := (.whl b_law_worked_out_L0c b_law_worked_out_L0b)
abbrev b_law_worked_out_2 : Sm := (.iff (.cmp .gt (.var 3) (.con (.int 400))) (.cons (.ret (.tup (.cons (.tup (.cons (.con (.str [109, 111, 114, 101])) .nil)) (.cons (.pr .sortS (.cons (.var 2) .nil)) .nil)))) .nil) .nil)
abbrev b_law_worked_out_3 : Sm := (.ret (.tup (.cons (.tup (.cons (.con (.str [118, 97, 108, 117, 101])) (.cons (.ite (.cmp .eq (.ix (.var 1) (.con (.int 0))) (.con (.str [97, 109, 111, 117, 110, 116]))) (.ix (.var 1) (.con (.int 1))) (.con (.str [103, 105, 118, 101, 110]))) .nil))) (.cons (.pr .sortS (.cons (.var 2) .nil)) .nil))))
abbrev b_law_worked_out : Sm := (.cons b_law_worked_out_0 (.cons b_law_worked_out_1 (.cons b_law_worked_out_2 (.cons b_law_worked_out_3 .nil))))
abbrev f_law_worked_out : Nat := 70
/-! _law_deed: 0 _law_cells, 1 _law_deed_here, 2 _law_end, 3 _law_found -/
abbrev b_law_deed_0 : Sm := (.iff (.cmp .ninT (.ix (.var 1) (.con (.int 0))) (.var 0)) (.cons (.ret (.tup (.cons (.con (.str [115, 116, 117, 99, 107])) (.cons (.con (.str [99, 101, 108, 108])) .nil)))) .nil) .nil)
abbrev b_law_deed_1 : Sm := (.asg (.slot 2) (.ix (.call 70 (.cons (.var 0) (.cons (.ix (.var 1) (.con (.int 1))) .nil))) (.con (.int 0))))
abbrev b_law_deed_2 : Sm := (.iff (.or (.cmp .ne (.ix (.var 2) (.con (.int 0))) (.con (.str [118, 97, 108, 117, 101]))) (.cmp .eq (.ix (.var 2) (.con (.int 1))) (.con (.str [103, 105, 118, 101, 110])))) (.cons (.ret (.var 2)) .nil) .nil)
abbrev b_law_deed_3 : Sm := (.mkD 3 (.var 0) (.ix (.var 1) (.con (.int 0))) (.ix (.var 2) (.con (.int 1))))
abbrev b_law_deed_4 : Sm := (.ret (.var 3))
abbrev b_law_deed : Sm := (.cons b_law_deed_0 (.cons b_law_deed_1 (.cons b_law_deed_2 (.cons b_law_deed_3 (.cons b_law_deed_4 .nil)))))
abbrev f_law_deed : Nat := 71
/-! _law_train: 0 _law_cells, 1 _law_deeds, 2 _law_deed_here -/
abbrev b_law_train_L0b : Sm := (.cons (.asg (.slot 0) (.ite (.pr (.isi "dict") (.cons (.var 0) .nil)) (.call 71 (.cons (.var 0) (.cons (.var 2) .nil))) (.var 0))) .nil)
abbrev b_law_train_0 : Sm := (.forr (.slot 2) .tup (.var 1) .nil b_law_train_L0b)
abbrev b_law_train_1 : Sm := (.ret (.var 0))
abbrev b_law_train : Sm := (.cons b_law_train_0 (.cons b_law_train_1 .nil))
abbrev f_law_train : Nat := 72
/-! _law_told: 0 _law_cells -/
abbrev b_law_told_0 : Sm := (.ret (.ite (.pr (.isi "dict") (.cons (.var 0) .nil)) (.tup (.cons (.con (.str [100, 111, 110, 101])) (.cons (.pr .tuple (.cons (.pr .sortI (.cons (.pr .items (.cons (.var 0) .nil)) .nil)) .nil)) .nil))) (.tup (.cons (.con (.str [115, 116, 111, 112, 112, 101, 100])) (.cons (.var 0) .nil)))))
abbrev b_law_told : Sm := (.cons b_law_told_0 .nil)
abbrev f_law_told : Nat := 73
/-! _law_drawn: 0 _law_cup_here, 1 _law_words, 2 _law_names, 3 _law_deep_here, 4 _law_one, 5 _law_two, 6 _law_way, 7 _law_less, 8 _law_fresh, 9 _law_body -/
abbrev b_law_drawn_0 : Sm := (.asg (.tup (.cons (.slot 4) (.cons (.slot 5) .nil))) (.tup (.cons (.tup (.cons (.con (.str [97, 109, 111, 117, 110, 116])) (.cons (.op .sub (.call 56 (.cons (.var 0) (.cons (.con (.int 5)) .nil))) (.con (.int 1))) .nil))) (.cons (.tup (.cons (.con (.str [117, 115, 101])) (.cons (.tup (.cons (.call 57 (.cons (.var 0) (.cons (.op .add (.var 1) (.var 2)) .nil))) (.cons (.tup .nil) .nil))) .nil))) .nil))))
abbrev b_law_drawn_1 : Sm := (.iff (.cmp .eq (.var 3) (.con (.int 0))) (.cons (.ret (.call 57 (.cons (.var 0) (.cons (.lst (.cons (.var 4) (.cons (.var 5) (.cons (.var 5) .nil)))) .nil)))) .nil) .nil)
abbrev b_law_drawn_2 : Sm := (.asg (.tup (.cons (.slot 6) (.cons (.slot 7) (.cons (.slot 8) .nil)))) (.tup (.cons (.call 56 (.cons (.var 0) (.cons (.con (.int 12)) .nil))) (.cons (.op .sub (.var 3) (.con (.int 1))) (.cons (.op .add (.con (.str [118])) (.ix (.con (.str [97, 98, 99, 100, 101, 102, 103, 104])) (.pr .len (.cons (.var 2) .nil)))) .nil)))))
abbrev b_law_drawn_3 : Sm := (.iff (.cmp .lt (.var 6) (.con (.int 4))) (.cons (.ret (.tup (.cons (.con (.str [114, 101, 99, 107, 111, 110])) (.cons (.call 57 (.cons (.var 0) (.cons (.lst (.cons (.con (.str [43])) (.cons (.con (.str [45])) (.cons (.con (.str [42])) .nil)))) .nil))) (.cons (.call 74 (.cons (.var 0) (.cons (.var 1) (.cons (.var 2) (.cons (.var 7) .nil))))) (.cons (.call 74 (.cons (.var 0) (.cons (.var 1) (.cons (.var 2) (.cons (.var 7) .nil))))) .nil)))))) .nil) .nil)
abbrev b_law_drawn_4 : Sm := (.iff (.cmp .lt (.var 6) (.con (.int 6))) (.cons (.ret (.tup (.cons (.con (.str [116, 101, 115, 116])) (.cons (.call 74 (.cons (.var 0) (.cons (.var 1) (.cons (.var 2) (.cons (.var 7) .nil))))) (.cons (.call 74 (.cons (.var 0) (.cons (.var 1) (.cons (.var 2) (.cons (.var 7) .nil))))) (.cons (.call 74 (.cons (.var 0) (.cons (.var 1) (.cons (.var 2) (.cons (.var 7) .nil))))) .nil)))))) .nil) .nil)
abbrev b_law_drawn_5 : Sm := (.iff (.cmp .lt (.var 6) (.con (.int 8))) (.cons (.ret (.tup (.cons (.con (.str [104, 111, 108, 100])) (.cons (.tup (.cons (.var 8) (.cons (.tup .nil) .nil))) (.cons (.call 74 (.cons (.var 0) (.cons (.var 1) (.cons (.var 2) (.cons (.var 7) .nil))))) (.cons (.call 74 (.cons (.var 0) (.cons (.var 1) (.cons (.op .add (.var 2) (.lst (.cons (.var 8) .nil))) (.cons (.var 7) .nil))))) .nil)))))) .nil) .nil)
abbrev b_law_drawn_6 : Sm := (.iff (.cmp .lt (.var 6) (.con (.int 10))) (.cons (.asg (.slot 9) (.call 74 (.cons (.var 0) (.cons (.var 1) (.cons (.op .add (.var 2) (.lst (.cons (.var 8) .nil))) (.cons (.var 7) .nil)))))) (.cons (.ret (.tup (.cons (.con (.str [97, 112, 112, 108, 121])) (.cons (.tup (.cons (.con (.str [103, 105, 118, 101, 110])) (.cons (.tup (.cons (.var 8) (.cons (.tup .nil) .nil))) (.cons (.var 9) .nil)))) (.cons (.call 74 (.cons (.var 0) (.cons (.var 1) (.cons (.var 2) (.cons (.var 7) .nil))))) .nil))))) .nil)) .nil)
abbrev b_law_drawn_7 : Sm := (.iff (.cmp .eq (.var 6) (.con (.int 10))) (.cons (.asg (.slot 9) (.tup (.cons (.con (.str [97, 112, 112, 108, 121])) (.cons (.tup (.cons (.con (.str [117, 115, 101])) (.cons (.tup (.cons (.var 8) (.cons (.tup .nil) .nil))) .nil))) (.cons (.call 74 (.cons (.var 0) (.cons (.var 1) (.cons (.var 2) (.cons (.con (.int 0)) .nil))))) .nil))))) (.cons (.ret (.tup (.cons (.con (.str [104, 111, 108, 100])) (.cons (.tup (.cons (.var 8) (.cons (.tup .nil) .nil))) (.cons (.tup (.cons (.con (.str [103, 105, 118, 101, 110])) (.cons (.tup (.cons (.con (.str [119])) (.cons (.tup .nil) .nil))) (.cons (.call 74 (.cons (.var 0) (.cons (.var 1) (.cons (.op .add (.var 2) (.lst (.cons (.con (.str [119])) .nil))) (.cons (.var 7) .nil))))) .nil)))) (.cons (.var 9) .nil)))))) .nil)) .nil)
abbrev b_law_drawn_8 : Sm := (.ret (.call 57 (.cons (.var 0) (.cons (.lst (.cons (.var 4) (.cons (.var 5) (.cons (.tup (.cons (.con (.str [97, 112, 112, 108, 121])) (.cons (.var 4) (.cons (.var 5) .nil)))) (.cons (.tup (.cons (.con (.str [103, 105, 118, 101, 110])) (.cons (.tup (.cons (.var 8) (.cons (.tup .nil) .nil))) (.cons (.call 74 (.cons (.var 0) (.cons (.var 1) (.cons (.op .add (.var 2) (.lst (.cons (.var 8) .nil))) (.cons (.var 7) .nil))))) .nil)))) .nil))))) .nil))))
abbrev b_law_drawn : Sm := (.cons b_law_drawn_0 (.cons b_law_drawn_1 (.cons b_law_drawn_2 (.cons b_law_drawn_3 (.cons b_law_drawn_4 (.cons b_law_drawn_5 (.cons b_law_drawn_6 (.cons b_law_drawn_7 (.cons b_law_drawn_8 .nil)))))))))
abbrev f_law_drawn : Nat := 74
/-! _law_open: 0 _law_cup_here, 1 _law_words, 2 _law_deep_here -/
abbrev b_law_open_0 : Sm := (.ret (.call 26 (.cons (.call 74 (.cons (.var 0) (.cons (.var 1) (.cons (.lst .nil) (.cons (.var 2) .nil))))) .nil)))
abbrev b_law_open : Sm := (.cons b_law_open_0 .nil)
abbrev f_law_open : Nat := 75
/-! _law_stores: 0 _law_words, 1 _law_most, 2 _law_found, 3 _law_word, 4 _law_longer, 5 _law_store, 6 _law_amount -/
abbrev b_law_stores_L1b : Sm := (.cons (.asg (.slot 4) (.op .add (.var 4) (.comp (.slot 6) .rng (.op .add (.var 1) (.con (.int 1))) .nil .nil (.op .add (.var 5) (.tup (.cons (.tup (.cons (.var 3) (.cons (.var 6) .nil))) .nil)))))) .nil)
abbrev b_law_stores_L0b : Sm := (.cons (.asg (.slot 4) (.lst .nil)) (.cons (.forr (.slot 5) .lst (.var 2) .nil b_law_stores_L1b) (.cons (.asg (.slot 2) (.var 4)) .nil)))
abbrev b_law_stores_0 : Sm := (.asg (.slot 2) (.lst (.cons (.tup .nil) .nil)))
abbrev b_law_stores_1 : Sm := (.forr (.slot 3) .lst (.var 0) .nil b_law_stores_L0b)
abbrev b_law_stores_2 : Sm := (.ret (.var 2))
abbrev b_law_stores : Sm := (.cons b_law_stores_0 (.cons b_law_stores_1 (.cons b_law_stores_2 .nil)))
abbrev f_law_stores : Nat := 76
/-! _law_tells: 0 _law_store, 1 _law_one, 2 _law_other -/
abbrev b_law_tells_0 : Sm := (.ret (.cmp .ne (.call 73 (.cons (.call 72 (.cons (.pr .dict (.cons (.var 0) .nil)) (.cons (.tup (.cons (.var 1) (.cons (.var 2) .nil))) .nil))) .nil)) (.call 73 (.cons (.call 72 (.cons (.pr .dict (.cons (.var 0) .nil)) (.cons (.tup (.cons (.var 2) (.cons (.var 1) .nil))) .nil))) .nil))))
abbrev b_law_tells : Sm := (.cons b_law_tells_0 .nil)
abbrev f_law_tells : Nat := 77
/-! _law_right: 0 _law_one, 1 _law_other, 2 _law_most, 3 _law_words, 4 _law_every, 5 _law_told_here, 6 _law_store -/
abbrev b_law_right_0 : Sm := (.asg (.slot 3) (.pr .sortS (.cons (.op .add (.op .add (.lst (.cons (.ix (.var 0) (.con (.int 0))) (.cons (.ix (.var 1) (.con (.int 0))) .nil))) (.call 63 (.cons (.ix (.var 0) (.con (.int 1))) (.cons (.lst .nil) .nil)))) (.call 63 (.cons (.ix (.var 1) (.con (.int 1))) (.cons (.lst .nil) .nil)))) .nil)))
abbrev b_law_right_1 : Sm := (.asg (.tup (.cons (.slot 4) (.cons (.slot 5) .nil))) (.tup (.cons (.call 76 (.cons (.var 3) (.cons (.var 2) .nil))) (.cons (.call 42 (.cons (.var 0) (.cons (.var 1) (.cons (.var 2) .nil)))) .nil))))
abbrev b_law_right_2 : Sm := (.iff (.isN (.var 5)) (.cons (.ret (.cmp .eq (.comp (.slot 6) .lst (.var 4) .nil (.call 77 (.cons (.var 6) (.cons (.var 0) (.cons (.var 1) .nil)))) (.var 6)) (.lst .nil))) .nil) .nil)
abbrev b_law_right_3 : Sm := (.ret (.and (.cmp .inD (.var 5) (.var 4)) (.call 77 (.cons (.var 5) (.cons (.var 0) (.cons (.var 1) .nil))))))
abbrev b_law_right : Sm := (.cons b_law_right_0 (.cons b_law_right_1 (.cons b_law_right_2 (.cons b_law_right_3 .nil))))
abbrev f_law_right : Nat := 78
/-! law: 0 _law_script, 1 _law_cup_here, 2 _law_turn_here, 3 _law_words, 4 _law_one, 5 _law_other, 6 _law_x, 7 _law_y, 8 _law_z, 9 _law_twice, 10 _law_more, 11 _law_rare -/
abbrev b_law_L0b : Sm := (.cons (.asg (.slot 3) (.call 57 (.cons (.var 1) (.cons (.lst (.cons (.lst (.cons (.con (.str [120])) (.cons (.con (.str [121])) .nil))) (.cons (.lst (.cons (.con (.str [120])) (.cons (.con (.str [121])) .nil))) (.cons (.lst (.cons (.con (.str [120])) (.cons (.con (.str [121])) (.cons (.con (.str [122])) .nil)))) .nil)))) .nil)))) (.cons (.asg (.tup (.cons (.slot 4) (.cons (.slot 5) .nil))) (.tup (.cons (.tup (.cons (.call 57 (.cons (.var 1) (.cons (.var 3) .nil))) (.cons (.call 75 (.cons (.var 1) (.cons (.var 3) (.cons (.con (.int 1)) .nil)))) .nil))) (.cons (.tup (.cons (.call 57 (.cons (.var 1) (.cons (.var 3) .nil))) (.cons (.call 75 (.cons (.var 1) (.cons (.var 3) (.cons (.call 57 (.cons (.var 1) (.cons (.lst (.cons (.con (.int 1)) (.cons (.con (.int 1)) (.cons (.con (.int 2)) .nil)))) .nil))) .nil)))) .nil))) .nil)))) (.cons (.iff (.not (.call 78 (.cons (.var 4) (.cons (.var 5) (.cons (.call 57 (.cons (.var 1) (.cons (.lst (.cons (.con (.int 0)) (.cons (.con (.int 1)) (.cons (.con (.int 1)) (.cons (.con (.int 2)) .nil))))) .nil))) .nil))))) (.cons (.ret (.con (.bl false))) .nil) .nil) .nil)))
abbrev b_law_0 : Sm := (.asg (.slot 1) (.call 55 (.cons (.var 0) .nil)))
abbrev b_law_1 : Sm := (.forr (.slot 2) .rng (.con (.int 3)) .nil b_law_L0b)
abbrev b_law_2 : Sm := (.asg (.tup (.cons (.slot 6) (.cons (.slot 7) (.cons (.slot 8) .nil)))) (.tup (.cons (.tup (.cons (.con (.str [120])) (.cons (.call 54 (.cons (.con (.str [40, 43, 32, 120, 32, 49, 41])) .nil)) .nil))) (.cons (.tup (.cons (.con (.str [121])) (.cons (.call 54 (.cons (.con (.str [40, 42, 32, 120, 32, 50, 41])) .nil)) .nil))) (.cons (.tup (.cons (.con (.str [122])) (.cons (.call 54 (.cons (.con (.str [122])) .nil)) .nil))) .nil)))))
abbrev b_law_3 : Sm := (.iff (.cmp .ne (.lst (.cons (.call 42 (.cons (.var 6) (.cons (.var 8) (.cons (.con (.int 3)) .nil)))) (.cons (.call 42 (.cons (.var 6) (.cons (.var 7) (.cons (.con (.int 0)) .nil)))) (.cons (.call 42 (.cons (.var 6) (.cons (.var 6) (.cons (.con (.int 2)) .nil)))) .nil)))) (.lst (.cons (.con .non) (.cons (.tup (.cons (.tup (.cons (.con (.str [120])) (.cons (.con (.int 0)) .nil))) (.cons (.tup (.cons (.con (.str [121])) (.cons (.con (.int 0)) .nil))) .nil))) (.cons (.con .non) .nil))))) (.cons (.ret (.con (.bl false))) .nil) .nil)
abbrev b_law_4 : Sm := (.asg (.tup (.cons (.slot 9) (.cons (.slot 10) .nil))) (.tup (.cons (.tup (.cons (.con (.str [120])) (.cons (.call 54 (.cons (.con (.str [40, 42, 32, 120, 32, 50, 41])) .nil)) .nil))) (.cons (.tup (.cons (.con (.str [120])) (.cons (.call 54 (.cons (.con (.str [40, 42, 32, 120, 32, 51, 41])) .nil)) .nil))) .nil))))
abbrev b_law_5 : Sm := (.iff (.or (.notN (.call 42 (.cons (.var 9) (.cons (.var 10) (.cons (.con (.int 3)) .nil))))) (.isN (.call 42 (.cons (.var 9) (.cons (.var 6) (.cons (.con (.int 3)) .nil)))))) (.cons (.ret (.con (.bl false))) .nil) .nil)
abbrev b_law_6 : Sm := (.asg (.slot 11) (.tup (.cons (.con (.str [121])) (.cons (.call 54 (.cons (.con (.str [40, 116, 101, 115, 116, 32, 40, 45, 32, 120, 32, 50, 41, 32, 48, 32, 49, 41])) .nil)) .nil))))
abbrev b_law_7 : Sm := (.iff (.or (.notN (.call 42 (.cons (.var 6) (.cons (.var 11) (.cons (.con (.int 0)) .nil))))) (.isN (.call 42 (.cons (.var 6) (.cons (.var 11) (.cons (.con (.int 1)) .nil)))))) (.cons (.ret (.con (.bl false))) .nil) .nil)
abbrev b_law_8 : Sm := (.ret (.and (.call 78 (.cons (.var 6) (.cons (.var 11) (.cons (.con (.int 3)) .nil)))) (.and (.call 78 (.cons (.var 6) (.cons (.var 7) (.cons (.con (.int 2)) .nil)))) (.cmp .eq (.call 42 (.cons (.tup (.cons (.con (.str [120])) (.cons (.tup (.cons (.con (.str [97, 109, 111, 117, 110, 116])) (.cons (.con (.int 1)) .nil))) .nil))) (.cons (.tup (.cons (.con (.str [120])) (.cons (.tup (.cons (.con (.str [97, 109, 111, 117, 110, 116])) (.cons (.con (.int 2)) .nil))) .nil))) (.cons (.con (.int 0)) .nil)))) (.tup (.cons (.tup (.cons (.con (.str [120])) (.cons (.con (.int 0)) .nil))) .nil))))))
abbrev b_law : Sm := (.cons b_law_0 (.cons b_law_1 (.cons b_law_2 (.cons b_law_3 (.cons b_law_4 (.cons b_law_5 (.cons b_law_6 (.cons b_law_7 (.cons b_law_8 .nil)))))))))
def fnms : List Str := [Str.ofString "is_whole", Str.ofString "is_row_of", Str.ofString "fits_word", Str.ofString "fits_name", Str.ofString "things_in", Str.ofString "things_of", Str.ofString "pieces_in", Str.ofString "measured", Str.ofString "parts_in", Str.ofString "with_parts", Str.ofString "led_to", Str.ofString "line_to", Str.ofString "rebuilt", Str.ofString "paths_in", Str.ofString "names_at", Str.ofString "is_all_plain", Str.ofString "binds_in", Str.ofString "nearest", Str.ofString "meant", Str.ofString "outer_places", Str.ofString "frees_in", Str.ofString "words_from", Str.ofString "renamed", Str.ofString "plainly", Str.ofString "shape_plain", Str.ofString "need_bare", Str.ofString "with_plain_names", Str.ofString "is_done", Str.ofString "first_undone", Str.ofString "put_in", Str.ofString "reckoned", Str.ofString "done_here", Str.ofString "fits_open", Str.ofString "fits_cell_deed", Str.ofString "need_deed", Str.ofString "turn_of", Str.ofString "worked_in", Str.ofString "done_by", Str.ofString "done_all", Str.ofString "words_of_deed", Str.ofString "stores_of", Str.ofString "need_amount", Str.ofString "unlike_store", Str.ofString "items_of", Str.ofString "nested", Str.ofString "is_made_of", Str.ofString "amount_by", Str.ofString "name_by", Str.ofString "word_by", Str.ofString "binder_by", Str.ofString "leaf_by", Str.ofString "made_by_head", Str.ofString "tree_by", Str.ofString "need_shallow", Str.ofString "read_tree", Str.ofString "_law_cup", Str.ofString "_law_roll", Str.ofString "_law_some", Str.ofString "_law_parts", Str.ofString "_law_with", Str.ofString "_law_size", Str.ofString "_law_deep", Str.ofString "_law_fits", Str.ofString "_law_frees", Str.ofString "_law_put", Str.ofString "_law_turn", Str.ofString "_law_there", Str.ofString "_law_rebuilt", Str.ofString "_law_reckoned", Str.ofString "_law_moved", Str.ofString "_law_worked_out", Str.ofString "_law_deed", Str.ofString "_law_train", Str.ofString "_law_told", Str.ofString "_law_drawn", Str.ofString "_law_open", Str.ofString "_law_stores", Str.ofString "_law_tells", Str.ofString "_law_right"]
def fps : List (List Str) := [[Str.ofString "value", Str.ofString "low", Str.ofString "high"],
  [Str.ofString "value", Str.ofString "low", Str.ofString "high"],
  [Str.ofString "value"],
  [Str.ofString "value"],
  [Str.ofString "kind", Str.ofString "item", Str.ofString "holes"],
  [Str.ofString "value", Str.ofString "holes"],
  [Str.ofString "tree"],
  [Str.ofString "value"],
  [Str.ofString "tree"],
  [Str.ofString "tree", Str.ofString "parts"],
  [Str.ofString "tree", Str.ofString "path"],
  [Str.ofString "tree", Str.ofString "path"],
  [Str.ofString "tree", Str.ofString "path", Str.ofString "other"],
  [Str.ofString "tree"],
  [Str.ofString "tree"],
  [Str.ofString "tree"],
  [Str.ofString "tree", Str.ofString "at"],
  [Str.ofString "tree", Str.ofString "path", Str.ofString "name"],
  [Str.ofString "work", Str.ofString "path", Str.ofString "name"],
  [Str.ofString "tree"],
  [Str.ofString "work"],
  [Str.ofString "many", Str.ofString "taken"],
  [Str.ofString "work", Str.ofString "path", Str.ofString "words"],
  [Str.ofString "work"],
  [Str.ofString "tree"],
  [Str.ofString "value"],
  [Str.ofString "tree"],
  [Str.ofString "tree"],
  [Str.ofString "tree"],
  [Str.ofString "tree", Str.ofString "name", Str.ofString "value"],
  [Str.ofString "tree"],
  [Str.ofString "tree"],
  [Str.ofString "value"],
  [Str.ofString "value"],
  [Str.ofString "value"],
  [Str.ofString "tree"],
  [Str.ofString "store", Str.ofString "tree"],
  [Str.ofString "store", Str.ofString "deed"],
  [Str.ofString "store", Str.ofString "deeds"],
  [Str.ofString "deed"],
  [Str.ofString "words", Str.ofString "most"],
  [Str.ofString "value"],
  [Str.ofString "deed", Str.ofString "other_deed", Str.ofString "most"],
  [Str.ofString "text"],
  [Str.ofString "items"],
  [Str.ofString "text", Str.ofString "signs"],
  [Str.ofString "text"],
  [Str.ofString "item"],
  [Str.ofString "text"],
  [Str.ofString "item"],
  [Str.ofString "item"],
  [Str.ofString "head", Str.ofString "item"],
  [Str.ofString "item"],
  [Str.ofString "items"],
  [Str.ofString "text"],
  [Str.ofString "_law_script"],
  [Str.ofString "_law_cup_here", Str.ofString "_law_many"],
  [Str.ofString "_law_cup_here", Str.ofString "_law_things"],
  [Str.ofString "_law_tree"],
  [Str.ofString "_law_tree", Str.ofString "_law_parts_here"],
  [Str.ofString "_law_tree"],
  [Str.ofString "_law_tree"],
  [Str.ofString "_law_tree"],
  [Str.ofString "_law_tree", Str.ofString "_law_bound"],
  [Str.ofString "_law_tree", Str.ofString "_law_name", Str.ofString "_law_value"],
  [Str.ofString "_law_tree"],
  [Str.ofString "_law_tree", Str.ofString "_law_path"],
  [Str.ofString "_law_tree", Str.ofString "_law_path", Str.ofString "_law_other"],
  [Str.ofString "_law_sign", Str.ofString "_law_one", Str.ofString "_law_two"],
  [Str.ofString "_law_here"],
  [Str.ofString "_law_cells", Str.ofString "_law_tree"],
  [Str.ofString "_law_cells", Str.ofString "_law_deed_here"],
  [Str.ofString "_law_cells", Str.ofString "_law_deeds"],
  [Str.ofString "_law_cells"],
  [Str.ofString "_law_cup_here", Str.ofString "_law_words", Str.ofString "_law_names", Str.ofString "_law_deep_here"],
  [Str.ofString "_law_cup_here", Str.ofString "_law_words", Str.ofString "_law_deep_here"],
  [Str.ofString "_law_words", Str.ofString "_law_most"],
  [Str.ofString "_law_store", Str.ofString "_law_one", Str.ofString "_law_other"],
  [Str.ofString "_law_one", Str.ofString "_law_other", Str.ofString "_law_most"]]
def fns' : List (List Str) := [[Str.ofString "value", Str.ofString "low", Str.ofString "high"],
  [Str.ofString "value", Str.ofString "low", Str.ofString "high"],
  [Str.ofString "value", Str.ofString "letter"],
  [Str.ofString "value", Str.ofString "marks", Str.ofString "mark", Str.ofString "one", Str.ofString "two"],
  [Str.ofString "kind", Str.ofString "item", Str.ofString "holes", Str.ofString "one"],
  [Str.ofString "value", Str.ofString "holes", Str.ofString "kinds", Str.ofString "found", Str.ofString "kind", Str.ofString "item", Str.ofString "some"],
  [Str.ofString "tree", Str.ofString "row"],
  [Str.ofString "value", Str.ofString "line", Str.ofString "size", Str.ofString "deepest", Str.ofString "here", Str.ofString "holes", Str.ofString "depth", Str.ofString "some", Str.ofString "one", Str.ofString "inner"],
  [Str.ofString "tree", Str.ofString "row"],
  [Str.ofString "tree", Str.ofString "parts", Str.ofString "rows", Str.ofString "row", Str.ofString "form"],
  [Str.ofString "tree", Str.ofString "path", Str.ofString "at"],
  [Str.ofString "tree", Str.ofString "path", Str.ofString "found", Str.ofString "at"],
  [Str.ofString "tree", Str.ofString "path", Str.ofString "other", Str.ofString "line", Str.ofString "found", Str.ofString "place", Str.ofString "parts"],
  [Str.ofString "tree", Str.ofString "found", Str.ofString "line", Str.ofString "path", Str.ofString "here", Str.ofString "at", Str.ofString "part"],
  [Str.ofString "tree", Str.ofString "found", Str.ofString "pattern", Str.ofString "form", Str.ofString "piece"],
  [Str.ofString "tree", Str.ofString "path", Str.ofString "here", Str.ofString "name"],
  [Str.ofString "tree", Str.ofString "at"],
  [Str.ofString "tree", Str.ofString "path", Str.ofString "name", Str.ofString "line", Str.ofString "place", Str.ofString "here"],
  [Str.ofString "work", Str.ofString "path", Str.ofString "name", Str.ofString "tree", Str.ofString "makings", Str.ofString "found"],
  [Str.ofString "tree", Str.ofString "found", Str.ofString "line", Str.ofString "path", Str.ofString "here", Str.ofString "skipped", Str.ofString "at", Str.ofString "part"],
  [Str.ofString "work", Str.ofString "found", Str.ofString "path", Str.ofString "here", Str.ofString "binder", Str.ofString "word"],
  [Str.ofString "many", Str.ofString "taken", Str.ofString "found", Str.ofString "line", Str.ofString "longer", Str.ofString "ahead", Str.ofString "letter", Str.ofString "one"],
  [Str.ofString "work", Str.ofString "path", Str.ofString "words", Str.ofString "here", Str.ofString "binder", Str.ofString "word", Str.ofString "parts", Str.ofString "at"],
  [Str.ofString "work", Str.ofString "binders", Str.ofString "path", Str.ofString "here"],
  [Str.ofString "tree"],
  [Str.ofString "value"],
  [Str.ofString "tree"],
  [Str.ofString "tree"],
  [Str.ofString "tree", Str.ofString "at", Str.ofString "part"],
  [Str.ofString "tree", Str.ofString "name", Str.ofString "value", Str.ofString "parts", Str.ofString "found", Str.ofString "at", Str.ofString "part", Str.ofString "is_bound"],
  [Str.ofString "tree", Str.ofString "sign", Str.ofString "one", Str.ofString "two", Str.ofString "found"],
  [Str.ofString "tree", Str.ofString "one", Str.ofString "two"],
  [Str.ofString "value"],
  [Str.ofString "value"],
  [Str.ofString "value"],
  [Str.ofString "tree", Str.ofString "path", Str.ofString "here", Str.ofString "at"],
  [Str.ofString "store", Str.ofString "tree", Str.ofString "cells", Str.ofString "asked", Str.ofString "many", Str.ofString "path", Str.ofString "here", Str.ofString "word", Str.ofString "found"],
  [Str.ofString "store", Str.ofString "deed", Str.ofString "word", Str.ofString "tree", Str.ofString "end", Str.ofString "one", Str.ofString "amount"],
  [Str.ofString "store", Str.ofString "deeds", Str.ofString "deed", Str.ofString "found"],
  [Str.ofString "deed"],
  [Str.ofString "words", Str.ofString "most", Str.ofString "found", Str.ofString "word", Str.ofString "longer", Str.ofString "store", Str.ofString "amount"],
  [Str.ofString "value"],
  [Str.ofString "deed", Str.ofString "other_deed", Str.ofString "most", Str.ofString "words", Str.ofString "store"],
  [Str.ofString "text", Str.ofString "found", Str.ofString "here", Str.ofString "sign"],
  [Str.ofString "items", Str.ofString "line", Str.ofString "item"],
  [Str.ofString "text", Str.ofString "signs", Str.ofString "sign"],
  [Str.ofString "text", Str.ofString "figures"],
  [Str.ofString "item", Str.ofString "pieces", Str.ofString "marks", Str.ofString "piece"],
  [Str.ofString "text"],
  [Str.ofString "item"],
  [Str.ofString "item"],
  [Str.ofString "head", Str.ofString "item", Str.ofString "one", Str.ofString "inner"],
  [Str.ofString "item", Str.ofString "head", Str.ofString "one", Str.ofString "rows"],
  [Str.ofString "items", Str.ofString "now", Str.ofString "item"],
  [Str.ofString "text", Str.ofString "items", Str.ofString "tree"],
  [Str.ofString "_law_script", Str.ofString "_law_cell", Str.ofString "_law_great"],
  [Str.ofString "_law_cup_here", Str.ofString "_law_many", Str.ofString "_law_found", Str.ofString "_law_deep_here"],
  [Str.ofString "_law_cup_here", Str.ofString "_law_things"],
  [Str.ofString "_law_tree", Str.ofString "_law_form", Str.ofString "_law_row"],
  [Str.ofString "_law_tree", Str.ofString "_law_parts_here", Str.ofString "_law_row", Str.ofString "_law_form"],
  [Str.ofString "_law_tree", Str.ofString "_law_part"],
  [Str.ofString "_law_tree", Str.ofString "_law_part"],
  [Str.ofString "_law_tree"],
  [Str.ofString "_law_tree", Str.ofString "_law_bound", Str.ofString "_law_found", Str.ofString "_law_parts_here", Str.ofString "_law_at", Str.ofString "_law_part", Str.ofString "_law_inner"],
  [Str.ofString "_law_tree", Str.ofString "_law_name", Str.ofString "_law_value", Str.ofString "_law_parts_here", Str.ofString "_law_found", Str.ofString "_law_part"],
  [Str.ofString "_law_tree", Str.ofString "_law_waits", Str.ofString "_law_at", Str.ofString "_law_part"],
  [Str.ofString "_law_tree", Str.ofString "_law_path", Str.ofString "_law_at"],
  [Str.ofString "_law_tree", Str.ofString "_law_path", Str.ofString "_law_other", Str.ofString "_law_parts_here"],
  [Str.ofString "_law_sign", Str.ofString "_law_one", Str.ofString "_law_two"],
  [Str.ofString "_law_here", Str.ofString "_law_found"],
  [Str.ofString "_law_cells", Str.ofString "_law_tree", Str.ofString "_law_asked", Str.ofString "_law_many", Str.ofString "_law_path", Str.ofString "_law_here", Str.ofString "_law_later"],
  [Str.ofString "_law_cells", Str.ofString "_law_deed_here", Str.ofString "_law_end", Str.ofString "_law_found"],
  [Str.ofString "_law_cells", Str.ofString "_law_deeds", Str.ofString "_law_deed_here"],
  [Str.ofString "_law_cells"],
  [Str.ofString "_law_cup_here", Str.ofString "_law_words", Str.ofString "_law_names", Str.ofString "_law_deep_here", Str.ofString "_law_one", Str.ofString "_law_two", Str.ofString "_law_way", Str.ofString "_law_less", Str.ofString "_law_fresh", Str.ofString "_law_body"],
  [Str.ofString "_law_cup_here", Str.ofString "_law_words", Str.ofString "_law_deep_here"],
  [Str.ofString "_law_words", Str.ofString "_law_most", Str.ofString "_law_found", Str.ofString "_law_word", Str.ofString "_law_longer", Str.ofString "_law_store", Str.ofString "_law_amount"],
  [Str.ofString "_law_store", Str.ofString "_law_one", Str.ofString "_law_other"],
  [Str.ofString "_law_one", Str.ofString "_law_other", Str.ofString "_law_most", Str.ofString "_law_words", Str.ofString "_law_every", Str.ofString "_law_told_here", Str.ofString "_law_store"]]
def lawN : List Str := [Str.ofString "_law_script", Str.ofString "_law_cup_here", Str.ofString "_law_turn_here", Str.ofString "_law_words", Str.ofString "_law_one", Str.ofString "_law_other", Str.ofString "_law_x", Str.ofString "_law_y", Str.ofString "_law_z", Str.ofString "_law_twice", Str.ofString "_law_more", Str.ofString "_law_rare"]
def dfs : List Df := [⟨3, 3, b_is_whole⟩,
  ⟨3, 3, b_is_row_of⟩,
  ⟨1, 2, b_fits_word⟩,
  ⟨1, 5, b_fits_name⟩,
  ⟨3, 4, b_things_in⟩,
  ⟨2, 7, b_things_of⟩,
  ⟨1, 2, b_pieces_in⟩,
  ⟨1, 10, b_measured⟩,
  ⟨1, 2, b_parts_in⟩,
  ⟨2, 5, b_with_parts⟩,
  ⟨2, 3, b_led_to⟩,
  ⟨2, 4, b_line_to⟩,
  ⟨3, 7, b_rebuilt⟩,
  ⟨1, 7, b_paths_in⟩,
  ⟨1, 5, b_names_at⟩,
  ⟨1, 4, b_is_all_plain⟩,
  ⟨2, 2, b_binds_in⟩,
  ⟨3, 6, b_nearest⟩,
  ⟨3, 6, b_meant⟩,
  ⟨1, 8, b_outer_places⟩,
  ⟨1, 6, b_frees_in⟩,
  ⟨2, 8, b_words_from⟩,
  ⟨3, 8, b_renamed⟩,
  ⟨1, 4, b_plainly⟩,
  ⟨1, 1, b_shape_plain⟩,
  ⟨1, 1, b_need_bare⟩,
  ⟨1, 1, b_with_plain_names⟩,
  ⟨1, 1, b_is_done⟩,
  ⟨1, 3, b_first_undone⟩,
  ⟨3, 8, b_put_in⟩,
  ⟨1, 5, b_reckoned⟩,
  ⟨1, 3, b_done_here⟩,
  ⟨1, 1, b_fits_open⟩,
  ⟨1, 1, b_fits_cell_deed⟩,
  ⟨1, 1, b_need_deed⟩,
  ⟨1, 4, b_turn_of⟩,
  ⟨2, 9, b_worked_in⟩,
  ⟨2, 7, b_done_by⟩,
  ⟨2, 4, b_done_all⟩,
  ⟨1, 1, b_words_of_deed⟩,
  ⟨2, 7, b_stores_of⟩,
  ⟨1, 1, b_need_amount⟩,
  ⟨3, 5, b_unlike_store⟩,
  ⟨1, 4, b_items_of⟩,
  ⟨1, 3, b_nested⟩,
  ⟨2, 3, b_is_made_of⟩,
  ⟨1, 2, b_amount_by⟩,
  ⟨1, 4, b_name_by⟩,
  ⟨1, 1, b_word_by⟩,
  ⟨1, 1, b_binder_by⟩,
  ⟨1, 1, b_leaf_by⟩,
  ⟨2, 4, b_made_by_head⟩,
  ⟨1, 4, b_tree_by⟩,
  ⟨1, 3, b_need_shallow⟩,
  ⟨1, 3, b_read_tree⟩,
  ⟨1, 3, b_law_cup⟩,
  ⟨2, 4, b_law_roll⟩,
  ⟨2, 2, b_law_some⟩,
  ⟨1, 3, b_law_parts⟩,
  ⟨2, 4, b_law_with⟩,
  ⟨1, 2, b_law_size⟩,
  ⟨1, 2, b_law_deep⟩,
  ⟨1, 1, b_law_fits⟩,
  ⟨2, 7, b_law_frees⟩,
  ⟨3, 6, b_law_put⟩,
  ⟨1, 4, b_law_turn⟩,
  ⟨2, 3, b_law_there⟩,
  ⟨3, 4, b_law_rebuilt⟩,
  ⟨3, 3, b_law_reckoned⟩,
  ⟨1, 2, b_law_moved⟩,
  ⟨2, 7, b_law_worked_out⟩,
  ⟨2, 4, b_law_deed⟩,
  ⟨2, 3, b_law_train⟩,
  ⟨1, 1, b_law_told⟩,
  ⟨4, 10, b_law_drawn⟩,
  ⟨3, 3, b_law_open⟩,
  ⟨2, 7, b_law_stores⟩,
  ⟨3, 3, b_law_tells⟩,
  ⟨3, 7, b_law_right⟩]
def gnms : List Str := [Str.ofString "SIZE", Str.ofString "DEPTH", Str.ofString "GREATEST", Str.ofString "MARKS", Str.ofString "LETTERS", Str.ofString "TAKEN", Str.ofString "SIGNS", Str.ofString "FORMS", Str.ofString "WAITING", Str.ofString "CELLS", Str.ofString "STEPS", Str.ofString "AMOUNTS", Str.ofString "NUMBERS", Str.ofString "OPEN", Str.ofString "FIGURES", Str.ofString "HEADS"]
def gvals : List D := [.int 1000,
  .int 60,
  .int 1000000000000,
  .int 40,
  .str [97, 98, 99, 100, 101, 102, 103, 104, 105, 106, 107, 108, 109, 110, 111, 112, 113, 114, 115, 116, 117, 118, 119, 120, 121, 122],
  .wt [[103, 105, 118, 101, 110], [97, 112, 112, 108, 121], [104, 111, 108, 100], [116, 101, 115, 116], [109, 97, 107, 101, 114], [114, 111, 119], [109, 97, 107, 101], [97, 110, 121], [110, 97, 109, 101], [119, 111, 114, 100], [102, 105, 108, 108]],
  .wt [[43], [45], [42]],
  .wd 0,
  .wd 1,
  .int 4,
  .int 400,
  .int 3,
  .int 100,
  .int 200,
  .str [48, 49, 50, 51, 52, 53, 54, 55, 56, 57],
  .wd 2]
def tb_FORMS : List (Wd × Option W0) := [([97, 109, 111, 117, 110, 116], some (.wt [[97, 109, 111, 117, 110, 116]])),
  ([117, 115, 101], some (.wt [[110, 97, 109, 101]])),
  ([103, 105, 118, 101, 110], some (.wt [[98, 105, 110, 100, 101, 114], [116, 114, 101, 101]])),
  ([97, 112, 112, 108, 121], some (.wt [[116, 114, 101, 101], [116, 114, 101, 101]])),
  ([104, 111, 108, 100], some (.wt [[98, 105, 110, 100, 101, 114], [116, 114, 101, 101], [116, 114, 101, 101]])),
  ([114, 101, 99, 107, 111, 110], some (.wt [[115, 105, 103, 110], [116, 114, 101, 101], [116, 114, 101, 101]])),
  ([116, 101, 115, 116], some (.wt [[116, 114, 101, 101], [116, 114, 101, 101], [116, 114, 101, 101]])),
  ([109, 97, 107, 101, 114], some (.wt [[98, 105, 110, 100, 101, 114], [114, 111, 119, 115], [116, 114, 101, 101]])),
  ([109, 97, 107, 101], some (.wt [[110, 97, 109, 101], [116, 114, 101, 101, 115]])),
  ([102, 105, 108, 108], some (.wt [[104, 111, 108, 101]]))]
def tb_WAITING : List (Wd × Option W0) := [([97, 112, 112, 108, 121], some (.int 2)),
  ([114, 101, 99, 107, 111, 110], some (.int 2)),
  ([104, 111, 108, 100], some (.int 1)),
  ([116, 101, 115, 116], some (.int 1)),
  ([97, 109, 111, 117, 110, 116], none),
  ([117, 115, 101], none),
  ([103, 105, 118, 101, 110], none)]
def tb_HEADS : List (Wd × Option W0) := [([103, 105, 118, 101, 110], some (.int 3)),
  ([97, 112, 112, 108, 121], some (.int 3)),
  ([104, 111, 108, 100], some (.int 4)),
  ([116, 101, 115, 116], some (.int 4)),
  ([43], some (.int 3)),
  ([45], some (.int 3)),
  ([42], some (.int 3))]
def tbls : Nat → List (Wd × Option W0)
  | 0 => tb_FORMS
  | 1 => tb_WAITING
  | _ => tb_HEADS
def tab : Tab := ⟨79, fun f => (fnms[f]?).getD "", fun f => (fps[f]?).getD [], fun f => (fns'[f]?).getD [], fun f => (dfs[f]?).getD ⟨0, 0, .bad⟩, [Str.ofString "tree", Str.ofString "found", Str.ofString "line", Str.ofString "path", Str.ofString "here", Str.ofString "skipped", Str.ofString "at", Str.ofString "part"], 16, fun g => (gnms[g]?).getD "", fun g => (gvals[g]?).getD .non, tbls⟩
theorem df_is_whole : tab.df 0 = ⟨3, 3, b_is_whole⟩ := rfl
theorem df_is_row_of : tab.df 1 = ⟨3, 3, b_is_row_of⟩ := rfl
theorem df_fits_word : tab.df 2 = ⟨1, 2, b_fits_word⟩ := rfl
theorem df_fits_name : tab.df 3 = ⟨1, 5, b_fits_name⟩ := rfl
theorem df_things_in : tab.df 4 = ⟨3, 4, b_things_in⟩ := rfl
theorem df_things_of : tab.df 5 = ⟨2, 7, b_things_of⟩ := rfl
theorem df_pieces_in : tab.df 6 = ⟨1, 2, b_pieces_in⟩ := rfl
theorem df_measured : tab.df 7 = ⟨1, 10, b_measured⟩ := rfl
theorem df_parts_in : tab.df 8 = ⟨1, 2, b_parts_in⟩ := rfl
theorem df_with_parts : tab.df 9 = ⟨2, 5, b_with_parts⟩ := rfl
theorem df_led_to : tab.df 10 = ⟨2, 3, b_led_to⟩ := rfl
theorem df_line_to : tab.df 11 = ⟨2, 4, b_line_to⟩ := rfl
theorem df_rebuilt : tab.df 12 = ⟨3, 7, b_rebuilt⟩ := rfl
theorem df_paths_in : tab.df 13 = ⟨1, 7, b_paths_in⟩ := rfl
theorem df_names_at : tab.df 14 = ⟨1, 5, b_names_at⟩ := rfl
theorem df_is_all_plain : tab.df 15 = ⟨1, 4, b_is_all_plain⟩ := rfl
theorem df_binds_in : tab.df 16 = ⟨2, 2, b_binds_in⟩ := rfl
theorem df_nearest : tab.df 17 = ⟨3, 6, b_nearest⟩ := rfl
theorem df_meant : tab.df 18 = ⟨3, 6, b_meant⟩ := rfl
theorem df_outer_places : tab.df 19 = ⟨1, 8, b_outer_places⟩ := rfl
theorem df_frees_in : tab.df 20 = ⟨1, 6, b_frees_in⟩ := rfl
theorem df_words_from : tab.df 21 = ⟨2, 8, b_words_from⟩ := rfl
theorem df_renamed : tab.df 22 = ⟨3, 8, b_renamed⟩ := rfl
theorem df_plainly : tab.df 23 = ⟨1, 4, b_plainly⟩ := rfl
theorem df_shape_plain : tab.df 24 = ⟨1, 1, b_shape_plain⟩ := rfl
theorem df_need_bare : tab.df 25 = ⟨1, 1, b_need_bare⟩ := rfl
theorem df_with_plain_names : tab.df 26 = ⟨1, 1, b_with_plain_names⟩ := rfl
theorem df_is_done : tab.df 27 = ⟨1, 1, b_is_done⟩ := rfl
theorem df_first_undone : tab.df 28 = ⟨1, 3, b_first_undone⟩ := rfl
theorem df_put_in : tab.df 29 = ⟨3, 8, b_put_in⟩ := rfl
theorem df_reckoned : tab.df 30 = ⟨1, 5, b_reckoned⟩ := rfl
theorem df_done_here : tab.df 31 = ⟨1, 3, b_done_here⟩ := rfl
theorem df_fits_open : tab.df 32 = ⟨1, 1, b_fits_open⟩ := rfl
theorem df_fits_cell_deed : tab.df 33 = ⟨1, 1, b_fits_cell_deed⟩ := rfl
theorem df_need_deed : tab.df 34 = ⟨1, 1, b_need_deed⟩ := rfl
theorem df_turn_of : tab.df 35 = ⟨1, 4, b_turn_of⟩ := rfl
theorem df_worked_in : tab.df 36 = ⟨2, 9, b_worked_in⟩ := rfl
theorem df_done_by : tab.df 37 = ⟨2, 7, b_done_by⟩ := rfl
theorem df_done_all : tab.df 38 = ⟨2, 4, b_done_all⟩ := rfl
theorem df_words_of_deed : tab.df 39 = ⟨1, 1, b_words_of_deed⟩ := rfl
theorem df_stores_of : tab.df 40 = ⟨2, 7, b_stores_of⟩ := rfl
theorem df_need_amount : tab.df 41 = ⟨1, 1, b_need_amount⟩ := rfl
theorem df_unlike_store : tab.df 42 = ⟨3, 5, b_unlike_store⟩ := rfl
theorem df_items_of : tab.df 43 = ⟨1, 4, b_items_of⟩ := rfl
theorem df_nested : tab.df 44 = ⟨1, 3, b_nested⟩ := rfl
theorem df_is_made_of : tab.df 45 = ⟨2, 3, b_is_made_of⟩ := rfl
theorem df_amount_by : tab.df 46 = ⟨1, 2, b_amount_by⟩ := rfl
theorem df_name_by : tab.df 47 = ⟨1, 4, b_name_by⟩ := rfl
theorem df_word_by : tab.df 48 = ⟨1, 1, b_word_by⟩ := rfl
theorem df_binder_by : tab.df 49 = ⟨1, 1, b_binder_by⟩ := rfl
theorem df_leaf_by : tab.df 50 = ⟨1, 1, b_leaf_by⟩ := rfl
theorem df_made_by_head : tab.df 51 = ⟨2, 4, b_made_by_head⟩ := rfl
theorem df_tree_by : tab.df 52 = ⟨1, 4, b_tree_by⟩ := rfl
theorem df_need_shallow : tab.df 53 = ⟨1, 3, b_need_shallow⟩ := rfl
theorem df_read_tree : tab.df 54 = ⟨1, 3, b_read_tree⟩ := rfl
theorem df_law_cup : tab.df 55 = ⟨1, 3, b_law_cup⟩ := rfl
theorem df_law_roll : tab.df 56 = ⟨2, 4, b_law_roll⟩ := rfl
theorem df_law_some : tab.df 57 = ⟨2, 2, b_law_some⟩ := rfl
theorem df_law_parts : tab.df 58 = ⟨1, 3, b_law_parts⟩ := rfl
theorem df_law_with : tab.df 59 = ⟨2, 4, b_law_with⟩ := rfl
theorem df_law_size : tab.df 60 = ⟨1, 2, b_law_size⟩ := rfl
theorem df_law_deep : tab.df 61 = ⟨1, 2, b_law_deep⟩ := rfl
theorem df_law_fits : tab.df 62 = ⟨1, 1, b_law_fits⟩ := rfl
theorem df_law_frees : tab.df 63 = ⟨2, 7, b_law_frees⟩ := rfl
theorem df_law_put : tab.df 64 = ⟨3, 6, b_law_put⟩ := rfl
theorem df_law_turn : tab.df 65 = ⟨1, 4, b_law_turn⟩ := rfl
theorem df_law_there : tab.df 66 = ⟨2, 3, b_law_there⟩ := rfl
theorem df_law_rebuilt : tab.df 67 = ⟨3, 4, b_law_rebuilt⟩ := rfl
theorem df_law_reckoned : tab.df 68 = ⟨3, 3, b_law_reckoned⟩ := rfl
theorem df_law_moved : tab.df 69 = ⟨1, 2, b_law_moved⟩ := rfl
theorem df_law_worked_out : tab.df 70 = ⟨2, 7, b_law_worked_out⟩ := rfl
theorem df_law_deed : tab.df 71 = ⟨2, 4, b_law_deed⟩ := rfl
theorem df_law_train : tab.df 72 = ⟨2, 3, b_law_train⟩ := rfl
theorem df_law_told : tab.df 73 = ⟨1, 1, b_law_told⟩ := rfl
theorem df_law_drawn : tab.df 74 = ⟨4, 10, b_law_drawn⟩ := rfl
theorem df_law_open : tab.df 75 = ⟨3, 3, b_law_open⟩ := rfl
theorem df_law_stores : tab.df 76 = ⟨2, 7, b_law_stores⟩ := rfl
theorem df_law_tells : tab.df 77 = ⟨3, 3, b_law_tells⟩ := rfl
theorem df_law_right : tab.df 78 = ⟨3, 7, b_law_right⟩ := rfl
end N57
end
section
set_option maxRecDepth 100000
set_option maxHeartbeats 0
/-! The head: the top's run in the kernel, what it leaves. -/
namespace N57
open PySem PySem.Spec PyProof.Rows L2
abbrev theP : Program := PySem.Challenge.pw_namesapart_k57_whole_stores_that_tell_or
def topL : List Stmt := theP.main.body
def isDef (x : Str) : Stmt → Bool
  | .FunctionDef (name := n) .. => decide (n = x)
  | _ => false
def stOf (x : Str) : Stmt := (topL.find? (isDef x)).getD (.Pass ⟨0, 0, 0, 0⟩)
def dOf (x : Str) : He.DefD := ⟨(x, none), x, x, C8.fnArgs (stOf x), C8.fnBody (stOf x), C8.fnScope (stOf x), [], []⟩
def allN : List Str := Str.ofString "law" :: fnms
def bltN : List String := ["len", "abs", "int", "max", "sum", "all", "list", "tuple", "dict", "isinstance", "sorted", "set", "zip", "enumerate", "range", "bool", "str"]
def hFn : List He.DefD := allN.map dOf
def hFa : List He.Fa := allN.map He.Fa.glo ++ bltN.map fun x => He.Fa.free (Str.ofString x)
def wtB (K : PySem.W.Frag) (a : Addr) (l : List Wd) : Bool := match K.lookup a with
  | some ⟨.type c, _, .seq its _, _⟩ => decide (c = "tuple") && (decide (its.size ≤ sizeLine) && He.relAll (l.map fun x => V.str (toS x)) its.toList)
  | _ => false
def w0B (K : PySem.W.Frag) (a : Addr) (p : Wd × Option W0) : Bool := match p.2, PySem.W.nsIn K a (toS p.1) with
  | none, some none => true
  | some (.int i), some (some (.int j _)) => decide (j = i)
  | some (.wt l), some (some (.ref b)) => wtB K b l
  | _, _ => false
def gvB (K : PySem.W.Frag) (x : Str) : D → Bool
  | .int i => (match PySem.W.nsIn K mainGlobals x with
    | some (some (.int j _)) => decide (j = i)
    | _ => false)
  | .str w => (match PySem.W.nsIn K mainGlobals x with
    | some (some (.str y _)) => decide (y = toS w)
    | _ => false)
  | .wt l => (He.Fa.glo x).ok K && wtB K (He.ga K x) l
  | .wd n => (He.Fa.glo x).ok K && (tbls n).all (w0B K (He.ga K x))
  | _ => false
def hEx (K : PySem.W.Frag) : Bool := (gnms.zip gvals).all fun p => gvB K p.1 p.2
def keysD (l : List (Wd × Option W0)) : List Str := (l.filter fun p => p.2.isSome).map fun p => toS p.1
def hTs : List He.Tab := [(fun K => He.ga K (Str.ofString "FORMS"), keysD tb_FORMS), (fun K => He.ga K (Str.ofString "WAITING"), keysD tb_WAITING), (fun K => He.ga K (Str.ofString "HEADS"), keysD tb_HEADS)]
def hTf : List He.Defn := [(Str.ofString "outer_places", none)]
def loose0 : List Str := [Str.ofString "ApartError", Str.ofString "InvalidTree", Str.ofString "InvalidText", Str.ofString "InvalidNumber", Str.ofString "InvalidDeed", Str.ofString "TooMany", Str.ofString "SIZE", Str.ofString "DEPTH", Str.ofString "GREATEST", Str.ofString "MARKS", Str.ofString "LETTERS", Str.ofString "TAKEN", Str.ofString "SIGNS", Str.ofString "FORMS", Str.ofString "is_whole", Str.ofString "is_row_of", Str.ofString "fits_word", Str.ofString "fits_name", Str.ofString "fits_piece", Str.ofString "holes_of", Str.ofString "fits_pattern", Str.ofString "rows_in", Str.ofString "things_in", Str.ofString "things_of", Str.ofString "pieces_in", Str.ofString "measured", Str.ofString "parts_in", Str.ofString "with_parts", Str.ofString "led_to", Str.ofString "line_to", Str.ofString "rebuilt", Str.ofString "paths_in", Str.ofString "names_at", Str.ofString "is_all_plain", Str.ofString "binds_in"]
def loose1 : List Str := [Str.ofString "nearest", Str.ofString "meant", Str.ofString "outer_places", Str.ofString "frees_in", Str.ofString "words_from", Str.ofString "renamed", Str.ofString "plainly", Str.ofString "shape_plain", Str.ofString "need_bare", Str.ofString "with_plain_names", Str.ofString "WAITING", Str.ofString "is_done", Str.ofString "first_undone", Str.ofString "put_in", Str.ofString "reckoned", Str.ofString "done_here", Str.ofString "CELLS", Str.ofString "STEPS", Str.ofString "fits_open", Str.ofString "fits_cell_deed", Str.ofString "need_deed", Str.ofString "turn_of", Str.ofString "worked_in", Str.ofString "done_by", Str.ofString "done_all", Str.ofString "AMOUNTS", Str.ofString "NUMBERS", Str.ofString "words_of_deed", Str.ofString "stores_of", Str.ofString "need_amount", Str.ofString "unlike_store", Str.ofString "OPEN", Str.ofString "FIGURES", Str.ofString "HEADS", Str.ofString "items_of"]
def loose2 : List Str := [Str.ofString "nested", Str.ofString "is_made_of", Str.ofString "amount_by", Str.ofString "name_by", Str.ofString "word_by", Str.ofString "binder_by", Str.ofString "piece_by", Str.ofString "row_by", Str.ofString "leaf_by", Str.ofString "made_by_head", Str.ofString "tree_by", Str.ofString "need_shallow", Str.ofString "read_tree", Str.ofString "_law_cup", Str.ofString "_law_roll", Str.ofString "_law_some", Str.ofString "_law_parts", Str.ofString "_law_with", Str.ofString "_law_size", Str.ofString "_law_deep", Str.ofString "_law_fits", Str.ofString "_law_frees", Str.ofString "_law_put", Str.ofString "_law_turn", Str.ofString "_law_there", Str.ofString "_law_rebuilt", Str.ofString "_law_reckoned", Str.ofString "_law_moved", Str.ofString "_law_worked_out", Str.ofString "_law_deed", Str.ofString "_law_train", Str.ofString "_law_told", Str.ofString "_law_drawn", Str.ofString "_law_open", Str.ofString "_law_stores"]
def loose3 : List Str := [Str.ofString "_law_tells", Str.ofString "_law_right"]
def looseL : List Str := loose0 ++ loose1 ++ loose2 ++ loose3
abbrev hR : PySem.W.OpenRow := PySem.W.OpenLaw.row PySem.Challenge.rw_namesapart_k57_whole_stores_that_tell_or
abbrev hk : PySem.W.Hook := He.hookX 2 hFa hFn hTs hTf hEx
def hOb (s : PySem.W.SharedT) : He.AlX := He.obsX 2 hFa hFn hTs hTf hEx (HandSHeadRun.getT s)
theorem hOb_eq (s : PySem.W.SharedT) : hOb s = hk.obs s.abs := He.obsX_eq (HandSHeadRun.getT_eq s)

theorem hRunF (w : World) : HandSHeadRun.RunEq hR (PySem.W.view hR.prog [116]) hk hOb 20000 looseL (w.withFollow "special-get-raises" false) := by
  intro os
  kernel_rfl
theorem hRunT (w : World) : HandSHeadRun.RunEq hR (PySem.W.view hR.prog [116]) hk hOb 20000 looseL (w.withFollow "special-get-raises" true) := by
  intro os
  kernel_rfl
theorem hRun (w : World) : HandSHeadRun.RunEq hR (PySem.W.view hR.prog [116]) hk hOb 20000 looseL w :=
  PySem.W.byRow2 "special-get-raises" (P := fun w => HandSHeadRun.RunEq hR (PySem.W.view hR.prog [116]) hk hOb 20000 looseL w) hRunF hRunT w
end N57
end
section
set_option maxRecDepth 100000
set_option maxHeartbeats 4000000
/-! The head's end, early: what is left is the walk. -/
namespace N57
open PySem PySem.W PySem.Calls PyProof.Rows
theorem top_plain : (HandSHeadRun.topDef hR.prog 116).params.defaults = [] := by kernel_rfl
theorem top_name : (HandSHeadRun.topDef hR.prog 116).name = PySem.Str.ofString "law" := by kernel_rfl
theorem top_e : opening hR.prog = plainProg hR.prog.main.scope.names := by kernel_rfl
theorem top_f : ∀ s, fenceModules? hR.prog s = some s := fun s => by kernel_rfl
theorem top_def : defOf (view hR.prog [116]) hR.name = some (HandSHeadRun.topDef hR.prog 116, []) := by kernel_rfl
theorem top_p : hR.prog.theDef hR.name = some ((HandSHeadRun.topDef hR.prog 116).params, (HandSHeadRun.topDef hR.prog 116).body, (HandSHeadRun.topDef hR.prog 116).scope) := by kernel_rfl
theorem top_k : kwWritten? (HandSHeadRun.topDef hR.prog 116).params.kwonlyargs (HandSHeadRun.topDef hR.prog 116).params.kw_defaults = some [] := by kernel_rfl
theorem and_t {a b : Bool} (ha : a = true) (hb : b = true) : (a && b) = true := by rw [ha, hb]; rfl
theorem top_s1 : sreFenced hR.prog.main = true := by decide +kernel
theorem top_s2 : ((moduleNames hR.prog.main.body).isEmpty || lookedIntoSs (moduleNames hR.prog.main.body) hR.prog.main.body) = true := by decide +kernel
theorem top_s3 : namesResolve hR.prog = true := by decide +kernel
theorem top_s4 : (hR.prog.boundNames.all (fun n => !worldNames.contains n)) = true := by decide +kernel
theorem top_s5 : noRoadLSs { strict := !(importedModules hR.prog.main.body).all cThrough.contains, foot := none, bare := (["vars", "dir", "locals"] : List Str).filter (readsOut hR.prog hR.prog.main.body) } hR.prog.main.body = true := by decide +kernel
theorem top_s6 : (namesMeet hR.prog hR.prog.main.body fun _ n => attrL n) = true := by decide +kernel
theorem top_looks : looksOpen hR.prog = true := by
  unfold looksOpen
  exact and_t (and_t (and_t (and_t (and_t top_s1 top_s2) top_s3) top_s4) top_s5) top_s6
theorem top_part : hR.partSaid = true := by
  unfold OpenRow.partSaid
  rw [top_looks]
  decide +kernel
theorem top_said : hR.wellSaid = true := by
  unfold OpenRow.wellSaid
  rw [top_part]
  decide +kernel
theorem top_ok : (chainsOk (view hR.prog [116]) && opensWell hR.prog && (frees hR.toRowW && hR.within.isEmpty)) = true := by decide +kernel
theorem top_bare : hR.prog.bare := ⟨rfl, rfl, rfl, rfl, rfl, by decide +kernel⟩
theorem top_done (hc : WalkO (view (OpenLaw.row PySem.Challenge.rw_namesapart_k57_whole_stores_that_tell_or).prog [116]) N57.looseL (XL (view (OpenLaw.row PySem.Challenge.rw_namesapart_k57_whole_stores_that_tell_or).prog [116]) []) N57.hk.says (OpenLaw.row PySem.Challenge.rw_namesapart_k57_whole_stores_that_tell_or).toRowW (HandSHeadRun.topDef (OpenLaw.row PySem.Challenge.rw_namesapart_k57_whole_stores_that_tell_or).prog 116) [] fun f vs => PySem.call f vs) : PySem.Challenge.rw_namesapart_k57_whole_stores_that_tell_or.Holds := by
  w_on; o_law
  refine HandSHeadRun.head_any (r := OpenLaw.row PySem.Challenge.rw_namesapart_k57_whole_stores_that_tell_or) (q := view (OpenLaw.row PySem.Challenge.rw_namesapart_k57_whole_stores_that_tell_or).prog [116]) (H := N57.hk) (ob := N57.hOb) (M := 20000) (loose := N57.looseL) (d := HandSHeadRun.topDef (OpenLaw.row PySem.Challenge.rw_namesapart_k57_whole_stores_that_tell_or).prog 116) (kwd := []) N57.hOb_eq
    N57.top_e N57.top_f N57.hRun N57.top_def N57.top_p N57.top_k (by rfl) N57.top_said N57.top_ok N57.top_bare ?hw ?hc
  case hw => w_witness2
  case hc => exact hc
end N57
end
section
set_option maxRecDepth 100000
set_option maxHeartbeats 400000
/-! Sorting in plain Lean: what the insertion sort of the small language gives. -/
namespace N57
open SrtO

theorem ltW_iff : ∀ {a b : List Nat}, ltW a b = true ↔ a < b
  | [], [] => by simp [ltW]
  | [], _ :: _ => by simp [ltW]
  | _ :: _, [] => by simp [ltW]
  | a :: l, b :: m => by
    have ih := ltW_iff (a := l) (b := m)
    unfold ltW
    rw [List.cons_lt_cons_iff]
    by_cases h : a = b
    · subst h
      simp [ih]
    · have : Nat.beq a b = false := by
        cases hb : Nat.beq a b with
        | false => rfl
        | true => exact absurd (Nat.eq_of_beq_eq_true hb) h
      rw [this]
      simp [h, Nat.blt_eq]
theorem ltI_iff : ∀ {a b : List Int}, ltI a b = true ↔ a < b
  | [], [] => by simp [ltI]
  | [], _ :: _ => by simp [ltI]
  | _ :: _, [] => by simp [ltI]
  | a :: l, b :: m => by
    have ih := ltI_iff (a := l) (b := m)
    unfold ltI
    rw [List.cons_lt_cons_iff]
    by_cases h : a = b
    · subst h
      simp [ih]
    · simp [h]
theorem swo_of {α β : Type} {lt : β → β → Bool} (O : Swo lt) (f : α → β) : Swo fun x y => lt (f x) (f y) := ⟨fun x y h => O.asym _ _ h, fun x y z h1 h2 => O.tr _ _ _ h1 h2⟩
theorem ltW_swo : Swo ltW where
  asym x y h := by
    have h1 := ltW_iff.mp h
    cases hb : ltW y x with
    | false => rfl
    | true => exact absurd h1 (List.lt_asymm (ltW_iff.mp hb))
  tr x y z h1 h2 := by
    have n1 : ¬ y < x := fun h => by rw [ltW_iff.mpr h] at h1; cases h1
    have n2 : ¬ z < y := fun h => by rw [ltW_iff.mpr h] at h2; cases h2
    cases hb : ltW z x with
    | false => rfl
    | true =>
      exact absurd (ltW_iff.mp hb) (List.not_lt.mpr (List.le_trans (List.not_lt.mp n1) (List.not_lt.mp n2)))
theorem ltI_swo : Swo ltI where
  asym x y h := by
    have h1 := ltI_iff.mp h
    cases hb : ltI y x with
    | false => rfl
    | true => exact absurd h1 (List.lt_asymm (ltI_iff.mp hb))
  tr x y z h1 h2 := by
    have n1 : ¬ y < x := fun h => by rw [ltI_iff.mpr h] at h1; cases h1
    have n2 : ¬ z < y := fun h => by rw [ltI_iff.mpr h] at h2; cases h2
    cases hb : ltI z x with
    | false => rfl
    | true =>
      exact absurd (ltI_iff.mp hb) (List.not_lt.mpr (List.le_trans (List.not_lt.mp n1) (List.not_lt.mp n2)))
inductive Fa2 {α β : Type} (R : α → β → Prop) : List α → List β → Prop
  | nil : Fa2 R [] []
  | cons {a : α} {b : β} {as : List α} {bs : List β} : R a b → Fa2 R as bs → Fa2 R (a :: as) (b :: bs)
section
variable {α : Type} {lt : α → α → Bool}
theorem ins_perm (x : α) : ∀ l : List α, (insBy lt x l).Perm (x :: l)
  | [] => List.Perm.refl _
  | y :: l => by
    unfold insBy
    by_cases h : lt y x = true
    · rw [if_pos h]
      exact ((ins_perm x l).cons y).trans (List.Perm.swap x y l)
    · rw [if_neg h]
theorem sort_perm : ∀ l : List α, (sortBy lt l).Perm l
  | [] => List.Perm.refl _
  | x :: l => (ins_perm x _).trans ((sort_perm l).cons x)
theorem ins_srtd (O : Swo lt) (x : α) : ∀ l : List α, l.Pairwise (fun a b => lt b a = false) → (insBy lt x l).Pairwise (fun a b => lt b a = false)
  | [], _ => List.pairwise_singleton _ _
  | y :: l, h => by
    obtain ⟨h1, h2⟩ := List.pairwise_cons.mp h
    unfold insBy
    by_cases hb : lt y x = true
    · rw [if_pos hb]
      refine List.pairwise_cons.mpr ⟨fun z hz => ?_, ins_srtd O x l h2⟩
      rcases List.mem_cons.mp ((ins_perm x l).mem_iff.mp hz) with e | hz
      · rw [e]; exact O.asym _ _ hb
      · exact h1 z hz
    · rw [if_neg hb]
      have hb' : lt y x = false := by simpa using hb
      refine List.pairwise_cons.mpr ⟨fun z hz => ?_, h⟩
      rcases List.mem_cons.mp hz with e | hz
      · rw [e]; exact hb'
      · exact O.tr x y z hb' (h1 z hz)
theorem sort_srtd (O : Swo lt) : ∀ l : List α, (sortBy lt l).Pairwise (fun a b => lt b a = false)
  | [] => List.Pairwise.nil
  | x :: l => ins_srtd O x _ (sort_srtd O l)
/-- the elements of a class keep their order -/
theorem ins_cls (O : Swo lt) (x c : α) : ∀ l : List α, (insBy lt x l).filter (eqv lt c) = (x :: l).filter (eqv lt c)
  | [] => rfl
  | y :: l => by
    unfold insBy
    by_cases hb : lt y x = true
    · rw [if_pos hb, List.filter_cons, ins_cls O x c l, List.filter_cons, List.filter_cons, List.filter_cons]
      by_cases hy : eqv lt c y = true
      · by_cases hx : eqv lt c x = true
        · exfalso
          have h1 := eqv_iff.mp hy
          have h2 := eqv_iff.mp hx
          have := O.tr x c y h2.1 h1.2
          rw [hb] at this; cases this
        · simp [hx, hy]
      · simp [hy]
    · rw [if_neg hb]
theorem sort_cls (O : Swo lt) (c : α) : ∀ l : List α, (sortBy lt l).filter (eqv lt c) = l.filter (eqv lt c)
  | [] => rfl
  | x :: l => by
    show (insBy lt x (sortBy lt l)).filter _ = _
    rw [ins_cls O x c, List.filter_cons, List.filter_cons, sort_cls O c l]
/-- a sorted row with the classes' order of another is its sort -/
theorem sort_uniq (O : Swo lt) : ∀ (m l : List α), m.Pairwise (fun a b => lt b a = false) → l.Pairwise (fun a b => lt b a = false) → (∀ c, m.filter (eqv lt c) = l.filter (eqv lt c)) → m = l
  | [], [], _, _, _ => rfl
  | [], y :: l, _, _, h => by
    have := h y
    rw [List.filter_cons, if_pos (eqv_iff.mpr ⟨O.refl y, O.refl y⟩)] at this
    cases this
  | x :: m, [], _, _, h => by
    have := h x
    rw [List.filter_cons, if_pos (eqv_iff.mpr ⟨O.refl x, O.refl x⟩)] at this
    cases this
  | x :: m, y :: l, hm, hl, h => by
    obtain ⟨m1, m2⟩ := List.pairwise_cons.mp hm
    obtain ⟨l1, l2⟩ := List.pairwise_cons.mp hl
    have exx : eqv lt x x = true := eqv_iff.mpr ⟨O.refl x, O.refl x⟩
    have hx := h x
    rw [List.filter_cons, if_pos exx] at hx
    have xin : x ∈ (y :: l).filter (eqv lt x) := by rw [← hx]; exact List.mem_cons_self
    have eyy : eqv lt y y = true := eqv_iff.mpr ⟨O.refl y, O.refl y⟩
    have hy := h y
    have yin : y ∈ (x :: m).filter (eqv lt y) := by rw [hy, List.filter_cons, if_pos eyy]; exact List.mem_cons_self
    have a1 : lt x y = false := by
      rcases List.mem_cons.mp ((List.mem_filter.mp xin).1) with e | e
      · rw [e]; exact O.refl y
      · exact l1 x e
    have a2 : lt y x = false := by
      rcases List.mem_cons.mp ((List.mem_filter.mp yin).1) with e | e
      · rw [e]; exact O.refl x
      · exact m1 y e
    have exy : eqv lt x y = true := eqv_iff.mpr ⟨a1, a2⟩
    rw [List.filter_cons, if_pos exy] at hx
    obtain ⟨e1, _⟩ := List.cons.inj hx
    subst e1
    rw [sort_uniq O m l m2 l2 fun c => by
      have := h c
      rw [List.filter_cons, List.filter_cons] at this
      by_cases hc : eqv lt c x = true
      · rw [if_pos hc, if_pos hc] at this; exact (List.cons.inj this).2
      · rw [if_neg hc, if_neg hc] at this; exact this]
theorem sort_out (O : Swo lt) {out l : List α} (hs : out.Pairwise (fun a b => lt b a = false)) (hc : ∀ c, out.filter (eqv lt c) = l.filter (eqv lt c)) : out = sortBy lt l :=
  sort_uniq O _ _ hs (sort_srtd O l) fun c => (hc c).trans (sort_cls O c l).symm
/-- two rows, sorted alike -/
theorem ins_rel {β : Type} {lt' : β → β → Bool} {R : α → β → Prop} (h : ∀ a b a' b', R a b → R a' b' → lt a a' = lt' b b') {x : α} {x' : β} (hx : R x x') : ∀ {as : List α} {bs : List β}, Fa2 R as bs → Fa2 R (insBy lt x as) (insBy lt' x' bs)
  | _, _, .nil => .cons hx .nil
  | _, _, .cons (a := a) (b := b) r t => by
    unfold insBy
    rw [h _ _ _ _ r hx]
    by_cases hb : lt' b x' = true
    · rw [if_pos hb, if_pos hb]; exact .cons r (ins_rel h hx t)
    · rw [if_neg hb, if_neg hb]; exact .cons hx (.cons r t)
theorem sort_rel {β : Type} {lt' : β → β → Bool} {R : α → β → Prop} (h : ∀ a b a' b', R a b → R a' b' → lt a a' = lt' b b') : ∀ {as : List α} {bs : List β}, Fa2 R as bs → Fa2 R (sortBy lt as) (sortBy lt' bs)
  | _, _, .nil => .nil
  | _, _, .cons r t => ins_rel h r (sort_rel h t)
end
/-! rows without doubles -/
theorem nodup_len {α : Type} [BEq α] [LawfulBEq α] : ∀ (L d : List α), L.Nodup → (∀ x ∈ L, x ∈ d) → L.length ≤ d.length
  | [], _, _, _ => Nat.zero_le _
  | x :: L, d, hn, hs => by
    obtain ⟨h1, h2⟩ := List.nodup_cons.mp hn
    have p := List.perm_cons_erase (hs x List.mem_cons_self)
    have ih := nodup_len L (d.erase x) h2 fun y hy => (List.mem_erase_of_ne (fun e => h1 (by rw [← e]; exact hy))).mpr (hs y (List.mem_cons_of_mem _ hy))
    rw [p.length_eq, List.length_cons, List.length_cons]
    omega
theorem perm_of_sub {α : Type} [BEq α] [LawfulBEq α] : ∀ (L d : List α), L.Nodup → (∀ x ∈ L, x ∈ d) → d.length = L.length → d.Perm L
  | [], d, _, _, hl => by
    have : d = [] := List.eq_nil_of_length_eq_zero hl
    rw [this]
  | x :: L, d, hn, hs, hl => by
    obtain ⟨h1, h2⟩ := List.nodup_cons.mp hn
    have p := List.perm_cons_erase (hs x List.mem_cons_self)
    have hl2 := p.length_eq
    rw [List.length_cons] at hl2
    rw [List.length_cons] at hl
    exact p.trans ((perm_of_sub L (d.erase x) h2 (fun y hy => (List.mem_erase_of_ne (fun e => h1 (by rw [← e]; exact hy))).mpr (hs y (List.mem_cons_of_mem _ hy))) (by omega)).cons x)
theorem dedup_mem : ∀ {l : List Wd} {x : Wd}, x ∈ dedupW l ↔ x ∈ l
  | [], _ => Iff.rfl
  | y :: l, x => by
    unfold dedupW
    by_cases h : l.any (natsEq y) = true
    · rw [if_pos h, dedup_mem, List.mem_cons]
      refine ⟨.inr, fun z => z.elim (fun e => ?_) id⟩
      obtain ⟨z, hz, e2⟩ := List.any_eq_true.mp h
      rw [e, natsEq_iff.mp e2]; exact hz
    · rw [if_neg h, List.mem_cons, List.mem_cons, dedup_mem]
theorem dedup_nodup : ∀ l : List Wd, (dedupW l).Nodup
  | [] => List.nodup_nil
  | y :: l => by
    unfold dedupW
    by_cases h : l.any (natsEq y) = true
    · rw [if_pos h]; exact dedup_nodup l
    · rw [if_neg h]
      refine List.nodup_cons.mpr ⟨fun hm => h (List.any_eq_true.mpr ⟨y, dedup_mem.mp hm, natsEq_iff.mpr rfl⟩), dedup_nodup l⟩
end N57
end
section
set_option maxRecDepth 100000
set_option maxHeartbeats 2000000
namespace N57
open PySem PySem.Spec PyProof.Rows L2

/-! ### looks at the text -/
def dbgB (x : Str) : Bool := !(x == ("__debug__" : Str)) && !(x == ("__classdict__" : Str))
def visB (sc : Scope) (x : Str) : Bool := match sc.names.lookup x with
  | some .local => true | some .cell => true | some .free => true | _ => false
def locB (sc : Scope) (x : Str) : Bool := match sc.names.lookup x with
  | some .local => true | some .cell => true | _ => false
def glB (sc : Scope) (x : Str) : Bool := match sc.names.lookup x with
  | some .globalImplicit => true | _ => false
def lclB (sc : Scope) (x : Str) : Bool := match sc.names.lookup x with
  | some .local => true | _ => false
theorem visB_ok {sc : Scope} {x : Str} (h : visB sc x = true) : Vis sc x := by
  unfold visB at h
  split at h
  · exact .inl (by assumption)
  · exact .inr (.inl (by assumption))
  · exact .inr (.inr (by assumption))
  · cases h
theorem locB_ok {sc : Scope} {x : Str} (h : locB sc x = true) : Loc sc x := by
  unfold locB at h
  split at h
  · exact .inl (by assumption)
  · exact .inr (by assumption)
  · cases h
theorem glB_ok {sc : Scope} {x : Str} (h : glB sc x = true) : sc.names.lookup x = some .globalImplicit := by
  unfold glB at h
  split at h
  · assumption
  · cases h
theorem lclB_ok {sc : Scope} {x : Str} (h : lclB sc x = true) : sc.names.lookup x = some .local := by
  unfold lclB at h
  split at h
  · assumption
  · cases h
def notStar : Expr → Bool
  | .Starred .. => false | _ => true
def notSet : Expr → Bool
  | .Set .. => false | _ => true
def notSlice : Expr → Bool
  | .Slice .. => false | _ => true
def isTup : Expr → Bool
  | .Tuple .. => true | _ => false
theorem star_ok {e : Expr} {es : List Expr} {env : Env} (h : notStar e = true) : starEach (e :: es) env = (false, eval e env) :: starEach es env := by
  cases e <;> first | rfl | cases h
theorem stars_ok {pos : Pos} {env : Env} : ∀ {es : List Expr}, es.all notStar = true → (backTo pos (starEach es env)).any (·.1) = false := by
  intro es h
  have : ∀ es : List Expr, es.all notStar = true → (starEach es env).all (fun x => !x.1) = true := by
    intro es
    induction es with
    | nil => intro _; rfl
    | cons e es ih =>
      intro h
      rw [List.all_cons, Bool.and_eq_true] at h
      rw [star_ok h.1, List.all_cons, ih h.2]; rfl
  have h2 := this es h
  unfold backTo
  rw [List.any_eq_false]
  intro x hx
  rw [List.mem_map] at hx
  obtain ⟨y, hy, rfl⟩ := hx
  have := List.all_eq_true.mp h2 y hy
  simpa using this
theorem set_ok {e : Expr} {env : Env} (h : notSet e = true) (x : Value) : foldedSetIterable e env x = pure x := by
  cases e <;> first | rfl | cases h
theorem mark_ok {e : Expr} {o : CmpOp} (h : notSet e = true) : behindInMarks o e = false := by
  cases e <;> first | rfl | cases h
theorem marks_ok {a b : Expr} {o p : CmpOp} (h : notSet b = true) : lastMarks [o, p] [a, b] = false := by
  show behindInMarks p b = false
  exact mark_ok h
theorem ixs_ok {e : Expr} (h : notSlice e = true) : PlainIx e := by
  intro o i
  cases e <;> first | rfl | cases h
def conB : D → Const → Bool
  | .non, .none => true
  | .bl b, .bool c => b == c
  | .int i, .int j => decide (i = j)
  | .str w, .str x => natsEq x.cps.toList w
  | _, _ => false
theorem str_of {x : Str} {w : Wd} (h : natsEq x.cps.toList w = true) : x = toS w := by
  have := natsEq_iff.mp h
  subst this
  cases x
  simp [toS]
/-! what a comprehension's target owns -/
def ownOf : Tg → List Expr → List (Str × Nat)
  | .slot i, [.Name x _] => [(x, i)]
  | .tup ts, [.Tuple es _ _] => ownOf ts es
  | .cons a b, e :: es => ownOf a [e] ++ ownOf b es
  | _, _ => []
def oneT : Tg → Bool
  | .slot _ => true | .tup _ => true | _ => false
def tgL : Tg → Bool
  | .nil => true
  | .cons a b => oneT a && tgL b
  | _ => false
def chkT (N : List Str) (stb : Str → Bool) : Tg → List Expr → Bool
  | .slot i, [.Name x _] => decide (N[i]? = some x) && stb x
  | .tup ts, [.Tuple es _ _] => tgL ts && chkT N stb ts es
  | .nil, [] => true
  | .cons a b, e :: es => chkT N stb a [e] && chkT N stb b es
  | _, _ => false
theorem chkT_slot {N : List Str} {stb : Str → Bool} {i : Nat} {es : List Expr} (h : chkT N stb (.slot i) es = true) : ∃ x p, es = [.Name x p] ∧ N[i]? = some x ∧ stb x = true := by
  rcases es with _ | ⟨e, _ | ⟨e2, r⟩⟩
  · cases h
  · cases e <;> first | (cases h; done) | skip
    have h' := Bool.and_eq_true_iff.mp h
    exact ⟨_, _, rfl, of_decide_eq_true h'.1, h'.2⟩
  · cases e <;> cases h
theorem chkT_tup {N : List Str} {stb : Str → Bool} {ts : Tg} {es : List Expr} (h : chkT N stb (.tup ts) es = true) : ∃ l k p, es = [.Tuple l k p] ∧ tgL ts = true ∧ chkT N stb ts l = true := by
  rcases es with _ | ⟨e, _ | ⟨e2, r⟩⟩
  · cases h
  · cases e <;> first | (cases h; done) | skip
    have h' := Bool.and_eq_true_iff.mp h
    exact ⟨_, _, _, rfl, h'.1, h'.2⟩
  · cases e <;> cases h
theorem chkT_nil {N : List Str} {stb : Str → Bool} {es : List Expr} (h : chkT N stb .nil es = true) : es = [] := by
  cases es with
  | nil => rfl
  | cons _ _ => cases h
theorem chkT_cons {N : List Str} {stb : Str → Bool} {a b : Tg} {es : List Expr} (h : chkT N stb (.cons a b) es = true) : ∃ e r, es = e :: r ∧ chkT N stb a [e] = true ∧ chkT N stb b r = true := by
  cases es with
  | nil => cases h
  | cons e r =>
    have h' := Bool.and_eq_true_iff.mp h
    exact ⟨e, r, rfl, h'.1, h'.2⟩
theorem own_ok {N : List Str} {stb : Str → Bool} : ∀ (t : Tg) (es : List Expr), chkT N stb t es = true → (ownOf t es).map (·.2) = t.slots
  | .slot i, es, h => by
    obtain ⟨x, p, rfl, _⟩ := chkT_slot h
    rfl
  | .tup ts, es, h => by
    obtain ⟨l, k, p, rfl, _, h⟩ := chkT_tup h
    exact own_ok ts l h
  | .nil, es, h => by
    obtain rfl := chkT_nil h
    rfl
  | .cons a b, es, h => by
    obtain ⟨e, r, rfl, h1, h2⟩ := chkT_cons h
    show (ownOf a [e] ++ ownOf b r).map (·.2) = a.slots ++ b.slots
    rw [List.map_append, own_ok a [e] h1, own_ok b r h2]
theorem asg_lenT {N : List Str} {stb : Str → Bool} : ∀ (t : Tg) (es : List Expr), tgL t = true → chkT N stb t es = true → ∀ l ρ ρ', asgT t (.lst l) ρ = some ρ' → l.length = es.length
  | .nil, es, _, h, l, ρ, ρ', e => by
    obtain rfl := chkT_nil h
    cases l with
    | nil => rfl
    | cons _ _ => cases e
  | .cons a b, es, ht, h, l, ρ, ρ', e => by
    obtain ⟨x, r, rfl, h1, h2⟩ := chkT_cons h
    have ht' : tgL b = true := (Bool.and_eq_true_iff.mp ht).2
    cases l with
    | nil => cases e
    | cons d l =>
      simp only [asgT] at e
      rw [Option.bind_eq_some_iff] at e
      obtain ⟨ρ1, _, e⟩ := e
      rw [List.length_cons, List.length_cons, asg_lenT b r ht' h2 l ρ1 ρ' e]
  | .slot _, _, ht, _, _, _, _, _ => by cases ht
  | .tup _, _, ht, _, _, _, _, _ => by cases ht
theorem chkT_star {N : List Str} {stb : Str → Bool} : ∀ (t : Tg), tgL t = true → ∀ es : List Expr, chkT N stb t es = true → ∀ env : Env, (assignEach es env).length = es.length ∧ (assignEach es env).findIdx? (·.1) = none
  | .nil, _, es, h, env => by
    obtain rfl := chkT_nil h
    exact ⟨rfl, rfl⟩
  | .cons a b, ht, es, h, env => by
    obtain ⟨x, r, rfl, h1, h2⟩ := chkT_cons h
    have ht' := Bool.and_eq_true_iff.mp ht
    obtain ⟨q1, q2⟩ := chkT_star b ht'.2 r h2 env
    have hx : ∃ z, assignEach (x :: r) env = (false, z) :: assignEach r env := by
      cases a with
      | slot i => obtain ⟨y, p, e, _⟩ := chkT_slot h1; cases e; exact ⟨_, rfl⟩
      | tup ts => obtain ⟨y, k, p, e, _⟩ := chkT_tup h1; cases e; exact ⟨_, rfl⟩
      | nil => cases ht'.1
      | cons _ _ => cases ht'.1
    obtain ⟨z, hz⟩ := hx
    rw [hz]
    refine ⟨by simp [q1], ?_⟩
    rw [List.findIdx?_cons, q2]; rfl
  | .slot _, ht, _, _, _ => by cases ht
  | .tup _, ht, _, _, _ => by cases ht
/-! ### what a context has -/
/-- the code object of the def that makes a lambda, and its table -/
def LamAt (G : Gm) (X : Cx) : Prop := ∃ c P, LamX.TabB X.base X.mg c P ∧ X.env.code = .ref c ∧ (P, X.env.qual ++ "<lambda>") ∈ G.tabs ∧ ∀ p ∈ G.tabs, p.1 = P → p.2 = X.env.qual ++ "<lambda>"
structure XOk (T : Tab) (G : Gm) (k : Nat) (N : List Str) (X : Cx) (sc : Scope) (stb : Str → Bool) : Prop where
  hK : X.K = G.K
  hw : X.w = G.w
  hN : X.N = N
  nd : N.Nodup
  hsc : X.env.scope = sc
  fun_ : sc.kind = .function
  calm : X.calm = true
  nox : X.xe = fun _ _ => False
  stb : ∀ x, stb x = true → Loc sc x ∧ (X.fn x = true ∨ sc.names.lookup x = some .local)
  room : Room (k + 1) X.A
  tbl : G.tbl = T.tbl
  fns : ∀ f, f < T.nf → ∃ a fd, X.mg (T.fnm f) = some (.ref a) ∧ PySem.W.keepIn X.K (.ref a) = true ∧ L2.Binds X.K fd (T.ps f) [] ∧ FnOk X.prog X.w X.K X.mg X.base CX0 (k + 1) a fd (T.ps f) (spF T G k f)
  gls : ∀ g, g < T.ng → ∃ u v, X.mg (T.gnm g) = some u ∧ L2.RelV v u ∧ ∀ C H, Rep G C H v (T.gval g)
  lam : N = T.lamN → LamAt G X
  blt : ∀ n ∈ ["len", "abs", "int", "max", "sum", "all", "list", "tuple", "dict", "isinstance", "sorted", "set", "zip", "enumerate", "range", "bool", "str"], X.mg (Str.ofString n) = none
/-- what may be stored in a comprehension's block -/
def blkSt (scope : Scope) (x : Str) : Bool := match scope.names.lookup x with
  | some .local => true | some .cell => true | _ => false
theorem XOk.hu {T : Tab} {G : Gm} {k : Nat} {N : List Str} {X : Cx} {sc : Scope} {stb : Str → Bool} (x : XOk T G k N X sc stb) : X.A.units + 100 < cLine := by
  have := x.room.un
  omega
theorem XOk.blk {T : Tab} {G : Gm} {k : Nat} {N : List Str} {X : Cx} {sc : Scope} {stb : Str → Bool} (x : XOk T G k N X sc stb) {scope : Scope} (hk : scope.kind = .function) (s : Shared) (H : Hp) (C : Addr) (cl : List (Str × Addr)) (fp : List Addr) :
    XOk T G k N (X.blk s H scope (compEnvC scope cl C X.env) fp) (relS scope sc) (blkSt scope) where
  hK := x.hK
  hw := x.hw
  hN := x.hN
  nd := x.nd
  hsc := by
    show relabel scope X.env = relS scope sc
    rw [← x.hsc]
    rfl
  fun_ := hk
  calm := x.calm
  nox := rfl
  stb := fun y hy => by
    unfold blkSt at hy
    split at hy
    · rename_i h
      have := lookup_relS_keep (sc := sc) (k := NameKind.local) (by decide) h
      exact ⟨.inl this, .inr this⟩
    · rename_i h
      have := lookup_relS_keep (sc := sc) (k := NameKind.cell) (by decide) h
      refine ⟨.inr this, .inl ?_⟩
      show (scope.names.lookup y == some .cell) = true
      rw [h]; rfl
    · cases hy
  room := x.room
  tbl := x.tbl
  fns := x.fns
  gls := x.gls
  lam := x.lam
  blt := x.blt
section
variable {T : Tab} {G : Gm} {k : Nat} {N : List Str} {X : Cx} {sc : Scope} {stb : Str → Bool}
/-- targets -/
theorem t_ok (x : XOk T G k N X sc stb) : ∀ (t : Tg), (∀ e, oneT t = true → chkT N stb t [e] = true → PG X e (gT G t)) ∧ (tgL t = true → ∀ es, chkT N stb t es = true → PGs X es (gTs G t))
  | .slot i => ⟨fun e _ h => by
      obtain ⟨y, p, e1, h1, h2⟩ := chkT_slot h
      cases e1
      obtain ⟨l1, l2⟩ := x.stb y h2
      exact g_slot (by rw [x.hN]; exact x.nd) (by rw [x.hN]; exact h1) (by rw [x.hsc]; exact l1) (by rw [x.hsc]; exact l2), fun h => by cases h⟩
  | .tup ts => ⟨fun e _ h => by
      obtain ⟨l, k, p, e1, h1, h2⟩ := chkT_tup h
      cases e1
      obtain ⟨q1, q2⟩ := chkT_star ts h1 l h2 X.env
      exact g_tup x.hK x.calm ((t_ok x ts).2 h1 l h2) q1 q2 (asg_lenT ts l h1 h2), fun h => by cases h⟩
  | .nil => ⟨fun e h _ => (by cases h), fun _ es h => by
      rw [chkT_nil h]
      exact g_nil⟩
  | .cons a b => ⟨fun e h _ => (by cases h), fun ht es h => by
      obtain ⟨y, r, e0, h1, h2⟩ := chkT_cons h
      subst e0
      have ht' := Bool.and_eq_true_iff.mp ht
      have hx : (assignEach (y :: r) X.env).map (·.2) = assign y X.env :: (assignEach r X.env).map (·.2) := by
        cases a with
        | slot i => obtain ⟨z, p, e, _⟩ := chkT_slot h1; cases e; rfl
        | tup ts => obtain ⟨z, k, p, e, _⟩ := chkT_tup h1; cases e; rfl
        | nil => cases ht'.1
        | cons _ _ => cases ht'.1
      exact g_cons ((t_ok x a).1 y ht'.1 h1) ((t_ok x b).2 ht'.2 r h2) hx⟩
end
end N57
end
section
set_option maxRecDepth 100000
set_option maxHeartbeats 4000000
namespace N57
open PySem PySem.Spec PyProof.Rows L2

/-! ### expressions against their text -/
def isNilT : Tm → Bool
  | .nil => true | _ => false
def isL : Tm → Bool
  | .nil => true
  | .cons _ b => isL b
  | _ => false
def testy : Tm → Bool
  | .var _ => true | .glb _ => true | .isN _ => true | .notN _ => true | .cmp .. => true | .chain .. => true | .call .. => true | .pr p _ => p.callee.isSome || (match p with | .isi _ => true | _ => false)
  | .and a b => testy a && testy b
  | .or a b => testy a && testy b
  | .not a => testy a
  | _ => false
def plainT : Tm → Bool
  | .nil => false | .cons .. => false | _ => true
/-- what is walked: the written arguments -/
def itArgs (sc : Scope) : IK → Expr → Expr → Option (List Expr)
  | .lst, _, e => some [e]
  | .tup, _, e => some [e]
  | .str, _, e => some [e]
  | .enum, .Tuple .., .Call (.Name x _) [e] [] _ => if x == ("enumerate" : Str) && glB sc x && notStar e then some [e] else none
  | .zipT, .Tuple .., .Call (.Name x _) [a, b] [] _ => if x == ("zip" : Str) && glB sc x && notStar a && notStar b then some [a, b] else none
  | .rng, _, .Call (.Name x _) [e] [] _ => if x == ("range" : Str) && glB sc x && notStar e then some [e] else none
  | .rngD, _, .Call (.Name x _) [e, .UnaryOp .USub (.Constant (.int 1) _ _) _, .UnaryOp .USub (.Constant (.int 1) _ _) _] [] _ => if x == ("range" : Str) && glB sc x && notStar e then some [e] else none
  | _, _, _ => none
def calleeB (sc : Scope) (p : Pr) (x : Str) : Bool := match p.callee with
  | some (n, _) => decide (x = Str.ofString n) && glB sc x
  | none => false
def isNm : Expr → Bool
  | .Name .. => true | _ => false
/-- lambda pair: pair[0] -/
def lamB (la : Arguments) (lb : Expr) (ls : Scope) : Bool := match la, lb with
  | ⟨[], [⟨x, none, _⟩], none, [], [], none, []⟩, .Subscript (.Name y _) (.Constant (.int 0) _ _) _ => decide (x = y) && decide (x = ("pair" : Str)) && lclB ls x && (match ls.kind with | .function => true | _ => false) && !ls.isGenerator && !ls.isCoroutine && ls.names.all (fun y => match y.2 with | .cell => false | .free => false | _ => true)
  | _, _ => false
/-- keys of a written display -/
def keysB : List Wd → List (Option Expr) → Bool
  | [], [] => true
  | k :: ks, some (.Constant (.str x) _ _) :: es => natsEq x.cps.toList k && keysB ks es
  | _, _ => false
/-! the written arguments of a built-in's call -/
def aIsi (sc : Scope) (t : String) : Expr → List Expr → List Keyword → Option (List Expr)
  | .Name x _, [e, .Name y _], [] => if decide (x = ("isinstance" : Str)) && decide (y = Str.ofString t) && glB sc x && glB sc y && (t == "int" || t == "bool" || t == "str" || t == "tuple" || t == "dict") then some [e] else none
  | _, _, _ => none
def aZip (sc : Scope) : Expr → List Expr → List Keyword → Option (List Expr)
  | .Name x _, [.Call (.Name y _) [a, b] [] _], [] => if decide (x = ("dict" : Str)) && decide (y = ("zip" : Str)) && glB sc x && glB sc y then some [a, b] else none
  | _, _, _ => none
def aSet (sc : Scope) : Expr → List Expr → List Keyword → Option (List Expr)
  | .Name x _, [.Call (.Name y _) [a] [] _], [] => if decide (x = ("sorted" : Str)) && decide (y = ("set" : Str)) && glB sc x && glB sc y then some [a] else none
  | _, _, _ => none
def aOne (sc : Scope) (n : String) : Expr → List Expr → List Keyword → Option (List Expr)
  | .Name x _, [a], [] => if decide (x = Str.ofString n) && glB sc x then some [a] else none
  | _, _, _ => none
def aItems (sc : Scope) : Expr → List Expr → List Keyword → Option (List Expr)
  | .Name x _, [.Call (.Attribute o m ap) [] [] cp], [] => if decide (x = ("list" : Str)) && decide (m = ("items" : Str)) && glB sc x && isNm o && (ap.endLine == cp.line) then some [o] else none
  | _, _, _ => none
def aSplit (ps : Pos) : Expr → List Expr → List Keyword → Option (List Expr)
  | .Attribute o m ap, [.Constant (.str y) _ _], [] => if decide (m = ("split" : Str)) && decide (y = ("@" : Str)) && isNm o && (ap.endLine == ps.line) then some [o] else none
  | _, _, _ => none
def aGet (ps : Pos) : Expr → List Expr → List Keyword → Option (List Expr)
  | .Attribute o m ap, [e], [] => if decide (m = ("get" : Str)) && isNm o && (ap.endLine == ps.line) then some [o, e, .Constant .none 0 ps] else none
  | .Attribute o m ap, [e, d], [] => if decide (m = ("get" : Str)) && isNm o && (ap.endLine == ps.line) then some [o, e, d] else none
  | _, _, _ => none
def aKey (sc : Scope) : Expr → List Expr → List Keyword → Option (List Expr)
  | .Name x _, [e], [⟨some y, .Lambda la lb ls _, _⟩] => if decide (x = ("sorted" : Str)) && decide (y = ("key" : Str)) && glB sc x && lamB la lb ls then some [e] else none
  | _, _, _ => none
def aCal (sc : Scope) (p : Pr) : Expr → List Expr → List Keyword → Option (List Expr)
  | .Name x _, e :: es, [] => if calleeB sc p x then some (e :: es) else none
  | _, _, _ => none
def prArgs (sc : Scope) (p : Pr) (fn : Expr) (es : List Expr) (kws : List Keyword) (ps : Pos) : Option (List Expr) := match p with
  | .isi t => aIsi sc t fn es kws
  | .dictZ => aZip sc fn es kws
  | .sortS => aSet sc fn es kws
  | .sortP => aOne sc "sorted" fn es kws
  | .sortI => aOne sc "sorted" fn es kws
  | .dict => aOne sc "dict" fn es kws
  | .intT => aOne sc "int" fn es kws
  | .items => aItems sc fn es kws
  | .splitA => aSplit ps fn es kws
  | .get => aGet ps fn es kws
  | .sortK => aKey sc fn es kws
  | p => aCal sc p fn es kws
def lamOkB (T : Tab) (N : List Str) : Pr → Bool
  | .sortK => decide (N = T.lamN)
  | _ => true
def chk (T : Tab) (N : List Str) : Tm → Scope → List Expr → Bool
  | .var i, sc, [.Name x _] => decide (N[i]? = some x) && visB sc x && dbgB x
  | .con d, _, [.Constant c _ _] => conB d c
  | .glb g, sc, [.Name x _] => Nat.blt g T.ng && decide (T.gnm g = x) && glB sc x && dbgB x
  | .nil, _, [] => true
  | .cons a b, sc, e :: es => notStar e && (plainT a && chk T N a sc [e]) && chk T N b sc es
  | .tup as, sc, [.Tuple es _ _] => chk T N as sc es && Nat.ble es.length 1000 && isL as
  | .lst as, sc, [.List es _] => chk T N as sc es && Nat.ble es.length 1000 && isL as
  | .dic0, _, [.Dict [] [] _] => true
  | .dicS ks as, sc, [.Dict keys es _] => keysB ks keys && chk T N as sc es && isL as && nodupW ks && Nat.ble ks.length 15 && Nat.ble 1 ks.length && Nat.beq ks.length es.length
  | .op o a b, sc, [.BinOp l op r _] => decide (o.ast = op) && (plainT a && chk T N a sc [l]) && (plainT b && chk T N b sc [r])
  | .neg a, sc, [.UnaryOp .USub e _] => (plainT a && chk T N a sc [e])
  | .isN a, sc, [.Compare l [.Is] [.Constant .none _ _] _] => (plainT a && chk T N a sc [l])
  | .notN a, sc, [.Compare l [.IsNot] [.Constant .none _ _] _] => (plainT a && chk T N a sc [l])
  | .cmp o a b, sc, [.Compare l [op] [r] _] => decide (o.ast = op) && notSet r && (plainT a && chk T N a sc [l]) && (plainT b && chk T N b sc [r])
  | .chain o p a b c, sc, [.Compare l [op, oq] [m, r] _] => decide (o.ast = op) && decide (p.ast = oq) && notSet r && (plainT a && chk T N a sc [l]) && (plainT b && chk T N b sc [m]) && (plainT c && chk T N c sc [r])
  | .and a b, sc, [.BoolOp .And (l :: rest) p] => (plainT a && chk T N a sc [l]) && (match rest with
    | [] => false
    | [r] => (plainT b && chk T N b sc [r])
    | r :: r2 :: rs => (plainT b && chk T N b sc [.BoolOp .And (r :: r2 :: rs) p]))
  | .or a b, sc, [.BoolOp .Or (l :: rest) p] => (plainT a && chk T N a sc [l]) && (match rest with
    | [] => false
    | [r] => (plainT b && chk T N b sc [r])
    | r :: r2 :: rs => (plainT b && chk T N b sc [.BoolOp .Or (r :: r2 :: rs) p]))
  | .not a, sc, [.UnaryOp .Not e _] => (plainT a && chk T N a sc [e])
  | .ite c a b, sc, [.IfExp t l r _] => testy c && (plainT c && chk T N c sc [t]) && (plainT a && chk T N a sc [l]) && (plainT b && chk T N b sc [r])
  | .ix a b, sc, [.Subscript v s _] => notSlice s && (plainT a && chk T N a sc [v]) && (plainT b && chk T N b sc [s])
  | .sl a lo hi, sc, [.Subscript v (.Slice l h none _) _] => (plainT a && chk T N a sc [v]) && (match l with
    | none => isNilT lo
    | some e => (plainT lo && chk T N lo sc [e])) && (match h with
    | none => isNilT hi
    | some e => (plainT hi && chk T N hi sc [e]))
  | .call f as, sc, [.Call (.Name x _) (e :: es) [] _] => Nat.blt f T.nf && decide (T.fnm f = x) && glB sc x && dbgB x && chk T N as sc (e :: es) && isL as && (e :: es).all notStar && Nat.beq (es.length + 1) (T.ps f).length
  | .pr p as, sc, [.Call fn es kws ps] => (match prArgs sc p fn es kws ps with
    | some l => chk T N as sc l && isL as && l.all notStar
    | none => false) && lamOkB T N p
  | .comp tg k a b c e, sc, [.ListComp elt [⟨t, it, ifs, ia⟩] scope _] => decide (ia = 0) && oneT tg && blkC N sc scope (ownOf tg [t]) && chkT N (blkSt scope) tg [t] && notSet it && (match itArgs sc k t it with
      | some [x] => (plainT a && chk T N a sc [x]) && isNilT b
      | some [x, y] => (plainT a && chk T N a sc [x]) && (plainT b && chk T N b sc [y])
      | _ => false) && (match ifs with
      | [] => isNilT c
      | [f] => (plainT c && chk T N c (relS scope sc) [f]) && testy c
      | _ => false) && (plainT e && chk T N e (relS scope sc) [elt])
  | .cg a b, sc, [.Subscript v (.Constant (.int n) _ _) _] => decide (n = if b then 1 else 0) && (plainT a && chk T N a sc [v])
  | _, _, _ => false

theorem isL_len {T : Tab} {N : List Str} {E : Env0'} : ∀ (t : Tm) (sc : Scope) (es : List Expr), isL t = true → chk T N t sc es = true → (∀ ρ st d st', ev E t ρ st = some (d, st') → ∃ l, d = .lst l ∧ l.length = es.length)
  | .nil, sc, es, _, h => by
    cases es with
    | cons _ _ => cases h
    | nil =>
      intro ρ st d st' e
      obtain ⟨rfl, rfl⟩ := ret_some e
      exact ⟨[], rfl, rfl⟩
  | .cons a b, sc, es, ht, h => by
    cases es with
    | nil => cases h
    | cons x r =>
      have h' : (notStar x && (plainT a && chk T N a sc [x]) && chk T N b sc r) = true := h
      simp only [Bool.and_eq_true] at h'
      intro ρ st d st' e
      replace e := bnd_some e
      obtain ⟨y, s1, e1, e⟩ := e
      replace e := bnd_some e
      obtain ⟨z, s2, e2, e⟩ := e
      replace e := of_some e
      obtain ⟨e, rfl⟩ := e
      rw [Option.map_eq_some_iff] at e
      obtain ⟨l, e3, rfl⟩ := e
      obtain ⟨l', rfl, hl⟩ := isL_len b sc r ht h'.2 ρ _ _ _ e2
      cases e3
      exact ⟨_, rfl, by rw [List.length_cons, List.length_cons, hl]⟩
/-- what is still asked: the rules for sorting, sets, made dicts -/
structure Rk (G : Gm) : Prop where
  dict : ∀ {X : Cx} {e : Expr} {p pos : Pos} {m : Ev → M D}, X.K = G.K → X.w = G.w → X.calm = true → X.A.units + 100 < cLine → Gl X "dict" → X.mg "dict" = none → notStar e = true → PA X [e] (tA G m) →
    PE X (.Call (.Name "dict" p) [e] [] pos) (tE G fun ρ => M.bnd (m ρ) fun y => M.of ((unL y).bind fun l => prD G.tbl .dict l))
  dictZ : ∀ {X : Cx} {a b : Expr} {p p2 q pos : Pos} {m : Ev → M D}, X.K = G.K → X.w = G.w → X.calm = true → X.A.units + 100 < cLine → Gl X "dict" → X.mg "dict" = none → Gl X "zip" → X.mg "zip" = none → notStar a = true → notStar b = true → PA X [a, b] (tA G m) →
    PE X (.Call (.Name "dict" p) [.Call (.Name "zip" p2) [a, b] [] q] [] pos) (tE G fun ρ => M.bnd (m ρ) fun y => M.of ((unL y).bind fun l => prD G.tbl .dictZ l))
  sortS : ∀ {X : Cx} {a : Expr} {p p2 q pos : Pos} {m : Ev → M D}, X.K = G.K → X.w = G.w → X.calm = true → X.A.units + 100 < cLine → Gl X "sorted" → X.mg "sorted" = none → Gl X "set" → X.mg "set" = none → notStar a = true → PA X [a] (tA G m) →
    PE X (.Call (.Name "sorted" p) [.Call (.Name "set" p2) [a] [] q] [] pos) (tE G fun ρ => M.bnd (m ρ) fun y => M.of ((unL y).bind fun l => prD G.tbl .sortS l))
  sortP : ∀ {X : Cx} {a : Expr} {p pos : Pos} {m : Ev → M D}, X.K = G.K → X.w = G.w → X.calm = true → X.A.units + 100 < cLine → Gl X "sorted" → X.mg "sorted" = none → notStar a = true → PA X [a] (tA G m) →
    PE X (.Call (.Name "sorted" p) [a] [] pos) (tE G fun ρ => M.bnd (m ρ) fun y => M.of ((unL y).bind fun l => prD G.tbl .sortP l))
  sortI : ∀ {X : Cx} {a : Expr} {p pos : Pos} {m : Ev → M D}, X.K = G.K → X.w = G.w → X.calm = true → X.A.units + 100 < cLine → Gl X "sorted" → X.mg "sorted" = none → notStar a = true → PA X [a] (tA G m) →
    PE X (.Call (.Name "sorted" p) [a] [] pos) (tE G fun ρ => M.bnd (m ρ) fun y => M.of ((unL y).bind fun l => prD G.tbl .sortI l))
  intT : ∀ {X : Cx} {a : Expr} {p pos : Pos} {m : Ev → M D}, X.K = G.K → X.w = G.w → X.calm = true → X.A.units + 100 < cLine → Gl X "int" → X.mg "int" = none → notStar a = true → PA X [a] (tA G m) →
    PE X (.Call (.Name "int" p) [a] [] pos) (tE G fun ρ => M.bnd (m ρ) fun y => M.of ((unL y).bind fun l => prD G.tbl .intT l))
structure Rk2 (G : Gm) : Prop where
  items : ∀ {X : Cx} {e : Expr} {p ap cp pos : Pos} {m : Ev → M D}, X.K = G.K → X.calm = true → Gl X "list" → X.mg "list" = none → isNm e = true → (ap.endLine == cp.line) = true → PE X e (tE G m) →
    PE X (.Call (.Name "list" p) [.Call (.Attribute e "items" ap) [] [] cp] [] pos) (tE G fun ρ => M.bnd (m ρ) fun x => M.of (prD G.tbl .items [x]))
  splitA : ∀ {X : Cx} {e : Expr} {ap cp p : Pos} {j : Nat} {m : Ev → M D}, X.K = G.K → X.calm = true → isNm e = true → (ap.endLine == cp.line) = true → PE X e (tE G m) →
    PE X (.Call (.Attribute e "split" ap) [.Constant (.str "@") j p] [] cp) (tE G fun ρ => M.bnd (m ρ) fun x => M.of (prD G.tbl .splitA [x]))
  get1 : ∀ {X : Cx} {o e : Expr} {ap cp : Pos} {m m2 : Ev → M D}, X.K = G.K → X.w = G.w → X.A.units + 100 < cLine → isNm o = true → (ap.endLine == cp.line) = true → notStar e = true → PE X o (tE G m) → PE X e (tE G m2) →
    PE X (.Call (.Attribute o "get" ap) [e] [] cp) (tE G fun ρ => M.bnd (m ρ) fun x => M.bnd (m2 ρ) fun y => M.of (prD G.tbl .get [x, y, .non]))
  get2 : ∀ {X : Cx} {o e d : Expr} {ap cp : Pos} {m m2 m3 : Ev → M D}, X.K = G.K → X.w = G.w → X.A.units + 100 < cLine → isNm o = true → (ap.endLine == cp.line) = true → notStar e = true → notStar d = true → PE X o (tE G m) → PE X e (tE G m2) → PE X d (tE G m3) →
    PE X (.Call (.Attribute o "get" ap) [e, d] [] cp) (tE G fun ρ => M.bnd (m ρ) fun x => M.bnd (m2 ρ) fun y => M.bnd (m3 ρ) fun z => M.of (prD G.tbl .get [x, y, z]))
  sortK : ∀ {X : Cx} {e : Expr} {p kp lp pos : Pos} {la : Arguments} {lb : Expr} {ls : Scope} {m : Ev → M D}, X.K = G.K → X.w = G.w → X.calm = true → X.A.units + 100 < cLine → Room 1 X.A → LamAt G X → Gl X "sorted" → X.mg "sorted" = none → notStar e = true → lamB la lb ls = true → PE X e (tE G m) →
    PE X (.Call (.Name "sorted" p) [e] [⟨some "key", .Lambda la lb ls lp, kp⟩] pos) (tE G fun ρ => M.bnd (m ρ) fun x => M.of (prD G.tbl .sortK [x]))
theorem nme_ok : ∀ (p : Pr) {n : String} {b : Bk}, p.callee = some (n, b) → n ∈ ["len", "abs", "int", "max", "sum", "all", "list", "tuple", "dict", "isinstance", "sorted", "set", "zip", "enumerate", "range", "bool", "str"] ∧ bootBuiltins (Str.ofString n) = some b.val ∧ Str.ofString n ≠ "__name__" ∧ (Str.ofString n == ("__debug__" : Str)) = false := by
  intro p n b h
  cases p <;> first | (cases h; done) | (cases h; exact ⟨by decide, by decide +kernel, by decide +kernel, by decide +kernel⟩)
end N57
end
section
set_option maxRecDepth 100000
set_option maxHeartbeats 4000000
namespace N57
open PySem PySem.Spec PyProof.Rows L2

theorem one_of {es : List Expr} {f : List Expr → Bool} (h : f es = true) (h0 : f [] = false) (h2 : ∀ a b r, f (a :: b :: r) = false) : ∃ e, es = [e] := by
  rcases es with _ | ⟨e, _ | ⟨e2, r⟩⟩
  · rw [h0] at h; cases h
  · exact ⟨e, rfl⟩
  · rw [h2] at h; cases h
section
variable {T : Tab} {G : Gm} {k : Nat} {E : Env0'}
theorem ev_c1 {a : Tm} {ρ : Ev} : ev E (.cons a .nil) ρ = M.bnd (ev E a ρ) fun x => M.ret (.lst [x]) := by
  funext s
  simp only [ev, M.bnd, M.ret, M.of]
  cases ev E a ρ s <;> rfl
theorem ev_pr1 {a : Tm} {p : Pr} {ρ : Ev} : ev E (.pr p (.cons a .nil)) ρ = M.bnd (ev E a ρ) fun x => M.of (prD E.tbl p [x]) := by
  show M.bnd (ev E (.cons a .nil) ρ) (fun y => M.of ((unL y).bind fun l => prD E.tbl p l)) = _
  rw [ev_c1]
  funext s
  unfold M.bnd M.ret M.of
  cases ev E a ρ s <;> rfl
theorem ev_pr2n {a b : Tm} {p : Pr} {ρ : Ev} : ev E (.pr p (.cons a (.cons b (.cons (.con .non) .nil)))) ρ = M.bnd (ev E a ρ) fun x => M.bnd (ev E b ρ) fun y => M.of (prD E.tbl p [x, y, .non]) := by
  funext s
  simp only [ev, M.bnd, M.ret, M.of]
  cases ev E a ρ s with
  | none => rfl
  | some r =>
    obtain ⟨x, s1⟩ := r
    simp only
    cases ev E b ρ s1 <;> rfl
theorem ev_pr3 {a b c : Tm} {p : Pr} {ρ : Ev} : ev E (.pr p (.cons a (.cons b (.cons c .nil)))) ρ = M.bnd (ev E a ρ) fun x => M.bnd (ev E b ρ) fun y => M.bnd (ev E c ρ) fun z => M.of (prD E.tbl p [x, y, z]) := by
  funext s
  simp only [ev, M.bnd, M.ret, M.of]
  cases ev E a ρ s with
  | none => rfl
  | some r =>
    obtain ⟨x, s1⟩ := r
    simp only
    cases ev E b ρ s1 with
    | none => rfl
    | some r =>
      obtain ⟨y, s2⟩ := r
      simp only
      cases ev E c ρ s2 <;> rfl
end
section
variable {T : Tab} {G : Gm} {k : Nat}
/-- what is shown of an expression of the small language -/
theorem XOk.gl {N : List Str} {X : Cx} {sc : Scope} {stb : Str → Bool} (x : XOk T G k N X sc stb) {y : Str} (h : glB sc y = true) : Gl X y := by
  show X.env.scope.names.lookup y = _
  rw [x.hsc]; exact glB_ok h
structure Snd (T : Tab) (G : Gm) (k : Nat) (E : Env0') (t : Tm) : Prop where
  pe : ∀ {N : List Str} {X : Cx} {sc : Scope} {stb : Str → Bool}, XOk T G k N X sc stb → ∀ e, plainT t = true → chk T N t sc [e] = true → PE X e (tE G (ev E t))
  pt : ∀ {N : List Str} {X : Cx} {sc : Scope} {stb : Str → Bool}, XOk T G k N X sc stb → ∀ e, testy t = true → chk T N t sc [e] = true → PT X e (tB G (ev E t))
  pw : ∀ {N : List Str} {X : Cx} {sc : Scope} {stb : Str → Bool}, XOk T G k N X sc stb → ∀ o es p, testy t = true → chk T N t sc [.BoolOp o es p] = true → PW X (.BoolOp o es p) (tB G (ev E t))
  pa : ∀ {N : List Str} {X : Cx} {sc : Scope} {stb : Str → Bool}, XOk T G k N X sc stb → ∀ es, isL t = true → chk T N t sc es = true → PA X es (tA G (ev E t))
variable {E : Env0'} (hg : E.gl = T.gval) (ht : E.tbl = T.tbl) (hc : E.cl = run T k)
theorem val_ok {X : Cx} {e : Expr} {m : Ev → M D} (h : PE X e (tE G m)) (hv : ∀ whole, isTrue e X.env whole = (do let v ← whole; standAt e.pos; holding [v] (truthy v))) : PT X e (tB G m) := s_val h hv
theorem snd_var (i : Nat) : Snd T G k E (.var i) where
  pe x e _ h := by
    cases e <;> first | (cases h; done) | skip
    have h' := h
    simp only [chk, Bool.and_eq_true, decide_eq_true_eq] at h'
    obtain ⟨⟨h1, h2⟩, h3⟩ := h'
    unfold dbgB at h3
    simp only [Bool.and_eq_true, Bool.not_eq_true'] at h3
    exact s_var (by rw [x.hN]; exact h1) (by rw [x.hsc]; exact visB_ok h2) h3.1 h3.2
  pt x e _ h := by
    cases e <;> first | (cases h; done) | skip
    have h' := h
    simp only [chk, Bool.and_eq_true, decide_eq_true_eq] at h'
    obtain ⟨⟨h1, h2⟩, h3⟩ := h'
    unfold dbgB at h3
    simp only [Bool.and_eq_true, Bool.not_eq_true'] at h3
    exact s_val (s_var (by rw [x.hN]; exact h1) (by rw [x.hsc]; exact visB_ok h2) h3.1 h3.2) (fun _ => rfl)
  pw x o es p _ h := by cases h
  pa x es h _ := by cases h
theorem snd_con (d : D) : Snd T G k E (.con d) where
  pe x e _ h := by
    cases e <;> first | (cases h; done) | skip
    rename_i c j p
    have h' : conB d c = true := h
    cases d <;> cases c <;> first | (cases h'; done) | skip
    · exact s_const pe_non fun C H => .non
    · have := eq_of_beq (show (_ == _) = true from h'); subst this
      exact s_const pe_bl fun C H => .bl _
    · have := of_decide_eq_true h'; subst this
      exact s_const pe_int fun C H => .int _
    · have := str_of h'; subst this
      exact s_const pe_str fun C H => .str _
  pt x e h _ := by cases h
  pw x o es p h _ := by cases h
  pa x es h _ := by cases h
include hg in
theorem snd_glb (g : Nat) : Snd T G k E (.glb g) where
  pe {N X sc stb} x e _ h := by
    cases e <;> first | (cases h; done) | skip
    have h' := h
    simp only [chk, Bool.and_eq_true, decide_eq_true_eq] at h'
    obtain ⟨⟨⟨h1, h2⟩, h3⟩, h4⟩ := h'
    unfold dbgB at h4
    simp only [Bool.and_eq_true, Bool.not_eq_true'] at h4
    obtain ⟨u, v, e1, e2, e3⟩ := x.gls g (Nat.le_of_ble_eq_true h1)
    have hgl := x.gl h3
    show PE X _ (tE G fun _ => M.ret (E.gl g))
    rw [hg]
    exact s_const (pe_glob hgl (by rw [← h2]; exact e1) e2 h4.1) e3
  pt {N X sc stb} x e _ h := by
    cases e <;> first | (cases h; done) | skip
    have h' := h
    simp only [chk, Bool.and_eq_true, decide_eq_true_eq] at h'
    obtain ⟨⟨⟨h1, h2⟩, h3⟩, h4⟩ := h'
    unfold dbgB at h4
    simp only [Bool.and_eq_true, Bool.not_eq_true'] at h4
    obtain ⟨u, v, e1, e2, e3⟩ := x.gls g (Nat.le_of_ble_eq_true h1)
    have hgl := x.gl h3
    show PT X _ (tB G fun _ => M.ret (E.gl g))
    rw [hg]
    exact s_val (s_const (pe_glob hgl (by rw [← h2]; exact e1) e2 h4.1) e3) (fun _ => rfl)
  pw x o es p _ h := by cases h
  pa x es h _ := by cases h
theorem snd_nil : Snd T G k E .nil where
  pe x e h _ := by cases h
  pt x e h _ := by cases h
  pw x o es p h _ := by cases h
  pa x es _ h := by
    cases es with
    | nil => exact s_nil
    | cons _ _ => cases h
theorem snd_cons {a b : Tm} (ia : Snd T G k E a) (ib : Snd T G k E b) : Snd T G k E (.cons a b) where
  pe x e h _ := by cases h
  pt x e h _ := by cases h
  pw x o es p h _ := by cases h
  pa x es hl h := by
    cases es with
    | nil => cases h
    | cons e r =>
      have h' := h
      simp only [chk, Bool.and_eq_true] at h'
      obtain ⟨⟨h1, h4, h2⟩, h3⟩ := h'
      exact s_cons (ia.pe x e h4 h2) (ib.pa x r hl h3) (star_ok h1)
theorem snd_tup {a : Tm} (ia : Snd T G k E a) : Snd T G k E (.tup a) where
  pe {N X sc stb} x e _ h := by
    cases e <;> first | (cases h; done) | skip
    have h' := h
    simp only [chk, Bool.and_eq_true] at h'
    obtain ⟨⟨h1, h2⟩, h3⟩ := h'
    refine s_tup (ia.pa x _ h3 h1) (Nat.le_of_ble_eq_true h2) fun ρ st ds st' e1 => ?_
    obtain ⟨l, e2, e3⟩ := isL_len a sc _ h3 h1 ρ st _ st' e1
    cases e2; exact e3
  pt x e h _ := by cases h
  pw x o es p h _ := by cases h
  pa x es h _ := by cases h
theorem snd_lst {a : Tm} (ia : Snd T G k E a) : Snd T G k E (.lst a) where
  pe {N X sc stb} x e _ h := by
    cases e <;> first | (cases h; done) | skip
    have h' := h
    simp only [chk, Bool.and_eq_true] at h'
    obtain ⟨⟨h1, h2⟩, h3⟩ := h'
    refine s_lst (ma := ev E a) (ia.pa x _ h3 h1) (Nat.le_of_ble_eq_true h2) (fun ρ st ds st' e1 => ?_) fun ρ st d st' e1 => ?_
    · obtain ⟨l, e2, e3⟩ := isL_len a sc _ h3 h1 ρ st _ st' e1
      cases e2; exact e3
    · obtain ⟨l, e2, _⟩ := isL_len a sc _ h3 h1 ρ st _ st' e1
      exact ⟨l, e2⟩
  pt x e h _ := by cases h
  pw x o es p h _ := by cases h
  pa x es h _ := by cases h
theorem snd_dic0 : Snd T G k E .dic0 where
  pe x e _ h := by
    cases e <;> first | (cases h; done) | skip
    rename_i keys vals p
    cases keys <;> cases vals <;> first | (cases h; done) | skip
    exact s_dic0
  pt x e h _ := by cases h
  pw x o es p h _ := by cases h
  pa x es h _ := by cases h
theorem snd_op {o : O2} {a b : Tm} (ia : Snd T G k E a) (ib : Snd T G k E b) : Snd T G k E (.op o a b) where
  pe x e _ h := by
    cases e <;> first | (cases h; done) | skip
    have h' := h
    simp only [chk, Bool.and_eq_true, decide_eq_true_eq] at h'
    obtain ⟨⟨h1, p2, h2⟩, p3, h3⟩ := h'
    subst h1
    exact s_op x.hK (ia.pe x _ p2 h2) (ib.pe x _ p3 h3)
  pt x e h _ := by cases h
  pw x o es p h _ := by cases h
  pa x es h _ := by cases h
theorem snd_neg {a : Tm} (ia : Snd T G k E a) : Snd T G k E (.neg a) where
  pe x e _ h := by
    cases e <;> first | (cases h; done) | skip
    rename_i op e p
    cases op <;> first | (cases h; done) | skip
    have h' := h
    simp only [chk, Bool.and_eq_true] at h'
    exact s_neg (ia.pe x _ h'.1 h'.2)
  pt x e h _ := by cases h
  pw x o es p h _ := by cases h
  pa x es h _ := by cases h
/-- a comparison with one operator -/
theorem cmp_inv {t : Tm} {N : List Str} {sc : Scope} {e : Expr} (ht : (∃ a, t = .isN a) ∨ (∃ a, t = .notN a) ∨ ∃ o a b, t = .cmp o a b) (h : chk T N t sc [e] = true) : ∃ l op r p, e = .Compare l [op] [r] p := by
  rcases ht with ⟨a, rfl⟩ | ⟨a, rfl⟩ | ⟨o, a, b, rfl⟩
  all_goals
    cases e <;> first | (cases h; done) | skip
    rename_i l ops rs p
    rcases ops with _ | ⟨op, _ | ⟨op2, ops⟩⟩
    · cases h
    · rcases rs with _ | ⟨r, _ | ⟨r2, rs⟩⟩
      · cases op <;> cases h
      · exact ⟨l, op, r, p, rfl⟩
      · cases op <;> first | (cases h; done) | (cases r <;> first | (cases h; done) | (rename_i c _ _; cases c <;> cases h))
    · cases op <;> first | (cases h; done) | (rcases rs with _ | ⟨r, rs⟩ <;> cases h)
theorem isN_inv {a : Tm} {N : List Str} {sc : Scope} {e : Expr} (h : chk T N (.isN a) sc [e] = true) : ∃ l j q p, e = .Compare l [.Is] [.Constant .none j q] p ∧ plainT a = true ∧ chk T N a sc [l] = true := by
  obtain ⟨l, op, r, p, rfl⟩ := cmp_inv (.inl ⟨a, rfl⟩) h
  cases op <;> first | (cases h; done) | skip
  cases r <;> first | (cases h; done) | skip
  rename_i c j q
  cases c <;> first | (cases h; done) | skip
  have h' := h
  simp only [chk, Bool.and_eq_true] at h'
  exact ⟨l, j, q, p, rfl, h'.1, h'.2⟩
theorem notN_inv {a : Tm} {N : List Str} {sc : Scope} {e : Expr} (h : chk T N (.notN a) sc [e] = true) : ∃ l j q p, e = .Compare l [.IsNot] [.Constant .none j q] p ∧ plainT a = true ∧ chk T N a sc [l] = true := by
  obtain ⟨l, op, r, p, rfl⟩ := cmp_inv (.inr (.inl ⟨a, rfl⟩)) h
  cases op <;> first | (cases h; done) | skip
  cases r <;> first | (cases h; done) | skip
  rename_i c j q
  cases c <;> first | (cases h; done) | skip
  have h' := h
  simp only [chk, Bool.and_eq_true] at h'
  exact ⟨l, j, q, p, rfl, h'.1, h'.2⟩
theorem snd_isN {a : Tm} (ia : Snd T G k E a) : Snd T G k E (.isN a) where
  pe x e _ h := by
    obtain ⟨l, j, q, p, rfl, h1, h2⟩ := isN_inv h
    exact s_isN (ia.pe x _ h1 h2)
  pt x e _ h := by
    obtain ⟨l, j, q, p, rfl, h1, h2⟩ := isN_inv h
    exact s_isNt (ia.pe x _ h1 h2)
  pw x o es p _ h := by cases h
  pa x es h _ := by cases h
theorem snd_notN {a : Tm} (ia : Snd T G k E a) : Snd T G k E (.notN a) where
  pe x e _ h := by
    obtain ⟨l, j, q, p, rfl, h1, h2⟩ := notN_inv h
    exact s_notN (ia.pe x _ h1 h2)
  pt x e _ h := by
    obtain ⟨l, j, q, p, rfl, h1, h2⟩ := notN_inv h
    exact s_notNt (ia.pe x _ h1 h2)
  pw x o es p _ h := by cases h
  pa x es h _ := by cases h
include ht in
theorem snd_cmp {o : C2} {a b : Tm} (ia : Snd T G k E a) (ib : Snd T G k E b) : Snd T G k E (.cmp o a b) where
  pe x e _ h := by
    obtain ⟨l, op, r, p, rfl⟩ := cmp_inv (.inr (.inr ⟨o, a, b, rfl⟩)) h
    have h' := h
    simp only [chk, Bool.and_eq_true, decide_eq_true_eq] at h'
    obtain ⟨⟨⟨h1, h2⟩, p3, h3⟩, p4, h4⟩ := h'
    subst h1
    have q := s_cmp (o := o) (pos := p) x.hK x.hw x.hu (ia.pe x _ p3 h3) (ib.pe x _ p4 h4) (mark_ok h2)
    rw [x.tbl, ← ht] at q
    exact q
  pt x e _ h := by
    obtain ⟨l, op, r, p, rfl⟩ := cmp_inv (.inr (.inr ⟨o, a, b, rfl⟩)) h
    have h' := h
    simp only [chk, Bool.and_eq_true, decide_eq_true_eq] at h'
    obtain ⟨⟨⟨h1, h2⟩, p3, h3⟩, p4, h4⟩ := h'
    subst h1
    have q := s_cmpt (o := o) (pos := p) x.hK x.hw x.hu (ia.pe x _ p3 h3) (ib.pe x _ p4 h4) (mark_ok h2)
    rw [x.tbl, ← ht] at q
    exact q
  pw x o es p _ h := by cases h
  pa x es h _ := by cases h
theorem chain_inv {o q : C2} {a b c : Tm} {N : List Str} {sc : Scope} {e : Expr} (h : chk T N (.chain o q a b c) sc [e] = true) : ∃ l m r p, e = .Compare l [o.ast, q.ast] [m, r] p ∧ notSet r = true ∧ (plainT a = true ∧ chk T N a sc [l] = true) ∧ (plainT b = true ∧ chk T N b sc [m] = true) ∧ plainT c = true ∧ chk T N c sc [r] = true := by
  cases e <;> first | (cases h; done) | skip
  rename_i l ops rs p
  rcases ops with _ | ⟨op, _ | ⟨op2, _ | ⟨op3, ops⟩⟩⟩
  · cases h
  · cases h
  · rcases rs with _ | ⟨m, _ | ⟨r, _ | ⟨r2, rs⟩⟩⟩
    · cases h
    · cases h
    · have h' := h
      simp only [chk, Bool.and_eq_true, decide_eq_true_eq] at h'
      obtain ⟨⟨⟨⟨⟨h1, h2⟩, h3⟩, h4⟩, h5⟩, h6⟩ := h'
      subst h1 h2
      exact ⟨l, m, r, p, rfl, h3, h4, h5, h6⟩
    · cases h
  · cases h
include ht in
theorem snd_chain {o q : C2} {a b c : Tm} (ia : Snd T G k E a) (ib : Snd T G k E b) (ic : Snd T G k E c) : Snd T G k E (.chain o q a b c) where
  pe x e _ h := by
    obtain ⟨l, m, r, p, rfl, h1, h2, h3, h4⟩ := chain_inv h
    have z := s_chain (o := o) (p := q) (pos := p) x.hK x.hw x.hu (ia.pe x _ h2.1 h2.2) (ib.pe x _ h3.1 h3.2) (ic.pe x _ h4.1 h4.2) (marks_ok h1)
    unfold mCh at z
    rw [x.tbl, ← ht] at z
    exact z
  pt x e _ h := by
    obtain ⟨l, m, r, p, rfl, h1, h2, h3, h4⟩ := chain_inv h
    have z := s_chaint (o := o) (p := q) (pos := p) x.hK x.hw x.hu (ia.pe x _ h2.1 h2.2) (ib.pe x _ h3.1 h3.2) (ic.pe x _ h4.1 h4.2) (marks_ok h1)
    unfold mCh at z
    rw [x.tbl, ← ht] at z
    exact z
  pw x o es p _ h := by cases h
  pa x es h _ := by cases h
theorem and_inv {a b : Tm} {N : List Str} {sc : Scope} {e : Expr} (h : chk T N (.and a b) sc [e] = true) : ∃ l r rs p, e = .BoolOp .And (l :: r :: rs) p ∧ (plainT a = true ∧ chk T N a sc [l] = true) ∧ ((rs = [] ∧ plainT b = true ∧ chk T N b sc [r] = true) ∨ (plainT b = true ∧ chk T N b sc [.BoolOp .And (r :: rs) p] = true)) := by
  cases e <;> first | (cases h; done) | skip
  rename_i op es p
  cases op <;> first | (cases h; done) | skip
  rcases es with _ | ⟨l, _ | ⟨r, _ | ⟨r2, rs⟩⟩⟩
  · cases h
  · have h' := h
    simp only [chk, Bool.and_eq_true] at h'
    cases h'.2
  · have h' := h
    simp only [chk, Bool.and_eq_true] at h'
    exact ⟨l, r, [], p, rfl, h'.1, .inl ⟨rfl, h'.2⟩⟩
  · have h' := h
    simp only [chk, Bool.and_eq_true] at h'
    exact ⟨l, r, r2 :: rs, p, rfl, h'.1, .inr h'.2⟩
theorem or_inv {a b : Tm} {N : List Str} {sc : Scope} {e : Expr} (h : chk T N (.or a b) sc [e] = true) : ∃ l r rs p, e = .BoolOp .Or (l :: r :: rs) p ∧ (plainT a = true ∧ chk T N a sc [l] = true) ∧ ((rs = [] ∧ plainT b = true ∧ chk T N b sc [r] = true) ∨ (plainT b = true ∧ chk T N b sc [.BoolOp .Or (r :: rs) p] = true)) := by
  cases e <;> first | (cases h; done) | skip
  rename_i op es p
  cases op <;> first | (cases h; done) | skip
  rcases es with _ | ⟨l, _ | ⟨r, _ | ⟨r2, rs⟩⟩⟩
  · cases h
  · have h' := h
    simp only [chk, Bool.and_eq_true] at h'
    cases h'.2
  · have h' := h
    simp only [chk, Bool.and_eq_true] at h'
    exact ⟨l, r, [], p, rfl, h'.1, .inl ⟨rfl, h'.2⟩⟩
  · have h' := h
    simp only [chk, Bool.and_eq_true] at h'
    exact ⟨l, r, r2 :: rs, p, rfl, h'.1, .inr h'.2⟩
theorem snd_and {a b : Tm} (ia : Snd T G k E a) (ib : Snd T G k E b) : Snd T G k E (.and a b) := by
  have pw : ∀ {N : List Str} {X : Cx} {sc : Scope} {stb : Str → Bool}, XOk T G k N X sc stb → ∀ o es p, testy (.and a b) = true → chk T N (.and a b) sc [.BoolOp o es p] = true → PW X (.BoolOp o es p) (tB G (ev E (.and a b))) := by
    intro N X sc stb x o es p hy h
    obtain ⟨l, r, rs, p', e, h1, h2⟩ := and_inv h
    cases e
    have hy' := Bool.and_eq_true_iff.mp hy
    rcases h2 with ⟨rfl, h2⟩ | h2
    · exact s_andt (ia.pt x _ hy'.1 h1.2) (pw_and1 (ib.pt x _ hy'.2 h2.2))
    · exact s_andt (ia.pt x _ hy'.1 h1.2) (ib.pw x _ _ _ hy'.2 h2.2)
  refine ⟨fun x e _ h => ?_, fun x e hy h => ?_, pw, fun x es h _ => by cases h⟩
  · obtain ⟨l, r, rs, p', rfl, h1, h2⟩ := and_inv h
    rcases h2 with ⟨rfl, h2⟩ | h2
    · exact s_and (ia.pe x _ h1.1 h1.2) (pe_one (ib.pe x _ h2.1 h2.2))
    · exact s_and (ia.pe x _ h1.1 h1.2) (ib.pe x _ h2.1 h2.2)
  · obtain ⟨l, r, rs, p', rfl, h1, h2⟩ := and_inv h
    exact (pw x _ _ _ hy h).pt
theorem snd_or {a b : Tm} (ia : Snd T G k E a) (ib : Snd T G k E b) : Snd T G k E (.or a b) := by
  have pw : ∀ {N : List Str} {X : Cx} {sc : Scope} {stb : Str → Bool}, XOk T G k N X sc stb → ∀ o es p, testy (.or a b) = true → chk T N (.or a b) sc [.BoolOp o es p] = true → PW X (.BoolOp o es p) (tB G (ev E (.or a b))) := by
    intro N X sc stb x o es p hy h
    obtain ⟨l, r, rs, p', e, h1, h2⟩ := or_inv h
    cases e
    have hy' := Bool.and_eq_true_iff.mp hy
    rcases h2 with ⟨rfl, h2⟩ | h2
    · exact s_ort (ia.pt x _ hy'.1 h1.2) (pw_or1 (ib.pt x _ hy'.2 h2.2))
    · exact s_ort (ia.pt x _ hy'.1 h1.2) (ib.pw x _ _ _ hy'.2 h2.2)
  refine ⟨fun x e _ h => ?_, fun x e hy h => ?_, pw, fun x es h _ => by cases h⟩
  · obtain ⟨l, r, rs, p', rfl, h1, h2⟩ := or_inv h
    rcases h2 with ⟨rfl, h2⟩ | h2
    · exact s_or (ia.pe x _ h1.1 h1.2) (pe_one (ib.pe x _ h2.1 h2.2))
    · exact s_or (ia.pe x _ h1.1 h1.2) (ib.pe x _ h2.1 h2.2)
  · obtain ⟨l, r, rs, p', rfl, h1, h2⟩ := or_inv h
    exact (pw x _ _ _ hy h).pt
theorem snd_not {a : Tm} (ia : Snd T G k E a) : Snd T G k E (.not a) where
  pe x e _ h := by
    cases e <;> first | (cases h; done) | skip
    rename_i op e p
    cases op <;> first | (cases h; done) | skip
    have h' := h
    simp only [chk, Bool.and_eq_true] at h'
    exact s_not (ia.pe x _ h'.1 h'.2)
  pt x e hy h := by
    cases e <;> first | (cases h; done) | skip
    rename_i op e p
    cases op <;> first | (cases h; done) | skip
    have h' := h
    simp only [chk, Bool.and_eq_true] at h'
    exact s_nott (ia.pt x _ hy h'.2)
  pw x o es p _ h := by cases h
  pa x es h _ := by cases h
theorem snd_ite {a b c : Tm} (ic : Snd T G k E c) (ia : Snd T G k E a) (ib : Snd T G k E b) : Snd T G k E (.ite c a b) where
  pe x e _ h := by
    cases e <;> first | (cases h; done) | skip
    have h' := h
    simp only [chk, Bool.and_eq_true] at h'
    obtain ⟨⟨⟨h0, h1⟩, h2⟩, h3⟩ := h'
    exact s_ite (ic.pt x _ h0 h1.2) (ia.pe x _ h2.1 h2.2) (ib.pe x _ h3.1 h3.2)
  pt x e h _ := by cases h
  pw x o es p h _ := by cases h
  pa x es h _ := by cases h
include ht in
theorem snd_ix {a b : Tm} (ia : Snd T G k E a) (ib : Snd T G k E b) : Snd T G k E (.ix a b) where
  pe x e _ h := by
    cases e <;> first | (cases h; done) | skip
    have h' := h
    simp only [chk, Bool.and_eq_true] at h'
    rename_i v sx p
    obtain ⟨⟨h0, h1⟩, h2⟩ := h'
    have z := s_ix (G := G) (pos := p) (ma := ev E a) (mb := ev E b) x.hK x.hw x.hu (ia.pe x _ h1.1 h1.2) (ib.pe x _ h2.1 h2.2) (ixs_ok h0)
    rw [x.tbl, ← ht] at z
    exact z
  pt x e h _ := by cases h
  pw x o es p h _ := by cases h
  pa x es h _ := by cases h
theorem nil_of {t : Tm} (h : isNilT t = true) : t = .nil := by
  cases t <;> first | rfl | cases h
theorem not_nil {t : Tm} (h : plainT t = true) : t ≠ .nil := fun e => by subst e; cases h
theorem snd_sl {a lo hi : Tm} (ia : Snd T G k E a) (il : Snd T G k E lo) (ih : Snd T G k E hi) : Snd T G k E (.sl a lo hi) where
  pe {N X sc stb} x e _ h := by
    cases e <;> first | (cases h; done) | skip
    rename_i v s p
    cases s <;> first | (cases h; done) | skip
    rename_i l u stp q
    cases stp <;> first | (cases h; done) | skip
    have h' := h
    simp only [chk, Bool.and_eq_true] at h'
    obtain ⟨⟨h1, h2⟩, h3⟩ := h'
    have hlo : PO X l (tP G lo (ev E lo)) := by
      cases l with
      | none => obtain rfl := nil_of h2; exact s_noPart
      | some y =>
        have h2' := Bool.and_eq_true_iff.mp h2
        exact s_part (not_nil h2'.1) (il.pe x _ h2'.1 h2'.2)
    have hhi : PO X u (tP G hi (ev E hi)) := by
      cases u with
      | none => obtain rfl := nil_of h3; exact s_noPart
      | some y =>
        have h3' := Bool.and_eq_true_iff.mp h3
        exact s_part (not_nil h3'.1) (ih.pe x _ h3'.1 h3'.2)
    exact s_sl x.hK (ia.pe x _ h1.1 h1.2) hlo hhi
  pt x e h _ := by cases h
  pw x o es p h _ := by cases h
  pa x es h _ := by cases h
include hc in
theorem call_pe {f : Nat} {a : Tm} (ia : Snd T G k E a) {N : List Str} {X : Cx} {sc : Scope} {stb : Str → Bool} (x : XOk T G k N X sc stb) {e : Expr} (h : chk T N (.call f a) sc [e] = true) : PE X e (tE G (ev E (.call f a))) ∧ ∀ whole, isTrue e X.env whole = (do let v ← whole; standAt e.pos; holding [v] (truthy v)) := by
  cases e <;> first | (cases h; done) | skip
  rename_i fn es kws p
  cases fn <;> first | (cases h; done) | skip
  cases es <;> first | (cases h; done) | skip
  cases kws <;> first | (cases h; done) | skip
  have h' := h
  simp only [chk, Bool.and_eq_true, decide_eq_true_eq] at h'
  obtain ⟨⟨⟨⟨⟨⟨⟨h1, h2⟩, h3⟩, h4⟩, h5⟩, h6⟩, h7⟩, h8⟩ := h'
  obtain ⟨ad, fd, f1, f2, f3, f4⟩ := x.fns f (Nat.le_of_ble_eq_true h1)
  unfold dbgB at h4
  simp only [Bool.and_eq_true, Bool.not_eq_true'] at h4
  rw [List.all_cons, Bool.and_eq_true] at h7
  refine ⟨?_, fun _ => rfl⟩
  rename_i xn xp e1 es1
  have z := s_call (G := G) (ma := ev E a) (pos := p) (p := xp) f4 x.room (x.gl h3) (by rw [← h2]; exact f1) f2 f3 (ia.pa x _ h6 h5) h4.1 (star_ok h7.1) (stars_ok h7.2) (fun ρ st ds st' e1 => by
    obtain ⟨l, e2, e3⟩ := isL_len a sc _ h6 h5 ρ st _ st' e1
    cases e2
    rw [e3, List.length_cons]
    exact Nat.eq_of_beq_eq_true h8)
  show PE X _ (tE G fun ρ => M.bnd (ev E a ρ) fun y => M.bnd (M.of (unL y)) fun l => E.cl f l)
  rw [hc]
  exact z
include hc in
theorem snd_call {f : Nat} {a : Tm} (ia : Snd T G k E a) : Snd T G k E (.call f a) where
  pe x e _ h := (call_pe hc ia x h).1
  pt x e _ h := s_val (call_pe hc ia x h).1 (call_pe hc ia x h).2
  pw x o es p _ h := by cases h
  pa x es h _ := by cases h
theorem snd_cg {a : Tm} {b : Bool} (ia : Snd T G k E a) : Snd T G k E (.cg a b) where
  pe x e _ h := by
    cases e <;> first | (cases h; done) | skip
    rename_i v sx p
    cases sx <;> first | (cases h; done) | skip
    rename_i c j q
    cases c <;> first | (cases h; done) | skip
    rename_i n
    have h' := h
    simp only [chk, Bool.and_eq_true, decide_eq_true_eq] at h'
    obtain ⟨h1, h2, h3⟩ := h'
    refine (pe_ix ix_seq (ia.pe x _ h2 h3) pe_int (ixs_ok rfl)).imp fun σ H Q ⟨C, st, ρ, d, st', hl, rs, e, f⟩ => ?_
    replace e := bnd_some e
    obtain ⟨y, s1, e1, e⟩ := e
    cases y <;> first | (cases e; done) | skip
    refine ⟨C, st, ρ, _, s1, hl, rs, e1, fun w H1 x1 hl1 r1 => ?_⟩
    cases r1 with
    | cup hc =>
    obtain ⟨g1, g2, g3⟩ := hl1.cup _ hc
    cases b with
    | true =>
      have h1' : n = 1 := h1
      subst h1'
      cases e
      exact .inl ⟨_, _, _, V.int st'.2, rfl, rfl, SqL.of g2, rfl, f _ _ x1 hl1 (.int _)⟩
    | false =>
      have h1' : n = 0 := h1
      subst h1'
      cases e
      exact .inl ⟨_, _, _, V.int st'.1, rfl, rfl, SqL.of g2, rfl, f _ _ x1 hl1 (.int _)⟩
  pt x e h _ := by cases h
  pw x o es p h _ := by cases h
  pa x es h _ := by cases h
theorem snd_bad : Snd T G k E .bad where
  pe x e _ h := by cases h
  pt x e h _ := by cases h
  pw x o es p h _ := by cases h
  pa x es h _ := by cases h
end
end N57
end
section
set_option maxRecDepth 100000
set_option maxHeartbeats 8000000
namespace N57
open PySem PySem.Spec PyProof.Rows L2

section
variable {T : Tab} {G : Gm} {k : Nat} {E : Env0'}
def SubS (T : Tab) (G : Gm) (k : Nat) (E : Env0') : Tm → Prop
  | .cons a b => Snd T G k E a ∧ SubS T G k E b
  | _ => True
theorem calleeB_ok {sc : Scope} {p : Pr} {x : Str} {n : String} {bk : Bk} (hp : p.callee = some (n, bk)) (h : calleeB sc p x = true) : x = Str.ofString n ∧ glB sc x = true := by
  unfold calleeB at h
  rw [hp] at h
  simp only [Bool.and_eq_true, decide_eq_true_eq] at h
  exact h
theorem ifs_some {b : Bool} {α : Type} {l m : α} (h : (if b = true then some l else none) = some m) : b = true ∧ m = l := by
  cases b
  · cases h
  · cases h; exact ⟨rfl, rfl⟩
theorem args_cal {sc : Scope} {p : Pr} {fn : Expr} {es : List Expr} {kws : List Keyword} {l : List Expr} (h : aCal sc p fn es kws = some l) : ∃ x q e es2, fn = .Name x q ∧ es = e :: es2 ∧ kws = [] ∧ l = e :: es2 ∧ calleeB sc p x = true := by
  unfold aCal at h
  split at h
  · obtain ⟨h1, rfl⟩ := ifs_some h
    exact ⟨_, _, _, _, rfl, rfl, rfl, rfl, h1⟩
  · cases h
theorem args_isi {sc : Scope} {t : String} {fn : Expr} {es : List Expr} {kws : List Keyword} {l : List Expr} (h : aIsi sc t fn es kws = some l) : ∃ q e r, fn = .Name "isinstance" q ∧ es = [e, .Name (Str.ofString t) r] ∧ kws = [] ∧ l = [e] ∧ glB sc "isinstance" = true ∧ glB sc (Str.ofString t) = true ∧ (t == "int" || t == "bool" || t == "str" || t == "tuple" || t == "dict") = true := by
  unfold aIsi at h
  split at h
  · obtain ⟨h1, rfl⟩ := ifs_some h
    simp only [Bool.and_eq_true, decide_eq_true_eq] at h1
    obtain ⟨⟨⟨⟨rfl, rfl⟩, h3⟩, h4⟩, h5⟩ := h1
    exact ⟨_, _, _, rfl, rfl, rfl, rfl, h3, h4, h5⟩
  · cases h
theorem args_zip {sc : Scope} {fn : Expr} {es : List Expr} {kws : List Keyword} {l : List Expr} (h : aZip sc fn es kws = some l) : ∃ q a b r s, fn = .Name "dict" q ∧ es = [.Call (.Name "zip" r) [a, b] [] s] ∧ kws = [] ∧ l = [a, b] ∧ glB sc "dict" = true ∧ glB sc "zip" = true := by
  unfold aZip at h
  split at h
  · obtain ⟨h1, rfl⟩ := ifs_some h
    simp only [Bool.and_eq_true, decide_eq_true_eq] at h1
    obtain ⟨⟨⟨rfl, rfl⟩, h3⟩, h4⟩ := h1
    exact ⟨_, _, _, _, _, rfl, rfl, rfl, rfl, h3, h4⟩
  · cases h
theorem args_set {sc : Scope} {fn : Expr} {es : List Expr} {kws : List Keyword} {l : List Expr} (h : aSet sc fn es kws = some l) : ∃ q a r s, fn = .Name "sorted" q ∧ es = [.Call (.Name "set" r) [a] [] s] ∧ kws = [] ∧ l = [a] ∧ glB sc "sorted" = true ∧ glB sc "set" = true := by
  unfold aSet at h
  split at h
  · obtain ⟨h1, rfl⟩ := ifs_some h
    simp only [Bool.and_eq_true, decide_eq_true_eq] at h1
    obtain ⟨⟨⟨rfl, rfl⟩, h3⟩, h4⟩ := h1
    exact ⟨_, _, _, _, rfl, rfl, rfl, rfl, h3, h4⟩
  · cases h
theorem args_one {sc : Scope} {n : String} {fn : Expr} {es : List Expr} {kws : List Keyword} {l : List Expr} (h : aOne sc n fn es kws = some l) : ∃ q a, fn = .Name (Str.ofString n) q ∧ es = [a] ∧ kws = [] ∧ l = [a] ∧ glB sc (Str.ofString n) = true := by
  unfold aOne at h
  split at h
  · obtain ⟨h1, rfl⟩ := ifs_some h
    simp only [Bool.and_eq_true, decide_eq_true_eq] at h1
    obtain ⟨rfl, h3⟩ := h1
    exact ⟨_, _, rfl, rfl, rfl, rfl, h3⟩
  · cases h
theorem args_items {sc : Scope} {fn : Expr} {es : List Expr} {kws : List Keyword} {l : List Expr} (h : aItems sc fn es kws = some l) : ∃ q o ap cp, fn = .Name "list" q ∧ es = [.Call (.Attribute o "items" ap) [] [] cp] ∧ kws = [] ∧ l = [o] ∧ glB sc "list" = true ∧ isNm o = true ∧ (ap.endLine == cp.line) = true := by
  unfold aItems at h
  split at h
  · obtain ⟨h1, rfl⟩ := ifs_some h
    simp only [Bool.and_eq_true, decide_eq_true_eq] at h1
    obtain ⟨⟨⟨⟨rfl, rfl⟩, h3⟩, h4⟩, h5⟩ := h1
    exact ⟨_, _, _, _, rfl, rfl, rfl, rfl, h3, h4, h5⟩
  · cases h
theorem args_split {ps : Pos} {fn : Expr} {es : List Expr} {kws : List Keyword} {l : List Expr} (h : aSplit ps fn es kws = some l) : ∃ o ap j q, fn = .Attribute o "split" ap ∧ es = [.Constant (.str "@") j q] ∧ kws = [] ∧ l = [o] ∧ isNm o = true ∧ (ap.endLine == ps.line) = true := by
  unfold aSplit at h
  split at h
  · obtain ⟨h1, rfl⟩ := ifs_some h
    simp only [Bool.and_eq_true, decide_eq_true_eq] at h1
    obtain ⟨⟨⟨rfl, rfl⟩, h3⟩, h4⟩ := h1
    exact ⟨_, _, _, _, rfl, rfl, rfl, rfl, h3, h4⟩
  · cases h
theorem args_get {ps : Pos} {fn : Expr} {es : List Expr} {kws : List Keyword} {l : List Expr} (h : aGet ps fn es kws = some l) : ∃ o ap e, fn = .Attribute o "get" ap ∧ kws = [] ∧ isNm o = true ∧ (ap.endLine == ps.line) = true ∧ ((es = [e] ∧ l = [o, e, .Constant .none 0 ps]) ∨ ∃ d, es = [e, d] ∧ l = [o, e, d]) := by
  unfold aGet at h
  split at h
  · obtain ⟨h1, rfl⟩ := ifs_some h
    simp only [Bool.and_eq_true, decide_eq_true_eq] at h1
    obtain ⟨⟨rfl, h3⟩, h4⟩ := h1
    exact ⟨_, _, _, rfl, rfl, h3, h4, .inl ⟨rfl, rfl⟩⟩
  · obtain ⟨h1, rfl⟩ := ifs_some h
    simp only [Bool.and_eq_true, decide_eq_true_eq] at h1
    obtain ⟨⟨rfl, h3⟩, h4⟩ := h1
    exact ⟨_, _, _, rfl, rfl, h3, h4, .inr ⟨_, rfl, rfl⟩⟩
  · cases h
theorem args_key {sc : Scope} {fn : Expr} {es : List Expr} {kws : List Keyword} {l : List Expr} (h : aKey sc fn es kws = some l) : ∃ q e la lb ls lp kp, fn = .Name "sorted" q ∧ es = [e] ∧ kws = [⟨some "key", .Lambda la lb ls lp, kp⟩] ∧ l = [e] ∧ glB sc "sorted" = true ∧ lamB la lb ls = true := by
  unfold aKey at h
  split at h
  · obtain ⟨h1, rfl⟩ := ifs_some h
    simp only [Bool.and_eq_true, decide_eq_true_eq] at h1
    obtain ⟨⟨⟨rfl, rfl⟩, h3⟩, h4⟩ := h1
    exact ⟨_, _, _, _, _, _, _, rfl, rfl, rfl, rfl, h3, h4⟩
  · cases h
theorem all1 {e : Expr} (h : [e].all notStar = true) : notStar e = true := by simpa using h
/-- one, three arguments -/
theorem lst1 {as : Tm} {N : List Str} {sc : Scope} {e : Expr} (h : chk T N as sc [e] = true) (hl : isL as = true) : ∃ a, as = .cons a .nil ∧ plainT a = true ∧ chk T N a sc [e] = true := by
  cases as <;> first | (cases hl; done) | skip
  · cases h
  · rename_i a b
    have h' : (notStar e && (plainT a && chk T N a sc [e]) && chk T N b sc []) = true := h
    simp only [Bool.and_eq_true] at h'
    cases b <;> first | (cases hl; done) | (cases h'.2; done) | skip
    exact ⟨a, rfl, h'.1.2.1, h'.1.2.2⟩
theorem lst3 {as : Tm} {N : List Str} {sc : Scope} {e f g : Expr} (h : chk T N as sc [e, f, g] = true) (hl : isL as = true) : ∃ a b c, as = .cons a (.cons b (.cons c .nil)) ∧ (plainT a = true ∧ chk T N a sc [e] = true) ∧ (plainT b = true ∧ chk T N b sc [f] = true) ∧ plainT c = true ∧ chk T N c sc [g] = true := by
  cases as <;> first | (cases hl; done) | skip
  · cases h
  · rename_i a r
    have h' : (notStar e && (plainT a && chk T N a sc [e]) && chk T N r sc [f, g]) = true := h
    simp only [Bool.and_eq_true] at h'
    cases r <;> first | (cases hl; done) | (cases h'.2; done) | skip
    rename_i b r
    have h2 := h'.2
    have h2' : (notStar f && (plainT b && chk T N b sc [f]) && chk T N r sc [g]) = true := h2
    simp only [Bool.and_eq_true] at h2'
    obtain ⟨c, rfl, h3⟩ := lst1 (T := T) (as := r) h2'.2 hl
    exact ⟨a, b, c, rfl, h'.1.2, h2'.1.2, h3⟩
variable (ht : E.tbl = T.tbl)
include ht in
theorem pr_isi {t : String} {as : Tm} (sub : SubS T G k E as) {N : List Str} {X : Cx} {sc : Scope} {stb : Str → Bool} (x : XOk T G k N X sc stb) {fn : Expr} {es l : List Expr} {kws : List Keyword} {ps : Pos} (ha : aIsi sc t fn es kws = some l) (h : chk T N as sc l = true) (hl : isL as = true) (hs : l.all notStar = true) :
    PE X (.Call fn es kws ps) (tE G (ev E (.pr (.isi t) as))) := by
  obtain ⟨fp, e, yp, rfl, rfl, rfl, rfl, h3, h4, h7⟩ := args_isi ha
  obtain ⟨a, rfl, h5, h6⟩ := lst1 h hl
  have h5' := all1 hs
  have bt : bootBuiltins (Str.ofString t) = some (.type t) ∧ Str.ofString t ≠ "__name__" ∧ (Str.ofString t == ("__debug__" : Str)) = false ∧ X.mg (Str.ofString t) = none := by
    simp only [Bool.or_eq_true, beq_iff_eq] at h7
    rcases h7 with (((rfl | rfl) | rfl) | rfl) | rfl <;> exact ⟨by decide +kernel, by decide +kernel, by decide +kernel, x.blt _ (by decide)⟩
  have ty : PE X (.Name (Str.ofString t) yp) (tC (.ty t)) := pe_bltn (x.gl h4) bt.2.2.2 bt.1 rfl bt.2.1 bt.2.2.1
  have ae := sub.1.pe x e h5 h6
  have pa := pa_cons ae (pa_cons ty pa_nil rfl) (star_ok h5')
  have z := pe_callB (pos := ps) (p := fp) call_isi (x.gl h3) (x.blt "isinstance" (by decide)) (by decide +kernel) pa (by decide +kernel) (by decide +kernel) (star_ok h5') (by rfl)
  refine z.imp fun σ H Q ⟨C, st, ρ, d, st', hl, rs, e1, f1⟩ => ?_
  rw [ev_pr1] at e1
  replace e1 := bnd_some e1
  obtain ⟨v, s1, e2, e3⟩ := e1
  replace e3 := of_some e3
  obtain ⟨e3, rfl⟩ := e3
  rw [ht, ← x.tbl] at e3
  refine ⟨C, st, ρ, v, _, hl, rs, e2, fun vv H1 x1 h1 r1 => ?_⟩
  show rIsi X.K [vv, .ty t] H1 Q
  rw [x.hK]
  exact isi_ok h1 r1 e3 (f1.ext x1)
include ht in
theorem pr_cal {p : Pr} {n : String} {bk : Bk} (hp : p.callee = some (n, bk)) {as : Tm} (ia : Snd T G k E as) {N : List Str} {X : Cx} {sc : Scope} {stb : Str → Bool} (x : XOk T G k N X sc stb) {fn : Expr} {es l : List Expr} {kws : List Keyword} {ps : Pos} (ha : aCal sc p fn es kws = some l) (h : chk T N as sc l = true) (hl : isL as = true) (hs : l.all notStar = true) :
    PE X (.Call fn es kws ps) (tE G (ev E (.pr p as))) := by
  obtain ⟨y, q, e, es2, rfl, rfl, rfl, rfl, h1⟩ := args_cal ha
  obtain ⟨rfl, h6⟩ := calleeB_ok hp h1
  obtain ⟨m1, m2, m3, m4⟩ := nme_ok p hp
  rw [List.all_cons, Bool.and_eq_true] at hs
  have z := s_pr (G := G) (ma := ev E as) (pos := ps) (q := q) x.hK x.calm hp (x.gl h6) (x.blt n m1) m2 m3 m4 (ia.pa x _ hl h) (star_ok hs.1) (stars_ok hs.2)
  rw [x.tbl, ← ht] at z
  exact z
variable (rk : Rk G) (rk2 : Rk2 G)
include ht rk rk2 in
theorem pr_pe {p : Pr} {as : Tm} (ia : Snd T G k E as) (sub : SubS T G k E as) {N : List Str} {X : Cx} {sc : Scope} {stb : Str → Bool} (x : XOk T G k N X sc stb) {e : Expr} (h0 : chk T N (.pr p as) sc [e] = true) :
    PE X e (tE G (ev E (.pr p as))) ∧ ∀ whole, isTrue e X.env whole = (do let v ← whole; standAt e.pos; holding [v] (truthy v)) := by
  cases e <;> first | (cases h0; done) | skip
  rename_i fn es kws ps
  refine ⟨?_, fun _ => rfl⟩
  have h00 : ((match prArgs sc p fn es kws ps with
    | some l => chk T N as sc l && isL as && l.all notStar
    | none => false) && lamOkB T N p) = true := h0
  obtain ⟨h1, hlam⟩ := Bool.and_eq_true_iff.mp h00
  cases ha : prArgs sc p fn es kws ps with
  | none => rw [ha] at h1; cases h1
  | some l =>
    rw [ha] at h1
    simp only [Bool.and_eq_true] at h1
    obtain ⟨⟨h, hl⟩, hs⟩ := h1
    have e0 : ev E (.pr p as) = fun ρ => M.bnd (ev E as ρ) fun y => M.of ((unL y).bind fun l => prD G.tbl p l) := by
      rw [x.tbl, ← ht]; rfl
    cases p with
    | len => exact pr_cal ht (p := .len) rfl ia x ha h hl hs
    | abs => exact pr_cal ht (p := .abs) rfl ia x ha h hl hs
    | int => exact pr_cal ht (p := .int) rfl ia x ha h hl hs
    | max2 => exact pr_cal ht (p := .max2) rfl ia x ha h hl hs
    | maxL => exact pr_cal ht (p := .maxL) rfl ia x ha h hl hs
    | sum => exact pr_cal ht (p := .sum) rfl ia x ha h hl hs
    | all => exact pr_cal ht (p := .all) rfl ia x ha h hl hs
    | list => exact pr_cal ht (p := .list) rfl ia x ha h hl hs
    | tuple => exact pr_cal ht (p := .tuple) rfl ia x ha h hl hs
    | isi t => exact pr_isi ht sub x ha h hl hs
    | dict =>
      obtain ⟨q, a, rfl, rfl, rfl, rfl, g1⟩ := args_one (n := "dict") ha
      rw [e0]
      exact rk.dict x.hK x.hw x.calm x.hu (x.gl g1) (x.blt "dict" (by decide)) (all1 hs) (ia.pa x _ hl h)
    | dictZ =>
      obtain ⟨q, a, b, r, s, rfl, rfl, rfl, rfl, g1, g2⟩ := args_zip ha
      rw [e0]
      simp only [List.all_cons, Bool.and_eq_true] at hs
      exact rk.dictZ x.hK x.hw x.calm x.hu (x.gl g1) (x.blt "dict" (by decide)) (x.gl g2) (x.blt "zip" (by decide)) hs.1 hs.2.1 (ia.pa x _ hl h)
    | sortS =>
      obtain ⟨q, a, r, s, rfl, rfl, rfl, rfl, g1, g2⟩ := args_set ha
      rw [e0]
      exact rk.sortS x.hK x.hw x.calm x.hu (x.gl g1) (x.blt "sorted" (by decide)) (x.gl g2) (x.blt "set" (by decide)) (all1 hs) (ia.pa x _ hl h)
    | sortP =>
      obtain ⟨q, a, rfl, rfl, rfl, rfl, g1⟩ := args_one (n := "sorted") ha
      rw [e0]
      exact rk.sortP x.hK x.hw x.calm x.hu (x.gl g1) (x.blt "sorted" (by decide)) (all1 hs) (ia.pa x _ hl h)
    | sortI =>
      obtain ⟨q, a, rfl, rfl, rfl, rfl, g1⟩ := args_one (n := "sorted") ha
      rw [e0]
      exact rk.sortI x.hK x.hw x.calm x.hu (x.gl g1) (x.blt "sorted" (by decide)) (all1 hs) (ia.pa x _ hl h)
    | intT =>
      obtain ⟨q, a, rfl, rfl, rfl, rfl, g1⟩ := args_one (n := "int") ha
      rw [e0]
      exact rk.intT x.hK x.hw x.calm x.hu (x.gl g1) (x.blt "int" (by decide)) (all1 hs) (ia.pa x _ hl h)
    | items =>
      obtain ⟨q, o, ap, cp, rfl, rfl, rfl, rfl, g1, g2, g3⟩ := args_items ha
      obtain ⟨a, rfl, h5, h6⟩ := lst1 h hl
      have z := rk2.items (p := q) (pos := ps) x.hK x.calm (x.gl g1) (x.blt "list" (by decide)) g2 g3 (sub.1.pe x _ h5 h6)
      rw [show ev E (.pr .items (.cons a .nil)) = fun ρ => M.bnd (ev E a ρ) fun x => M.of (prD G.tbl .items [x]) from by funext ρ; rw [ev_pr1, ht, x.tbl]]
      exact z
    | splitA =>
      obtain ⟨o, ap, j, q, rfl, rfl, rfl, rfl, g2, g3⟩ := args_split ha
      obtain ⟨a, rfl, h5, h6⟩ := lst1 h hl
      have z := rk2.splitA (j := j) (p := q) x.hK x.calm g2 g3 (sub.1.pe x _ h5 h6)
      rw [show ev E (.pr .splitA (.cons a .nil)) = fun ρ => M.bnd (ev E a ρ) fun x => M.of (prD G.tbl .splitA [x]) from by funext ρ; rw [ev_pr1, ht, x.tbl]]
      exact z
    | sortK =>
      obtain ⟨q, e, la, lb, ls, lp, kp, rfl, rfl, rfl, rfl, g1, g2⟩ := args_key ha
      obtain ⟨a, rfl, h5, h6⟩ := lst1 h hl
      have z := rk2.sortK (p := q) (kp := kp) (lp := lp) (pos := ps) x.hK x.hw x.calm x.hu (x.room.mono (Nat.le_add_left 1 k)) (x.lam (of_decide_eq_true hlam)) (x.gl g1) (x.blt "sorted" (by decide)) (all1 hs) g2 (sub.1.pe x _ h5 h6)
      rw [show ev E (.pr .sortK (.cons a .nil)) = fun ρ => M.bnd (ev E a ρ) fun x => M.of (prD G.tbl .sortK [x]) from by funext ρ; rw [ev_pr1, ht, x.tbl]]
      exact z
    | get =>
      obtain ⟨o, ap, e, rfl, rfl, g1, g2, ⟨rfl, rfl⟩ | ⟨d, rfl, rfl⟩⟩ := args_get ha
      · obtain ⟨a, b, c, rfl, h3, h4, h5, h6⟩ := lst3 h hl
        simp only [List.all_cons, Bool.and_eq_true] at hs
        have z := rk2.get1 x.hK x.hw x.hu g1 g2 hs.2.1 (sub.1.pe x _ h3.1 h3.2) (sub.2.1.pe x _ h4.1 h4.2)
        have hc : c = .con .non := by
          cases c <;> first | (cases h5; done) | (cases h6; done) | skip
          rename_i d
          cases d <;> first | rfl | (cases h6; done)
        subst hc
        rw [show ev E (.pr .get (.cons a (.cons b (.cons (.con .non) .nil)))) = fun ρ => M.bnd (ev E a ρ) fun x => M.bnd (ev E b ρ) fun y => M.of (prD G.tbl .get [x, y, .non]) from by funext ρ; rw [ev_pr2n, ht, x.tbl]]
        exact z
      · obtain ⟨a, b, c, rfl, h3, h4, h5, h6⟩ := lst3 h hl
        simp only [List.all_cons, Bool.and_eq_true] at hs
        have z := rk2.get2 x.hK x.hw x.hu g1 g2 hs.2.1 hs.2.2.1 (sub.1.pe x _ h3.1 h3.2) (sub.2.1.pe x _ h4.1 h4.2) (sub.2.2.1.pe x _ h5 h6)
        rw [show ev E (.pr .get (.cons a (.cons b (.cons c .nil)))) = fun ρ => M.bnd (ev E a ρ) fun x => M.bnd (ev E b ρ) fun y => M.bnd (ev E c ρ) fun z => M.of (prD G.tbl .get [x, y, z]) from by funext ρ; rw [ev_pr3, ht, x.tbl]]
        exact z
include ht rk rk2 in
theorem snd_pr {p : Pr} {as : Tm} (ia : Snd T G k E as) (sub : SubS T G k E as) : Snd T G k E (.pr p as) where
  pe x e _ h := (pr_pe ht rk rk2 ia sub x h).1
  pt x e _ h := s_val (pr_pe ht rk rk2 ia sub x h).1 (pr_pe ht rk rk2 ia sub x h).2
  pw x o es p _ h := by cases h
  pa x es h _ := by cases h
end
end N57
end
section
set_option maxRecDepth 100000
set_option maxHeartbeats 8000000
namespace N57
open PySem PySem.Spec PyProof.Rows L2

theorem RepS.off {G : Gm} {C : Cn} {H : Hp} {σ : L2.St} {ρ : Ev} (r : RepS G C H σ ρ) (i : Nat) (v : Option V) : RepS G C H (σ.set i v) (ρ.set i none) := ⟨by simpa using r.1, fun j d h => by
  by_cases e : i = j
  · subst e
    rw [List.getElem?_set] at h
    simp only [if_true] at h
    split at h <;> cases h
  · rw [List.getElem?_set_ne e] at h ⊢
    exact r.2 j d h⟩
theorem RepS.put {G : Gm} {C : Cn} {H : Hp} {σ : L2.St} {ρ : Ev} {p : Addr} {o : HO} (r : RepS G C H σ ρ) (hp : C.S p) : RepS G C (upd H p o) σ ρ := ⟨r.1, fun j d h => by
  obtain ⟨u, a1, a2⟩ := r.2 j d h
  exact ⟨u, a1, Rep.put hp _ _ a2⟩⟩
theorem RepS.less {G : Gm} {C C2 : Cn} {H : Hp} {σ : L2.St} {ρ : Ev} (hc : C2.c = C.c) (sub : ∀ a, C.S a → C2.S a) (r : RepS G C2 H σ ρ) : RepS G C H σ ρ := ⟨r.1, fun j d h => by
  obtain ⟨u, a1, a2⟩ := r.2 j d h
  exact ⟨u, a1, Rep.less hc sub _ _ a2⟩⟩
/-! ### a written display of a dict -/
section
variable {T : Tab} {G : Gm} {k : Nat} {E : Env0'}
def trsOf (G : Gm) (E : Env0') : List Wd → Tm → List (TE × TE)
  | k :: ks, .cons a b => (tC (.str (toS k)), tE G (ev E a)) :: trsOf G E ks b
  | _, _ => []
theorem keysB_cons {k : Wd} {ks : List Wd} {o : Option Expr} {es : List (Option Expr)} (h : keysB (k :: ks) (o :: es) = true) : ∃ j p, o = some (.Constant (.str (toS k)) j p) ∧ keysB ks es = true := by
  unfold keysB at h
  split at h
  · cases ‹_ :: _ = []›
  · rename_i k2 ks2 x j p es2 e1 e2
    cases e1
    cases e2
    have h' := Bool.and_eq_true_iff.mp h
    exact ⟨j, p, by rw [str_of h'.1], h'.2⟩
  · cases h
theorem pps_of {N : List Str} {X : Cx} {sc : Scope} {stb : Str → Bool} (x : XOk T G k N X sc stb) {pos : Pos} : ∀ (ks : List Wd) (as : Tm) (keys : List (Option Expr)) (es : List Expr), keysB ks keys = true → ks.length = es.length → chk T N as sc es = true → isL as = true → SubS T G k E as → PPs X pos keys es (trsOf G E ks as)
  | [], as, keys, es, hk, hl, hc, hi, sub => by
    cases es with
    | cons _ _ => simp at hl
    | nil =>
      cases keys with
      | nil => exact pps_nil
      | cons _ _ => cases hk
  | kk :: ks, as, keys, es, hk, hl, hc, hi, sub => by
    cases es with
    | nil => simp at hl
    | cons e es =>
    cases keys with
    | nil => cases hk
    | cons o keys =>
    obtain ⟨j, p, rfl, hk'⟩ := keysB_cons hk
    cases as <;> first | (cases hi; done) | skip
    · cases hc
    · rename_i a b
      have hc' : (notStar e && (plainT a && chk T N a sc [e]) && chk T N b sc es) = true := hc
      simp only [Bool.and_eq_true] at hc'
      exact pps_cons pe_str (sub.1.pe x e hc'.1.2.1 hc'.1.2.2) (pps_of x ks b keys es hk' (by simpa using hl) hc'.2 hi sub.2)
theorem pairs_ev {C : Cn} : ∀ (ks : List Wd) (as : Tm) (σ : L2.St) (H : Hp) (ρ : Ev) (st st' : Cup) (ds : List D) (Q : List (V × V) → Hp → Prop), ks.length = ds.length → Held G C st H → RepS G C H σ ρ → ev E as ρ st = some (.lst ds, st') → isL as = true →
    (∀ vs H', Ext C H H' → Held G C st' H' → RepL G C H' vs ds → Q ((ks.map fun x => V.str (toS x)).zip vs) H') → tPairs (trsOf G E ks as) σ H Q
  | [], as, σ, H, ρ, st, st', ds, Q, hl, hd, rs, e, hi, f => by
    have hds : ds = [] := by cases ds with
      | nil => rfl
      | cons _ _ => simp at hl
    subst hds
    have : st' = st := by
      cases as <;> first | (cases hi; done) | skip
      · obtain ⟨_, h⟩ := ret_some e; exact h
      · replace e := bnd_some e
        obtain ⟨y, s1, e1, e⟩ := e
        replace e := bnd_some e
        obtain ⟨z, s2, e2, e⟩ := e
        replace e := of_some e
        obtain ⟨e, rfl⟩ := e
        rw [Option.map_eq_some_iff] at e
        obtain ⟨l, e3, e4⟩ := e
        cases e4
    subst this
    have := f [] H (Ext.refl _ _) hd .nil
    exact this
  | kk :: ks, as, σ, H, ρ, st, st', ds, Q, hl, hd, rs, e, hi, f => by
    cases ds with
    | nil => simp at hl
    | cons d ds =>
    cases as <;> first | (cases hi; done) | skip
    · obtain ⟨h, _⟩ := ret_some e; cases h
    · rename_i a b
      replace e := bnd_some e
      obtain ⟨y, s1, e1, e⟩ := e
      replace e := bnd_some e
      obtain ⟨z, s2, e2, e⟩ := e
      replace e := of_some e
      obtain ⟨e, rfl⟩ := e
      rw [Option.map_eq_some_iff] at e
      obtain ⟨l, e3, e4⟩ := e
      cases e4
      cases z <;> cases e3
      show tPairs ((tC (.str (toS kk)), tE G (ev E a)) :: trsOf G E ks b) σ H Q
      refine ⟨C, st, ρ, d, s1, hd, rs, e1, fun v H1 x1 h1 r1 => ?_⟩
      refine pairs_ev ks b σ H1 ρ s1 _ ds _ (by simpa using hl) h1 (rs.ext hd x1) e2 hi fun vs H' x' h' r' => ?_
      exact f (v :: vs) H' (x1.trans x') h' (.cons (Rep.ext h1 x' _ _ r1) r')
theorem putK_new {kvs : List (Key × V)} {k : Key} {v : V} (h : ∀ p ∈ kvs, p.1 ≠ k) : putK kvs k v = kvs ++ [(k, v)] := by
  unfold putK
  rw [if_neg]
  simp only [List.any_eq_true, decide_eq_true_eq, not_exists, not_and]
  exact fun p hp => h p hp
theorem merge_new : ∀ (ks : List Wd) (vs : List V) (acc : List (Key × V)), nodupW ks = true → (∀ k ∈ ks, ∀ p ∈ acc, p.1 ≠ (Sum.inr (toS k) : Key)) → mergeK acc ((ks.map fun x => (Sum.inr (toS x) : Key)).zip vs) = acc ++ (ks.map fun x => (Sum.inr (toS x) : Key)).zip vs
  | [], _, acc, _, _ => by simp [mergeK]
  | _ :: _, [], acc, _, _ => by simp [mergeK]
  | k :: ks, v :: vs, acc, hn, hd => by
    have hn' : (!ks.any (natsEq k) && nodupW ks) = true := hn
    simp only [Bool.and_eq_true, Bool.not_eq_true'] at hn'
    have ih := merge_new ks vs (acc ++ [(Sum.inr (toS k), v)]) hn'.2 (fun k2 hk2 p hp => by
      rcases List.mem_append.mp hp with hp | hp
      · exact hd k2 (List.mem_cons_of_mem _ hk2) p hp
      · rw [List.mem_singleton] at hp
        subst hp
        intro z
        have := toS_inj (Sum.inr.inj z)
        subst this
        have : ks.any (natsEq k) = true := List.any_eq_true.mpr ⟨k, hk2, natsEq_iff.mpr rfl⟩
        rw [hn'.1] at this; cases this)
    show mergeK (putK acc (Sum.inr (toS k)) v) ((ks.map fun x => (Sum.inr (toS x) : Key)).zip vs) = _
    rw [putK_new (fun p hp => hd k (List.mem_cons_self ..) p hp)]
    rw [ih]
    simp
theorem zip_kV : ∀ (ks : List Wd) (vs : List V), ((ks.map fun x => (Sum.inr (toS x) : Key)).zip vs).map (fun kv => (kV kv.1, kv.2)) = (ks.map fun x => V.str (toS x)).zip vs
  | [], _ => by simp
  | _ :: _, [] => by simp
  | k :: ks, v :: vs => by
    have := zip_kV ks vs
    simp only [List.map_cons, List.zip_cons_cons]
    rw [this]
    rfl
theorem snd_dicS {ks : List Wd} {a : Tm} (sub : SubS T G k E a) : Snd T G k E (.dicS ks a) where
  pe {N X sc stb} x e _ h := by
    cases e <;> first | (cases h; done) | skip
    rename_i keys es pos
    have h' := h
    simp only [chk, Bool.and_eq_true] at h'
    obtain ⟨⟨⟨⟨⟨⟨h1, h2⟩, h3⟩, h4⟩, h5⟩, h6⟩, h7⟩ := h'
    have hlen := Nat.eq_of_beq_eq_true h7
    have h15 := Nat.le_of_ble_eq_true h5
    have h1' := Nat.le_of_ble_eq_true h6
    have kl : ∀ (ks : List Wd) (keys : List (Option Expr)), keysB ks keys = true → keys.length = ks.length ∧ keys.all (·.isSome) = true := by
      intro ks
      induction ks with
      | nil => intro keys h; cases keys with
        | nil => exact ⟨rfl, rfl⟩
        | cons _ _ => cases h
      | cons k ks ih => intro keys h; cases keys with
        | nil => cases h
        | cons o keys =>
          obtain ⟨j, p, rfl, hk'⟩ := keysB_cons h
          obtain ⟨a1, a2⟩ := ih keys hk'
          exact ⟨by simp [a1], by simp [a2]⟩
    obtain ⟨k1, k2⟩ := kl ks keys h1
    refine (pe_disp (pps_of x ks a keys es h1 hlen h2 h3 sub) k2 (by omega) (by intro z; rw [z] at k1; simp at k1; omega) (by omega)).imp fun σ H Q ⟨C, st, ρ, d, st', hl, rs, e, f⟩ => ?_
    replace e := bnd_some e
    obtain ⟨y, s1, e1, e⟩ := e
    replace e := of_some e
    obtain ⟨e, rfl⟩ := e
    rw [Option.map_eq_some_iff] at e
    obtain ⟨l, e2, rfl⟩ := e
    cases y <;> cases e2
    intro p hp
    have over : Over C (C.and p) H := Cn.and_over hp
    have npc : ¬ (C.and p).m p := hl.notM hp
    have hS : (C.and p).S p := .inr rfl
    have hl2 : Held G (C.and p) st (upd H p (.dK [])) := (hl.new hp).and upd_same
    obtain ⟨l0, w1, w2⟩ := isL_len a sc es h3 h2 _ _ _ _ e1
    cases w1
    refine pairs_ev ks a σ _ ρ st _ l _ (by omega) hl2 ((rs.over over).put hS) e1 h3 fun vs H' x' h' r' => ?_
    have hp' : H' p = some (.dK []) := x' p _ npc (fun _ z => nomatch z) upd_same
    refine ⟨hp', (ks.map fun x => (Sum.inr (toS x) : Key)).zip vs, ?_, ?_, ?_⟩
    · exact (zip_kV ks vs).symm
    · rw [List.length_zip, List.length_map]; omega
    rw [merge_new ks vs [] h4 (fun _ _ p hp => by cases hp), List.nil_append]
    have hC := (h'.put npc (o := .dK ((ks.map fun x => (Sum.inr (toS x) : Key)).zip vs)) hp' nc_dK (fun _ z => nomatch z)).unand hl.cS
    refine f _ _ (fun b ob hb nt hob => ?_) hC (.dS upd_same (hl.notS hp) (by omega) (RepL.less (C := C) (C2 := C.and p) rfl (fun _ z => Or.inl z) _ _ (RepL.put hS _ _ r')))
    have nb : b ≠ p := fun z => by rw [z, hp] at hob; cases hob
    rw [upd_ne nb]
    exact x' b ob hb nt (by rw [upd_ne nb]; exact hob)
  pt x e h _ := by cases h
  pw x o es p h _ := by cases h
  pa x es h _ := by cases h
end
end N57
end
section
set_option maxRecDepth 100000
set_option maxHeartbeats 8000000
namespace N57
open PySem PySem.Spec PyProof.Rows L2

section
variable {T : Tab} {G : Gm} {k : Nat} {E : Env0'}
inductive ItS (sc : Scope) : IK → Expr → Expr → List Expr → Prop
  | lst (tg e : Expr) : ItS sc .lst tg e [e]
  | tup (tg e : Expr) : ItS sc .tup tg e [e]
  | str (tg e : Expr) : ItS sc .str tg e [e]
  | enum {es : List Expr} {k : Nat} {p q r : Pos} {e : Expr} : glB sc "enumerate" = true → notStar e = true → ItS sc .enum (.Tuple es k p) (.Call (.Name "enumerate" q) [e] [] r) [e]
  | zipT {es : List Expr} {k : Nat} {p q r : Pos} {a b : Expr} : glB sc "zip" = true → notStar a = true → notStar b = true → ItS sc .zipT (.Tuple es k p) (.Call (.Name "zip" q) [a, b] [] r) [a, b]
  | rng {tg : Expr} {q r : Pos} {e : Expr} : glB sc "range" = true → notStar e = true → ItS sc .rng tg (.Call (.Name "range" q) [e] [] r) [e]
  | rngD {tg : Expr} {q r q1 q2 q3 q4 : Pos} {j1 j2 : Nat} {e : Expr} : glB sc "range" = true → notStar e = true → ItS sc .rngD tg (.Call (.Name "range" q) [e, .UnaryOp .USub (.Constant (.int 1) j1 q1) q2, .UnaryOp .USub (.Constant (.int 1) j2 q3) q4] [] r) [e]
theorem itArgs_inv {sc : Scope} {kd : IK} {tg it : Expr} {l : List Expr} (h : itArgs sc kd tg it = some l) : ItS sc kd tg it l := by
  unfold itArgs at h
  split at h
  · cases h; exact .lst _ _
  · cases h; exact .tup _ _
  · cases h; exact .str _ _
  · obtain ⟨h1, rfl⟩ := ifs_some h
    simp only [Bool.and_eq_true, beq_iff_eq] at h1
    obtain ⟨⟨rfl, h3⟩, h4⟩ := h1
    exact .enum h3 h4
  · obtain ⟨h1, rfl⟩ := ifs_some h
    simp only [Bool.and_eq_true, beq_iff_eq] at h1
    obtain ⟨⟨⟨rfl, h3⟩, h4⟩, h5⟩ := h1
    exact .zipT h3 h4 h5
  · obtain ⟨h1, rfl⟩ := ifs_some h
    simp only [Bool.and_eq_true, beq_iff_eq] at h1
    obtain ⟨⟨rfl, h3⟩, h4⟩ := h1
    exact .rng h3 h4
  · obtain ⟨h1, rfl⟩ := ifs_some h
    simp only [Bool.and_eq_true, beq_iff_eq] at h1
    obtain ⟨⟨rfl, h3⟩, h4⟩ := h1
    exact .rngD h3 h4
  · cases h
theorem ev_nilT : ev E .nil = fun _ => M.ret (.lst []) := rfl
theorem iarg {N : List Str} {X : Cx} {sc : Scope} {stb : Str → Bool} (x : XOk T G k N X sc stb) {kd : IK} {tg it : Expr} {a b : Tm} (ia : Snd T G k E a) (ib : Snd T G k E b)
    (h : (match itArgs sc kd tg it with
      | some [x] => (plainT a && chk T N a sc [x]) && isNilT b
      | some [x, y] => (plainT a && chk T N a sc [x]) && (plainT b && chk T N b sc [y])
      | _ => false) = true) : PI X tg it (tI G kd (ev E a) (ev E b)) := by
  cases hi : itArgs sc kd tg it with
  | none => rw [hi] at h; cases h
  | some l =>
    rw [hi] at h
    have q := itArgs_inv hi
    have one : ∀ e, l = [e] → b = .nil ∧ PE X e (tE G (ev E a)) := by
      intro e he
      subst he
      simp only [Bool.and_eq_true] at h
      exact ⟨nil_of h.2, ia.pe x e h.1.1 h.1.2⟩
    cases q with
    | lst _ e => obtain ⟨rfl, pa⟩ := one _ rfl; exact pi_lst x.hK pa
    | tup _ e => obtain ⟨rfl, pa⟩ := one _ rfl; exact pi_tpl x.hK pa
    | str _ e => obtain ⟨rfl, pa⟩ := one _ rfl; exact pi_txt pa
    | enum g s => obtain ⟨rfl, pa⟩ := one _ rfl; exact pi_enu x.hK (x.gl g) (x.blt "enumerate" (by decide)) (star_ok s) pa
    | rng g s => obtain ⟨rfl, pa⟩ := one _ rfl; exact pi_rngU (x.gl g) (x.blt "range" (by decide)) (star_ok s) pa
    | rngD g s => obtain ⟨rfl, pa⟩ := one _ rfl; exact pi_rngN (x.gl g) (x.blt "range" (by decide)) (star_ok s) pa
    | zipT g s s2 =>
      simp only [Bool.and_eq_true] at h
      exact pi_zipTT x.hK (x.gl g) (x.blt "zip" (by decide)) (star_ok s) (star_ok s2) (ia.pe x _ h.1.1 h.1.2) (ib.pe x _ h.2.1 h.2.2)
theorem blkC_fun {N : List Str} {sc scope : Scope} {own : List (Str × Nat)} (h : blkC N sc scope own = true) : scope.kind = .function := by
  unfold blkC at h
  simp only [Bool.and_eq_true] at h
  have h1 := h.1.1.1
  split at h1
  · assumption
  · cases h1
/-- what a comprehension's check gives -/
structure CompOk (T : Tab) (G : Gm) (k : Nat) (E : Env0') (N : List Str) (X : Cx) (sc : Scope) (tg : Tg) (kd : IK) (a b c e : Tm) (elt t it : Expr) (ifs : List Expr) (scope : Scope) : Prop where
  pi : PI X t it (tI G kd (ev E a) (ev E b))
  ok : BlkOk X.N X.env.scope scope (ownOf tg [t])
  own : (ownOf tg [t]).map (·.2) = tg.slots
  hg : ∀ (s : Shared) (H : Hp) (C : Addr) (cl : List (Str × Addr)) (fp : List Addr), PG (X.blk s H scope (compEnvC scope cl C X.env) fp) t (gT G tg)
  ht : ∀ (s : Shared) (H : Hp) (C : Addr) (cl : List (Str × Addr)) (fp : List Addr), PTs (X.blk s H scope (compEnvC scope cl C X.env) fp) ifs (tTs G c (ev E c))
  he : ∀ (s : Shared) (H : Hp) (C : Addr) (cl : List (Str × Addr)) (fp : List Addr), PE (X.blk s H scope (compEnvC scope cl C X.env) fp) elt (tE G (ev E e))
  hs : ∀ x, foldedSetIterable it X.env x = pure x
theorem tTs_plain {c : Tm} {m : Ev → M D} (h : c ≠ .nil) : tTs G c m = tB G m := by
  funext σ H Q
  cases c <;> first | rfl | exact absurd rfl h
theorem comp_inv {tg : Tg} {kd : IK} {a b c e : Tm} {N : List Str} {sc : Scope} {x0 : Expr} (h : chk T N (.comp tg kd a b c e) sc [x0] = true) : ∃ elt t it ifs scope pos, x0 = .ListComp elt [⟨t, it, ifs, 0⟩] scope pos := by
  cases x0 <;> first | (cases h; done) | skip
  rename_i elt gens scope pos
  rcases gens with _ | ⟨⟨t, it, ifs, ia⟩, _ | ⟨g2, r⟩⟩
  · cases h
  · have h' := h
    simp only [chk, Bool.and_eq_true, decide_eq_true_eq] at h'
    obtain ⟨⟨⟨⟨⟨⟨⟨h1, _⟩, _⟩, _⟩, _⟩, _⟩, _⟩, _⟩ := h'
    subst h1
    exact ⟨_, _, _, _, _, _, rfl⟩
  · cases h
theorem comp_ok {tg : Tg} {kd : IK} {a b c e : Tm} (ia : Snd T G k E a) (ib : Snd T G k E b) (ic : Snd T G k E c) (ie : Snd T G k E e) {N : List Str} {X : Cx} {sc : Scope} {stb : Str → Bool} (x : XOk T G k N X sc stb) {elt t it : Expr} {ifs : List Expr} {scope : Scope} {pos : Pos} (h : chk T N (.comp tg kd a b c e) sc [.ListComp elt [⟨t, it, ifs, 0⟩] scope pos] = true) :
    CompOk T G k E N X sc tg kd a b c e elt t it ifs scope := by
  have h' := h
  simp only [chk, Bool.and_eq_true] at h'
  obtain ⟨⟨⟨⟨⟨⟨⟨h1, h2⟩, h3⟩, h4⟩, h5⟩, h6⟩, h7⟩, h8⟩ := h'
  have kf := blkC_fun h3
  refine ⟨iarg x ia ib h6, by rw [x.hN, x.hsc]; exact blkOk_by h3, own_ok _ _ h4, fun s H C cl fp => (t_ok (x.blk kf s H C cl fp) tg).1 t h2 h4, fun s H C cl fp => ?_, fun s H C cl fp => ie.pe (x.blk kf s H C cl fp) _ h8.1 h8.2, fun z => set_ok h5 z⟩
  rcases ifs with _ | ⟨f, _ | ⟨f2, r⟩⟩
  · obtain rfl := nil_of h7
    exact pts_nil
  · simp only [Bool.and_eq_true] at h7
    rw [tTs_plain (not_nil h7.1.1)]
    exact pts_one (ic.pt (x.blk kf s H C cl fp) _ h7.2 h7.1.2)
  · cases h7
theorem ev_comp {tg : Tg} {kd : IK} {a b c e : Tm} : ev E (.comp tg kd a b c e) = fun ρ => M.bnd (ev E a ρ) fun x => M.bnd (ev E b ρ) fun y => M.bnd (M.of (itD kd x y)) fun its => M.bnd (compM (turnM tg c (ev E c) (ev E e) ρ) its []) fun l => M.ret (.lst l) := by
  cases c <;> rfl
theorem snd_comp {tg : Tg} {kd : IK} {a b c e : Tm} (ia : Snd T G k E a) (ib : Snd T G k E b) (ic : Snd T G k E c) (ie : Snd T G k E e) : Snd T G k E (.comp tg kd a b c e) where
  pe x x0 _ h := by
    obtain ⟨elt, t, it, ifs, scope, pos, rfl⟩ := comp_inv h
    have q := comp_ok ia ib ic ie x h
    rw [ev_comp]
    have hN : _ := x.hN
    have nd : _ := x.nd
    exact (pe_lc x.calm (by rw [x.hN]; exact x.nd) q.pi q.ok q.hg q.ht q.he q.hs).imp fun σ H Q h => s_comp x.calm (by rw [x.hN]; exact x.nd) q.pi q.ok q.own q.hg q.ht q.he q.hs h
  pt x e h _ := by cases h
  pw x o es p h _ := by cases h
  pa x es h _ := by cases h
variable (hg : E.gl = T.gval) (ht : E.tbl = T.tbl) (hc : E.cl = run T k) (rk : Rk G) (rk2 : Rk2 G)
include hg ht hc rk rk2 in
theorem snd_all : ∀ t : Tm, Snd T G k E t ∧ SubS T G k E t
  | .var i => ⟨snd_var i, trivial⟩
  | .con d => ⟨snd_con d, trivial⟩
  | .glb g => ⟨snd_glb hg g, trivial⟩
  | .nil => ⟨snd_nil, trivial⟩
  | .cons a b => ⟨snd_cons (snd_all a).1 (snd_all b).1, (snd_all a).1, (snd_all b).2⟩
  | .tup a => ⟨snd_tup (snd_all a).1, trivial⟩
  | .lst a => ⟨snd_lst (snd_all a).1, trivial⟩
  | .dic0 => ⟨snd_dic0, trivial⟩
  | .dicS ks a => ⟨snd_dicS (snd_all a).2, trivial⟩
  | .op o a b => ⟨snd_op (snd_all a).1 (snd_all b).1, trivial⟩
  | .neg a => ⟨snd_neg (snd_all a).1, trivial⟩
  | .isN a => ⟨snd_isN (snd_all a).1, trivial⟩
  | .notN a => ⟨snd_notN (snd_all a).1, trivial⟩
  | .cmp o a b => ⟨snd_cmp ht (snd_all a).1 (snd_all b).1, trivial⟩
  | .chain o p a b c => ⟨snd_chain ht (snd_all a).1 (snd_all b).1 (snd_all c).1, trivial⟩
  | .and a b => ⟨snd_and (snd_all a).1 (snd_all b).1, trivial⟩
  | .or a b => ⟨snd_or (snd_all a).1 (snd_all b).1, trivial⟩
  | .not a => ⟨snd_not (snd_all a).1, trivial⟩
  | .ite c a b => ⟨snd_ite (snd_all c).1 (snd_all a).1 (snd_all b).1, trivial⟩
  | .ix a b => ⟨snd_ix ht (snd_all a).1 (snd_all b).1, trivial⟩
  | .sl a b c => ⟨snd_sl (snd_all a).1 (snd_all b).1 (snd_all c).1, trivial⟩
  | .call f a => ⟨snd_call hc (snd_all a).1, trivial⟩
  | .pr p a => ⟨snd_pr ht rk rk2 (snd_all a).1 (snd_all a).2, trivial⟩
  | .comp tg kd a b c e => ⟨snd_comp (snd_all a).1 (snd_all b).1 (snd_all c).1 (snd_all e).1, trivial⟩
  | .cg a b => ⟨snd_cg (snd_all a).1, trivial⟩
  | .bad => ⟨snd_bad, trivial⟩
end
end N57
end
section
set_option maxRecDepth 100000
set_option maxHeartbeats 8000000
namespace N57
open PySem PySem.Spec PyProof.Rows L2

/-! ### how stores stand -/
def nmsOf (sc : Scope) (line : Nat) (ts : List Expr) : List Str := ts.filterMap fun
    | .Name id pos => if sc.names.lookup id == some .local && pos.line == line then some id else none
    | _ => none
/-- none: not known; some none: plain; some names: exchanged -/
def swT (sc : Scope) (ts vs : List Expr) : Option (Option (List Str)) :=
  if !(ts.length == 2 || ts.length == 3) || vs.length != ts.length || sc.kind != .function then some none
  else if vs.any (fun | .Starred .. => true | _ => false) then some none
  else if (nmsOf sc ((ts.head?.map (·.pos.line)).getD 0) ts).length != ts.length || (nmsOf sc ((ts.head?.map (·.pos.line)).getD 0) ts).eraseDups.length != (nmsOf sc ((ts.head?.map (·.pos.line)).getD 0) ts).length then some none
  else if vs.all (foldedForSure 8) then some none
  else if vs.all (constantsAlone 8) then none
  else some (some (nmsOf sc ((ts.head?.map (·.pos.line)).getD 0) ts))
def swE (sc : Scope) : Expr → Expr → Option (Option (List Str))
  | .Tuple ts _ _, .Tuple vs _ _ => swT sc ts vs
  | .List .., _ => none
  | _, _ => some none
theorem swT_ok {sc : Scope} {env : Env} (he : env.scope = sc) (hk : sc.kind = .function) {ts vs : List Expr} {k k2 : Nat} {p p2 : Pos} {r : Option (List Str)} (h : swT sc ts vs = some r) : swappedStores [.Tuple ts k p] (.Tuple vs k2 p2) env = pure r := by
  subst he
  have hb : env.blockKind = env.scope.kind := by
    unfold Env.blockKind
    rw [hk]
    rfl
  unfold swappedStores
  simp only [hb]
  unfold swT at h
  split at h
  · cases h
    rename_i g
    exact (if_pos g).trans rfl
  · rename_i g
    refine (if_neg g).trans ?_
    split at h
    · cases h
      rename_i g2
      exact (if_pos g2).trans rfl
    · rename_i g2
      refine (if_neg g2).trans ?_
      split at h
      · cases h
        rename_i g3
        exact (if_pos g3).trans rfl
      · rename_i g3
        refine (if_neg g3).trans ?_
        split at h
        · cases h
          rename_i g4
          exact (if_pos g4).trans rfl
        · rename_i g4
          refine (if_neg g4).trans ?_
          split at h
          · cases h
          · cases h
            rename_i g5
            exact (if_neg g5).trans rfl
theorem swE_ok {sc : Scope} {env : Env} (he : env.scope = sc) (hk : sc.kind = .function) {t e : Expr} {r : Option (List Str)} (h : swE sc t e = some r) : swappedStores [t] e env = pure r := by
  cases t with
  | Tuple ts k p =>
    cases e <;> first | exact swT_ok he hk h | (cases h; rfl)
  | List ts p => cases h
  | _ => cases h; rfl
/-- a comprehension whose variable is handed over -/
def isLC : Expr → Bool
  | .ListComp .. => true | _ => false
def isSD : Expr → Bool
  | .SetComp .. => true | .DictComp .. => true | _ => false
def swW (sc : Scope) : Expr → Expr → Bool
  | .Name t pos, .ListComp _ _ s p => lclB sc t && pos.line == p.line && !(s.names.any fun (n, k) => n == t && (k == .local || k == .cell))
  | _, _ => false
theorem swW_no {sc : Scope} {env : Env} (he : env.scope = sc) (hk : sc.kind = .function) {t e : Expr} {line : Nat} (hs : isSD e = false) (h : swW sc t e = false) : swapsWithSole [t] e line env = pure false := by
  have hb : env.blockKind = .function := by
    unfold Env.blockKind
    rw [he, hk]
    rfl
  show swapsWith e (some t) line env = pure false
  cases e <;> first | (cases hs; done) | rfl | skip
  rename_i elt gens s p
  cases t <;> first | rfl | skip
  rename_i x pos
  unfold swapsWith
  show (pure (env.blockKind == .function && env.kindOf x == some .local && pos.line == p.line && !(s.names.any fun (n, k) => n == x && (k == .local || k == .cell))) : Sem Bool) = _
  rw [hb]
  unfold Env.kindOf
  rw [he]
  have h' : (lclB sc x && pos.line == p.line && !(s.names.any fun (n, k) => n == x && (k == .local || k == .cell))) = false := h
  clear h
  unfold lclB at h'
  congr 1
  revert h'
  cases sc.names.lookup x with
  | none => intro _; rfl
  | some k => cases k <;> intro h <;> first | rfl | (simpa using h)
theorem swW_yes {sc : Scope} {env : Env} (he : env.scope = sc) (hk : sc.kind = .function) {t e : Expr} {line : Nat} (h : swW sc t e = true) : ∃ x pos elt gens s p, t = .Name x pos ∧ e = .ListComp elt gens s p ∧ sc.names.lookup x = some .local ∧ swapsWith e (some t) line env = pure true := by
  have hb : env.blockKind = .function := by
    unfold Env.blockKind
    rw [he, hk]
    rfl
  cases t <;> first | (cases h; done) | skip
  cases e <;> first | (cases h; done) | skip
  rename_i x pos elt gens s p
  have h' := h
  unfold swW at h'
  simp only [Bool.and_eq_true] at h'
  refine ⟨_, _, _, _, _, _, rfl, rfl, lclB_ok h'.1.1, ?_⟩
  show (pure (env.blockKind == .function && env.kindOf x == some .local && pos.line == p.line && !(s.names.any fun (n, k) => n == x && (k == .local || k == .cell))) : Sem Bool) = _
  rw [hb]
  unfold Env.kindOf
  rw [he, lclB_ok h'.1.1, h'.1.2, h'.2]
  rfl
/-! ### statements against their text -/
def oneS : Sm → Bool
  | .nil => false | .cons .. => false | .mkL .. => false | .mkD .. => false | _ => true
def twoS : Sm → Bool
  | .mkL .. => true | .mkD .. => true | _ => false
def listS : Sm → Bool
  | .nil => true | .cons a b => (oneS a || twoS a) && listS b | _ => false
def isCmp : Tm → Bool
  | .comp .. => true | _ => false
def isTp : Tm → Bool
  | .tup _ => true | _ => false
def slotsOf : Tg → Option (List Nat)
  | .nil => some []
  | .cons (.slot i) r => (slotsOf r).map (i :: ·)
  | _ => none
def distinct : List Nat → Bool
  | [] => true
  | x :: l => !l.any (Nat.beq x) && distinct l
def swOk : Tg → Tm → Bool
  | .tup ts, .tup _ => (match slotsOf ts with
    | some l => distinct l
    | none => false)
  | _, _ => false
structure MkL where
  (y ln fn : Str)
  (p1 p2 p3 p4 p5 p6 p7 p8 p9 p10 p11 p12 p13 : Pos)
  (e1 i1 i2 j1 j2 : Expr)
  (es : List Expr)
  (sts : List Stmt)
def MkL.text (m : MkL) : List Stmt := .Assign [.Name m.y m.p1] (.Call (.Name m.ln m.p2) [m.e1] [] m.p3) m.p4 :: .Assign [.Subscript (.Name m.y m.p5) (.Subscript m.i1 m.i2 m.p6) m.p8] (.Call (.Name m.fn m.p9) (.Subscript (.Name m.y m.p10) (.Subscript m.j1 m.j2 m.p7) m.p11 :: m.es) [] m.p12) m.p13 :: m.sts
def mkLArgs : List Stmt → Option MkL
  | .Assign [.Name y p1] (.Call (.Name ln p2) [e1] [] p3) p4 :: .Assign [.Subscript (.Name y2 p5) (.Subscript i1 i2 p6) p8] (.Call (.Name fn p9) (.Subscript (.Name y3 p10) (.Subscript j1 j2 p7) p11 :: es) [] p12) p13 :: sts =>
    if y2 = y ∧ y3 = y then some ⟨y, ln, fn, p1, p2, p3, p4, p5, p6, p7, p8, p9, p10, p11, p12, p13, e1, i1, i2, j1, j2, es, sts⟩ else none
  | _ => none
theorem mkL_ok {l : List Stmt} {m : MkL} (h : mkLArgs l = some m) : l = m.text := by
  unfold mkLArgs at h
  split at h
  · split at h
    · rename_i hy
      obtain ⟨rfl, rfl⟩ := hy
      cases h
      rfl
    · cases h
  · cases h
structure MkD where
  (y ln : Str)
  (p1 p2 p3 p4 p5 p6 p8 p9 : Pos)
  (e1 i1 i2 v1 : Expr)
  (sts : List Stmt)
def MkD.text (m : MkD) : List Stmt := .Assign [.Name m.y m.p1] (.Call (.Name m.ln m.p2) [m.e1] [] m.p3) m.p4 :: .Assign [.Subscript (.Name m.y m.p5) (.Subscript m.i1 m.i2 m.p6) m.p8] m.v1 m.p9 :: m.sts
def mkDArgs : List Stmt → Option MkD
  | .Assign [.Name y p1] (.Call (.Name ln p2) [e1] [] p3) p4 :: .Assign [.Subscript (.Name y2 p5) (.Subscript i1 i2 p6) p8] v1 p9 :: sts =>
    if y2 = y then some ⟨y, ln, p1, p2, p3, p4, p5, p6, p8, p9, e1, i1, i2, v1, sts⟩ else none
  | _ => none
theorem mkD_ok {l : List Stmt} {m : MkD} (h : mkDArgs l = some m) : l = m.text := by
  unfold mkDArgs at h
  split at h
  · split at h
    · rename_i hy
      subst hy
      cases h
      rfl
    · cases h
  · cases h
def chkS (T : Tab) (N : List Str) (sc : Scope) (stb : Str → Bool) : Sm → List Stmt → Bool
  | .nil, [] => true
  | .cons (.mkL i e ib f jb rest) r, sts => (match mkLArgs sts with
    | some m => decide (N[i]? = some m.y) && visB sc m.y && dbgB m.y && stb m.y && decide (m.ln = ("list" : Str)) && glB sc "list" && (plainT e && chk T N e sc [m.e1]) && notStar m.e1 && (plainT ib && chk T N ib sc [.Subscript m.i1 m.i2 m.p6]) && (plainT jb && chk T N jb sc [.Subscript m.j1 m.j2 m.p7]) &&
      chk T N rest sc m.es && isL rest && Nat.blt f T.nf && decide (T.fnm f = m.fn) && glB sc m.fn && dbgB m.fn && m.es.all notStar && Nat.beq (m.es.length + 1) (T.ps f).length && chkS T N sc stb r m.sts
    | none => false)
  | .cons (.mkD i e kb v) r, sts => (match mkDArgs sts with
    | some m => decide (N[i]? = some m.y) && visB sc m.y && dbgB m.y && stb m.y && decide (m.ln = ("dict" : Str)) && glB sc "dict" && (plainT e && chk T N e sc [m.e1]) && notStar m.e1 && (plainT kb && chk T N kb sc [.Subscript m.i1 m.i2 m.p6]) && (plainT v && chk T N v sc [m.v1]) && !isLC m.v1 && !isSD m.v1 && chkS T N sc stb r m.sts
    | none => false)
  | .cons s r, st :: sts => oneS s && chkS T N sc stb s [st] && chkS T N sc stb r sts
  | .cs i b e, [.Assign [.Subscript (.Name y _) (.Constant (.int n) _ _) _] v _] => decide (n = if b then 1 else 0) && decide (N[i]? = some y) && visB sc y && dbgB y && (plainT e && chk T N e sc [v]) && !isLC v && !isSD v
  | .asg tg e, [.Assign [t] v _] => oneT tg && plainT e && chk T N e sc [v] && chkT N stb tg [t] && !isSD v && (match swE sc t v with
    | some none => !swW sc t v || (isCmp e && isLC v)
    | some (some _) => !swW sc t v && swOk tg e && isTup v && isTup t
    | none => false)
  | .iff c a b, [.If t x y _] => testy c && chk T N c sc [t] && listS a && chkS T N sc stb a x && listS b && chkS T N sc stb b y
  | .ret e, [.Return (some v) _] => plainT e && chk T N e sc [v]
  | .forr tg kd a b body, [.For t it bd [] _] => oneT tg && chkT N stb tg [t] && notSet it && (match itArgs sc kd t it with
      | some [x] => (plainT a && chk T N a sc [x]) && isNilT b
      | some [x, y] => (plainT a && chk T N a sc [x]) && (plainT b && chk T N b sc [y])
      | _ => false) && listS body && chkS T N sc stb body bd
  | .whl c body, [.While t bd [] _] => testy c && chk T N c sc [t] && listS body && chkS T N sc stb body bd
  | .exp e, [.Expr v _] => plainT e && chk T N e sc [v] && !isLC v && !isSD v
  | .bad, [_] => true
  | _, _ => false
end N57
end
section
set_option maxRecDepth 100000
set_option maxHeartbeats 8000000
namespace N57
open PySem PySem.Spec PyProof.Rows L2

section
variable {T : Tab} {G : Gm} {k : Nat} {E : Env0'}
theorem intOf_some {d : D} {v : Int} (h : intOf d = some v) : d = .int v := by
  cases d <;> cases h; rfl
theorem strOf_some {d : D} {v : Wd} (h : strOf d = some v) : d = .str v := by
  cases d <;> cases h; rfl
theorem unL_some {d : D} {l : List D} (h : unL d = some l) : d = .lst l := by
  cases d <;> cases h; rfl
theorem join_some {ρ : Ev} {i : Nat} {d : D} (h : ρ[i]?.join = some d) : ρ[i]? = some (some d) := by
  cases e : ρ[i]? with
  | none => rw [e] at h; cases h
  | some o => rw [e] at h; cases o with
    | none => cases h
    | some d' => cases h; rfl
/-- the cup's number takes another value -/
theorem st_cs {i : Nat} {b : Bool} {e : Tm} {N : List Str} {X : Cx} {sc : Scope} {stb : Str → Bool} (x : XOk T G k N X sc stb) {y : Str} {p1 p2 p3 pos : Pos} {j : Nat} {n : Int} {v : Expr} (hn : n = if b then 1 else 0) (hi : N[i]? = some y) (hv : visB sc y = true) (hd : dbgB y = true)
    (he : PE X v (tE G (ev E e))) (hl : isLC v = false) (hs : isSD v = false) : PS X (.Assign [.Subscript (.Name y p1) (.Constant (.int n) j p2) p3] v pos) (tS G (ex E (.cs i b e))) := by
  unfold dbgB at hd
  simp only [Bool.and_eq_true, Bool.not_eq_true'] at hd
  have hsw : swapsWithSole [.Subscript (.Name y p1) (.Constant (.int n) j p2) p3] v pos.line X.env = pure false := by
    cases v <;> first | (cases hl; done) | (cases hs; done) | rfl
  have pv : PE X (.Name y p1) (tVar i) := pe_var (by rw [x.hN]; exact hi) (by rw [x.hsc]; exact visB_ok hv) hd.1 hd.2
  refine (ps_asg he (pg_sub pv pe_int set_list) hsw rfl rfl).imp fun D σ H ⟨C, st, ρ, o, st', hl, rs, e0, f⟩ => ?_
  replace e0 := bnd_some e0
  obtain ⟨d, s1, e1, e0⟩ := e0
  replace e0 := bnd_some e0
  obtain ⟨vi, s2, e2, e0⟩ := e0
  replace e2 := of_some e2
  obtain ⟨e2, rfl⟩ := e2
  obtain rfl := intOf_some e2
  replace e0 := bnd_some e0
  obtain ⟨c, s3, e3, e0⟩ := e0
  replace e3 := of_some e3
  obtain ⟨e3, rfl⟩ := e3
  have e4 := join_some e3
  replace e0 := bnd_some e0
  obtain ⟨u, s4, e5, e0⟩ := e0
  obtain ⟨rfl, rfl⟩ := ret_some e0
  refine ⟨C, st, ρ, _, _, hl, rs, e1, fun vv H1 x1 h1 r1 => ?_⟩
  have rs1 := rs.ext hl x1
  obtain ⟨cv, g1, g2⟩ := rs1.2 i c e4
  cases c <;> first | (cases e5; done) | skip
  cases g2 with
  | @cup a hca =>
  cases r1
  obtain ⟨k1, k2, k3⟩ := h1.cup _ hca
  refine ⟨.ref a, g1, ?_⟩
  have fin : ∀ xs' : List V, ∀ st2 : Cup, xs' = [.int st2.1, .int st2.2] → CupOk st2 → st2 = st' → D.nx σ (upd H1 a (.lst xs')) := by
    intro xs' st2 hx hk hst
    subst hx hst
    refine f σ _ (fun c2 o2 hc2 nt ho => ?_) ?_ (rs1.put (h1.ms _ k1))
    · rw [upd_ne (show c2 ≠ a from fun z => hc2 (by rw [z]; exact k1))]
      exact x1 c2 o2 hc2 nt ho
    · refine ⟨fun b2 hb2 => ?_, h1.ms, fun b2 hb2 => ?_, fun q hq => ?_⟩
      · by_cases z : b2 = a
        · exact .inl ⟨.lst _, by rw [z, upd_same], fun _ z => nomatch z⟩
        · exact (h1.trk b2 hb2).imp (fun ⟨u, e, k⟩ => ⟨u, by rw [upd_ne z]; exact e, k⟩) id
      · have z : b2 = a := by rw [hca] at hb2; exact (Option.some.inj hb2).symm
        subst z
        exact ⟨k1, upd_same, hk⟩
      · obtain ⟨a1, ps, a2, a3, a4⟩ := h1.tabs q hq
        refine ⟨a1, ps, by rw [upd_ne (show q.1 ≠ a from fun z => by rw [z, k2] at a2; cases a2)]; exact a2, a3, fun pos cv hcv => ?_⟩
        obtain ⟨c, e1, e2⟩ := a4 pos cv hcv
        refine ⟨c, e1, ?_⟩
        rw [upd_ne (show c ≠ a from fun z => by rw [z, k2] at e2; exact nc_lst _ _ (Option.some.inj e2))]
        exact e2
  cases b with
  | true =>
    have hn' : n = 1 := hn
    subst hn'
    refine ⟨a, _, 1, 1, rfl, rfl, k2, rfl, ?_⟩
    have e5' : (if decide (0 ≤ vi) && decide (vi < 2 ^ 40) then some ((), (s3.1, vi)) else none) = some (u, st') := e5
    split at e5'
    · rename_i hz
      simp only [Bool.and_eq_true, decide_eq_true_eq] at hz
      cases e5'
      exact fin _ (s3.1, vi) rfl hz rfl
    · cases e5'
  | false =>
    have hn' : n = 0 := hn
    subst hn'
    refine ⟨a, _, 0, 0, rfl, rfl, k2, rfl, ?_⟩
    cases e5
    exact fin _ (vi, s3.2) rfl k3 rfl
theorem lst_arg {tbl : Nat → List (Wd × Option W0)} {y : D} {l : List D} (h : (prD tbl .list [y]).bind unL = some l) : y = .lst l ∨ y = .tup l := by
  rw [Option.bind_eq_some_iff] at h
  obtain ⟨z, h1, h2⟩ := h
  obtain rfl := unL_some h2
  cases y <;> cases h1
  · exact .inr rfl
  · exact .inl rfl
theorem setI_some {α β : Type} {l l' : List α} {xs : List β} {kk : Int} {r : α} (hlen : xs.length = l.length) (h : setI l kk r = some l') : ∃ j, ixN xs.length kk = some j ∧ l' = l.set j r := by
  unfold setI at h
  rw [Option.map_eq_some_iff] at h
  obtain ⟨j, h1, rfl⟩ := h
  exact ⟨j, by rw [hlen]; exact h1, rfl⟩
variable (hc : E.cl = run T k)
include hc in
/-- a list is copied, then one of its elements takes what a def makes of one of them -/
theorem st_mkL {i : Nat} {e ib : Tm} {f : Nat} {jb rest : Tm} {N : List Str} {X : Cx} {sc : Scope} {stb : Str → Bool} (x : XOk T G k N X sc stb) (ht : E.tbl = T.tbl) {y ln fn : Str} {p1 p2 p3 p4 p5 p6 p7 p8 p9 p10 p11 p12 p13 : Pos} {e1 i1 i2 j1 j2 : Expr} {es : List Expr} {sts : List Stmt} {m2 : Ev → M Out}
    (hi : N[i]? = some y) (hv : visB sc y = true) (hd : dbgB y = true) (hst : stb y = true) (hln : ln = "list") (hgl : glB sc "list" = true) (h1 : PE X e1 (tE G (ev E e))) (hs1 : notStar e1 = true)
    (hib : PE X (.Subscript i1 i2 p6) (tE G (ev E ib))) (hjb : PE X (.Subscript j1 j2 p7) (tE G (ev E jb))) (hrest : PA X es (tA G (ev E rest))) (hrl : ∀ ρ st d st', ev E rest ρ st = some (d, st') → ∃ l, d = .lst l ∧ l.length = es.length)
    (hf : f < T.nf) (hfn : T.fnm f = fn) (hfg : glB sc fn = true) (hfd : dbgB fn = true) (hss : es.all notStar = true) (hlen : es.length + 1 = (T.ps f).length) (h3 : PSs X sts (tS G m2)) :
    PSs X (.Assign [.Name y p1] (.Call (.Name ln p2) [e1] [] p3) p4 :: .Assign [.Subscript (.Name y p5) (.Subscript i1 i2 p6) p8] (.Call (.Name fn p9) (.Subscript (.Name y p10) (.Subscript j1 j2 p7) p11 :: es) [] p12) p13 :: sts) (tS G (mSeq (ex E (.mkL i e ib f jb rest)) m2)) := by
  subst hln
  unfold dbgB at hd hfd
  simp only [Bool.and_eq_true, Bool.not_eq_true'] at hd hfd
  have pv : ∀ q, PE X (.Name y q) (tVar i) := fun q => pe_var (by rw [x.hN]; exact hi) (by rw [x.hsc]; exact visB_ok hv) hd.1 hd.2
  obtain ⟨l1, l2⟩ := x.stb y hst
  have c1 := pe_callTy (pos := p3) (p := p2) call_list_of (x.gl hgl) (x.blt "list" (by decide)) (by decide +kernel) (pa_cons h1 pa_nil (star_ok hs1)) (by decide) (by decide) (star_ok hs1) (by rfl)
  have s1 := ps_set (pos := p4) (pos' := p1) (by rw [x.hN]; exact x.nd) (by rw [x.hN]; exact hi) (by rw [x.hsc]; exact l1) c1 rfl (by rw [x.hsc]; exact l2)
  obtain ⟨ad, fd, f1, f2, f3, f4⟩ := x.fns f hf
  have pa := pa_cons (pe_ix (pos := p11) ix_seq (pv p10) hjb (ixs_ok rfl)) hrest (star_ok rfl)
  have c2 := pe_call (pos := p12) (p := p9) f4 x.room (x.gl hfg) (by rw [← hfn]; exact f1) f2 f3 .nil pass0 pa hfd.1 (star_ok rfl) (stars_ok hss)
  have s2 := ps_asg (pos := p13) c2 (pg_sub (pos := p8) (pv p5) hib set_list) rfl rfl rfl
  refine (pss_cons s1 (pss_cons s2 h3)).imp fun D σ H ⟨C, st, ρ, o, st', hl, rs, e0, ff⟩ => ?_
  unfold mSeq at e0
  replace e0 := bnd_some e0
  obtain ⟨o1, t1, e2, e0⟩ := e0
  replace e2 := bnd_some e2
  obtain ⟨q0, t0, a0, e2⟩ := e2
  replace a0 := of_some a0
  obtain ⟨a0, rfl⟩ := a0
  replace e2 := bnd_some e2
  obtain ⟨yd, t2, a1, e2⟩ := e2
  replace e2 := bnd_some e2
  obtain ⟨l, t3, a2, e2⟩ := e2
  replace a2 := of_some a2
  obtain ⟨a2, rfl⟩ := a2
  replace e2 := bnd_some e2
  obtain ⟨jd, t4, a3, e2⟩ := e2
  replace e2 := bnd_some e2
  obtain ⟨sub, t5, a4, e2⟩ := e2
  replace a4 := of_some a4
  obtain ⟨a4, rfl⟩ := a4
  rw [Option.bind_eq_some_iff] at a4
  obtain ⟨ji, a4, a5⟩ := a4
  obtain rfl := intOf_some a4
  replace e2 := bnd_some e2
  obtain ⟨rsd, t6, a6, e2⟩ := e2
  replace e2 := bnd_some e2
  obtain ⟨rl, t7, a7, e2⟩ := e2
  replace a7 := of_some a7
  obtain ⟨a7, rfl⟩ := a7
  obtain rfl := unL_some a7
  replace e2 := bnd_some e2
  obtain ⟨r, t8, a8, e2⟩ := e2
  rw [hc] at a8
  replace e2 := bnd_some e2
  obtain ⟨kd, t9, a9, e2⟩ := e2
  replace e2 := bnd_some e2
  obtain ⟨l', t10, a10, e2⟩ := e2
  replace a10 := of_some a10
  obtain ⟨a10, rfl⟩ := a10
  rw [Option.bind_eq_some_iff] at a10
  obtain ⟨ki, a10, a11⟩ := a10
  obtain rfl := intOf_some a10
  obtain ⟨rfl, rfl⟩ := ret_some e2
  have e0' : m2 (ρ.set i (some (.lst l'))) _ = some (o, st') := e0
  have hil : i < σ.length := by
    rw [rs.1]
    exact (List.getElem?_eq_some_iff.mp a0).1
  refine ⟨C, _, ρ, yd, _, hl, rs, a1, fun vy H1 x1 hl1 r1 => ?_⟩
  have key : ∀ (pp : Addr) (ys : List V), RepL G C H1 ys l → vy = .ref pp → (SqL X.K H1 pp ys ∨ SqT X.K H1 pp ys) → ∃ p ys, [vy] = [V.ref p] ∧ (SqL X.K H1 p ys ∨ SqT X.K H1 p ys) ∧ ∀ l2, H1 l2 = none → gName i (.ref l2) σ (upd H1 l2 (.lst ys)) (fun σ' H' => tSeq (tAsg (tCall (spF T G k f) [] E0 (tCons (tOp (rIx X.K) (tVar i) (tE G (ev E jb))) (tA G (ev E rest)))) (gSub (tVar i) (tE G (ev E ib)) rSetL)) (tS G m2) D σ' H') := by
    intro pp ys ry hv sq
    subst hv
    refine ⟨pp, ys, rfl, sq, fun p hp => ?_⟩
    have over : Over C (C.and p) H1 := Cn.and_over hp
    have npc : ¬ (C.and p).m p := hl1.notM hp
    have hS : (C.and p).S p := .inr rfl
    have hl2 : Held G (C.and p) _ (upd H1 p (.lst ys)) := (hl1.new hp).and upd_same
    have rs2 : RepS G (C.and p) (upd H1 p (.lst ys)) (σ.set i (some (.ref p))) (ρ.set i none) := (((rs.ext hl x1).over over).put hS).off i _
    have ry2 : RepL G (C.and p) (upd H1 p (.lst ys)) ys l := RepL.put hS _ _ (RepL.over over _ _ ry)
    have gp : (σ.set i (some (V.ref p)))[i]? = some (some (V.ref p)) := List.getElem?_set_self hil
    have keep : ∀ {Ha Hb : Hp}, Ext (C.and p) Ha Hb → Ha p = some (.lst ys) → Hb p = some (.lst ys) := fun z w => z p _ npc (fun _ z => nomatch z) w
    refine ⟨.ref p, gp, C.and p, _, _, _, _, hl2, rs2, a3, fun vj H3 x3 hl3 r3 => ?_⟩
    cases r3
    have ry3 := RepL.ext hl2 x3 _ _ ry2
    obtain ⟨v0, g1, g2⟩ := ry3.atI a5
    refine .inl ⟨p, ys, _, v0, rfl, rfl, SqL.of (keep x3 upd_same), g1, ?_⟩
    refine ⟨C.and p, _, _, _, _, hl3, rs2.ext hl2 x3, a6, fun vs H4 x4 hl4 r4 => ?_⟩
    show spF T G k f ((v0 :: vs) ++ []) H4 _ E0
    rw [List.append_nil]
    have g3 := Rep.ext hl3 x4 _ _ g2
    refine ⟨C.and p, _, sub :: rl, r, _, hl4, .cons g3 r4, ?_, a8, fun vr H5 x5 hl5 r5 => ?_⟩
    · obtain ⟨l0, w1, w2⟩ := hrl _ _ _ _ a6
      cases w1
      rw [List.length_cons, r4.length, w2]
      exact hlen
    have rs5 := ((rs2.ext hl2 x3).ext hl3 x4).ext hl4 x5
    refine ⟨.ref p, gp, C.and p, _, _, _, _, hl5, rs5, a9, fun vk H6 x6 hl6 r6 => ?_⟩
    cases r6
    have rs6 := rs5.ext hl5 x6
    have ry6 := RepL.ext hl5 x6 _ _ (RepL.ext hl4 x5 _ _ (RepL.ext hl3 x4 _ _ ry3))
    obtain ⟨j, w1, rfl⟩ := setI_some ry6.length a11
    have hp6 : H6 p = some (.lst ys) := keep x6 (keep x5 (keep x4 (keep x3 upd_same)))
    refine ⟨p, ys, _, j, rfl, rfl, hp6, w1, ?_⟩
    have hl7 : Held G (C.and p) _ (upd H6 p (.lst (ys.set j vr))) := hl6.put npc hp6 nc_lst (fun _ z => nomatch z)
    have ry7 : RepL G (C.and p) (upd H6 p (.lst (ys.set j vr))) (ys.set j vr) (l.set j r) := RepL.put hS _ _ (ry6.set j (Rep.ext hl5 x6 _ _ r5))
    have rs7 : RepS G (C.and p) (upd H6 p (.lst (ys.set j vr))) _ _ := rs6.put hS
    have hC := hl7.unand hl1.cS
    have ry8 : RepL G C _ _ _ := RepL.less (C := C) (C2 := C.and p) rfl (fun _ z => Or.inl z) _ _ ry7
    have rs8 : RepS G C _ _ _ := rs7.less (C := C) (C2 := C.and p) rfl (fun _ z => Or.inl z)
    have rs9 := rs8.set (Rep.lst upd_same (hl1.notS hp) ry8) i
    rw [List.set_set, List.set_set] at rs9
    refine ⟨C, _, _, o, st', hC, rs9, e0', ff.ext (fun b ob hb nt hob => ?_)⟩
    have nb : b ≠ p := fun z => by
      have := x1 b ob hb nt hob
      rw [z, hp] at this; cases this
    rw [upd_ne nb]
    refine x6 b ob hb nt (x5 b ob hb nt (x4 b ob hb nt (x3 b ob hb nt ?_)))
    rw [upd_ne nb]
    exact x1 b ob hb nt hob
  rcases lst_arg a2 with rfl | rfl
  · cases r1 with
    | lst q1 q2 q3 => exact key _ _ q3 rfl (.inl (SqL.of q1))
  · cases r1 with
    | tup q1 q2 q3 => exact key _ _ q3 rfl (.inr q1.sq)
theorem dsOf_some {d : D} {kv : List Wd × List D} (h : dsOf d = some kv) : d = .dS kv.1 kv.2 ∧ kv.1.length < sizeLine := by
  cases d <;> first | (cases h; done) | skip
  rename_i ks vs
  have h' : (if fitsL (ks.length + 1) then some (ks, vs) else none) = some kv := h
  split at h'
  · rename_i hz
    cases h'
    exact ⟨rfl, fitsL_le hz⟩
  · cases h'
theorem keyInj {x k : Wd} : ((Sum.inr (toS k) : Key) = Sum.inr (toS x)) ↔ natsEq x k = true := by
  constructor
  · intro e
    cases toS_inj (Sum.inr.inj e)
    exact natsEq_iff.mpr rfl
  · intro e
    rw [natsEq_iff.mp e]
theorem put_map {w : Wd} {v : V} : ∀ (ks : List Wd) (xs : List V), ((ks.map fun x => (Sum.inr (toS x) : Key)).zip xs).map (fun kv => if kv.1 = Sum.inr (toS w) then (kv.1, v) else kv) = (ks.map fun x => (Sum.inr (toS x) : Key)).zip (setS ks xs w v)
  | [], _ => by simp [setS]
  | _ :: _, [] => by simp [setS]
  | k :: ks, x :: xs => by
    simp only [List.map_cons, List.zip_cons_cons, setS, put_map ks xs, keyInj]
    by_cases h : natsEq w k = true
    · rw [if_pos h, if_pos h]
    · rw [if_neg h, if_neg h]
theorem put_any {w : Wd} : ∀ (ks : List Wd) (xs : List V), ks.length = xs.length → ks.any (natsEq w) = true → (((ks.map fun x => (Sum.inr (toS x) : Key)).zip xs).any fun kv => decide (kv.1 = Sum.inr (toS w))) = true
  | [], _, _, h => by cases h
  | _ :: _, [], e, _ => by cases e
  | k :: ks, x :: xs, e, h => by
    simp only [List.map_cons, List.zip_cons_cons, List.any_cons, Bool.or_eq_true, decide_eq_true_eq, keyInj] at h ⊢
    rcases h with h | h
    · exact .inl h
    · exact .inr (put_any ks xs (by simpa using e) h)
theorem putS_ok {w : Wd} {v : V} {d : D} {ks : List Wd} {xs : List V} {ds ds' : List D} (hl : ks.length = xs.length) (h : putS ks ds w d = some ds') : putK ((ks.map fun x => (Sum.inr (toS x) : Key)).zip xs) (Sum.inr (toS w)) v = (ks.map fun x => (Sum.inr (toS x) : Key)).zip (setS ks xs w v) ∧ ds' = setS ks ds w d := by
  unfold putS at h
  split at h
  · rename_i hz
    cases h
    unfold putK
    rw [if_pos (put_any ks xs hl hz)]
    exact ⟨put_map ks xs, rfl⟩
  · cases h
theorem setS_rep {G : Gm} {C : Cn} {H : Hp} {w : Wd} {v : V} {d : D} (q : Rep G C H v d) : ∀ (ks : List Wd) (xs : List V) (ds : List D), RepL G C H xs ds → RepL G C H (setS ks xs w v) (setS ks ds w d)
  | [], xs, ds, r => by
    cases r
    · exact .nil
    · exact .cons ‹_› ‹_›
  | k :: ks, xs, ds, r => by
    cases r with
    | nil => exact .nil
    | cons a b =>
      unfold setS
      refine .cons ?_ (setS_rep q ks _ _ b)
      by_cases h : natsEq w k = true
      · rw [if_pos h, if_pos h]; exact q
      · rw [if_neg h, if_neg h]; exact a
theorem setS_len {α : Type} {w : Wd} {v : α} : ∀ (ks : List Wd) (xs : List α), (setS ks xs w v).length = xs.length
  | [], xs => by cases xs <;> rfl
  | _ :: _, [] => rfl
  | _ :: ks, _ :: xs => by simp [setS, setS_len ks xs]
/-- a dict is copied, then one of its keys takes another value -/
theorem st_mkD {i : Nat} {e kb vb : Tm} {N : List Str} {X : Cx} {sc : Scope} {stb : Str → Bool} (x : XOk T G k N X sc stb) {y ln : Str} {p1 p2 p3 p4 p5 p6 p8 p9 : Pos} {e1 i1 i2 v1 : Expr} {sts : List Stmt} {m2 : Ev → M Out}
    (hi : N[i]? = some y) (hv : visB sc y = true) (hd : dbgB y = true) (hst : stb y = true) (hln : ln = "dict") (hgl : glB sc "dict" = true) (h1 : PE X e1 (tE G (ev E e))) (hs1 : notStar e1 = true)
    (hkb : PE X (.Subscript i1 i2 p6) (tE G (ev E kb))) (hvb : PE X v1 (tE G (ev E vb))) (hl1 : isLC v1 = false) (hs2 : isSD v1 = false) (h3 : PSs X sts (tS G m2)) :
    PSs X (.Assign [.Name y p1] (.Call (.Name ln p2) [e1] [] p3) p4 :: .Assign [.Subscript (.Name y p5) (.Subscript i1 i2 p6) p8] v1 p9 :: sts) (tS G (mSeq (ex E (.mkD i e kb vb)) m2)) := by
  subst hln
  unfold dbgB at hd
  simp only [Bool.and_eq_true, Bool.not_eq_true'] at hd
  have pv : ∀ q, PE X (.Name y q) (tVar i) := fun q => pe_var (by rw [x.hN]; exact hi) (by rw [x.hsc]; exact visB_ok hv) hd.1 hd.2
  obtain ⟨l1, l2⟩ := x.stb y hst
  have c1 := pe_callTy (pos := p3) (p := p2) call_dictD (x.gl hgl) (x.blt "dict" (by decide)) (by decide +kernel) (pa_cons h1 pa_nil (star_ok hs1)) (by decide) (by decide) (star_ok hs1) (by rfl)
  have s1 := ps_set (pos := p4) (pos' := p1) (by rw [x.hN]; exact x.nd) (by rw [x.hN]; exact hi) (by rw [x.hsc]; exact l1) c1 rfl (by rw [x.hsc]; exact l2)
  have hsw : swapsWithSole [.Subscript (.Name y p5) (.Subscript i1 i2 p6) p8] v1 p9.line X.env = pure false := by
    cases v1 <;> first | (cases hl1; done) | (cases hs2; done) | rfl
  have s2 := ps_asg (pos := p9) hvb (pg_sub (pos := p8) (pv p5) hkb (set_dict (by have := x.hu; omega))) hsw rfl rfl
  refine (pss_cons s1 (pss_cons s2 h3)).imp fun D σ H ⟨C, st, ρ, o, st', hl, rs, e0, ff⟩ => ?_
  unfold mSeq at e0
  replace e0 := bnd_some e0
  obtain ⟨o1, t1, e2, e0⟩ := e0
  replace e2 := bnd_some e2
  obtain ⟨q0, t0, a0, e2⟩ := e2
  replace a0 := of_some a0
  obtain ⟨a0, rfl⟩ := a0
  replace e2 := bnd_some e2
  obtain ⟨yd, t2, a1, e2⟩ := e2
  replace e2 := bnd_some e2
  obtain ⟨kv, t3, a2, e2⟩ := e2
  replace a2 := of_some a2
  obtain ⟨a2, rfl⟩ := a2
  obtain ⟨a2, a3⟩ := dsOf_some a2
  subst a2
  replace e2 := bnd_some e2
  obtain ⟨xd, t4, a4, e2⟩ := e2
  replace e2 := bnd_some e2
  obtain ⟨kd, t5, a5, e2⟩ := e2
  replace e2 := bnd_some e2
  obtain ⟨w, t6, a6, e2⟩ := e2
  replace a6 := of_some a6
  obtain ⟨a6, rfl⟩ := a6
  obtain rfl := strOf_some a6
  replace e2 := bnd_some e2
  obtain ⟨vs', t7, a7, e2⟩ := e2
  replace a7 := of_some a7
  obtain ⟨a7, rfl⟩ := a7
  obtain ⟨rfl, rfl⟩ := ret_some e2
  have e0' : m2 (ρ.set i (some (.dS kv.1 vs'))) _ = some (o, st') := e0
  have hil : i < σ.length := by
    rw [rs.1]
    exact (List.getElem?_eq_some_iff.mp a0).1
  refine ⟨C, _, ρ, _, _, hl, rs, a1, fun vy H1 x1 hl1 r1 => ?_⟩
  cases r1 with
  | @dS pp _ ys _ q1 q2 q3 ry =>
  refine ⟨pp, _, rfl, .inl q1, fun p hp => ?_⟩
  have over : Over C (C.and p) H1 := Cn.and_over hp
  have npc : ¬ (C.and p).m p := hl1.notM hp
  have hS : (C.and p).S p := .inr rfl
  generalize hob : (HO.dK ((kv.1.map fun x => (Sum.inr (toS x) : Key)).zip ys)) = ob
  have hl2 : Held G (C.and p) _ (upd H1 p ob) := (hl1.new hp).and upd_same (by rw [← hob]; exact fun _ z => nomatch z)
  have rs2 : RepS G (C.and p) (upd H1 p ob) (σ.set i (some (.ref p))) (ρ.set i none) := (((rs.ext hl x1).over over).put hS).off i _
  have ry2 : RepL G (C.and p) (upd H1 p ob) ys kv.2 := RepL.put hS _ _ (RepL.over over _ _ ry)
  have gp : (σ.set i (some (V.ref p)))[i]? = some (some (V.ref p)) := List.getElem?_set_self hil
  have keep : ∀ {Ha Hb : Hp}, Ext (C.and p) Ha Hb → Ha p = some ob → Hb p = some ob := fun z w => z p _ npc (by rw [← hob]; exact fun _ z => nomatch z) w
  refine ⟨C.and p, _, _, _, _, hl2, rs2, a4, fun vr H5 x5 hl5 r5 => ?_⟩
  have rs5 := rs2.ext hl2 x5
  refine ⟨.ref p, gp, C.and p, _, _, _, _, hl5, rs5, a5, fun vk H6 x6 hl6 r6 => ?_⟩
  cases r6
  have rs6 := rs5.ext hl5 x6
  have ry6 := RepL.ext hl5 x6 _ _ (RepL.ext hl2 x5 _ _ ry2)
  have hp6 : H6 p = some ob := keep x6 (keep x5 upd_same)
  obtain ⟨w1, w2⟩ := putS_ok (v := vr) (xs := ys) (by rw [q3, ry.length]) a7
  subst w2
  refine ⟨p, _, rfl, DPut.k (k := Sum.inr (toS w)) (by rw [hp6, ← hob]) ?_, ?_⟩
  · rw [List.length_zip, List.length_map]; omega
  rw [w1]
  have hl7 : Held G (C.and p) _ (upd H6 p (.dK ((kv.1.map fun x => (Sum.inr (toS x) : Key)).zip (setS kv.1 ys w vr)))) := hl6.put npc hp6 (by rw [← hob]; exact nc_dK) (fun _ z => nomatch z)
  have ry7 := RepL.put (o := (.dK ((kv.1.map fun x => (Sum.inr (toS x) : Key)).zip (setS kv.1 ys w vr)))) hS _ _ (setS_rep (w := w) (Rep.ext hl5 x6 _ _ r5) kv.1 _ _ ry6)
  have rs7 : RepS G (C.and p) (upd H6 p (.dK ((kv.1.map fun x => (Sum.inr (toS x) : Key)).zip (setS kv.1 ys w vr)))) _ _ := rs6.put hS
  have hC := hl7.unand hl1.cS
  have ry8 : RepL G C _ _ _ := RepL.less (C := C) (C2 := C.and p) rfl (fun _ z => Or.inl z) _ _ ry7
  have rs8 : RepS G C _ _ _ := rs7.less (C := C) (C2 := C.and p) rfl (fun _ z => Or.inl z)
  have rs9 := rs8.set (Rep.dS upd_same (hl1.notS hp) (by rw [setS_len]; exact q3) ry8) i
  rw [List.set_set, List.set_set] at rs9
  refine ⟨C, _, _, o, st', hC, rs9, e0', ff.ext (fun b ob2 hb nt hob2 => ?_)⟩
  have nb : b ≠ p := fun z => by
    have := x1 b ob2 hb nt hob2
    rw [z, hp] at this; cases this
  rw [upd_ne nb]
  refine x6 b ob2 hb nt (x5 b ob2 hb nt ?_)
  rw [upd_ne nb]
  exact x1 b ob2 hb nt hob2
end
end N57
end
section
set_option maxRecDepth 100000
set_option maxHeartbeats 8000000
namespace N57
open PySem PySem.Spec PyProof.Rows L2

theorem swT_some {sc : Scope} {ts vs : List Expr} {ns : List Str} (h : swT sc ts vs = some (some ns)) : (ts.length = 2 ∨ ts.length = 3) ∧ vs.length = ts.length ∧ ∃ line, ns = nmsOf sc line ts ∧ ns.length = ts.length := by
  unfold swT at h
  split at h
  · cases h
  · rename_i g
    split at h
    · cases h
    · split at h
      · cases h
      · rename_i g3
        split at h
        · cases h
        · split at h
          · cases h
          · cases h
            simp only [Bool.or_eq_true, not_or, Bool.not_eq_true, Bool.not_eq_true', bne_iff_ne, ne_eq, Decidable.not_not, Bool.not_eq_false, beq_iff_eq] at g g3
            have g1 := g.1.1
            have g2 := g.1.2
            refine ⟨?_, ?_, _, rfl, ?_⟩
            · simpa using g1
            · simpa using g2
            · simpa using g3.1
theorem nmOne {sc : Scope} {line : Nat} {x : Str} {p : Pos} {ts : List Expr} : (sc.names.lookup x = some .local ∧ nmsOf sc line (.Name x p :: ts) = x :: nmsOf sc line ts) ∨ nmsOf sc line (.Name x p :: ts) = nmsOf sc line ts := by
  unfold nmsOf
  rw [List.filterMap_cons]
  by_cases h : (sc.names.lookup x == some .local && p.line == line) = true
  · refine .inl ⟨?_, ?_⟩
    · have := (Bool.and_eq_true_iff.mp h).1
      revert this
      cases sc.names.lookup x with
      | none => intro z; cases z
      | some k => cases k <;> intro z <;> first | rfl | cases z
    · simp only [h, if_true]
  · refine .inr ?_
    simp only [h, if_false]
    rfl
theorem nms_len {sc : Scope} {line : Nat} (ts : List Expr) : (nmsOf sc line ts).length ≤ ts.length := List.length_filterMap_le _ _
theorem nms2 {sc : Scope} {line : Nat} {x y : Str} {p q : Pos} (h : (nmsOf sc line [.Name x p, .Name y q]).length = 2) : sc.names.lookup x = some .local ∧ sc.names.lookup y = some .local ∧ nmsOf sc line [.Name x p, .Name y q] = [x, y] := by
  rcases nmOne (sc := sc) (line := line) (x := x) (p := p) (ts := [.Name y q]) with ⟨h1, e1⟩ | e1
  · rcases nmOne (sc := sc) (line := line) (x := y) (p := q) (ts := []) with ⟨h2, e2⟩ | e2
    · exact ⟨h1, h2, by rw [e1, e2]; rfl⟩
    · rw [e1, e2] at h; simp [nmsOf] at h
  · have := nms_len (sc := sc) (line := line) [.Name y q]
    rw [e1] at h
    rw [h] at this
    simp at this
theorem nms3 {sc : Scope} {line : Nat} {x y z : Str} {p q r : Pos} (h : (nmsOf sc line [.Name x p, .Name y q, .Name z r]).length = 3) : sc.names.lookup x = some .local ∧ sc.names.lookup y = some .local ∧ sc.names.lookup z = some .local ∧ nmsOf sc line [.Name x p, .Name y q, .Name z r] = [x, y, z] := by
  rcases nmOne (sc := sc) (line := line) (x := x) (p := p) (ts := [.Name y q, .Name z r]) with ⟨h1, e1⟩ | e1
  · rw [e1] at h
    obtain ⟨h2, h3, e2⟩ := nms2 (by simpa using h)
    exact ⟨h1, h2, h3, by rw [e1, e2]⟩
  · have := nms_len (sc := sc) (line := line) [.Name y q, .Name z r]
    rw [e1] at h
    rw [h] at this
    simp at this
theorem slots_cons {ts : Tg} {l : List Nat} {N : List Str} {stb : Str → Bool} {es : List Expr} (h : slotsOf ts = some l) (hc : chkT N stb ts es = true) : (ts = .nil ∧ l = [] ∧ es = []) ∨ ∃ i r l' x p es', ts = .cons (.slot i) r ∧ l = i :: l' ∧ slotsOf r = some l' ∧ es = .Name x p :: es' ∧ N[i]? = some x ∧ chkT N stb r es' = true := by
  cases ts with
  | nil => cases h; exact .inl ⟨rfl, rfl, chkT_nil hc⟩
  | slot i => cases h
  | tup t => cases h
  | cons a r =>
    cases a with
    | slot i =>
      have h' : (slotsOf r).map (i :: ·) = some l := h
      rw [Option.map_eq_some_iff] at h'
      obtain ⟨l', h1, rfl⟩ := h'
      obtain ⟨e, es', rfl, h2, h3⟩ := chkT_cons hc
      obtain ⟨x, p, e1, e2, _⟩ := chkT_slot h2
      cases e1
      exact .inr ⟨i, r, l', x, p, es', rfl, rfl, h1, rfl, e2, h3⟩
    | nil => cases h
    | cons _ _ => cases h
    | tup _ => cases h
section
variable {T : Tab} {G : Gm} {k : Nat} {E : Env0'}
structure SndS (T : Tab) (G : Gm) (k : Nat) (E : Env0') (s : Sm) : Prop where
  one : ∀ {N : List Str} {X : Cx} {sc : Scope} {stb : Str → Bool}, XOk T G k N X sc stb → ∀ st, oneS s = true → chkS T N sc stb s [st] = true → PS X st (tS G (ex E s))
  lst : ∀ {N : List Str} {X : Cx} {sc : Scope} {stb : Str → Bool}, XOk T G k N X sc stb → ∀ sts, listS s = true → chkS T N sc stb s sts = true → PSs X sts (tS G (ex E s))
theorem asg_each {N : List Str} {stb : Str → Bool} {tg : Tg} {t : Expr} {env : Env} (h0 : oneT tg = true) (h : chkT N stb tg [t] = true) : (assignEach [t] env).map (·.2) = [assign t env] := by
  cases tg with
  | slot i => obtain ⟨y, p, e, _⟩ := chkT_slot h; cases e; rfl
  | tup ts => obtain ⟨y, k, p, e, _⟩ := chkT_tup h; cases e; rfl
  | nil => cases h0
  | cons _ _ => cases h0
variable (A : ∀ t : Tm, Snd T G k E t)
include A in
theorem sndS_asg (tg : Tg) (e : Tm) : SndS T G k E (.asg tg e) where
  one {N X sc stb} x st hz h := by
    cases st <;> first | (cases h; done) | skip
    rename_i ts v pos
    rcases ts with _ | ⟨t, _ | ⟨t2, r⟩⟩
    · cases h
    · have h' := h
      simp only [chkS, Bool.and_eq_true, Bool.not_eq_true'] at h'
      obtain ⟨⟨⟨⟨⟨h1, h2⟩, h3⟩, h4⟩, h5⟩, h6⟩ := h'
      have hsc := x.hsc
      have hk := x.fun_
      cases hw : swE sc t v with
      | none => rw [hw] at h6; cases h6
      | some o =>
        rw [hw] at h6
        cases o with
        | none =>
          have h6' : (!swW sc t v || (isCmp e && isLC v)) = true := h6
          cases hv : swW sc t v with
          | false => exact st_asg ((A e).pe x v h2 h3) ((t_ok x tg).1 t h1 h4) (swW_no hsc hk h5 hv) (swE_ok hsc hk hw) (asg_each h1 h4)
          | true =>
            rw [hv] at h6'
            simp only [Bool.not_true, Bool.false_or, Bool.and_eq_true] at h6'
            clear hz
            cases e <;> first | (cases h6'.1; done) | skip
            rename_i tg2 kd a b c e2
            obtain ⟨y, yp, elt, gens, scope, p, rfl, rfl, hl, hsw⟩ := swW_yes (line := pos.line) hsc hk hv
            obtain ⟨elt', t', it', ifs', scope', pos', e0⟩ := comp_inv h3
            cases e0
            have q := comp_ok (A a) (A b) (A c) (A e2) x h3
            cases tg with
            | slot i =>
              obtain ⟨y', p', e1, e3, _⟩ := chkT_slot h4
              cases e1
              have z := st_asgLc (G := G) (i := i) x.calm (by rw [x.hN]; exact x.nd) (by rw [x.hN]; exact e3) (by rw [hsc]; exact hl) hsw q.pi q.ok q.own q.hg q.ht q.he q.hs
              show PS X _ (tS G (mAsg (.slot i) (ev E (.comp tg2 kd a b c e2))))
              rw [ev_comp]
              exact z
            | tup ts => obtain ⟨_, _, _, e1, _⟩ := chkT_tup h4; cases e1
            | nil => cases h1
            | cons _ _ => cases h1
        | some ns =>
          simp only [Bool.and_eq_true, Bool.not_eq_true'] at h6
          obtain ⟨⟨⟨h7, h8⟩, h9⟩, h10⟩ := h6
          cases v <;> first | (cases h9; done) | skip
          cases t <;> first | (cases h10; done) | skip
          rename_i vs k2 pt2 ts kt pt
          clear hz
          cases tg <;> first | (cases h8; done) | skip
          cases e <;> first | (cases h8; done) | skip
          rename_i tgs as
          have hw' : swT sc ts vs = some (some ns) := hw
          obtain ⟨hl, hlv, line, hns, hnl⟩ := swT_some hw'
          obtain ⟨_, _, _, e1, _, hct⟩ := chkT_tup h4
          cases e1
          have h8' : (match slotsOf tgs with
            | some l => distinct l
            | none => false) = true := h8
          cases hso : slotsOf tgs with
          | none => rw [hso] at h8'; cases h8'
          | some l =>
            rw [hso] at h8'
            have h3' := h3
            simp only [chk, Bool.and_eq_true] at h3'
            have pa := fun vs' (e : vs = vs') => (A as).pa x vs' h3'.2 (e ▸ h3'.1.1)
            have hsl := swW_no (line := pos.line) hsc hk h5 h7
            have hsw := swE_ok hsc hk hw
            rcases slots_cons hso hct with ⟨_, _, rfl⟩ | ⟨i, r, l', x1, p1, es1, rfl, rfl, hs1, rfl, n1, c1⟩
            · simp at hl
            rcases slots_cons hs1 c1 with ⟨_, _, rfl⟩ | ⟨j, r2, l2, x2, p2, es2, rfl, rfl, hs2, rfl, n2, c2⟩
            · simp at hl
            have hij : i ≠ j := by
              intro z
              rw [z] at h8'
              have h8'' : (!(j :: l2 : List Nat).any (Nat.beq j) && distinct (j :: l2)) = true := h8'
              simp at h8''
            rcases slots_cons hs2 c2 with ⟨rfl, rfl, rfl⟩ | ⟨n, r3, l3, x3, p3, es3, rfl, rfl, hs3, rfl, n3, c3⟩
            · obtain ⟨q1, q2, q3⟩ := nms2 (sc := sc) (line := line) (by rw [← hns]; exact hnl)
              rw [q3] at hns
              subst hns
              rcases vs with _ | ⟨v1, _ | ⟨v2, _ | ⟨v3, vs⟩⟩⟩
              · simp at hlv
              · simp at hlv
              · exact st_par2 x.calm (by rw [x.hN]; exact x.nd) (by rw [x.hN]; exact n1) (by rw [x.hN]; exact n2) hij (by rw [hsc]; exact q1) (by rw [hsc]; exact q2) (pa _ rfl) hsw hsl
              · simp at hlv
            rcases slots_cons hs3 c3 with ⟨rfl, rfl, rfl⟩ | ⟨n4, r4, l4, x4, p4, es4, rfl, rfl, hs4, rfl, n4', c4⟩
            · have hjn : j ≠ n ∧ i ≠ n := by
                have h8'' : (!([j, n] : List Nat).any (Nat.beq i) && (!([n] : List Nat).any (Nat.beq j) && true)) = true := h8'
                constructor
                · intro z; rw [z] at h8''; simp at h8''
                · intro z; rw [z] at h8''; simp at h8''
              obtain ⟨q1, q2, q3, q4⟩ := nms3 (sc := sc) (line := line) (by rw [← hns]; exact hnl)
              rw [q4] at hns
              subst hns
              rcases vs with _ | ⟨v1, _ | ⟨v2, _ | ⟨v3, _ | ⟨v4, vs⟩⟩⟩⟩
              · simp at hlv
              · simp at hlv
              · simp at hlv
              · exact st_par3 x.calm (by rw [x.hN]; exact x.nd) (by rw [x.hN]; exact n1) (by rw [x.hN]; exact n2) (by rw [x.hN]; exact n3) hij hjn.2 hjn.1 (by rw [hsc]; exact q1) (by rw [hsc]; exact q2) (by rw [hsc]; exact q3) (pa _ rfl) hsw hsl
              · simp at hlv
            · simp at hl
    · cases h
  lst x sts h _ := by cases h
theorem sndS_nil : SndS T G k E .nil where
  one x st h _ := by cases h
  lst x sts _ h := by
    cases sts with
    | nil => exact st_nil
    | cons _ _ => cases h
theorem chkS_cons {N : List Str} {sc : Scope} {stb : Str → Bool} {s r : Sm} (h : twoS s = false) {st : Stmt} {sts : List Stmt} : chkS T N sc stb (.cons s r) (st :: sts) = (oneS s && chkS T N sc stb s [st] && chkS T N sc stb r sts) := by
  cases s <;> first | rfl | cases h
theorem chkS_cons0 {N : List Str} {sc : Scope} {stb : Str → Bool} {s r : Sm} (h : twoS s = false) : chkS T N sc stb (.cons s r) [] = false := by
  cases s <;> first | rfl | cases h
variable (ht : E.tbl = T.tbl) (hc : E.cl = run T k)
include A ht hc in
theorem sndS_cons {s r : Sm} (is : SndS T G k E s) (ir : SndS T G k E r) : SndS T G k E (.cons s r) where
  one x st h _ := by cases h
  lst {N X sc stb} x sts hl h := by
    have hl' : ((oneS s || twoS s) && listS r) = true := hl
    simp only [Bool.and_eq_true] at hl'
    cases h2 : twoS s with
    | false =>
      cases sts with
      | nil => rw [chkS_cons0 h2] at h; cases h
      | cons st sts =>
        rw [chkS_cons h2] at h
        simp only [Bool.and_eq_true] at h
        exact st_cons (is.one x st h.1.1 h.1.2) (ir.lst x sts hl'.2 h.2)
    | true =>
      clear hl
      cases s <;> first | (cases h2; done) | skip
      · rename_i i e ib f jb rest
        cases hm : mkLArgs sts with
        | none =>
          have h' : (match mkLArgs sts with
            | some m => _
            | none => false) = true := h
          rw [hm] at h'; cases h'
        | some m =>
          have e0 := mkL_ok hm
          subst e0
          have h' : (decide (N[i]? = some m.y) && visB sc m.y && dbgB m.y && stb m.y && decide (m.ln = ("list" : Str)) && glB sc "list" && (plainT e && chk T N e sc [m.e1]) && notStar m.e1 && (plainT ib && chk T N ib sc [.Subscript m.i1 m.i2 m.p6]) && (plainT jb && chk T N jb sc [.Subscript m.j1 m.j2 m.p7]) &&
      chk T N rest sc m.es && isL rest && Nat.blt f T.nf && decide (T.fnm f = m.fn) && glB sc m.fn && dbgB m.fn && m.es.all notStar && Nat.beq (m.es.length + 1) (T.ps f).length && chkS T N sc stb r m.sts) = true := by
            have h' := h
            unfold chkS at h'
            rw [hm] at h'
            exact h'
          simp only [Bool.and_eq_true, decide_eq_true_eq] at h'
          obtain ⟨⟨⟨⟨⟨⟨⟨⟨⟨⟨⟨⟨⟨⟨⟨⟨⟨⟨a1, a2⟩, a3⟩, a4⟩, a5⟩, a6⟩, a7⟩, a8⟩, a9⟩, a10⟩, a11⟩, a12⟩, a13⟩, a14⟩, a15⟩, a16⟩, a17⟩, a18⟩, a19⟩ := h'
          exact st_mkL hc x ht a1 a2 a3 a4 a5 a6 ((A e).pe x _ a7.1 a7.2) a8 ((A ib).pe x _ a9.1 a9.2) ((A jb).pe x _ a10.1 a10.2) ((A rest).pa x _ a12 a11) (isL_len rest sc _ a12 a11) (Nat.le_of_ble_eq_true a13) a14 a15 a16 a17 (Nat.eq_of_beq_eq_true a18) (ir.lst x _ hl'.2 a19)
      · rename_i i e kb v
        cases hm : mkDArgs sts with
        | none =>
          have h' : (match mkDArgs sts with
            | some m => _
            | none => false) = true := h
          rw [hm] at h'; cases h'
        | some m =>
          have e0 := mkD_ok hm
          subst e0
          have h' : (decide (N[i]? = some m.y) && visB sc m.y && dbgB m.y && stb m.y && decide (m.ln = ("dict" : Str)) && glB sc "dict" && (plainT e && chk T N e sc [m.e1]) && notStar m.e1 && (plainT kb && chk T N kb sc [.Subscript m.i1 m.i2 m.p6]) && (plainT v && chk T N v sc [m.v1]) && !isLC m.v1 && !isSD m.v1 && chkS T N sc stb r m.sts) = true := by
            have h' := h
            unfold chkS at h'
            rw [hm] at h'
            exact h'
          simp only [Bool.and_eq_true, decide_eq_true_eq, Bool.not_eq_true'] at h'
          obtain ⟨⟨⟨⟨⟨⟨⟨⟨⟨⟨⟨⟨a1, a2⟩, a3⟩, a4⟩, a5⟩, a6⟩, a7⟩, a8⟩, a9⟩, a10⟩, a11⟩, a12⟩, a13⟩ := h'
          exact st_mkD x a1 a2 a3 a4 a5 a6 ((A e).pe x _ a7.1 a7.2) a8 ((A kb).pe x _ a9.1 a9.2) ((A v).pe x _ a10.1 a10.2) a11 a12 (ir.lst x _ hl'.2 a13)
theorem testy_plain {c : Tm} (h : testy c = true) : plainT c = true := by
  cases c <;> first | rfl | cases h
include A in
theorem sndS_iff {c : Tm} {a b : Sm} (ia : SndS T G k E a) (ib : SndS T G k E b) : SndS T G k E (.iff c a b) where
  one x st _ h := by
    cases st <;> first | (cases h; done) | skip
    have h' := h
    simp only [chkS, Bool.and_eq_true] at h'
    obtain ⟨⟨⟨⟨⟨h1, h2⟩, h3⟩, h4⟩, h5⟩, h6⟩ := h'
    exact st_if ((A c).pt x _ h1 h2) (ia.lst x _ h3 h4) (ib.lst x _ h5 h6)
  lst x sts h _ := by cases h
include A in
theorem sndS_ret {e : Tm} : SndS T G k E (.ret e) where
  one x st _ h := by
    cases st <;> first | (cases h; done) | skip
    rename_i v pos
    cases v <;> first | (cases h; done) | skip
    have h' := h
    simp only [chkS, Bool.and_eq_true] at h'
    exact st_ret ((A e).pe x _ h'.1 h'.2)
  lst x sts h _ := by cases h
include A in
theorem sndS_exp {e : Tm} : SndS T G k E (.exp e) where
  one x st _ h := by
    cases st <;> first | (cases h; done) | skip
    rename_i v pos
    have h' := h
    simp only [chkS, Bool.and_eq_true, Bool.not_eq_true'] at h'
    obtain ⟨⟨⟨h1, h2⟩, h3⟩, h4⟩ := h'
    refine st_exp ((A e).pe x _ h1 h2) ?_
    cases v <;> first | (cases h3; done) | (cases h4; done) | rfl
  lst x sts h _ := by cases h
include A in
theorem sndS_for {tg : Tg} {kd : IK} {a b : Tm} {body : Sm} (ib : SndS T G k E body) : SndS T G k E (.forr tg kd a b body) where
  one x st _ h := by
    cases st <;> first | (cases h; done) | skip
    rename_i t it bd els pos
    cases els <;> first | (cases h; done) | skip
    have h' := h
    simp only [chkS, Bool.and_eq_true] at h'
    obtain ⟨⟨⟨⟨⟨h1, h2⟩, h3⟩, h4⟩, h5⟩, h6⟩ := h'
    exact st_for (by rw [x.nox]; exact PassesOwn.never) x.calm (iarg x (A a) (A b) h4) ((t_ok x tg).1 t h1 h2) (ib.lst x _ h5 h6) (fun z => set_ok h3 z)
  lst x sts h _ := by cases h
include A in
theorem sndS_whl {c : Tm} {body : Sm} (ib : SndS T G k E body) : SndS T G k E (.whl c body) where
  one x st _ h := by
    cases st <;> first | (cases h; done) | skip
    rename_i t bd els pos
    cases els <;> first | (cases h; done) | skip
    have h' := h
    simp only [chkS, Bool.and_eq_true] at h'
    obtain ⟨⟨⟨h1, h2⟩, h3⟩, h4⟩ := h'
    exact st_while (n := turns) (by rw [x.nox]; exact PassesOwn.never) ((A c).pt x _ h1 h2) (ib.lst x _ h3 h4)
  lst x sts h _ := by cases h
include A in
theorem sndS_cs {i : Nat} {b : Bool} {e : Tm} : SndS T G k E (.cs i b e) where
  one {N X sc stb} x st hz h := by
    cases st <;> first | (cases h; done) | skip
    rename_i ts v pos
    rcases ts with _ | ⟨t, _ | ⟨t2, r⟩⟩
    · cases h
    · cases t <;> first | (cases h; done) | skip
      rename_i o ix p
      cases o <;> first | (cases h; done) | skip
      cases ix <;> first | (cases h; done) | skip
      rename_i y p1 c j p2
      cases c <;> first | (cases h; done) | skip
      rename_i n
      have h' := h
      simp only [chkS, Bool.and_eq_true, decide_eq_true_eq, Bool.not_eq_true'] at h'
      obtain ⟨⟨⟨⟨⟨⟨a1, a2⟩, a3⟩, a4⟩, a5⟩, a6⟩, a7⟩ := h'
      exact st_cs x a1 a2 a3 a4 ((A e).pe x _ a5.1 a5.2) a6 a7
    · cases t <;> first | (cases h; done) | skip
      rename_i o ix p
      cases o <;> first | (cases h; done) | skip
      cases ix <;> first | (cases h; done) | skip
      rename_i y p1 c j p2
      cases c <;> cases h
  lst x sts h _ := by cases h
theorem sndS_two {s : Sm} (h : twoS s = true) : SndS T G k E s where
  one x st h1 _ := by cases s <;> first | (cases h; done) | cases h1
  lst x sts h1 _ := by cases s <;> first | (cases h; done) | cases h1
theorem sndS_bad : SndS T G k E .bad where
  one x st _ _ := ⟨fun _ _ _ _ _ _ ⟨_, _, _, _, _, _, _, e, _⟩ => by cases e⟩
  lst x sts h _ := by cases h
include A ht hc in
theorem sndS_all : ∀ s : Sm, SndS T G k E s
  | .nil => sndS_nil
  | .cons s r => sndS_cons A ht hc (sndS_all s) (sndS_all r)
  | .asg tg e => sndS_asg A tg e
  | .iff c a b => sndS_iff A (sndS_all a) (sndS_all b)
  | .ret e => sndS_ret A
  | .forr tg k a b body => sndS_for A (sndS_all body)
  | .whl c body => sndS_whl A (sndS_all body)
  | .exp e => sndS_exp A
  | .cs i b e => sndS_cs A
  | .mkL .. => sndS_two rfl
  | .mkD .. => sndS_two rfl
  | .bad => sndS_bad
end
end N57
end
section
set_option maxRecDepth 100000
set_option maxHeartbeats 8000000
namespace N57
open PySem PySem.Spec PyProof.Rows L2

/-- what may be stored in a def -/
def fnSt (sc : Scope) (x : Str) : Bool := match sc.names.lookup x with
  | some .local => true | some .cell => true | _ => false
/-- a def's text against its tree -/
def defB (T : Tab) (f : Nat) (body : List Stmt) (sc : Scope) : Bool :=
  C8.scC (T.ns f) (T.ps f) sc && listS (T.df f).body && chkS T (T.ns f) sc (fnSt sc) (T.df f).body body && Nat.beq (T.df f).ar (T.ps f).length && Nat.beq (T.df f).nn (T.ns f).length
section
variable {P : Program} {w : World} {K : PySem.W.Frag} {mg : Str → Option Value} {base : Heap} {T : Tab} {G : Gm}
theorem start_rep {C : Cn} {H : Hp} : ∀ {vs : List V} {ds : List D}, RepL G C H vs ds → ∀ (N : List Str), RepS G C H (L2.start N vs) (startE N.length ds) := by
  intro vs ds r N
  have hl := r.length
  unfold L2.start startE
  refine ⟨by simp [hl], fun i d h => ?_⟩
  by_cases hi : i < ds.length
  · rw [List.getElem?_append_left (by simpa using hi), List.getElem?_map] at h
    rw [List.getElem?_append_left (by rw [List.length_map, hl]; exact hi), List.getElem?_map]
    cases e : ds[i]? with
    | none => rw [e] at h; cases h
    | some d' =>
      rw [e] at h
      cases h
      obtain ⟨v, a1, a2⟩ := r.get e
      exact ⟨v, by rw [a1]; rfl, a2⟩
  · rw [List.getElem?_append_right (by simpa using hi), List.getElem?_replicate] at h
    split at h <;> cases h
/-- a def of the module -/
def DefAt (K : PySem.W.Frag) (mg : Str → Option Value) (base : Heap) (T : Tab) (G : Gm) (f : Nat) : Prop := ∃ (a : Addr) (name qual : Str) (params : Arguments) (body : List Stmt) (scope : Scope) (oc : Value) (od : Option Addr) (dV kV doc pm : Value) (an : Option Addr) (cdv ct : Value) (osl : Array (Option Value)),
  K.lookup a = some ⟨oc, od, .func (PySem.W.fnOf name qual params body scope dV kV doc pm an cdv ct), osl⟩ ∧ PySem.W.codeIn K cdv qual = true ∧ PySem.W.keepIn K (.ref a) = true ∧ mg (T.fnm f) = some (.ref a) ∧ L2.Binds K (PySem.W.fnOf name qual params body scope dV kV doc pm an cdv ct) (T.ps f) [] ∧ defB T f body scope = true ∧
  (T.ns f = T.lamN → ∃ c P, cdv = .ref c ∧ LamX.TabB base mg c P ∧ (P, qual ++ ".<locals>." ++ "<lambda>") ∈ G.tabs ∧ ∀ p ∈ G.tabs, p.1 = P → p.2 = qual ++ ".<locals>." ++ "<lambda>")
/-- what is known of the module behind its top -/
structure Mod (base : Heap) (K : PySem.W.Frag) (mg : Str → Option Value) (T : Tab) (G : Gm) : Prop where
  tbl : G.tbl = T.tbl
  def_ : ∀ f, f < T.nf → DefAt K mg base T G f
  gls : ∀ g, g < T.ng → ∃ u v, mg (T.gnm g) = some u ∧ L2.RelV v u ∧ ∀ C H, Rep G C H v (T.gval g)
  blt : ∀ n ∈ ["len", "abs", "int", "max", "sum", "all", "list", "tuple", "dict", "isinstance", "sorted", "set", "zip", "enumerate", "range", "bool", "str"], mg (Str.ofString n) = none
  rk : Rk G
  rk2 : Rk2 G
/-- a context with what the module has -/
theorem xok_of (M : Mod base K mg T G) (hK : K = G.K) (hw : w = G.w) {k : Nat} {N : List Str} {X : Cx} {sc : Scope} {stb : Str → Bool} (eK : X.K = K) (ew : X.w = w) (em : X.mg = mg) (eN : X.N = N) (nd : N.Nodup) (es : X.env.scope = sc) (ek : sc.kind = .function) (ec : X.calm = true) (ex : X.xe = fun _ _ => False)
    (est : ∀ x, stb x = true → Loc sc x ∧ (X.fn x = true ∨ sc.names.lookup x = some .local)) (er : Room (k + 1) X.A) (el : N = T.lamN → LamAt G X)
    (fns : ∀ f, f < T.nf → ∃ a fd, X.mg (T.fnm f) = some (.ref a) ∧ PySem.W.keepIn X.K (.ref a) = true ∧ L2.Binds X.K fd (T.ps f) [] ∧ FnOk X.prog X.w X.K X.mg X.base CX0 (k + 1) a fd (T.ps f) (spF T G k f)) : XOk T G k N X sc stb :=
  ⟨eK.trans hK, ew.trans hw, eN, nd, es, ek, ec, ex, est, er, M.tbl, fns, by rw [em]; exact M.gls, el, by rw [em]; exact M.blt⟩
theorem lam_cx {Cw : CXT} {N : List Str} {qual : Str} {scope : Scope} {a : Addr} {cdv : Value} {A : Around} {outer : List Env} {s : Shared} {H : Hp} {E : XK} (h : ∃ c P, cdv = .ref c ∧ LamX.TabB base mg c P ∧ (P, qual ++ ".<locals>." ++ "<lambda>") ∈ G.tabs ∧ ∀ p ∈ G.tabs, p.1 = P → p.2 = qual ++ ".<locals>." ++ "<lambda>") : LamAt G (cxOf Cw P w K mg base N qual scope a cdv A outer s H E).nox := by
  obtain ⟨c, P', z1, z2, z3, z4⟩ := h
  subst z1
  have hq : (cxOf Cw P w K mg base N qual scope a (.ref c) A outer s H E).nox.env.qual = qual ++ ".<locals>." := rfl
  unfold LamAt
  rw [hq]
  exact ⟨c, P', z2, rfl, z3, z4⟩
theorem body_ok (M : Mod base K mg T G) (hK : K = G.K) (hw : w = G.w) {k : Nat} (fns : ∀ f, f < T.nf → ∃ a fd, mg (T.fnm f) = some (.ref a) ∧ PySem.W.keepIn K (.ref a) = true ∧ L2.Binds K fd (T.ps f) [] ∧ FnOk P w K mg base CX0 (k + 1) a fd (T.ps f) (spF T G k f))
    {N : List Str} {X : Cx} {sc : Scope} {stb : Str → Bool} (x : XOk T G k N X sc stb) {s : Sm} {sts : List Stmt} (h1 : listS s = true) (h2 : chkS T N sc stb s sts = true) : PSs X sts (tS G (ex (env0 T (run T k)) s)) :=
  (sndS_all (E := env0 T (run T k)) (fun t => (snd_all (E := env0 T (run T k)) rfl rfl rfl M.rk M.rk2 t).1) rfl rfl s).lst x sts h1 h2
theorem fns_ok (M : Mod base K mg T G) (hK : K = G.K) (hw : w = G.w) : ∀ k f, f < T.nf → ∃ a fd, mg (T.fnm f) = some (.ref a) ∧ PySem.W.keepIn K (.ref a) = true ∧ L2.Binds K fd (T.ps f) [] ∧ FnOk P w K mg base CX0 (k + 1) a fd (T.ps f) (spF T G k f) := by
  intro k
  induction k with
  | zero =>
    intro f hf
    obtain ⟨a, name, qual, params, body, scope, oc, od, dV, kV, doc, pm, an, cdv, ct, osl, lk, hcd, kp, hm, hb, hB, hlm⟩ := M.def_ f hf
    unfold defB at hB
    simp only [Bool.and_eq_true] at hB
    refine ⟨a, _, hm, kp, hb, fn_of lk hcd (C8.fnScope_by hB.1.1.1.1) (fun vs H Q E ⟨C, st, ds, d, st', _, _, hl, _⟩ => hl) ?_⟩
    rintro A outer s H vs Q E hr ⟨C, st, ds, d, st', _, _, _, e, _⟩
    cases e
  | succ k ih =>
    intro f hf
    obtain ⟨a, name, qual, params, body, scope, oc, od, dV, kV, doc, pm, an, cdv, ct, osl, lk, hcd, kp, hm, hb, hB, hlm⟩ := M.def_ f hf
    unfold defB at hB
    simp only [Bool.and_eq_true] at hB
    obtain ⟨⟨⟨⟨b1, b2⟩, b3⟩, b4⟩, b5⟩ := hB
    have S := C8.fnScope_by b1
    refine ⟨a, _, hm, kp, hb, fn_of lk hcd S (fun vs H Q E ⟨C, st, ds, d, st', _, _, hl, _⟩ => hl) ?_⟩
    rintro A outer s H vs Q E hr ⟨C, st, ds, d, st', hl, r, len, e, ff⟩
    have x : XOk T G k (T.ns f) (cxOf CX0 P w K mg base (T.ns f) qual scope a cdv A outer s H E).nox scope (fnSt scope) :=
      xok_of M hK hw rfl rfl rfl rfl S.nd rfl S.kind rfl rfl (fun y hy => by
        unfold fnSt at hy
        split at hy
        · exact ⟨.inl (by assumption), .inl rfl⟩
        · exact ⟨.inr (by assumption), .inl rfl⟩
        · cases hy) hr (fun e => lam_cx (hlm e)) ih
    refine ⟨_, (body_ok (P := P) (base := base) M hK hw ih x b2 b3).nox, C, st, startE (T.df f).nn ds, ?_⟩
    unfold run at e
    split at e
    · replace e := bnd_some e
      obtain ⟨o, s1, e1, e2⟩ := e
      obtain ⟨rfl, rfl⟩ := ret_some e2
      refine ⟨o, _, hl, ?_, e1, ?_⟩
      · rw [Nat.eq_of_beq_eq_true b5]
        exact start_rep r _
      · cases o with
        | nx ρ => exact fun σ' H' x' h' r' => ff .non H' x' h' .non
        | rt d => exact fun v H' x' h' r' => ff v H' x' h' r'
    · cases e
end
end N57
end
section
set_option maxRecDepth 100000
set_option maxHeartbeats 4000000
/-! Each def's text is its tree: a look in the kernel, early. -/
namespace N57
open PySem PySem.Spec PyProof.Rows L2
def parB (a : Arguments) (ps : List Str) : Bool := match a with
  | ⟨[], as, none, [], [], none, []⟩ => decide (as.map (·.arg) = ps)
  | _ => false
theorem parB_ok {a : Arguments} {ps : List Str} (h : parB a ps = true) : ∃ as, a = ⟨[], as, none, [], [], none, []⟩ ∧ as.map (·.arg) = ps := by
  unfold parB at h
  split at h
  · exact ⟨_, rfl, of_decide_eq_true h⟩
  · cases h
def hDef (f : Nat) : Bool := let st := stOf (tab.fnm f)
  parB (C8.fnArgs st) (tab.ps f) && defB tab f (C8.fnBody st) (C8.fnScope st)
theorem hDefs : (List.range 79).all hDef = true := by decide +kernel
end N57
end
section
set_option maxRecDepth 100000
set_option maxHeartbeats 8000000
namespace N57
open PySem PySem.Spec PyProof.Rows L2

/-! ### d.get -/
theorem m1_of {X : Cx} {o e : Expr} {m : Str} {ap cp : Pos} (ho : isNm o = true) (hl : (ap.endLine == cp.line) = true) (he : notStar e = true) : M1 X o m ap e cp := by
  cases o <;> first | (cases ho; done) | skip
  have hs : starEach [e] X.env = [(false, eval e X.env)] := star_ok he
  refine ⟨by rfl, ?_, hl, ?_⟩
  · rw [hs]; rfl
  · rw [hs]; rfl
theorem m2_of {X : Cx} {o e f : Expr} {m : Str} {ap cp : Pos} (ho : isNm o = true) (hl : (ap.endLine == cp.line) = true) (he : notStar e = true) (hf : notStar f = true) : M2 X o m ap e f cp := by
  cases o <;> first | (cases ho; done) | skip
  have hs2 : starEach [f] X.env = [(false, eval f X.env)] := star_ok hf
  have hs : starEach [e, f] X.env = [(false, eval e X.env), (false, eval f X.env)] := (star_ok he).trans (by rw [hs2])
  refine ⟨by rfl, ?_, hl, ?_⟩
  · rw [hs]; rfl
  · rw [hs]; rfl
def IsK (K : PySem.W.Frag) (w : World) (H : Hp) (a : Addr) : Prop := IsD H a ∨ ∃ es n, KDict K w a es n
def GetK (K : PySem.W.Frag) (w : World) (H : Hp) (a : Addr) (y d v : V) : Prop := (∃ o, DGet H a y o ∧ v = o.getD d) ∨ ∃ es n z r, KDict K w a es n ∧ y = .str z ∧ PySem.W.nsIn K a z = some r ∧ ((r = none ∧ v = d) ∨ ∃ u0, r = some u0 ∧ L2.RelV v u0)
def tG1 (K : PySem.W.Frag) (w : World) (td ty : TE) : TE := fun σ H Q => td σ H fun x H1 => ∃ a, x = .ref a ∧ IsK K w H1 a ∧ ty σ H1 fun y H2 => ∃ v, GetK K w H2 a y .non v ∧ Q v H2
def tG2 (K : PySem.W.Frag) (w : World) (td ty tx : TE) : TE := fun σ H Q => td σ H fun x H1 => ∃ a, x = .ref a ∧ IsK K w H1 a ∧ ty σ H1 fun y H2 => tx σ H2 fun z H3 => ∃ v, GetK K w H3 a y z v ∧ Q v H3
section
variable {X : Cx} {o e f : Expr} {apos cpos : Pos} {td ty tx : TE}
theorem isK_at {pins : List (Addr × Obj)} {σ : L2.St} {H : Hp} {s : Shared} {a : Addr} (I : Inv X pins σ H s) (d : IsK X.K X.w H a) :
    s.TypeIs (.ref a) "dict" ∧ (∀ b, Value.ref a = .ref b → ∃ ob, s.heap.get? b = some ob ∧ ob.dict = none) := by
  rcases d with d | ⟨es, n, D⟩
  · exact ⟨(isD_at I d).1, (isD_at I d).2.1⟩
  · refine ⟨kd_type D I, fun b q => ?_⟩
    cases q
    exact ⟨_, I.kIn _ _ D.at_, rfl⟩
theorem getK1 {pins : List (Addr × Obj)} {σ : L2.St} {H : Hp} {s : Shared} {a : Addr} {y v : V} {u : Value} {A : Around} {E : Value → Shared → Prop} {Q : Value → Shared → Prop} (hu : A.units + 1 < cLine) (I : Inv X pins σ H s) (g : GetK X.K X.w H a y .non v) (ry : L2.RelV y u)
    (h : ∀ w' s', Inv X pins σ H s' → L2.RelV v w' → Q w' s') : wpAny (model X.prog X.w) A (call (.builtin "dict.get") [.ref a, u]) Q E s := by
  rcases g with ⟨o, g, rfl⟩ | ⟨es, n, z, r, D, rfl, hr, g⟩
  · exact d_get1 hu I g ry h
  · obtain ⟨t, rfl⟩ := ry
    refine call_meetsIn PySem.F.slot_dict_get (kd_type D I) PySem.F.entry_dict_get (PySem.F.args_dict_get_2 _ _) (meets_dict_get (strKind X.prog X.w) a (PySem.strKind_is X.prog X.w z t) D.low) ⟨_, PySem.W.mapOf_K (prog := X.prog) I.kIn D.at_ D.lit, h _ _ (I.tok _) ?_⟩
    rw [PySem.W.find_K D.at_ hr]
    rcases g with ⟨rfl, rfl⟩ | ⟨u0, rfl, rv⟩
    · rfl
    · exact rv
theorem getK2 {pins : List (Addr × Obj)} {σ : L2.St} {H : Hp} {s : Shared} {a : Addr} {y d v : V} {u dv : Value} {A : Around} {E : Value → Shared → Prop} {Q : Value → Shared → Prop} (hu : A.units + 1 < cLine) (I : Inv X pins σ H s) (g : GetK X.K X.w H a y d v) (ry : L2.RelV y u) (rd : L2.RelV d dv)
    (h : ∀ w' s', Inv X pins σ H s' → L2.RelV v w' → Q w' s') : wpAny (model X.prog X.w) A (call (.builtin "dict.get") [.ref a, u, dv]) Q E s := by
  rcases g with ⟨o, g, rfl⟩ | ⟨es, n, z, r, D, rfl, hr, g⟩
  · exact d_get2 hu I g ry rd h
  · obtain ⟨t, rfl⟩ := ry
    refine call_meetsIn PySem.F.slot_dict_get (kd_type D I) PySem.F.entry_dict_get (PySem.F.args_dict_get_3 _ _ _) (meets_dict_get_default (strKind X.prog X.w) a (PySem.strKind_is X.prog X.w z t) D.low dv) ⟨_, PySem.W.mapOf_K (prog := X.prog) I.kIn D.at_ D.lit, h _ _ (I.tok _) ?_⟩
    rw [PySem.W.find_K D.at_ hr]
    rcases g with ⟨rfl, rfl⟩ | ⟨u0, rfl, rv⟩
    · exact rd
    · exact rv
theorem pe_g1 (hu : X.A.units + 1 < cLine) (ho : PE X o td) (he : PE X e ty) (m : M1 X o "get" apos e cpos) : PE X (.Call (.Attribute o "get" apos) [e] [] cpos) (tG1 X.K X.w td ty) := by
  refine ⟨fun pins s σ H Q I h => ?_⟩
  refine wpAny_Call_method m.base m.few m.line PySem.F.plainAttrs_dict PySem.F.slot_dict_get PySem.F.type_dict_get (thn (ho.run pins s σ H _ I h) fun u s1 ⟨x, H1, I1, rx, a, ex, d, q1⟩ => ?_)
  subst ex
  obtain rfl : u = Value.ref a := rx
  obtain ⟨t1, t2⟩ := isK_at I1 d
  refine ⟨t1, t2, ?_⟩
  rw [m.trees]
  refine Calls.callWith_builtin rfl (Calls.evalArgs_plain (Calls.spliced_cons (thn (he.run pins s1 σ H1 _ I1 q1) fun iv s2 ⟨y, H2, I2, ry, v, g, q2⟩ => Calls.spliced_nil ?_)))
  exact getK1 hu I2 g ry fun w' s3 I3 rw' => ⟨_, H2, I3, rw', q2⟩
theorem pe_g2 (hu : X.A.units + 1 < cLine) (ho : PE X o td) (he : PE X e ty) (hf : PE X f tx) (m : M2 X o "get" apos e f cpos) : PE X (.Call (.Attribute o "get" apos) [e, f] [] cpos) (tG2 X.K X.w td ty tx) := by
  refine ⟨fun pins s σ H Q I h => ?_⟩
  refine wpAny_Call_method m.base m.few m.line PySem.F.plainAttrs_dict PySem.F.slot_dict_get PySem.F.type_dict_get (thn (ho.run pins s σ H _ I h) fun u s1 ⟨x, H1, I1, rx, a, ex, d, q1⟩ => ?_)
  subst ex
  obtain rfl : u = Value.ref a := rx
  obtain ⟨t1, t2⟩ := isK_at I1 d
  refine ⟨t1, t2, ?_⟩
  rw [m.trees]
  refine Calls.callWith_builtin rfl (Calls.evalArgs_plain (Calls.spliced_cons (thn (he.run pins s1 σ H1 _ I1 q1) fun iv s2 ⟨y, H2, I2, ry, q2⟩ =>
    Calls.spliced_cons (thn (hf.run pins s2 σ H2 _ I2 q2) fun fv s3 ⟨z, H3, I3, rz, v, g, q3⟩ => Calls.spliced_nil ?_))))
  exact getK2 hu I3 g ry rz fun w' s4 I4 rw' => ⟨_, H3, I4, rw', q3⟩
end
section
variable {G : Gm} {C : Cn} {H : Hp} {st : Cup}
/-- what get answers -/
theorem isK_rep {v : V} {x y d r : D} (h : Rep G C H v x) (e : prD G.tbl .get [x, y, d] = some r) : ∃ a, v = .ref a ∧ IsK G.K G.w H a := by
  cases h with
  | dS h1 h2 h3 h4 => exact ⟨_, rfl, .inl (.inl ⟨_, .inl h1⟩)⟩
  | wd h1 => obtain ⟨es, m, h2, _⟩ := h1; exact ⟨_, rfl, .inr ⟨es, m, h2⟩⟩
  | _ => cases e
theorem lookS_ok {w : Wd} : ∀ {ks : List Wd} {xs : List V} {ds : List D}, RepL G C H xs ds → 
    match lookS ks ds w with
    | none => valV ((ks.map fun x => (Sum.inr (toS x) : Key)).zip xs) (Sum.inr (toS w)) = none
    | some d => ∃ v, valV ((ks.map fun x => (Sum.inr (toS x) : Key)).zip xs) (Sum.inr (toS w)) = some v ∧ Rep G C H v d
  | [], _, _, _ => by simp [lookS, valV]
  | _ :: _, _, _, .nil => by simp [lookS, valV]
  | k :: ks, x :: xs, d :: ds, .cons r t => by
    have ih := lookS_ok (w := w) (ks := ks) t
    simp only [lookS, List.map_cons, List.zip_cons_cons]
    by_cases h : natsEq w k = true
    · rw [if_pos h]
      have := natsEq_iff.mp h
      subst this
      exact ⟨x, valV_pos rfl, r⟩
    · rw [if_neg h]
      have hne : ¬ ((Sum.inr (toS k) : Key) = Sum.inr (toS w)) := fun z => h (natsEq_iff.mpr (toS_inj (Sum.inr.inj z)).symm)
      revert ih
      cases lookS ks ds w with
      | none => intro ih; rw [valV_neg hne]; exact ih
      | some d' => intro ⟨v, i1, i2⟩; exact ⟨v, by rw [valV_neg hne]; exact i1, i2⟩
theorem getK_rep {v u z : V} {a : Addr} {x y d r : D} (hv : v = .ref a) (h : Rep G C H v x) (hy : Rep G C H u y) (hd : Rep G C H z d) (e : prD G.tbl .get [x, y, d] = some r) : ∃ v', GetK G.K G.w H a u z v' ∧ Rep G C H v' r := by
  subst hv
  cases h with
  | @dS _ ks xs ds h1 h2 h3 h4 =>
    cases hy with
    | str w =>
      have e' : some ((lookS ks ds w).getD d) = some r := e
      have e'' := Option.some.inj e'
      have q := lookS_ok (w := w) (ks := ks) h4
      revert q e''
      cases lookS ks ds w with
      | none =>
        intro e'' q
        have e3 : d = r := e''
        subst e3
        exact ⟨z, .inl ⟨_, DGet.k (k := Sum.inr (toS w)) h1, by rw [q]; rfl⟩, hd⟩
      | some d' =>
        intro e'' q
        have e3 : d' = r := e''
        subst e3
        obtain ⟨v', q1, q2⟩ := q
        exact ⟨v', .inl ⟨_, DGet.k (k := Sum.inr (toS w)) h1, by rw [q1]; rfl⟩, q2⟩
    | _ => cases e
  | @wd _ n h1 =>
    cases hy with
    | str w =>
      obtain ⟨es, m, h2, h3⟩ := h1
      have e' : (match (G.tbl n).find? (fun p => natsEq w p.1) with
        | some (_, some z) => some z.toD
        | some (_, none) => some d
        | none => none) = some r := e
      cases hf : (G.tbl n).find? (fun p => natsEq w p.1) with
      | none => rw [hf] at e'; cases e'
      | some p =>
        rw [hf] at e'
        have hmem := List.mem_of_find?_eq_some hf
        have hk := natsEq_iff.mp (by simpa using List.find?_some hf)
        have q := h3 p hmem
        obtain ⟨k, o⟩ := p
        have hk' : w = k := hk
        subst hk'
        cases o with
        | none =>
          have q' : PySem.W.nsIn G.K a (toS w) = some none := q
          cases e'
          exact ⟨z, .inr ⟨es, m, toS w, none, h2, rfl, q', .inl ⟨rfl, rfl⟩⟩, hd⟩
        | some z0 =>
          obtain ⟨u0, q1, q2⟩ := (q : ∃ u, PySem.W.nsIn G.K a (toS w) = some (some u) ∧ W0At G.K u z0)
          cases e'
          obtain ⟨v', r1, r2⟩ := w0_ok q2
          exact ⟨v', .inr ⟨es, m, toS w, _, h2, rfl, q1, .inr ⟨u0, rfl, r1⟩⟩, r2⟩
    | _ => cases e
  | _ => cases e
end
theorem rk_get1 {G : Gm} {X : Cx} {o e : Expr} {ap cp : Pos} {m m2 : Ev → M D} (hK : X.K = G.K) (hw : X.w = G.w) (hu : X.A.units + 100 < cLine) (hn : isNm o = true) (hl : (ap.endLine == cp.line) = true) (hs : notStar e = true) (ho : PE X o (tE G m)) (he : PE X e (tE G m2)) :
    PE X (.Call (.Attribute o "get" ap) [e] [] cp) (tE G fun ρ => M.bnd (m ρ) fun x => M.bnd (m2 ρ) fun y => M.of (prD G.tbl .get [x, y, .non])) :=
  (pe_g1 (by omega) ho he (m1_of hn hl hs)).imp fun σ H Q ⟨C, st, ρ, d, st', hl, rs, e, f⟩ => by
    replace e := bnd_some e
    obtain ⟨x, s1, e1, e⟩ := e
    replace e := bnd_some e
    obtain ⟨y, s2, e2, e⟩ := e
    replace e := of_some e
    obtain ⟨e, rfl⟩ := e
    refine ⟨C, st, ρ, x, s1, hl, rs, e1, fun v H1 x1 h1 r1 => ?_⟩
    rw [hK, hw]
    obtain ⟨a, ha, ik⟩ := isK_rep r1 e
    refine ⟨a, ha, ik, C, s1, ρ, y, _, h1, rs.ext hl x1, e2, fun u H2 x2 h2 r2 => ?_⟩
    obtain ⟨v', g, rv⟩ := getK_rep ha (Rep.ext h1 x2 _ _ r1) r2 .non e
    exact ⟨v', g, f _ _ (x1.trans x2) h2 rv⟩
theorem rk_get2 {G : Gm} {X : Cx} {o e d : Expr} {ap cp : Pos} {m m2 m3 : Ev → M D} (hK : X.K = G.K) (hw : X.w = G.w) (hu : X.A.units + 100 < cLine) (hn : isNm o = true) (hl : (ap.endLine == cp.line) = true) (hs : notStar e = true) (hs2 : notStar d = true) (ho : PE X o (tE G m)) (he : PE X e (tE G m2)) (hd : PE X d (tE G m3)) :
    PE X (.Call (.Attribute o "get" ap) [e, d] [] cp) (tE G fun ρ => M.bnd (m ρ) fun x => M.bnd (m2 ρ) fun y => M.bnd (m3 ρ) fun z => M.of (prD G.tbl .get [x, y, z])) :=
  (pe_g2 (by omega) ho he hd (m2_of hn hl hs hs2)).imp fun σ H Q ⟨C, st, ρ, d, st', hl, rs, e, f⟩ => by
    replace e := bnd_some e
    obtain ⟨x, s1, e1, e⟩ := e
    replace e := bnd_some e
    obtain ⟨y, s2, e2, e⟩ := e
    replace e := bnd_some e
    obtain ⟨z, s3, e3, e⟩ := e
    replace e := of_some e
    obtain ⟨e, rfl⟩ := e
    refine ⟨C, st, ρ, x, s1, hl, rs, e1, fun v H1 x1 h1 r1 => ?_⟩
    rw [hK, hw]
    obtain ⟨a, ha, ik⟩ := isK_rep r1 e
    refine ⟨a, ha, ik, C, s1, ρ, y, _, h1, rs.ext hl x1, e2, fun u H2 x2 h2 r2 => ⟨C, s2, ρ, z, _, h2, (rs.ext hl x1).ext h1 x2, e3, fun u3 H3 x3 h3 r3 => ?_⟩⟩
    obtain ⟨v', g, rv⟩ := getK_rep ha (Rep.ext h2 x3 _ _ (Rep.ext h1 x2 _ _ r1)) (Rep.ext h2 x3 _ _ r2) r3 e
    exact ⟨v', g, f _ _ ((x1.trans x2).trans x3) h3 rv⟩
end N57
end
section
set_option maxRecDepth 100000
set_option maxHeartbeats 8000000
namespace N57
open PySem PySem.Spec PyProof.Rows L2

theorem spl_none : ∀ (w acc : List Nat), w.any (Nat.beq 64) = false → TL.spl [64] 0 acc w = [acc ++ w] := by
  intro w
  induction w with
  | nil => intro acc _; simp [TL.spl]
  | cons c w ih =>
    intro acc h
    simp only [List.any_cons, Bool.or_eq_false_iff] at h
    have hc : ¬ (64 = c) := fun z => by rw [← z] at h; exact absurd h.1 (by decide)
    have hp : TL.pre [64] (c :: w) = false := by simp [TL.pre]; exact fun z => hc z.symm
    rw [TL.spl, hp]
    simp [ih _ h.2]
theorem rk_splitA {G : Gm} {X : Cx} {e : Expr} {ap cp p : Pos} {j : Nat} {m : Ev → M D} (hK : X.K = G.K) (hc : X.calm = true) (hn : isNm e = true) (hl : (ap.endLine == cp.line) = true) (he : PE X e (tE G m)) :
    PE X (.Call (.Attribute e "split" ap) [.Constant (.str "@") j p] [] cp) (tE G fun ρ => M.bnd (m ρ) fun x => M.of (prD G.tbl .splitA [x])) := by
  cases e <;> first | (cases hn; done) | skip
  refine (pe_m1 F.slot_str_split F.type_str_split mt_split he pe_str (by rfl) (by rfl) hl).imp fun σ H Q ⟨C, st, ρ, d, st', hl, rs, e, f⟩ => ?_
  replace e := bnd_some e
  obtain ⟨x, s1, e1, e⟩ := e
  replace e := of_some e
  obtain ⟨e, rfl⟩ := e
  refine ⟨C, st, ρ, x, _, hl, rs, e1, fun v H1 x1 h1 r1 => ?_⟩
  cases r1 <;> first | (cases e; done) | skip
  rename_i w
  have e' : (if w.any (Nat.beq 64) || !fitsL (w.length + 2) then none else some (D.lst [.str w])) = some d := e
  split at e'
  · cases e'
  · rename_i hz
    cases e'
    simp only [Bool.or_eq_true, Bool.not_eq_true', not_or, Bool.not_eq_true, Bool.not_eq_false] at hz
    refine ⟨⟨_, rfl⟩, toS w, "@", rfl, rfl, by decide, ?_, fun q hq => ?_⟩
    · rw [toS_length]; exact fitsL_le hz.2
    · have e2 : Txt.split (toS w) "@" = [toS w] := by
        have h3 := SX.split_S (a := w) (b := [64]) (by simp) (by decide)
        rw [spl_none w [] hz.1] at h3
        exact h3
      rw [e2]
      exact (f.ext x1).newL h1 (.one (.str w)) q hq
theorem pairRep {G : Gm} {C : Cn} {H' : Hp} : ∀ {ts : List Addr} {ks : List Wd} {xs : List V} {ds : List D}, (∀ t ∈ ts, ¬ C.S t) → RepL G C H' xs ds →
    Paired (fun (t : Addr) (q : Key × V) => H' t = some (.tup [kV q.1, q.2])) ts ((ks.map fun x => (Sum.inr (toS x) : Key)).zip xs) → RepL G C H' (ts.map V.ref) ((ks.zip ds).map fun p => .tup [.str p.1, p.2])
  | ts, [], xs, ds, hs, r, h => by
    have : ts = [] := by
      cases h
      rfl
    subst this
    exact .nil
  | ts, k :: ks, [], ds, hs, r, h => by
    cases r
    cases h
    exact .nil
  | ts, k :: ks, x :: xs, ds, hs, r, h => by
    cases r with
    | cons r1 r2 =>
    cases h with
    | cons a b =>
    refine .cons (.tup (.of rfl a) (hs _ (List.mem_cons_self ..)) (.cons (.str k) (.one r1))) (pairRep (fun t ht => hs t (List.mem_cons_of_mem _ ht)) r2 b)
theorem rk_items {G : Gm} {X : Cx} {e : Expr} {p ap cp pos : Pos} {m : Ev → M D} (hK : X.K = G.K) (hc : X.calm = true) (hg : Gl X "list") (hm : X.mg "list" = none) (hn : isNm e = true) (hl : (ap.endLine == cp.line) = true) (he : PE X e (tE G m)) :
    PE X (.Call (.Name "list" p) [.Call (.Attribute e "items" ap) [] [] cp] [] pos) (tE G fun ρ => M.bnd (m ρ) fun x => M.of (prD G.tbl .items [x])) := by
  cases e <;> first | (cases hn; done) | skip
  refine (LiI.pe_listItems hc he hg hm (by decide +kernel) (by rfl) hl (by rfl)).imp fun σ H Q ⟨C, st, ρ, d, st', hl, rs, e, f⟩ => ?_
  replace e := bnd_some e
  obtain ⟨x, s1, e1, e⟩ := e
  replace e := of_some e
  obtain ⟨e, rfl⟩ := e
  refine ⟨C, st, ρ, x, _, hl, rs, e1, fun v H1 x1 h1 r1 => ?_⟩
  cases r1 with
  | @dS a ks xs ds q1 q2 q3 q4 =>
    have e' : (if nodupW ks && Nat.beq ks.length ds.length then some (D.lst ((ks.zip ds).map fun p => .tup [.str p.1, p.2])) else none) = some d := e
    split at e'
    · cases e'
      refine ⟨a, _, rfl, q1, fun H' p ts hk hp ht hpt hP hPs => ?_⟩
      have x2 : Ext C H1 H' := fun b o _ _ hb => hk b o hb
      have h2 : Held G C _ H' := ⟨fun b hb => (h1.trk b hb).imp (fun ⟨u, e, n⟩ => ⟨u, hk b u e, n⟩) id, h1.ms, fun b hb => by
        obtain ⟨z1, z2, z3⟩ := h1.cup b hb
        exact ⟨z1, hk _ _ z2, z3⟩, fun q hq => ⟨(h1.tabs q hq).1, (h1.tabs q hq).2.ext hk⟩⟩
      refine f _ H' (x1.trans x2) h2 (.lst hP (h1.notS hp) ?_)
      exact pairRep (fun t h => h1.notS (ht t h)) (RepL.ext h1 x2 _ _ q4) hPs
    · cases e'
  | _ => cases e
end N57
end
section
set_option maxRecDepth 100000
set_option maxHeartbeats 8000000
namespace N57
open PySem PySem.Spec PyProof.Rows L2

section
variable {X : Cx}
theorem pairs_vv {pins : List (Addr × Obj)} {σ : L2.St} {H : Hp} {s : Shared} (I : Inv X pins σ H s) : ∀ {ps : List Addr} {kvs : List (Key × V)}, Paired (fun p kv => SqT X.K H p [kV kv.1, kv.2]) ps kvs →
    ∃ (vv : List (Value × Value)) (prs : List (Key × Value)), KV kvs prs ∧ vv.length = ps.length ∧ prs.length = ps.length ∧ ∀ (j : Nat) (b : Addr), ps[j]? = some b → ∃ (u y : Value) (k : Key), vv[j]? = some (u, y) ∧ prs[j]? = some (k, y) ∧ IsTup s.heap b #[u, y] ∧ keyIs k u = true
  | _, _, .nil => ⟨[], [], .nil, rfl, rfl, fun j q e => by simp at e⟩
  | _, _, .cons (a := p) (b := kv) h t => by
    obtain ⟨vv, prs, r, hl, hl2, hp⟩ := pairs_vv I t
    obtain ⟨its, rv, ht, _⟩ := I.tuple h
    obtain ⟨u, y, ei, ru, ry⟩ := vals2 rv
    subst ei
    refine ⟨(u, y) :: vv, (kv.1, y) :: prs, .cons ⟨rfl, ry⟩ r, by simp [hl], by simp [hl2], fun j b e => ?_⟩
    cases j with
    | zero =>
      have e' : p = b := Option.some.inj e
      subst e'
      exact ⟨u, y, kv.1, rfl, rfl, ht, kV_is (P := X.prog) (w := X.w) ru⟩
    | succ j =>
      obtain ⟨u', y', k', e1, e2, e3, e4⟩ := hp j b (by simpa using e)
      exact ⟨u', y', k', by simpa using e1, by simpa using e2, e3, e4⟩
/-- dict(t) of a plain tuple of pairs -/
def rDictT (K : PySem.W.Frag) : List V → Hp → VK → Prop := fun xs H Q => ∃ (a : Addr) (o : Obj) (ps : List Addr) (kvs : List (Key × V)), xs = [.ref a] ∧ H a = some (.frz o (.tup (ps.map V.ref))) ∧ Pln o ∧ Paired (fun p kv => SqT K H p [kV kv.1, kv.2]) ps kvs ∧
    ∀ p, H p = none → Q (.ref p) (upd H p (.dK (mergeK [] kvs)))
theorem call_dictT (hcalm : X.calm = true) : CallR X (.type "dict") (rDictT X.K) := by
  intro pins s σ H xs us Q I r q
  obtain ⟨a, o, ps, kvs, ex, hq, pl, hp, q⟩ := q
  subst ex
  obtain ⟨u, eu, rx⟩ := vals1 r
  subst eu
  cases rx
  obtain ⟨ho, hz, its, rv, o', ho', hc', n, hdat⟩ := I.hok a _ hq
  rw [ho] at ho'
  cases ho'
  have ei := refs_at rv
  subst ei
  rw [List.length_map] at hz
  obtain ⟨vv, prs, rel, hl, hl2, hpr⟩ := pairs_vv I hp
  have hget : ∀ j, j < ps.length → ∃ b, ps[j]? = some b := fun j hj => ⟨ps[j], List.getElem?_eq_getElem hj⟩
  refine PySem.call_dict_pairs (knd := mixKind X.prog X.w) (kvs := prs) (PairArg.tuple a (ps.map Value.ref).toArray (fun j => ps.getD j 0) vv) (I.ok.hd hcalm) ⟨⟨o, n, ho, hc', pl.2, hdat⟩, by simp [hl], fun j k v hj => ?_⟩ ⟨by rw [hl2, hl], fun j key v hj => ?_⟩ (by rw [hl]; exact hz) fun h' tk hd' k => ?_
  · obtain ⟨b, hb⟩ := hget j (by rw [← hl]; exact (List.getElem?_eq_some_iff.mp hj).1)
    obtain ⟨u', y', k', e1, e2, e3, e4⟩ := hpr j b hb
    rw [e1] at hj
    cases hj
    have hd : ps.getD j 0 = b := by simp [List.getD, hb]
    refine ⟨?_, .inl ?_⟩
    · show (ps.map Value.ref).toArray[j]? = some (.ref (ps.getD j 0))
      rw [hd]; simp [hb]
    · show IsTup s.heap (ps.getD j 0) _
      rw [hd]; exact e3
  · have hj' : vv[j]? = some (key, v) := hj
    obtain ⟨b, hb⟩ := hget j (by rw [← hl]; exact (List.getElem?_eq_some_iff.mp hj').1)
    obtain ⟨u', y', k', e1, e2, e3, e4⟩ := hpr j b hb
    rw [e1] at hj'
    cases hj'
    exact ⟨k', e2, e4⟩
  · have hm : (s.heap.objs.size == sysModules) = false := beq_eq_false_iff_ne.mpr (Nat.ne_of_gt I.big)
    have hlen : (mergeK [] kvs).length ≤ sizeLine := by
      refine Nat.le_trans (length_mergeK kvs []) ?_
      rw [List.length_nil, Nat.zero_add, rel.length, hl2]
      exact hz
    exact ⟨.ref s.heap.objs.size, upd H s.heap.objs.size (.dK (mergeK [] kvs)), I.laid (t' := tk) (fun b u e => k b u (by simp) e) (Nat.le_refl _) (show ObjOk X.prog X.w _ _ _ (.dK (mergeK [] kvs)) from ⟨hlen, hm, merged [] prs, KV.merge rel .nil, hd'⟩), rfl, q _ (I.hok.fresh (Nat.le_refl _))⟩
end
section
variable {G : Gm} {C : Cn} {H : Hp} {st : Cup}
theorem pairS_some {d v : D} {k : Wd} (h : pairS d = some (k, v)) : d = .tup [.str k, v] := by
  unfold pairS at h
  split at h
  · cases h; rfl
  · cases h
theorem pairs_rep : ∀ {xs : List V} {l : List D} {mm : List (Wd × D)}, RepL G C H xs l → l.mapM pairS = some mm →
    ∃ (ps : List Addr) (vs : List V), xs = ps.map V.ref ∧ Paired (fun (p : Addr) (kv : Key × V) => SqT G.K H p [kV kv.1, kv.2]) ps (((mm.map (·.1)).map fun x => (Sum.inr (toS x) : Key)).zip vs) ∧ RepL G C H vs (mm.map (·.2))
  | _, _, mm, .nil, h => by
    cases h
    exact ⟨[], [], rfl, .nil, .nil⟩
  | _, _, mm, .cons (v := x) (d := d) (ds := l) r t, h => by
    rw [List.mapM_cons] at h
    cases h1 : pairS d with
    | none => rw [h1] at h; cases h
    | some kv =>
      rw [h1] at h
      cases h2 : l.mapM pairS with
      | none => rw [h2] at h; cases h
      | some m2 =>
        rw [h2] at h
        cases h
        obtain ⟨ps, vs, e1, e2, e3⟩ := pairs_rep t h2
        obtain ⟨k, v⟩ := kv
        obtain rfl := pairS_some h1
        cases r with
        | tup q1 q2 q3 =>
          obtain ⟨v1, v2, rfl, w1, w2⟩ := q3.inv2
          cases w1
          exact ⟨_ :: ps, v2 :: vs, by rw [e1]; rfl, .cons q1.sq e2, .cons w2 e3⟩
end
theorem rk_dict {G : Gm} {X : Cx} {e : Expr} {p pos : Pos} {m : Ev → M D} (hK : X.K = G.K) (hc : X.calm = true) (hg : Gl X "dict") (hm : X.mg "dict" = none) (hs : notStar e = true) (pa : PA X [e] (tA G m)) :
    PE X (.Call (.Name "dict" p) [e] [] pos) (tE G fun ρ => M.bnd (m ρ) fun y => M.of ((unL y).bind fun l => prD G.tbl .dict l)) :=
  (pe_callTy (call_dictT hc) hg hm (by decide +kernel) pa (by decide) (by decide) (star_ok hs) (by rfl)).imp fun σ H Q ⟨C, st, ρ, d, st', hl, rs, e, f⟩ => by
    replace e := bnd_some e
    obtain ⟨y, s1, e1, e⟩ := e
    replace e := of_some e
    obtain ⟨e, rfl⟩ := e
    rw [Option.bind_eq_some_iff] at e
    obtain ⟨ds, e2, e⟩ := e
    cases y <;> cases e2
    refine ⟨C, st, ρ, _, _, hl, rs, e1, fun vs H1 x1 h1 r1 => ?_⟩
    rw [hK]
    unfold prD at e
    split at e <;> first | (cases ‹Pr.dict = _›; done) | skip
    all_goals first | (cases e; done) | skip
    rename_i l _ _
    replace r1 := r1.inv1
    obtain ⟨v, rfl, r1⟩ := r1
    split at e
    · rename_i hsto
      rw [Option.bind_eq_some_iff] at e
      obtain ⟨mm, h1', e⟩ := e
      split at e
      · rename_i hz
        cases e
        simp only [Bool.and_eq_true] at hz
        cases r1 with
        | tup q1 q2 q3 =>
          obtain ⟨o, g1, g2⟩ := q1.sto hsto
          obtain ⟨ps, vs, ex, pr, rv⟩ := pairs_rep q3 h1'
          subst ex
          refine ⟨_, o, ps, _, rfl, g1, g2, pr, fun p hp => ?_⟩
          rw [merge_new _ vs [] hz.1 (fun _ _ p hp => by cases hp), List.nil_append]
          exact f _ _ (x1.trans (Ext.new hp)) (h1.new hp) (.dS upd_same (h1.notS hp) (by simp) (rv.ext h1 (Ext.new hp)))
      · cases e
    · cases e
end N57
end
section
set_option maxRecDepth 100000
set_option maxHeartbeats 8000000
namespace N57
open PySem PySem.Spec PyProof.Rows L2

theorem storedAll_new {κ : Type} [DecidableEq κ] : ∀ (ps acc : List (κ × Addr × Value)), (acc.map (·.1) ++ ps.map (·.1)).Nodup → storedAllH acc ps = acc ++ ps
  | [], acc, _ => by simp [storedAllH]
  | p :: ps, acc, h => by
    have hn : atKey acc p.1 = none := by
      cases e : atKey acc p.1 with
      | none => rfl
      | some q =>
        exfalso
        unfold atKey at e
        cases e2 : acc.find? (fun x => decide (x.1 = p.1)) with
        | none => rw [e2] at e; cases e
        | some x =>
          have hm := List.mem_of_find?_eq_some e2
          have hx := List.find?_some e2
          have hx' : x.1 = p.1 := by simpa using hx
          rw [List.nodup_append] at h
          exact h.2.2 x.1 (List.mem_map_of_mem hm) p.1 (by simp) hx'
    show storedAllH (storedH acc p.1 p.2.1 p.2.2) ps = _
    rw [storedH_new hn]
    have ih := storedAll_new ps (acc ++ [(p.1, p.2.1, p.2.2)]) (by simpa using h)
    rw [ih]
    simp
theorem notNew {n a : Nat} (h : a < n) : a ∉ [n + 4, n + 3, n, n + 1] := by
  intro hm
  simp only [List.mem_cons, List.not_mem_nil, or_false] at hm
  omega
theorem zip3_at {α β γ : Type} {ks : List α} {as : List β} {us : List γ} {i : Nat} {k : α} {a : β} {v : γ} : (ks.zip (as.zip us))[i]? = some (k, a, v) ↔ ks[i]? = some k ∧ as[i]? = some a ∧ us[i]? = some v := by
  rw [List.getElem?_zip_eq_some, List.getElem?_zip_eq_some]
theorem pk_imp {α β : Type} {F F' : α → β → Prop} (h : ∀ a b, F a b → F' a b) : ∀ {xs : List α} {ys : List β}, Paired F xs ys → Paired F' xs ys
  | _, _, .nil => .nil
  | _, _, .cons a t => .cons (h _ _ a) (pk_imp h t)
theorem dz_paired {H' : Hp} : ∀ {as : List Addr} {kss : List (List Key)} {ys : List V} {us : List Value}, Paired (fun (a : Addr) (k : List Key) => H' a = some (.tup (k.map kV))) as kss → Vals ys us → as.length = ys.length →
    Paired (fun (p : List Key × V) (q : List Key × Addr × Value) => p.1 = q.1 ∧ H' q.2.1 = some (.tup (p.1.map kV)) ∧ L2.RelV p.2 q.2.2) (kss.zip ys) (kss.zip (as.zip us))
  | _, _, _, _, .nil, _, _ => by simp; exact .nil
  | _, _, _, _, .cons a t, .nil, e => by simp at e
  | _, _, _, _, .cons a t, .cons r rt, e => .cons ⟨rfl, a, r⟩ (dz_paired t rt (by simpa using e))
section
variable {X : Cx} {a b : Expr} {t : TA} {p p2 q pos : Pos}
def tDZ (K : PySem.W.Frag) (t : TA) : TE := fun σ H Q => t σ H fun vs H1 => ∃ (la lb : Addr) (as : List Addr) (ys : List V) (kss : List (List Key)), vs = [.ref la, .ref lb] ∧ SqL K H1 la (as.map V.ref) ∧ SqL K H1 lb ys ∧
  Paired (fun (a : Addr) (k : List Key) => H1 a = some (.tup (k.map kV))) as kss ∧ kss.Nodup ∧ as.length = ys.length ∧ ∀ p, H1 p = none → Q (.ref p) (upd H1 p (.dT (kss.zip ys)))
theorem pe_dictZ (hc : X.calm = true) (hu : X.A.units + 100 < cLine) (hg : Gl X "dict") (hm : X.mg "dict" = none) (hg2 : Gl X "zip") (hm2 : X.mg "zip" = none) (ha : notStar a = true) (hb : notStar b = true) (pa : PA X [a, b] t) :
    PE X (.Call (.Name "dict" p) [.Call (.Name "zip" p2) [a, b] [] q] [] pos) (tDZ X.K t) := by
  refine ⟨fun pins s σ H Q I h => ?_⟩
  have hs : starEach [.Call (.Name "zip" p2) [a, b] [] q] X.env = (false, eval (.Call (.Name "zip" p2) [a, b] [] q) X.env) :: starEach [] X.env := rfl
  refine wpAny_Call_Name_kw (ld_blt I hg hm (by decide +kernel : bootBuiltins "dict" = some (.type "dict")) ?_)
  refine PyProof.Rows.callWith_type1 ?_ hs rfl
  rw [hs]
  show wpAny _ _ (spliced ((false, eval (.Call (.Name "zip" p2) [a, b] [] q) X.env) :: backTo pos (starEach [] X.env))) _ _ s
  refine Calls.spliced_cons ?_
  refine Call_ (ld_blt I hg2 hm2 PyProof.Rows.boot_zip (PyProof.Rows.callWith_type1 (thn (pa.run q pins s σ H _ I h) fun us s1 ⟨vs, H1, I1, r1, q1⟩ => ?_) (star_ok ha) (stars_ok (by simpa using hb))))
  obtain ⟨la, lb, as, ys, kss, ex, sa, sb, pk, nd, hlen, q1⟩ := q1
  subst ex
  cases r1 with
  | cons r rr =>
  cases rr with
  | cons r' rr =>
  cases rr
  cases r
  cases r'
  obtain ⟨its, rv, p1, z1⟩ := I1.list sa
  obtain ⟨its2, rv2, p2', z2⟩ := I1.list sb
  have ei := refs_at rv
  subst ei
  refine call_zip_2 p1.isList p2'.isList fun h' hz hTI hTO h1 h2 hsz hk => Calls.spliced_nil ?_
  have I2 : Inv X pins σ H1 { s1 with heap := h' } := I1.kept (t' := s1.toks) hk
  have e1 : as.length = kss.length := pk.length
  have e2 : ys.length = its2.length := rv2.length
  have D := PySem.W.ktu_apart s1.heap.objs.size la lb p1.lt p2'.lt
  have p1' : h'.IsList la (as.map Value.ref).toArray := p1.isList.at fun o e => hk _ _ e
  have p2'' : h'.IsList lb its2.toArray := p2'.isList.at fun o e => hk _ _ e
  have hkey : ∀ i (k : List Key) (a0 : Addr), kss[i]? = some k → as[i]? = some a0 → H1 a0 = some (.tup (k.map kV)) := fun i k a0 hk1 ha1 => by
    obtain ⟨k', w1, w2⟩ := LiI.paired_get pk ha1
    rw [hk1] at w1; cases w1
    exact w2
  have hn5 : h'.objs.size = s1.heap.objs.size + 5 := hsz
  refine PySem.call_dict_pairsH (knd := tupleKind (mixKind X.prog X.w)) (ps := kss.zip (as.zip its2)) (PairArg.zip _ _ _ _ _ la lb D (as.map Value.ref).toArray its2.toArray) (I2.ok.hd hc) (show X.A.units + 1 + 1 < cLine by omega) ⟨hz, hTI, ⟨_, _, hTO⟩, h1, h2, p1', p2''⟩ ⟨?_, fun i key v hr => ?_⟩ (fun h3 hk3 x hx => ?_) ?_ fun h'' tk hd hk2 => ?_
  · simp only [List.length_zip, List.size_toArray, List.length_map]; omega
  · obtain ⟨hr1, hr2⟩ := hr
    have hr2' : its2[i]? = some v := by simpa using hr2
    have hr1' : (as.map Value.ref)[i]? = some key := by simpa using hr1
    rw [List.getElem?_map, Option.map_eq_some_iff] at hr1'
    obtain ⟨a0, w1, rfl⟩ := hr1'
    have hik : i < kss.length := by have := (List.getElem?_eq_some_iff.mp w1).1; omega
    refine ⟨kss[i], a0, ?_, rfl⟩
    exact zip3_at.mpr ⟨List.getElem?_eq_getElem hik, w1, hr2'⟩
  · obtain ⟨i, hi⟩ := List.getElem?_of_mem hx
    obtain ⟨k0, a0, v0⟩ := x
    obtain ⟨k1, a1, v1⟩ := zip3_at.mp hi
    obtain ⟨o, its0, n0, g1, g2, g3, g4⟩ := key_of I1.hok (hkey i k0 a0 k1 a1)
    have lt0 := Heap.lt_size g1
    exact ⟨o, its0, n0, hk3 _ _ (Nat.ne_of_lt (Nat.lt_of_lt_of_le lt0 (by rw [hn5]; exact Nat.le_add_right _ _))) (notNew lt0) (hk _ _ g1), g2, g3, g4⟩
  · simp only [List.size_toArray, List.length_map]; omega
  · have hps : storedAllH [] (kss.zip (as.zip its2)) = kss.zip (as.zip its2) := by
      rw [storedAll_new _ [] ?_, List.nil_append]
      simp only [List.map_nil, List.nil_append]
      rw [List.map_fst_zip (by rw [List.length_zip]; omega)]
      exact nd
    rw [hps] at hd
    have hf : H1 h'.objs.size = none := I1.hok.fresh (by omega)
    have hm : (h'.objs.size == sysModules) = false := beq_eq_false_iff_ne.mpr (by have := I2.big; exact Nat.ne_of_gt this)
    obtain ⟨o, es, ep, d1, d2, d3, d4, d5, d6⟩ := hd
    refine ⟨.ref h'.objs.size, upd H1 h'.objs.size (.dT (kss.zip ys)), I1.laid (t' := tk) (fun b0 u0 e0 => ?_) (by omega) (show ObjOk X.prog X.w _ _ _ (.dT (kss.zip ys)) from ⟨?_, hm, kss.zip (as.zip its2), ?_, o, es, ep, d1, d2, d3, d4, d6⟩), rfl, q1 _ hf⟩
    · exact hk2 _ _ (notNew (Heap.lt_size e0)) (hk _ _ e0)
    · rw [List.length_zip]; omega
    · exact dz_paired (pk_imp (fun a0 k0 h0 => by rw [upd_ne (ne_of_none h0 hf)]; exact h0) pk) rv2 hlen
end
section
variable {G : Gm} {C : Cn} {H : Hp}
theorem ints_rep : ∀ {xs : List V} {l : List D} {ks : List (List Int)}, RepL G C H xs l → l.mapM intsOf = some ks →
    ∃ as : List Addr, xs = as.map V.ref ∧ Paired (fun (a : Addr) (k : List Key) => H a = some (.tup (k.map kV))) as (ks.map fun x => x.map (Sum.inl : Int → Key))
  | _, _, ks, .nil, h => by
    cases h
    exact ⟨[], rfl, .nil⟩
  | _, _, ks, .cons (v := x) (d := d) (ds := l) r t, h => by
    rw [List.mapM_cons] at h
    cases h1 : intsOf d with
    | none => rw [h1] at h; cases h
    | some ns =>
      rw [h1] at h
      cases h2 : l.mapM intsOf with
      | none => rw [h2] at h; cases h
      | some m2 =>
        rw [h2] at h
        cases h
        obtain ⟨as, e1, e2⟩ := ints_rep t h2
        obtain rfl := intsOf_tup h1
        cases r with
        | tup q1 q2 q3 =>
          have e3 := repInts q3
          subst e3
          exact ⟨_ :: as, by rw [e1]; rfl, .cons (by rw [kVs_ints]; exact q1.not isSto_ints) e2⟩
theorem nodupI_ok : ∀ {ks : List (List Int)}, nodupI ks = true → (ks.map fun x => x.map (Sum.inl : Int → Key)).Nodup
  | [], _ => List.nodup_nil
  | k :: ks, h => by
    have h' : (!ks.any (intsEq k) && nodupI ks) = true := h
    simp only [Bool.and_eq_true, Bool.not_eq_true'] at h'
    rw [List.map_cons, List.nodup_cons]
    refine ⟨fun hm => ?_, nodupI_ok h'.2⟩
    obtain ⟨k2, hk2, e⟩ := List.mem_map.mp hm
    have := inl_inj e
    subst this
    have : ks.any (intsEq k2) = true := List.any_eq_true.mpr ⟨k2, hk2, intsEq_iff.mpr rfl⟩
    rw [h'.1] at this; cases this
end
theorem rk_dictZ {G : Gm} {X : Cx} {a b : Expr} {p p2 q pos : Pos} {m : Ev → M D} (hK : X.K = G.K) (hc : X.calm = true) (hu : X.A.units + 100 < cLine) (hg : Gl X "dict") (hm : X.mg "dict" = none) (hg2 : Gl X "zip") (hm2 : X.mg "zip" = none) (ha : notStar a = true) (hb : notStar b = true) (pa : PA X [a, b] (tA G m)) :
    PE X (.Call (.Name "dict" p) [.Call (.Name "zip" p2) [a, b] [] q] [] pos) (tE G fun ρ => M.bnd (m ρ) fun y => M.of ((unL y).bind fun l => prD G.tbl .dictZ l)) :=
  (pe_dictZ hc hu hg hm hg2 hm2 ha hb pa).imp fun σ H Q ⟨C, st, ρ, d, st', hl, rs, e, f⟩ => by
    replace e := bnd_some e
    obtain ⟨y, s1, e1, e⟩ := e
    replace e := of_some e
    obtain ⟨e, rfl⟩ := e
    rw [Option.bind_eq_some_iff] at e
    obtain ⟨ds, e2, e⟩ := e
    cases y <;> cases e2
    refine ⟨C, st, ρ, _, _, hl, rs, e1, fun vs H1 x1 h1 r1 => ?_⟩
    rw [hK]
    unfold prD at e
    split at e <;> first | (cases ‹Pr.dictZ = _›; done) | skip
    all_goals first | (cases e; done) | skip
    rename_i l mm _
    replace r1 := r1.inv2
    obtain ⟨v, u, rfl, r1, r2⟩ := r1
    rw [Option.bind_eq_some_iff] at e
    obtain ⟨ks, h1', e⟩ := e
    split at e
    · rename_i hz
      cases e
      simp only [Bool.and_eq_true] at hz
      have hlen := Nat.eq_of_beq_eq_true hz.2
      cases r1 with
      | lst q1 q2 q3 =>
      cases r2 with
      | lst q4 q5 q6 =>
      obtain ⟨as, ex, pk⟩ := ints_rep q3 h1'
      subst ex
      have l1 : as.length = l.length := by have := q3.length; rwa [List.length_map] at this
      have l2 : as.length = ks.length := by have := pk.length; rwa [List.length_map] at this
      refine ⟨_, _, as, _, _, rfl, SqL.of q1, SqL.of q4, pk, nodupI_ok hz.1, by rw [q6.length]; omega, fun p hp => ?_⟩
      exact f _ _ (x1.trans (Ext.new hp)) (h1.new hp) (.dP upd_same (h1.notS hp) (by omega) (q6.ext h1 (Ext.new hp)))
    · cases e
end N57
end
section
set_option maxRecDepth 100000
set_option maxHeartbeats 400000
/-! Sets of texts: made of a list, gathered, sorted. -/
namespace N57
open PySem PySem.Spec PyProof.Rows L2 PySem.Froz

section
variable {P : Program} {w : World}
/-- the set of the texts l at a, its table rises and can be walked -/
def TxR (P : Program) (w : World) (h : Heap) (a : Addr) (l : List Str) : Prop :=
  ∃ D : SD, h.get? a = some (sObj "set" D) ∧ TxOk P w D l ∧ l.Nodup ∧ Ris D.2.2.place.toList ∧ (w.params.followText "set-order" = true ∨ D.2.2.led = true)
theorem TxR.at {h h' : Heap} {a : Addr} {l : List Str} (R : TxR P w h a l) (k : ∀ o, h.get? a = some o → h'.get? a = some o) : TxR P w h' a l := by
  obtain ⟨D, h1, r⟩ := R
  exact ⟨D, k _ h1, r⟩
theorem tailTx_ris {ep : Nat} {es1 : Array (Int × Value)} {t2 : SetTable} {b : Bool} (r2 : Ris t2.place.toList) : Ris (tailTx ep es1 t2 b).2.2.place.toList ∧ (tailTx ep es1 t2 b).2.2.led = t2.led := by
  unfold tailTx
  split
  · exact ⟨relayAll_ris t2 es1 _, relayAll_led t2 es1 _⟩
  · exact ⟨r2, rfl⟩
theorem addTx_ris {D : SD} {hh : Int} {v : Value} (r : Ris D.2.2.place.toList) : Ris (addTx hh v D).2.2.place.toList ∧ (addTx hh v D).2.2.led = D.2.2.led := by
  have r1 := layNew_ris D.2.2 D.1 hh v r
  have l1 := layNew_led D.2.2 D.1 hh v
  unfold addTx
  generalize layNew D.2.2 D.1 hh v = L at r1 l1 ⊢
  obtain ⟨es1, t1, wd, gv⟩ := L
  dsimp only at r1 l1 ⊢
  rw [← l1]
  by_cases c : t1.plain = true
  · rw [if_pos c]
    exact tailTx_ris (t2 := { t1 with plain := false }) r1
  · rw [if_neg c]
    exact tailTx_ris r1
variable {A : Around} {E : Value → Shared → Prop} {s : Shared}
/-- the add of a text that is there -/
theorem add_same {a : Addr} {T : String} {D : SD} {l : List Str} {k : Str} {u : Tok} {Q : Bool → Shared → Prop} (ho : s.heap.get? a = some (sObj T D)) (F : TxOk P w D l) (hk : k ∈ l) (hb : l.length < scanBound)
    (h : Q false s) : wpAny (model P w) A (setAddHashed a (.str k u) (hashStr w k)) Q E s := by
  obtain ⟨es, ep, t⟩ := D
  have hd : (sObj T (es, ep, t)).data = .set es ep t := rfl
  have hf : t.fits es.size = true := F.fit
  have hel : ElemsOf (strKind P w) es.toList := F.el
  have hsz : es.size = l.length := F.sz
  have hb0 : es.size < scanBound := by omega
  have hkey : (strKind P w).is k (.str k u) = true := is_str k u
  obtain ⟨e0, he0, hp0⟩ := (F.mem k).mp hk
  have hsome : ∃ j, List.findIdx? (fun e => (strKind P w).is k e.2) es.toList = some j := by
    cases hr : List.findIdx? (fun e => (strKind P w).is k e.2) es.toList with
    | some j => exact ⟨j, rfl⟩
    | none =>
      have := List.findIdx?_eq_none_iff.mp hr e0 he0
      rw [hp0] at this; cases this
  obtain ⟨j, hj⟩ := hsome
  unfold setAddHashed setAddHashedIn
  refine wpAny_holding (wpAny_bind (wpAny_setState_of ho hd hf ?_))
  dsimp only
  rw [byScan_of rfl hb0 hel]
  simp only [↓reduceIte]
  unfold setAddByScan
  refine wpAny_bind ?_
  refine wpAny_bind (wpAny_rule ?_)
  refine wpAny_bind (wpAny_setScan_of (knd := strKind P w) (k := k) hkey ho hd hf hel ?_)
  rw [hj]
  dsimp only
  exact wpAny_pure (wpAny_pure h)
/-- the add of a text -/
theorem txr_add {a : Addr} {l : List Str} {k : Str} {u : Tok} {Q : Bool → Shared → Prop} (R : TxR P w s.heap a l) (hb : l.length + 1 < scanBound)
    (h : ∀ b h' l', (∀ c o, c ≠ a → s.heap.get? c = some o → h'.get? c = some o) → TxR P w h' a l' → (∀ x, x ∈ l' ↔ x ∈ l ∨ x = k) → Q b { s with heap := h' }) :
    wpAny (model P w) A (setAddHashed a (.str k u) (hashStr w k)) Q E s := by
  obtain ⟨D, ho, F, nd, r, hl⟩ := id R
  by_cases hk : k ∈ l
  · refine add_same ho F hk (by omega) ?_
    exact h false s.heap l (fun c o _ e => e) R (fun x => ⟨.inl, fun z => z.elim id fun e => e ▸ hk⟩)
  · refine add_x ho F hk hb ?_
    obtain ⟨r1, r2⟩ := addTx_ris (hh := hashStr w k) (v := .str k u) r
    exact h true _ (k :: l) (fun c o hc e => PySem.Heap.get?_update_of_ne _ (Ne.symm hc) e) ⟨_, get_upd _ ho rfl, add_ok u F, List.nodup_cons.mpr ⟨hk, nd⟩, r1, hl.imp id fun z => r2.trans z⟩ (fun x => by rw [List.mem_cons]; exact or_comm)
theorem strs_at : ∀ {vs : List Value} {ks : List Str}, StrsAre vs ks → ∀ {i : Nat} {v : Value}, vs[i]? = some v → ∃ x t, ks[i]? = some x ∧ v = .str x t
  | _, _, .nil, i, v, h => by simp at h
  | _, _, .cons x t r, 0, v, h => ⟨x, t, rfl, (Option.some.inj h).symm⟩
  | _, _, .cons x t r, i + 1, v, h => by
    obtain ⟨y, u, e1, e2⟩ := strs_at r (i := i) (v := v) (by simpa using h)
    exact ⟨y, u, by simpa using e1, e2⟩
/-- set.update's loop over a list of texts -/
theorem set_update_txts {I : Addr} {fp wr : List Addr} {G : Array GenState → Array GenState → Prop} {n : Nat} {Pv : Nat → Value → Prop} {St : Nat → Shared → Prop} {R : Result → Shared → Prop}
    (W : WalksS P w A.in1 I fp wr G n Pv St) (S : Addr) (hSf : S ∉ fp) (ks : List Str) (hn : n = ks.length) (N : Nat) (hN : N + 1 < scanBound) (hfew : ∀ l : List Str, l.Nodup → (∀ x ∈ l, x ∈ ks) → l.length ≤ N) (hval : ∀ i v, Pv i v → ∃ x t, ks[i]? = some x ∧ v = .str x t)
    (h0 : Heap) (hS0 : h0.get? S = none) (hw0 : ∀ b ∈ wr, h0.get? b = none) :
    ∀ (k i : Nat) (s : Shared), n - i = k → i ≤ n → St i s → (∀ b o, h0.get? b = some o → s.heap.get? b = some o) → (∃ l, TxR P w s.heap S l ∧ ∀ x, x ∈ l ↔ x ∈ ks.take i) →
      (∀ s' l, Moved (S :: wr) G s s' → TxR P w s'.heap S l → (∀ x, x ∈ l ↔ x ∈ ks) → (∀ b o, h0.get? b = some o → s'.heap.get? b = some o) → R (.ok (.ret .none)) s') →
      codeAny (model P w) A (.builtin "set.update.loop" ⟨[.ref S, .ref I], []⟩) R s := by
  have hSw : S ∉ wr := fun h => hSf (W.sub _ h)
  have hsub : ∀ b ∈ wr, b ∈ S :: wr := fun b hb => List.mem_cons_of_mem _ hb
  have keepM : ∀ {s s' : Shared}, Moved wr G s s' → (∀ b o, h0.get? b = some o → s.heap.get? b = some o) → ∀ b o, h0.get? b = some o → s'.heap.get? b = some o := fun hm hkp b o e =>
    hm.heap b o (fun hb => by rw [hw0 b hb] at e; cases e) (hkp b o e)
  intro k
  induction k with
  | zero =>
    intro i s hk' hi hst hkp ⟨l, hS, g⟩ hR
    have hin : i = n := by omega
    subst hin
    refine codeAny_builtin PyProof.Rows.F.entry_set_update_loop ?_
    rw [Around.under_plainId PyProof.Rows.F.plain_set_update_loop _]
    show wpAny _ A.in1 (pyNext (.ref I) >>= _) _ _ s
    refine wpAny_bind (W.done s _ _ hst fun s' hm => ?_)
    show wpAny _ A.in1 (ret Value.none) _ _ s'
    refine wpAny_pure (hR s' l (hm.mono hsub) (hS.at fun o e => hm.heap S o hSw e) (fun x => ?_) (keepM hm hkp))
    rw [g x, List.take_of_length_le (by omega)]
  | succ k ih =>
    intro i s hk' hi hst hkp ⟨l, hS, g⟩ hR
    have hlt : i < n := by omega
    refine codeAny_builtin PyProof.Rows.F.entry_set_update_loop ?_
    rw [Around.under_plainId PyProof.Rows.F.plain_set_update_loop _]
    show wpAny _ A.in1 (pyNext (.ref I) >>= _) _ _ s
    refine wpAny_bind (W.item i s _ _ hlt hst fun v s' hP hst' hm => ?_)
    obtain ⟨x, t, hx, rfl⟩ := hval i v hP
    have hkp' := keepM hm hkp
    have hS' : TxR P w s'.heap S l := hS.at fun o e => hm.heap S o hSw e
    show wpAny _ A.in1 (holding [Value.str x t] (setAdd S (.str x t)) >>= _) _ _ s'
    refine wpAny_bind (wpAny_holding ?_)
    unfold setAdd
    refine wpAny_holding ?_
    refine wpAny_bind ((strKind P w).pyHash (k := x) (is_str _ _) ?_)
    have hlen : l.length ≤ N := by
      obtain ⟨D, _, _, nd, _⟩ := id hS
      exact hfew l nd fun y hy => List.mem_of_mem_take ((g y).mp hy)
    refine txr_add (s := { s' with toks := s'.toks + 1 }) hS' (by omega) fun b h' l' kp R' hm' => ?_
    have g' : ∀ y, y ∈ l' ↔ y ∈ ks.take (i + 1) := fun y => by
      rw [hm' y, g y, take_next hx, List.mem_append, List.mem_singleton]
    have hkp2 : ∀ b o, h0.get? b = some o → h'.get? b = some o := fun b o e => kp b o (fun z => by rw [z, hS0] at e; cases e) (hkp' b o e)
    refine wpAny_pure ⟨plainId_quiet PyProof.Rows.F.plain_set_update_loop _, ih (i + 1) _ (by omega) hlt (W.frame _ s' _ _ hst' (Nat.le_add_right _ _) fun b hb o e => ?_) hkp2 ⟨l', R', g'⟩ fun s'' l2 hm'' hS'' g'' hkp'' => ?_⟩
    · exact kp b o (fun h : b = S => hSf (by rw [← h]; exact hb)) e
    · refine hR s'' l2 (Moved.trans W.gtrans ((hm.mono hsub).then_heap (Nat.le_add_right _ _) fun b o hb e => ?_) hm'') hS'' g'' hkp''
      exact kp b o (fun h : b = S => hb (by rw [h]; exact List.mem_cons_self)) e
theorem txr_fresh {h : Heap} {a : Addr} (ho : h.get? a = some { cls := .type "set", dict := none, data := .set #[] 0 (.fresh 0 0 (!w.params.followText "set-order")) }) : TxR P w h a [] :=
  ⟨(#[], 0, .fresh 0 0 (!w.params.followText "set-order")), ho, TxOk.nil (by rfl), List.nodup_nil, List.Pairwise.nil, by
    show _ ∨ (!w.params.followText "set-order") = true
    cases w.params.followText "set-order"
    · exact .inr rfl
    · exact .inl rfl⟩
set_option maxHeartbeats 3200000 in
/-- set(xs) of a list of texts -/
theorem call_set_txts {l : Addr} {items : Array Value} (ks : List Str) {Q : Value → Shared → Prop} (hh : A.handled = none) (hl : s.heap.IsList l items) (hit : StrsAre items.toList ks)
    (N : Nat) (hN : N + 1 < scanBound) (hfew : ∀ l : List Str, l.Nodup → (∀ x ∈ l, x ∈ ks) → l.length ≤ N)
    (h : ∀ (h' : Heap) (tk : Nat) L, TxR P w h' s.heap.objs.size L → (∀ x, x ∈ L ↔ x ∈ ks) → (∀ b o, s.heap.get? b = some o → h'.get? b = some o) → Q (.ref s.heap.objs.size) { s with heap := h', toks := tk }) :
    wpAny (model P w) A (call (.type "set") [.ref l]) Q E s := by
  have hisz : items.size = ks.length := by
    have q := StrsAre.length hit
    rw [Array.length_toList] at q
    exact q
  obtain ⟨c, tl, hmro⟩ := PySem.F.called_set.mro
  have hmade := PySem.F.called_set.made
  have hsub := PySem.F.called_set.sub
  refine wpAny_call (codeAny_of_tree ?_)
  show wpAny _ _ (callAny (.type "set") _) _ _ _
  refine wpAny_pure ⟨Code.quiet_builtin _ (by decide +kernel), codeAny_builtin PySem.F.entry_type_call ?_⟩
  rw [Around.under_plain (weight_type_call_type "set" [.ref l] []) rfl]
  have h1 := PySem.F.called_set.notType
  have h2 := PySem.F.called_set.canCreate
  have hct := PySem.F.typeCall_set_1 (.ref l)
  repeat (any_goals (first | assumption | wp_step))

  refine codeAny_mono (code_set_led1 (.ref l) (E := E) (Q₁ := fun obj s₁ => obj = .ref s.heap.objs.size ∧ s₁ = { s with heap := s.heap.push { cls := .type "set", dict := none, data := .set #[] 0 (.fresh 0 0 (!w.params.followText "set-order")) } }) ⟨rfl, rfl⟩) fun r s₁ hr => ?_
  cases r with
  | error e => exact hr
  | ok fl =>
    cases fl with
    | ret obj =>
      obtain ⟨rfl, rfl⟩ := hr
      have hS : (s.heap.push { cls := .type "set", dict := none, data := .set #[] 0 (.fresh 0 0 (!w.params.followText "set-order")) }).get? s.heap.objs.size = some { cls := .type "set", dict := none, data := .set #[] 0 (.fresh 0 0 (!w.params.followText "set-order")) } := Heap.get?_push_size _ rfl
      have hT : Shared.TypeIs { s with heap := s.heap.push { cls := .type "set", dict := none, data := .set #[] 0 (.fresh 0 0 (!w.params.followText "set-order")) } } (.ref s.heap.objs.size) "set" := ⟨_, hS, rfl⟩
      have hli := PySem.F.called_set.init.lookup
      have hbi := PySem.F.called_set.init.bind (.ref s.heap.objs.size)
      repeat (any_goals (first | assumption | wp_step))

      refine codeAny_mono (codeAny_call_builtin (R := wants (fun r s₂ => r = .none ∧ ∃ h' tk L, s₂ = { s with heap := h', toks := tk } ∧ TxR P w h' s.heap.objs.size L ∧ (∀ x, x ∈ L ↔ x ∈ ks) ∧
          (∀ b o, s.heap.get? b = some o → h'.get? b = some o)) E) PySem.F.called_set.init.plain PySem.F.entry_set_init (PySem.check_set_init_1 hT ?_)) fun r₂ s₂ hr₂ => ?_
      · obtain ⟨ol, hol, hcl, nl, hdl⟩ := hl
        obtain ⟨ocls, odict, odata, oslots⟩ := ol
        simp only at hcl hdl
        subst hcl; subst hdl
        have hol' : (s.heap.push { cls := .type "set", dict := none, data := .set #[] 0 (.fresh 0 0 (!w.params.followText "set-order")) }).get? l = some { cls := .type "list", dict := odict, data := .seq items nl, slots := oslots } := Heap.get?_push_of_some _ hol
        have hsls := PySem.F.sub_list_set
        have hslf := PySem.F.sub_list_frozenset
        have hne : (Value.type "list" == Value.type "dict") = false := by decide
        have hl1 : (s.heap.push { cls := .type "set", dict := none, data := .set #[] 0 (.fresh 0 0 (!w.params.followText "set-order")) }).IsList l items := ⟨_, hol', rfl, nl, rfl⟩
        unfold Builtin.«set.__init__» noKeywords Builtin.Frozenset.updateFrom
        generalize hPI : pyIter = PI
        wp_walk
        subst hPI

        refine wpAny_pyIter_list hl1 ?_
        refine wpAny_bind (wpAny_runValue ?_)
        have hlS : l < s.heap.objs.size := Heap.lt_size hol
        have hh3 : A.in1.in1.in1.handled = none := by simp [hh]
        have hneI : l ≠ (s.heap.push { cls := .type "set", dict := none, data := .set #[] 0 (.fresh 0 0 (!w.params.followText "set-order")) }).objs.size := by
          rw [Heap.size_push]; exact Nat.ne_of_lt (Nat.lt_succ_of_lt hlS)
        have hSf : s.heap.objs.size ∉ [(s.heap.push { cls := .type "set", dict := none, data := .set #[] 0 (.fresh 0 0 (!w.params.followText "set-order")) }).objs.size, l] := by
          rw [Heap.size_push]; simp only [List.mem_cons, List.mem_singleton, List.not_mem_nil, or_false, not_or]
          exact ⟨Nat.ne_of_lt (Nat.lt_succ_self _), Nat.ne_of_gt hlS⟩
        have hval : ∀ (i : Nat) (v : Value), items[i]? = some v → ∃ x t, ks[i]? = some x ∧ v = .str x t := fun i v hv => by
          have q : items.toList[i]? = some v := by rw [Array.getElem?_toList]; exact hv
          exact strs_at hit q
        have none_of : ∀ b, s.heap.objs.size ≤ b → s.heap.get? b = none := fun b hb => by
          cases q : s.heap.get? b with
          | none => rfl
          | some o => exact absurd (Nat.lt_of_lt_of_le (Heap.lt_size q) hb) (Nat.lt_irrefl _)
        refine set_update_txts ((Walks.list hh3 _ l hneI items).toS) s.heap.objs.size
          hSf ks hisz N hN hfew hval s.heap (none_of _ (Nat.le_refl _)) (fun b hb => none_of b (by
            rw [List.mem_singleton.mp hb, Heap.size_push]
            exact Nat.le_succ _)) (items.size - 0) 0 _ (by omega) (Nat.zero_le _)
          ⟨⟨_, Heap.get?_push_size _ rfl, rfl, rfl⟩, (hl1.push _)⟩ (fun b o e => Heap.get?_push_of_some _ (Heap.get?_push_of_some _ e)) ?hS0 ?hR
        case hS0 =>
          have hget : ((s.heap.push { cls := .type "set", dict := none, data := .set #[] 0 (.fresh 0 0 (!w.params.followText "set-order")) }).push { cls := .type "list_iterator", data := .fields #[.ref l, .int 0 0] }).get? s.heap.objs.size
              = some { cls := .type "set", dict := none, data := .set #[] 0 (.fresh 0 0 (!w.params.followText "set-order")) } := Heap.get?_push_of_some _ hS
          exact ⟨[], txr_fresh hget, fun x => by simp⟩
        case hR =>
          intro s' L hm hS' g' hkp
          obtain ⟨h', g2, d', tk', os'⟩ := s'
          have eg : g2 = s.gens := hm.gens
          have ed : d' = s.drawn := hm.drawn
          have eo : os' = s.os := hm.os
          subst eg; subst ed; subst eo
          show wpAny _ _ _ _ _ _
          refine wpAny_pure ?_
          show wpAny _ _ (ret Value.none) _ _ _
          exact wpAny_pure ⟨rfl, h', tk', L, rfl, hS', g', hkp⟩

      · cases r₂ with
        | error e => exact hr₂
        | ok fl₂ =>
          cases fl₂ with
          | ret r =>
            obtain ⟨rfl, h', tk, L, rfl, hS', g', hk'⟩ := hr₂
            repeat (any_goals (first | assumption | wp_step))
            exact h _ _ _ hS' g' hk'
          | _ => exact hr₂.elim
    | _ => exact hr.elim
end
end N57
end
section
set_option maxRecDepth 100000
set_option maxHeartbeats 400000
namespace N57
open PySem PySem.Spec PyProof.Rows L2 PySem.Froz

section
variable {P : Program} {w : World} {A : Around} {E : Value → Shared → Prop} {s : Shared}
theorem strs_of_elems : ∀ (vs : List Value), (∀ v ∈ vs, ∃ k t, v = Value.str k t) → ∃ ss, StrsAre vs ss ∧ ∀ k, k ∈ ss ↔ ∃ t, Value.str k t ∈ vs
  | [], _ => ⟨[], .nil, fun k => by simp⟩
  | v :: vs, h => by
    obtain ⟨ss, h1, h2⟩ := strs_of_elems vs fun u hu => h u (List.mem_cons_of_mem _ hu)
    obtain ⟨k, t, rfl⟩ := h v List.mem_cons_self
    refine ⟨k :: ss, .cons k t h1, fun k' => ?_⟩
    rw [List.mem_cons, h2]
    constructor
    · rintro (rfl | ⟨t', ht⟩)
      · exact ⟨t, List.mem_cons_self⟩
      · exact ⟨t', List.mem_cons_of_mem _ ht⟩
    · rintro ⟨t', ht⟩
      rcases List.mem_cons.mp ht with e | e
      · cases e; exact .inl rfl
      · exact .inr ⟨t', e⟩
/-- sorted(found) of a set of texts -/
theorem sorted_txts {a : Addr} {L : List Str} {Q : Value → Shared → Prop} (R : TxR P w s.heap a L) (hh : A.handled = none) (hb : L.length < scanBound)
    (hQ : ∀ s' p (out : Array Value) (c : Nat) (ys : List Str), (∀ b o, s.heap.get? b = some o → s'.heap.get? b = some o) → s'.gens = s.gens → s'.os = s.os → s.heap.objs.size ≤ p →
      s'.heap.get? p = some (seqObj "list" out c) → StrsAre out.toList ys → ys.Perm L → sortedS ys = true → Q (.ref p) s') :
    wpAny (model P w) A (call (.builtin "sorted") [.ref a]) Q E s := by
  obtain ⟨⟨es, ep, t⟩, ho, F, nd, hr, hl⟩ := R
  have hsz : es.size = L.length := F.sz
  have hb' : es.size < scanBound := by omega
  refine Calls.call_function_entry kind_sorted plain_sorted entry_sorted (args_sorted1 _) ?_
  unfold Builtin.«sorted»
  refine wpAny_bind (m := checkCount "sorted" 1 1 _) (wpAny_pure ?_)
  refine wpAny_bind (collect_set (A := A.in1) hh ⟨_, ho, rfl, rfl⟩ F.fit hb' hr hl fun s1 vs k1 hz g1 o1 pm => ?_)
  have hvl : vs.length = L.length := by rw [pm.length_eq, List.length_map, Array.length_toList]; exact hsz
  have hin : ∀ v ∈ vs, ∃ k t, v = Value.str k t := fun v hv => by
    obtain ⟨e, he, q⟩ := List.mem_map.mp (pm.mem_iff.mp hv)
    obtain ⟨⟨k, hk, _⟩, _⟩ := F.el e he
    rw [← q]
    have hk' : Value.isStrOf k e.2 = true := hk
    cases he2 : e.2 <;> rw [he2] at hk' <;> first | exact ⟨_, _, rfl⟩ | (simp [Value.isStrOf] at hk')
  obtain ⟨ss, hS, hmem⟩ := strs_of_elems vs hin
  have hsl : ss.length = L.length := by rw [← StrsAre.length hS, hvl]
  have hperm : ss.Perm L := perm_of_sub L ss nd (fun x hx => by
    obtain ⟨e, he, hk⟩ := (F.mem x).mp hx
    rw [hmem]
    have hk' : Value.isStrOf x e.2 = true := hk
    have hv : e.2 ∈ vs := pm.mem_iff.mpr (List.mem_map.mpr ⟨e, he, rfl⟩)
    obtain ⟨k, t', e2⟩ := hin _ hv
    rw [e2] at hk' hv
    have : k = x := by simpa [Value.isStrOf] using hk'
    subst this
    exact ⟨t', hv⟩) hsl
  have hz1 : vs.length ≤ sizeLine := by rw [hvl]; exact fits_of_scanBound hb
  refine wpAny_bind (wpAny_newList ?_ hz1)
  have hoL : (s1.heap.push (seqObj "list" vs.toArray 0)).get? s1.heap.objs.size = some (seqObj "list" vs.toArray 0) := Heap.get?_push_size _ rfl
  refine wpAny_bind (wpAny_holding (wpAny_call_entry slot_list_sort ⟨_, hoL, rfl⟩ entry_list_sort (list_sort_treeKAny strKind_oneLt hoL hS.keysOf (fun v₁ v₂ rest e => keyKind_strs (by rw [← e]; exact hS)) hz1 fun st' hp hs => ⟨_, rfl, ?_⟩) (args_list_sort _)))
  obtain ⟨ys, a1, a2, a3⟩ := sorted_out_str hS hp hs
  obtain ⟨c, hc⟩ := sortedHeap_at (vs := vs) (out := (arrOf st').map (·.2)) hoL
  refine wpAny_pure ⟨_, rfl, hQ _ s1.heap.objs.size _ c ys (fun b u e => ?_) g1 o1 hz hc a1 (a2.trans hperm) a3⟩
  have q := k1 b u e
  have hlt := Heap.lt_size q
  show (sortedHeap (s1.heap.push (seqObj "list" vs.toArray 0)) s1.heap.objs.size vs _).get? b = some u
  rw [sortedHeap_old (Nat.ne_of_lt hlt) (by rw [size_push']; exact Nat.lt_succ_of_lt hlt)]
  exact Heap.get?_push_of_some _ q
end
end N57
end
section
set_option maxRecDepth 100000
set_option maxHeartbeats 400000
namespace N57
open PySem PySem.Spec PyProof.Rows L2 PySem.Froz

section
variable {X : Cx} {a : Expr} {t : TA} {p p2 q pos : Pos}
def tSS (K : PySem.W.Frag) (t : TA) : TE := fun σ H Q => t σ H fun vs H1 => ∃ (l : Addr) (xs : List Str) (N : Nat), vs = [.ref l] ∧ SqL K H1 l (xs.map V.str) ∧ N + 1 < scanBound ∧ (∀ l : List Str, l.Nodup → (∀ x ∈ l, x ∈ xs) → l.length ≤ N) ∧
  ∀ (ys : List Str) (p : Addr), ys.Nodup → (∀ x, x ∈ ys ↔ x ∈ xs) → sortedS ys = true → H1 p = none → Q (.ref p) (upd H1 p (.lst (ys.map V.str)))
theorem pe_sortS (hc : X.calm = true) (hg : Gl X "sorted") (hm : X.mg "sorted" = none) (hg2 : Gl X "set") (hm2 : X.mg "set" = none) (ha : notStar a = true) (pa : PA X [a] t) :
    PE X (.Call (.Name "sorted" p) [.Call (.Name "set" p2) [a] [] q] [] pos) (tSS X.K t) := by
  refine ⟨fun pins s σ H Q I h => ?_⟩
  refine Call_ (ld_blt I hg hm (by decide +kernel : bootBuiltins "sorted" = some (.builtin "sorted")) ?_)
  refine PyProof.Rows.callWith_builtin1 (PyProof.Rows.args_cons ?_ rfl) rfl rfl
  refine Call_ (ld_blt I hg2 hm2 boot_set ?_)
  refine PyProof.Rows.callWith_type1 (thn (pa.run q pins s σ H _ I h) fun us s1 ⟨vs, H1, I1, r1, q1⟩ => ?_) (star_ok ha) rfl
  obtain ⟨l, xs, N, rfl, hq, hN, hfew, q1⟩ := q1
  cases r1 with
  | cons r rr =>
  cases rr
  cases r
  obtain ⟨its, rv, pl, hz⟩ := I1.list hq
  refine call_set_txts (P := X.prog) (w := X.w) xs (I1.ok.hd hc) pl.isList (by simpa using rv.strs) N hN hfew fun h' tk L R hmem hk => PyProof.Rows.args_nil ?_
  have hL : L.length ≤ N := by
    obtain ⟨D, _, _, nd, _⟩ := id R
    exact hfew L nd fun x hx => (hmem x).mp hx
  have nd : L.Nodup := by obtain ⟨D, _, _, nd, _⟩ := id R; exact nd
  have I2 : Inv X pins σ H1 { s1 with heap := h', toks := tk } := I1.kept hk
  refine sorted_txts R (I2.ok.hd hc) (by omega) fun s' p out c ys kp g o hp hg hi pm hs => ?_
  have hn : H1 p = none := I2.hok.fresh hp
  have hlen : (ys.map V.str).length ≤ sizeLine := by
    rw [List.length_map, pm.length_eq]
    exact fits_of_scanBound (show L.length < scanBound by omega)
  have J : Inv X pins σ (upd H1 p (.lst (ys.map V.str))) { ({ s1 with heap := h', toks := tk } : Shared) with heap := s'.heap, gens := s'.gens, drawn := s'.drawn, toks := s'.toks } :=
    I2.call (ch := []) (Un.laid kp hp hn) (I2.hok.laid kp hp ⟨hlen, out.toList, c, vals_of_strs hi, hg⟩) (by rw [g]; exact I2.bare) (fun _ z => nomatch z)
  have e : s' = { ({ s1 with heap := h', toks := tk } : Shared) with heap := s'.heap, gens := s'.gens, drawn := s'.drawn, toks := s'.toks } := by
    obtain ⟨h1, g1, d1, t1, o1⟩ := s'
    have o' : o1 = s1.os := o
    subst o'
    rfl
  rw [e]
  exact ⟨.ref p, _, J, rfl, q1 ys p (pm.nodup_iff.mpr nd) (fun x => by rw [pm.mem_iff, hmem x]) hs hn⟩
end
theorem sortedS_iff : ∀ {l : List Str}, sortedS l = true → l.Pairwise (fun a b => ltW b.cps.toList a.cps.toList = false)
  | [], _ => List.Pairwise.nil
  | x :: r, h => by
    have key : ∀ (r : List Str) (x : Str), risingS x r = true → (x :: r).Pairwise (fun a b => ltW b.cps.toList a.cps.toList = false) := by
      intro r
      induction r with
      | nil => intro x _; exact List.pairwise_singleton _ _
      | cons y r ih =>
        intro x h
        have h' : (!ltCps y.cps.toList x.cps.toList && risingS y r) = true := h
        simp only [Bool.and_eq_true, Bool.not_eq_true'] at h'
        have hxy : ltW y.cps.toList x.cps.toList = false := by
          cases hb : ltW y.cps.toList x.cps.toList with
          | false => rfl
          | true =>
            have h1 := h'.1
            rw [ltCps_eq] at h1
            exact absurd (ltW_iff.mp hb) (of_decide_eq_false h1)
        have p := ih y h'.2
        refine List.pairwise_cons.mpr ⟨fun z hz => ?_, p⟩
        rcases List.mem_cons.mp hz with e | hz
        · rw [e]; exact hxy
        · exact ltW_swo.tr _ _ _ hxy ((List.pairwise_cons.mp p).1 z hz)
    exact key r x h
theorem toS_self (x : Str) : toS x.cps.toList = x := by cases x; simp [toS]
theorem sortS_eq {ys : List Str} {m : List Wd} (nd : ys.Nodup) (hm : ∀ x, x ∈ ys ↔ x ∈ m.map toS) (hs : sortedS ys = true) : ys = (sortBy ltW (dedupW m)).map toS := by
  have e1 : ys = (ys.map fun x => x.cps.toList).map toS := by
    rw [List.map_map]
    have : (toS ∘ fun x : Str => x.cps.toList) = id := funext toS_self
    rw [this, List.map_id]
  have e2 : (ys.map fun x => x.cps.toList) = sortBy ltW (dedupW m) := by
    have nd1 : (ys.map fun x => x.cps.toList).Nodup := by
      rw [e1] at nd
      exact L2.nodup_of_map nd
    have pm : (sortBy ltW (dedupW m)).Perm (ys.map fun x => x.cps.toList) := by
      refine (sort_perm _).trans ?_
      have mem : ∀ x, x ∈ (ys.map fun x => x.cps.toList) ↔ x ∈ dedupW m := fun x => by
        rw [dedup_mem, List.mem_map]
        constructor
        · rintro ⟨y, hy, rfl⟩
          obtain ⟨z, hz, e⟩ := List.mem_map.mp ((hm y).mp hy)
          rw [← e, toS_list]; exact hz
        · intro hx
          exact ⟨toS x, (hm _).mpr (List.mem_map_of_mem hx), toS_list x⟩
      refine perm_of_sub _ _ nd1 (fun x hx => (mem x).mp hx) ?_
      exact Nat.le_antisymm (nodup_len _ _ (dedup_nodup m) fun x hx => (mem x).mpr hx) (nodup_len _ _ nd1 fun x hx => (mem x).mp hx)
    refine List.Perm.eq_of_pairwise (le := fun a b => ltW b a = false) (fun a b _ _ h1 h2 => ?_) (List.pairwise_map.mpr (sortedS_iff hs)) (sort_srtd ltW_swo _) pm.symm
    have n1 : ¬ b < a := fun h => by rw [ltW_iff.mpr h] at h1; cases h1
    have n2 : ¬ a < b := fun h => by rw [ltW_iff.mpr h] at h2; cases h2
    exact List.le_antisymm (List.not_lt.mp n1) (List.not_lt.mp n2)
  rw [e1, e2]
theorem mapM_str {l : List D} {ws : List Wd} (h : l.mapM strOf = some ws) : l = ws.map D.str := by
  induction l generalizing ws with
  | nil => cases h; rfl
  | cons d l ih =>
    rw [List.mapM_cons] at h
    cases h1 : strOf d with
    | none => rw [h1] at h; cases h
    | some w =>
      rw [h1] at h
      cases h2 : l.mapM strOf with
      | none => rw [h2] at h; cases h
      | some m2 =>
        rw [h2] at h
        cases h
        rw [ih h2]
        cases d <;> cases h1
        rfl
theorem repStrs2 {G : Gm} {C : Cn} {H : Hp} : ∀ {ws : List Wd} {xs : List V}, RepL G C H xs (ws.map D.str) → xs = (ws.map toS).map V.str
  | [], _, h => by cases h; rfl
  | _ :: _, _, h => by
    cases h with
    | cons a b => cases a; rw [repStrs2 b]; rfl
theorem rk_sortS {G : Gm} {X : Cx} {a : Expr} {p p2 q pos : Pos} {m : Ev → M D} (hK : X.K = G.K) (hc : X.calm = true) (hg : Gl X "sorted") (hm : X.mg "sorted" = none) (hg2 : Gl X "set") (hm2 : X.mg "set" = none) (ha : notStar a = true) (pa : PA X [a] (tA G m)) :
    PE X (.Call (.Name "sorted" p) [.Call (.Name "set" p2) [a] [] q] [] pos) (tE G fun ρ => M.bnd (m ρ) fun y => M.of ((unL y).bind fun l => prD G.tbl .sortS l)) :=
  (pe_sortS hc hg hm hg2 hm2 ha pa).imp fun σ H Q ⟨C, st, ρ, d, st', hl, rs, e, f⟩ => by
    replace e := bnd_some e
    obtain ⟨y, s1, e1, e⟩ := e
    replace e := of_some e
    obtain ⟨e, rfl⟩ := e
    rw [Option.bind_eq_some_iff] at e
    obtain ⟨ds, e2, e⟩ := e
    cases y <;> cases e2
    refine ⟨C, st, ρ, _, _, hl, rs, e1, fun vs H1 x1 h1 r1 => ?_⟩
    rw [hK]
    unfold prD at e
    split at e <;> first | (cases ‹Pr.sortS = _›; done) | skip
    all_goals first | (cases e; done) | skip
    rename_i l _
    replace r1 := r1.inv1
    obtain ⟨v, rfl, r1⟩ := r1
    rw [Option.bind_eq_some_iff] at e
    obtain ⟨ws, h1', e⟩ := e
    split at e
    · rename_i hz
      cases e
      have hz' : (dedupW ws).length < 64 := by simpa [Nat.blt_eq] using hz
      obtain rfl := mapM_str h1'
      cases r1 with
      | lst q1 q2 q3 =>
      have ex := repStrs2 q3
      subst ex
      refine ⟨_, ws.map toS, 64, rfl, SqL.of q1, by decide, fun L nd hs => ?_, fun ys p nd hmem hs hp => ?_⟩
      · have h3 : L.length ≤ (dedupW ws).length := by
          have h4 := nodup_len (L.map fun x => x.cps.toList) (dedupW ws) (by
            have e5 : L = (L.map fun x => x.cps.toList).map toS := by
              rw [List.map_map, show (toS ∘ fun x : Str => x.cps.toList) = id from funext toS_self, List.map_id]
            rw [e5] at nd
            exact L2.nodup_of_map nd) fun x hx => by
              obtain ⟨y, hy, rfl⟩ := List.mem_map.mp hx
              obtain ⟨z, hz, e⟩ := List.mem_map.mp (hs y hy)
              rw [dedup_mem, ← e, toS_list]; exact hz
          rwa [List.length_map] at h4
        omega
      · rw [sortS_eq nd hmem hs, List.map_map]
        exact f _ _ (x1.trans (Ext.new hp)) (h1.new hp) (.lst upd_same (h1.notS hp) (repStrs _))
    · cases e
end N57
end
section
set_option maxRecDepth 100000
set_option maxHeartbeats 400000
namespace N57
open PySem PySem.Spec PyProof.Rows L2 SrtO PySem.W

theorem lexLt_ltI : ∀ a b : List Int, HT.lexLt a b = ltI a b
  | [], [] => rfl
  | [], _ :: _ => rfl
  | _ :: _, [] => rfl
  | a :: l, b :: m => by
    rw [HT.lexLt_cons, lexLt_ltI l m]
    show _ = (if decide (a = b) then ltI l m else decide (a < b))
    by_cases h : a = b <;> simp [h]
/-- a tuple of these ints -/
def TI (h : Heap) (v : Value) (ns : List Int) : Prop := ∃ (a : Addr) (o : Obj) (items : Array Value) (n : Nat), v = .ref a ∧ h.get? a = some o ∧ o.cls = .type "tuple" ∧ o.data = .seq items n ∧ IntsAre items.toList ns
theorem TI.keeps {h h' : Heap} {v : Value} {ns : List Int} (x : TI h v ns) (k : ∀ b o, v = .ref b → h.get? b = some o → h'.get? b = some o) : TI h' v ns := by
  obtain ⟨a, o, items, n, e, g, r⟩ := x
  exact ⟨a, o, items, n, e, k _ _ e g, r⟩
section
variable {M : Model} {A : Around} {E : Value → Shared → Prop} {s : Shared}
theorem TI.type {v : Value} {ns : List Int} (x : TI s.heap v ns) : Looks M s.heap (typeOf v) (.type "tuple") := by
  obtain ⟨a, o, items, n, rfl, g, hc, r⟩ := x
  rw [← hc]
  exact (Looks.ld g).andThen .now
theorem TI.first {v : Value} {ns : List Int} {Q : Option Value → Shared → Prop} (x : TI s.heap v ns) (h : ∀ r, (ns = [] → r = none) → Q r s) : wpAny M A (firstOfTuple' v) Q E s := by
  obtain ⟨a, o, items, n, rfl, g, hc, hd, hi⟩ := x
  rw [kas_first_eq]
  refine wpAny_bind (Looks.here (show Looks M s.heap (typeOf (.ref a)) o.cls from (Looks.ld g).andThen .now) ?_)
  rw [hc, if_neg (by first | decide | simp)]
  refine wpAny_bind (listItems_at g hd (wpAny_pure (h _ fun e => ?_)))
  subst e
  have hl := hi.length
  have : items.size = 0 := by simpa using hl
  exact Array.getElem?_eq_none (by omega)
theorem firsts_any : ∀ (vs : List Value) {Q : List (Option Value) → Shared → Prop}, (∀ v ∈ vs, ∃ ns, TI s.heap v ns) → (∀ fs, Q fs s) → wpAny M A (vs.mapM firstOfTuple') Q E s
  | [], _, _, h => by rw [List.mapM_nil]; exact wpAny_pure (h [])
  | v :: vs, Q, t, h => by
    rw [List.mapM_cons]
    obtain ⟨ns, x⟩ := t v List.mem_cons_self
    refine wpAny_bind (x.first fun r _ => ?_)
    exact wpAny_bind (firsts_any vs (Q := fun bs s' => wpAny M A (pure (r :: bs)) Q E s') (fun u hu => t u (List.mem_cons_of_mem _ hu)) fun fs => wpAny_pure (h _))
theorem kind_head {v : Value} {vs : List Value} {Q : SortKind → Shared → Prop} (h0 : TI s.heap v []) (ht : ∀ u ∈ vs, ∃ ns, TI s.heap u ns) (h : Q oneType' s) : wpAny M A (keyKind' (v :: vs).toArray) Q E s := by
  rw [keyKind'_eq, List.mapM_toArray, map_eq_pure_bind]
  have hall : ∀ u ∈ v :: vs, ∃ ns, TI s.heap u ns := fun u hu => by
    rcases List.mem_cons.mp hu with e | hu
    · rw [e]; exact ⟨[], h0⟩
    · exact ht u hu
  refine wpAny_bind (wpAny_bind ?_)
  rw [List.mapM_cons]
  refine wpAny_bind (h0.first fun r hr => ?_)
  rw [hr rfl]
  refine wpAny_bind (firsts_any vs ht fun fs => wpAny_pure (wpAny_pure ?_))
  rw [if_neg (by simp), if_neg (by simp)]
  rw [oneTypeOnly'_eq, List.mapM_toArray, map_eq_pure_bind]
  refine wpAny_bind (wpAny_bind (wpAny_bind (kas_mapM (r := Value.type "tuple") _ (fun u hu Q' hq => by obtain ⟨ns, x⟩ := hall u hu; exact x.type.here hq) (wpAny_pure ?_))))
  have hall2 : ((List.map (fun _ => Value.type "tuple") (v :: vs)).toArray.all fun x => x == Value.type "tuple") = true := by
    simp only [List.all_toArray, List.all_map, List.all_eq_true]
    intro _ _
    first | decide | rfl | simp
  have h0' : (List.map (fun _ => Value.type "tuple") (v :: vs)).toArray[0]? = some (Value.type "tuple") := by simp
  rw [h0']
  simp only [hall2, if_true]
  exact wpAny_pure (wpAny_pure h)
end
section
variable {prog : Program} {w : World} {A : Around} {E : Value → Shared → Prop} {s : Shared}
theorem lt_tup {v u : Value} {ns ms : List Int} {Q : Bool → Shared → Prop} (hu : A.units < cLine) (hv : TI s.heap v ns) (hw : TI s.heap u ms) (h : Q (ltI ns ms) s) : wpAny (model prog w) A (keyLt' oneType' v u) Q E s := by
  have tv : Looks (model prog w) s.heap (typeOf v) (.type "tuple") := hv.type
  have sp : Looks (model prog w) s.heap (specialOf v "__lt__") (some (.builtin "tuple.__lt__")) := tv.andThen (Looks.of_pure PySem.F.slot_tuple_lt.lookup)
  obtain ⟨a, o, items, n, rfl, ga, hc, hd, ia⟩ := hv
  obtain ⟨b, o2, items2, n2, rfl, gb, hc2, hd2, ib⟩ := hw
  obtain ⟨cls, dd, data, sl⟩ := o
  obtain ⟨cls2, dd2, data2, sl2⟩ := o2
  simp only at hc hd hc2 hd2
  subst hc hd hc2 hd2
  rw [keyLt'_oneType, oneLt'_eq]
  simp only [if_true]
  refine wpAny_bind (wpAny_cRoomFor hu ?_)
  refine wpAny_bind (NtL.csib (E := E) sp (PySem.F.slot_tuple_lt.bind _) (call_meets PySem.F.slot_tuple_lt ⟨_, ga, rfl⟩ PySem.F.entry_tuple_lt (PySem.F.args_tuple_lt_2 _ _) (HT.tuple_lt_ints a b items items2 n n2 dd dd2 sl sl2 ns ms ia ib) ⟨ga, gb, ?_⟩))
  rw [lexLt_ltI]
  exact wpAny_truthy_bool h
def kOf (h : Heap) : Value → List Int
  | .ref a => match h.get? a with
    | some o => match o.data with
      | .seq its _ => its.toList.map iv
      | _ => []
    | none => []
  | _ => []
theorem kOf_eq {h : Heap} {v : Value} {ns : List Int} (x : TI h v ns) : kOf h v = ns := by
  obtain ⟨a, o, items, n, rfl, g, hc, hd, hi⟩ := x
  unfold kOf
  simp only [g, hd]
  exact iv_ints hi
theorem tups_sortable {a : Addr} {vs : List Value} {k : Value → List Int} {v0 : Value} {rest : List Value} (hvs : vs = v0 :: rest) (hu : A.units < cLine) (hv : ∀ v ∈ vs, TI s.heap v (k v)) (h0 : k v0 = []) (ha : ∀ v ∈ vs, v ≠ .ref a) :
    SortableO prog w A s a vs fun v u => ltI (k v) (k u) := by
  intro h' keep
  have hv' : ∀ v ∈ vs, TI h' v (k v) := fun v hm => (hv v hm).keeps fun b o e g => keep b o (fun z => ha v hm (by rw [e, z])) g
  refine ⟨oneType', fun Q E hq => ?_, fun p q hp hq => ?_⟩
  · subst hvs
    refine kind_head (s := { s with heap := h' }) ?_ (fun u hu => ⟨_, hv' u (List.mem_cons_of_mem _ hu)⟩) hq
    have := hv' v0 List.mem_cons_self
    rw [h0] at this
    exact this
  · exact lt_tup (s := { s with heap := h' }) (E := fun _ _ => False) (Q := fun r s' => s' = { s with heap := h' } ∧ r = ltI (k p.1) (k q.1)) hu (hv' p.1 hp) (hv' q.1 hq) ⟨rfl, rfl⟩
end
section
variable {X : Cx}
/-- sorted(xs), tuples of ints, the first of them empty -/
def rSortP (K : PySem.W.Frag) : List V → Hp → VK → Prop := fun vs H Q => ∃ (l : Addr) (as : List Addr) (kss : List (List Int)), vs = [V.ref l] ∧ SqL K H l (as.map V.ref) ∧ Paired (fun (a : Addr) (ns : List Int) => SqT K H a (ns.map V.int)) as kss ∧ headNil kss = true ∧
  ∀ p, H p = none → Q (.ref p) (upd H p (.lst ((sortBy (fun x y : Addr × List Int => ltI x.2 y.2) (as.zip kss)).map fun x => V.ref x.1)))
theorem fa_of {h : Heap} : ∀ {as : List Addr} {kss : List (List Int)}, Paired (fun (a : Addr) (ns : List Int) => TI h (.ref a) ns) as kss → Fa2 (fun (v : Value) (p : Addr × List Int) => v = .ref p.1 ∧ kOf h v = p.2) (as.map Value.ref) (as.zip kss)
  | _, _, .nil => .nil
  | _, _, .cons a t => .cons ⟨rfl, kOf_eq a⟩ (fa_of t)
theorem fa_map {h : Heap} : ∀ {vs : List Value} {ps : List (Addr × List Int)}, Fa2 (fun (v : Value) (p : Addr × List Int) => v = .ref p.1 ∧ kOf h v = p.2) vs ps → vs = ps.map fun p => Value.ref p.1
  | _, _, .nil => rfl
  | _, _, .cons a t => by rw [List.map_cons, ← a.1, ← fa_map t]
theorem ref_vals : ∀ L : List (Addr × List Int), Vals (L.map fun x => V.ref x.1) (L.map fun p => Value.ref p.1)
  | [] => .nil
  | _ :: L => .cons rfl (ref_vals L)
theorem cr_sortP (hu : X.A.units + 100 < cLine) : CallR X (.builtin "sorted") (rSortP X.K) := by
  intro pins s σ H xs us Q I r h
  obtain ⟨l, as, kss, rfl, hq, pk, hn, q⟩ := h
  obtain ⟨its, rv, hl, hz⟩ := I.list hq
  rw [Vals.ref1 r]
  have ei := refs_at rv
  subst ei
  have ti : Paired (fun (a : Addr) (ns : List Int) => TI s.heap (.ref a) ns) as kss := pk_imp (fun a ns hs => by
    obtain ⟨its, r', ⟨o, g, hc, n, hd⟩, _⟩ := I.tuple hs
    exact ⟨a, o, its.toArray, n, rfl, g, hc, hd, by simpa using intsAre_of r'⟩) pk
  have fa := fa_of ti
  have allTI : ∀ v ∈ as.map Value.ref, TI s.heap v (kOf s.heap v) := fun v hv => by
    obtain ⟨a, ha, rfl⟩ := List.mem_map.mp hv
    obtain ⟨j, ns, e1, e2, e3⟩ := LiI.paired_ix ti ha
    rw [kOf_eq e3]; exact e3
  refine SrtO.sorted_ord (ltv := fun v u => ltI (kOf s.heap v) (kOf s.heap u)) (swo_of ltI_swo _) hl.isList (by rw [List.length_map]; rw [List.length_map] at hz; exact hz) (fun h2 h₁ a' ha' hk => ?_) fun out o1 o2 => ?_
  · obtain ⟨v0, rest, hvs⟩ : ∃ v0 rest, as.map Value.ref = v0 :: rest := by
      cases hm : as.map Value.ref with
      | nil => rw [hm] at h2; simp at h2
      | cons a b => exact ⟨a, b, rfl⟩
    refine tups_sortable (k := kOf s.heap) hvs (show X.A.units + 1 + 1 < cLine by omega) (fun v hv => (allTI v hv).keeps fun b o e g => (hk b o g).2) ?_ (fun v hv => ?_)
    · cases ti with
      | nil => cases hvs
      | cons a t =>
        cases hvs
        rw [kOf_eq a]
        have hn' : (_ : List Int).isEmpty = true := hn
        exact List.isEmpty_iff.mp hn'
    · obtain ⟨a, o, _, _, rfl, g, _⟩ := allTI v hv
      intro e
      exact (hk a o g).1 (by cases e; rfl)
  · have e1 : out = sortBy (fun v u => ltI (kOf s.heap v) (kOf s.heap u)) (as.map Value.ref) := sort_out (swo_of ltI_swo _) o1 o2.cls
    have e2 := fa_map (sort_rel (lt := fun v u => ltI (kOf s.heap v) (kOf s.heap u)) (lt' := fun x y : Addr × List Int => ltI x.2 y.2) (fun a b a' b' r r' => by rw [r.2, r'.2]) fa)
    rw [← e1] at e2
    obtain ⟨ep, he'⟩ := PyProof.Rows.sortedAll_at s.heap (as.map Value.ref) out.toArray
    have hlen : ((sortBy (fun x y : Addr × List Int => ltI x.2 y.2) (as.zip kss)).map fun x => V.ref x.1).length ≤ sizeLine := by
      rw [List.length_map, (sort_perm _).length_eq, List.length_zip]
      rw [List.length_map] at hz
      omega
    refine ⟨.ref _, upd H (s.heap.objs.size + 1) (.lst ((sortBy (fun x y : Addr × List Int => ltI x.2 y.2) (as.zip kss)).map fun x => V.ref x.1)), I.laid (t' := s.toks) (fun _ _ => PyProof.Rows.sortedAll_old) (Nat.le_succ _) ⟨hlen, out, ep, ?_, he'⟩, rfl, q _ (I.hok.fresh (Nat.le_succ _))⟩
    rw [e2]
    exact ref_vals _
end
section
variable {G : Gm} {C : Cn} {H : Hp}
theorem intsT_rep : ∀ {xs : List V} {l : List D} {ks : List (List Int)}, RepL G C H xs l → l.mapM intsOf = some ks →
    ∃ as : List Addr, xs = as.map V.ref ∧ Paired (fun (a : Addr) (ns : List Int) => SqT G.K H a (ns.map V.int)) as ks ∧ Fa2 (fun (v : V) (d : D) => Rep G C H v d) xs l ∧ l = ks.map fun ns => .tup (ns.map .int)
  | _, _, ks, .nil, h => by
    cases h
    exact ⟨[], rfl, .nil, .nil, rfl⟩
  | _, _, ks, .cons (v := x) (d := d) (ds := l) r t, h => by
    rw [List.mapM_cons] at h
    cases h1 : intsOf d with
    | none => rw [h1] at h; cases h
    | some ns =>
      rw [h1] at h
      cases h2 : l.mapM intsOf with
      | none => rw [h2] at h; cases h
      | some m2 =>
        rw [h2] at h
        cases h
        obtain ⟨as, e1, e2, e3, e4⟩ := intsT_rep t h2
        obtain rfl := intsOf_tup h1
        have r0 := r
        cases r with
        | tup q1 q2 q3 =>
          have e5 := repInts q3
          subst e5
          exact ⟨_ :: as, by rw [e1]; rfl, .cons q1.sq e2, .cons r0 e3, by rw [List.map_cons, ← e4]⟩
theorem fa_rep : ∀ {xs : List V} {l : List D}, Fa2 (fun (v : V) (d : D) => Rep G C H v d) xs l → RepL G C H xs l
  | _, _, .nil => .nil
  | _, _, .cons a t => .cons a (fa_rep t)
theorem fa_zip : ∀ {as : List Addr} {ks : List (List Int)} {l : List D}, Paired (fun (a : Addr) (ns : List Int) => SqT G.K H a (ns.map V.int)) as ks → Fa2 (fun (v : V) (d : D) => Rep G C H v d) (as.map V.ref) l → l = ks.map (fun ns => .tup (ns.map .int)) →
    Fa2 (fun (p : Addr × List Int) (ns : List Int) => p.2 = ns ∧ Rep G C H (.ref p.1) (.tup (ns.map .int))) (as.zip ks) ks
  | _, _, _, .nil, _, _ => .nil
  | _, _, l, .cons a t, fa, e => by
    rw [List.map_cons] at fa e
    subst e
    cases fa with
    | cons r fa => exact .cons ⟨rfl, r⟩ (fa_zip t fa rfl)
theorem fa_out : ∀ {ps : List (Addr × List Int)} {ks : List (List Int)}, Fa2 (fun (p : Addr × List Int) (ns : List Int) => p.2 = ns ∧ Rep G C H (.ref p.1) (.tup (ns.map .int))) ps ks →
    RepL G C H (ps.map fun x => V.ref x.1) (ks.map fun x => .tup (x.map .int))
  | _, _, .nil => .nil
  | _, _, .cons a t => .cons a.2 (fa_out t)
end
theorem rk_sortP {G : Gm} {X : Cx} {a : Expr} {p pos : Pos} {m : Ev → M D} (hK : X.K = G.K) (hu : X.A.units + 100 < cLine) (hg : Gl X "sorted") (hm : X.mg "sorted" = none) (ha : notStar a = true) (pa : PA X [a] (tA G m)) :
    PE X (.Call (.Name "sorted" p) [a] [] pos) (tE G fun ρ => M.bnd (m ρ) fun y => M.of ((unL y).bind fun l => prD G.tbl .sortP l)) :=
  (pe_callB (cr_sortP hu) hg hm (by decide +kernel) pa (by decide) (by decide) (star_ok ha) (by rfl)).imp fun σ H Q ⟨C, st, ρ, d, st', hl, rs, e, f⟩ => by
    replace e := bnd_some e
    obtain ⟨y, s1, e1, e⟩ := e
    replace e := of_some e
    obtain ⟨e, rfl⟩ := e
    rw [Option.bind_eq_some_iff] at e
    obtain ⟨ds, e2, e⟩ := e
    cases y <;> cases e2
    refine ⟨C, st, ρ, _, _, hl, rs, e1, fun vs H1 x1 h1 r1 => ?_⟩
    rw [hK]
    unfold prD at e
    split at e <;> first | (cases ‹Pr.sortP = _›; done) | skip
    all_goals first | (cases e; done) | skip
    rename_i l _
    replace r1 := r1.inv1
    obtain ⟨v, rfl, r1⟩ := r1
    rw [Option.bind_eq_some_iff] at e
    obtain ⟨ks, h1', e⟩ := e
    split at e
    · rename_i hz
      cases e
      cases r1 with
      | lst q1 q2 q3 =>
      obtain ⟨as, ex, pk, fa, el⟩ := intsT_rep q3 h1'
      subst ex
      refine ⟨_, as, ks, rfl, SqL.of q1, pk, hz, fun p hp => ?_⟩
      have fz := fa_zip pk fa el
      have fs := sort_rel (lt := fun x y : Addr × List Int => ltI x.2 y.2) (lt' := ltI) (fun a b a' b' r r' => by rw [r.1, r'.1]) fz
      exact f _ _ (x1.trans (Ext.new hp)) (h1.new hp) (.lst upd_same (h1.notS hp) ((fa_out fs).ext h1 (Ext.new hp)))
    · cases e
end N57
end
section
set_option maxRecDepth 100000
set_option maxHeartbeats 400000
namespace N57
open PySem PySem.Spec PyProof.Rows L2 SrtO PySem.W

abbrev AK := Addr × (Wd × Int)
def encI (b : AK) : PyData := .tuple [.str (toS b.2.1), .int b.2.2]
def ltK (x y : AK) : Bool := ltW x.2.1 y.2.1
theorem dataLt_str (x y : Wd) : dataLt (.str (toS x)) (.str (toS y)) = ltW x y := by
  have h := congrFun (congrFun (dataLe_str (β := Wd) fun b => toS b) y) x
  have h2 : (!dataLt (.str (toS x)) (.str (toS y))) = decide ((toS y).cps.toList ≤ (toS x).cps.toList) := h
  rw [toS_list, toS_list] at h2
  cases hb : ltW x y with
  | true =>
    have h3 := ltW_iff.mp hb
    cases hd : dataLt (.str (toS x)) (.str (toS y)) with
    | true => rfl
    | false =>
      rw [hd] at h2
      have h4 : y ≤ x := of_decide_eq_true h2.symm
      exact absurd h3 (List.not_lt.mpr h4)
  | false =>
    have h3 : ¬ x < y := fun h => by rw [ltW_iff.mpr h] at hb; cases hb
    cases hd : dataLt (.str (toS x)) (.str (toS y)) with
    | false => rfl
    | true =>
      rw [hd] at h2
      exact absurd (List.not_lt.mp h3) (of_decide_eq_false h2.symm)
theorem encI_le {a b : AK} (h : dataLe false encI a b = true) : ltK b a = false := by
  have h1 : (!dataLt (encI b) (encI a)) = true := h
  unfold encI at h1
  rw [dataLt_pair (by rfl) (by rfl)] at h1
  by_cases e : PyData.eqv (.str (toS b.2.1)) (.str (toS a.2.1)) = true
  · have e2 : toS b.2.1 = toS a.2.1 := by simpa [PyData.eqv] using e
    unfold ltK
    rw [toS_inj e2]
    exact ltW_swo.refl _
  · rw [if_neg e, dataLt_str] at h1
    simpa [ltK] using h1
theorem encI_sort (bs : List AK) (nd : (bs.map fun b => b.2.1).Nodup) : bs.mergeSort (dataLe false encI) = sortBy ltK bs := by
  have tot : TotalLe (dataLe false encI) := sortLe_total _ _ _
  refine List.Perm.eq_of_pairwise (le := fun a b => ltK b a = false) (fun a b ha hb h1 h2 => ?_) ((sort_pairwise tot bs).imp fun h => encI_le h) (sort_srtd (swo_of ltW_swo fun b : AK => b.2.1) bs) ((List.mergeSort_perm _ _).trans (sort_perm bs).symm)
  have ha' : a ∈ bs := (List.mergeSort_perm _ _).mem_iff.mp ha
  have hb' : b ∈ bs := (sort_perm bs).mem_iff.mp hb
  have n1 : ¬ b.2.1 < a.2.1 := fun h => by
    have : ltK b a = true := ltW_iff.mpr h
    rw [this] at h1; cases h1
  have n2 : ¬ a.2.1 < b.2.1 := fun h => by
    have : ltK a b = true := ltW_iff.mpr h
    rw [this] at h2; cases h2
  have e : a.2.1 = b.2.1 := List.le_antisymm (List.not_lt.mp n1) (List.not_lt.mp n2)
  have inj : ∀ (bs : List AK), (bs.map fun b => b.2.1).Nodup → ∀ a ∈ bs, ∀ b ∈ bs, a.2.1 = b.2.1 → a = b := by
    intro bs
    induction bs with
    | nil => intro _ a ha; cases ha
    | cons x bs ih =>
      intro nd a ha b hb e
      rw [List.map_cons, List.nodup_cons] at nd
      rcases List.mem_cons.mp ha with ha | ha <;> rcases List.mem_cons.mp hb with hb | hb
      · rw [ha, hb]
      · exact absurd (List.mem_map.mpr ⟨b, hb, by rw [← e, ha]⟩) nd.1
      · exact absurd (List.mem_map.mpr ⟨a, ha, by rw [e, hb]⟩) nd.1
      · exact ih nd.2 a ha b hb e
  exact inj bs nd a ha' b hb' e
section
variable {X : Cx}
/-- sorted(xs), pairs of a text and an int, no text twice -/
def rSortI2 (K : PySem.W.Frag) : List V → Hp → VK → Prop := fun vs H Q => ∃ (l : Addr) (bs : List AK), vs = [V.ref l] ∧ SqL K H l (bs.map fun b => V.ref b.1) ∧ (∀ b ∈ bs, SqT K H b.1 [.str (toS b.2.1), .int b.2.2]) ∧ (bs.map fun b => b.2.1).Nodup ∧
  ∀ p, H p = none → Q (.ref p) (upd H p (.lst ((sortBy ltK bs).map fun x => V.ref x.1)))
theorem ak_vals : ∀ bs : List AK, Vals (bs.map fun x => V.ref x.1) (bs.map fun p => Value.ref p.1)
  | [] => .nil
  | _ :: L => .cons rfl (ak_vals L)
theorem ak_of : ∀ {bs : List AK} {us : List Value}, Vals (bs.map fun x => V.ref x.1) us → us = bs.map fun p => Value.ref p.1
  | [], _, r => by rw [List.map_nil] at r; cases r; rfl
  | b :: bs, _, r => by
    rw [List.map_cons] at r
    cases r with
    | cons h t => cases h; rw [List.map_cons, ← ak_of t]
theorem each_ref : ∀ bs : List AK, EachIs (fun (v : Value) (b : AK) => v = .ref b.1) (bs.map fun p => Value.ref p.1) bs
  | [] => .nil
  | _ :: bs => .cons rfl (each_ref bs)
theorem each_out : ∀ {out : List Value} {bs : List AK}, EachIs (fun (v : Value) (b : AK) => v = .ref b.1) out bs → out = bs.map fun p => Value.ref p.1
  | _, _, .nil => rfl
  | _, _, .cons a t => by rw [List.map_cons, ← a, ← each_out t]
theorem each_reads {h : Heap} : ∀ {bs : List AK}, (∀ b ∈ bs, ∃ as, Reads h (.ref b.1) (encI b) as) → EachIs (fun (v : Value) (b : AK) => ∃ as, Reads h v (encI b) as) (bs.map fun p => Value.ref p.1) bs
  | [], _ => .nil
  | b :: bs, hb => .cons (hb b List.mem_cons_self) (each_reads fun c hc => hb c (List.mem_cons_of_mem _ hc))
theorem cr_sortI2 (hu : X.A.units + 100 < cLine) : CallR X (.builtin "sorted") (rSortI2 X.K) := by
  intro pins s σ H xs us Q I r h
  obtain ⟨l, bs, rfl, hq, hp, nd, q⟩ := h
  obtain ⟨its, rv, hl, hz⟩ := I.list hq
  rw [Vals.ref1 r]
  have ei := ak_of rv
  subst ei
  rw [List.length_map] at hz
  refine sorted_data (enc := encI) hl.isList (each_ref bs) (each_reads fun b hb => ?_) (AllAlike.of fun b b' => by rfl) (Sortable.tuples fun b => ⟨_, _, rfl⟩) hz (fun b hb => ?_) fun out hlen ho => ?_
  · exact Dp.reads I _ _ _ (.tup (hp b hb) (.cons (.str _) (.cons (.int _) .nil))) rfl
  · have hd : (encI b).depth ≤ 1 := by
      unfold encI
      simp [PyData.depth, PyData.depthAll]
    omega
  · rw [encI_sort bs nd] at ho
    have eo := each_out ho
    obtain ⟨ep, he'⟩ := PyProof.Rows.sortedAll_at s.heap (bs.map fun p => Value.ref p.1) (List.toArray out)
    have hlen2 : ((sortBy ltK bs).map fun x => V.ref x.1).length ≤ sizeLine := by
      rw [List.length_map, (sort_perm _).length_eq]; exact hz
    refine ⟨.ref _, upd H (s.heap.objs.size + 1) (.lst ((sortBy ltK bs).map fun x => V.ref x.1)), I.laid (t' := s.toks) (fun _ _ => PyProof.Rows.sortedAll_old) (Nat.le_succ _) ⟨hlen2, out, ep, ?_, he'⟩, rfl, q _ (I.hok.fresh (Nat.le_succ _))⟩
    rw [eo]
    exact ak_vals _
end
section
variable {G : Gm} {C : Cn} {H : Hp}
theorem pairSI_inv {d : D} (h : pairSI d = true) : ∃ w i, d = .tup [.str w, .int i] := by
  unfold pairSI at h
  split at h
  · exact ⟨_, _, rfl⟩
  · cases h
theorem si_rep : ∀ {xs : List V} {l : List D} {mm : List (Wd × D)}, RepL G C H xs l → l.mapM pairS = some mm → l.all pairSI = true →
    ∃ bs : List AK, xs = (bs.map fun b => V.ref b.1) ∧ (∀ b ∈ bs, SqT G.K H b.1 [.str (toS b.2.1), .int b.2.2]) ∧ (bs.map fun b => b.2.1) = mm.map (·.1) ∧ Fa2 (fun (b : AK) (p : Wd × D) => b.2.1 = p.1 ∧ Rep G C H (.ref b.1) (.tup [.str p.1, p.2])) bs mm
  | _, _, mm, .nil, h, _ => by
    cases h
    exact ⟨[], rfl, (fun b hb => by cases hb), rfl, .nil⟩
  | _, _, mm, .cons (v := x) (d := d) (ds := l) r t, h, ha => by
    rw [List.all_cons, Bool.and_eq_true] at ha
    obtain ⟨w, i, rfl⟩ := pairSI_inv ha.1
    rw [List.mapM_cons] at h
    cases h2 : l.mapM pairS with
    | none => rw [h2] at h; cases h
    | some m2 =>
      rw [h2] at h
      cases h
      obtain ⟨bs, e1, e2, e3, e4⟩ := si_rep t h2 ha.2
      have r0 := r
      cases r with
      | @tup a _ _ q1 q2 q3 =>
        obtain ⟨v1, v2, rfl, w1, w2⟩ := q3.inv2
        cases w1
        cases w2
        refine ⟨(a, (w, i)) :: bs, by rw [List.map_cons, ← e1], fun b hb => ?_, by rw [List.map_cons, List.map_cons, e3], .cons ⟨rfl, r0⟩ e4⟩
        rcases List.mem_cons.mp hb with e | hb
        · rw [e]; exact q1.sq
        · exact e2 b hb
theorem si_out : ∀ {bs : List AK} {mm : List (Wd × D)}, Fa2 (fun (b : AK) (p : Wd × D) => b.2.1 = p.1 ∧ Rep G C H (.ref b.1) (.tup [.str p.1, p.2])) bs mm →
    RepL G C H (bs.map fun x => V.ref x.1) (mm.map fun p => .tup [.str p.1, p.2])
  | _, _, .nil => .nil
  | _, _, .cons a t => .cons a.2 (si_out t)
theorem nodupW_ok : ∀ {l : List Wd}, nodupW l = true → l.Nodup
  | [], _ => List.nodup_nil
  | k :: ks, h => by
    have h' : (!ks.any (natsEq k) && nodupW ks) = true := h
    simp only [Bool.and_eq_true, Bool.not_eq_true'] at h'
    refine List.nodup_cons.mpr ⟨fun hm => ?_, nodupW_ok h'.2⟩
    have : ks.any (natsEq k) = true := List.any_eq_true.mpr ⟨k, hm, natsEq_iff.mpr rfl⟩
    rw [h'.1] at this; cases this
end
theorem rk_sortI {G : Gm} {X : Cx} {a : Expr} {p pos : Pos} {m : Ev → M D} (hK : X.K = G.K) (hu : X.A.units + 100 < cLine) (hg : Gl X "sorted") (hm : X.mg "sorted" = none) (ha : notStar a = true) (pa : PA X [a] (tA G m)) :
    PE X (.Call (.Name "sorted" p) [a] [] pos) (tE G fun ρ => M.bnd (m ρ) fun y => M.of ((unL y).bind fun l => prD G.tbl .sortI l)) :=
  (pe_callB (cr_sortI2 hu) hg hm (by decide +kernel) pa (by decide) (by decide) (star_ok ha) (by rfl)).imp fun σ H Q ⟨C, st, ρ, d, st', hl, rs, e, f⟩ => by
    replace e := bnd_some e
    obtain ⟨y, s1, e1, e⟩ := e
    replace e := of_some e
    obtain ⟨e, rfl⟩ := e
    rw [Option.bind_eq_some_iff] at e
    obtain ⟨ds, e2, e⟩ := e
    cases y <;> cases e2
    refine ⟨C, st, ρ, _, _, hl, rs, e1, fun vs H1 x1 h1 r1 => ?_⟩
    rw [hK]
    unfold prD at e
    split at e <;> first | (cases ‹Pr.sortI = _›; done) | skip
    all_goals first | (cases e; done) | skip
    rename_i l _
    replace r1 := r1.inv1
    obtain ⟨v, rfl, r1⟩ := r1
    rw [Option.bind_eq_some_iff] at e
    obtain ⟨mm, h1', e⟩ := e
    split at e
    · rename_i hz
      cases e
      simp only [Bool.and_eq_true] at hz
      cases r1 with
      | lst q1 q2 q3 =>
      obtain ⟨bs, ex, hp, hk, fa⟩ := si_rep q3 h1' hz.2
      subst ex
      refine ⟨_, bs, rfl, SqL.of q1, hp, by rw [hk]; exact nodupW_ok hz.1, fun p hp => ?_⟩
      have fs := sort_rel (lt := ltK) (lt' := fun a b : Wd × D => ltW a.1 b.1) (fun a b a' b' r r' => by unfold ltK; rw [r.1, r'.1]) fa
      exact f _ _ (x1.trans (Ext.new hp)) (h1.new hp) (.lst upd_same (h1.notS hp) ((si_out fs).ext h1 (Ext.new hp)))
    · cases e
/-- int(text) -/
theorem rk_intT {G : Gm} {X : Cx} {a : Expr} {p pos : Pos} {m : Ev → M D} (hg : Gl X "int") (hm : X.mg "int" = none) (ha : notStar a = true) (pa : PA X [a] (tA G m)) :
    PE X (.Call (.Name "int" p) [a] [] pos) (tE G fun ρ => M.bnd (m ρ) fun y => M.of ((unL y).bind fun l => prD G.tbl .intT l)) :=
  (pe_callTy call_int_str hg hm (by decide +kernel) pa (by decide) (by decide) (star_ok ha) (by rfl)).imp fun σ H Q ⟨C, st, ρ, d, st', hl, rs, e, f⟩ => by
    replace e := bnd_some e
    obtain ⟨y, s1, e1, e⟩ := e
    replace e := of_some e
    obtain ⟨e, rfl⟩ := e
    rw [Option.bind_eq_some_iff] at e
    obtain ⟨ds, e2, e⟩ := e
    cases y <;> cases e2
    refine ⟨C, st, ρ, _, _, hl, rs, e1, fun vs H1 x1 h1 r1 => ?_⟩
    unfold prD at e
    split at e <;> first | (cases ‹Pr.intT = _›; done) | skip
    all_goals first | (cases e; done) | skip
    rename_i wd _
    replace r1 := r1.inv1
    obtain ⟨v, rfl, r1⟩ := r1
    cases r1
    split at e
    · rename_i hz
      rw [Option.map_eq_some_iff] at e
      obtain ⟨n, h2, rfl⟩ := e
      exact ⟨_, n, rfl, h2, by rw [toS_length]; exact Nat.le_of_ble_eq_true hz, f _ _ x1 h1 (.int n)⟩
    · cases e
end N57
end
section
set_option maxRecDepth 100000
set_option maxHeartbeats 400000
namespace N57
open PySem PySem.Spec PyProof.Rows L2
theorem rk_all (G : Gm) : Rk G where
  dict hK _ hc _ hg hm hs pa := rk_dict hK hc hg hm hs pa
  dictZ hK _ hc hu hg hm hg2 hm2 ha hb pa := rk_dictZ hK hc hu hg hm hg2 hm2 ha hb pa
  sortS hK _ hc _ hg hm hg2 hm2 ha pa := rk_sortS hK hc hg hm hg2 hm2 ha pa
  sortP hK _ _ hu hg hm ha pa := rk_sortP hK hu hg hm ha pa
  sortI hK _ _ hu hg hm ha pa := rk_sortI hK hu hg hm ha pa
  intT _ _ _ _ hg hm ha pa := rk_intT hg hm ha pa
end N57
end
section
set_option maxRecDepth 100000
set_option maxHeartbeats 400000
namespace N57
open PySem PySem.Spec PyProof.Rows L2 PySem.W

theorem lamB_inv {la : Arguments} {lb : Expr} {ls : Scope} (h : lamB la lb ls = true) : ∃ a py j q pp, la = ⟨[], [⟨"pair", none, a⟩], none, [], [], none, []⟩ ∧ lb = .Subscript (.Name "pair" py) (.Constant (.int 0) j q) pp ∧ ls.names.lookup ("pair" : Str) = some .local ∧ ls.kind = .function ∧ ls.isGenerator = false ∧ ls.isCoroutine = false ∧
    (∀ y ∈ ls.names, y.2 ≠ .cell) ∧ ∀ y ∈ ls.names, y.2 ≠ .free := by
  unfold lamB at h
  split at h
  · simp only [Bool.and_eq_true, decide_eq_true_eq, Bool.not_eq_true', List.all_eq_true] at h
    obtain ⟨⟨⟨⟨⟨⟨rfl, rfl⟩, h3⟩, h4⟩, h5⟩, h6⟩, h7⟩ := h
    refine ⟨_, _, _, _, _, rfl, rfl, lclB_ok h3, ?_, h5, h6, fun y hy e => ?_, fun y hy e => ?_⟩
    · split at h4
      · assumption
      · cases h4
    · have := h7 y hy; rw [e] at this; cases this
    · have := h7 y hy; rw [e] at this; cases this
  · cases h
section
variable {prog : Program} {w : World} {A : Around} {s : Shared}
/-- the lambda called with a pair: its first -/
theorem key_call {f p : Addr} {name qual : Str} {la : Arguments} {lb : Expr} {ls : Scope} {clos : List (Str × Addr)} {pm ctv : Value} {c' : Addr} {items : Array Value} {u : Value} (hl : lamB la lb ls = true) (hroom : A.depth < recursionLimit)
    (ho : s.heap.get? f = some (kla_obj name qual la lb ls clos pm c' ctv)) (hcd : s.heap.CodeRec (.ref c') qual) (lim : s.heap.NoLimit) (hp : IsTup s.heap p items) (hu : items[0]? = some u) (hsz : items.size < 2 ^ 62) :
    wpAny (model prog w) A (call (.ref f) [.ref p]) (fun v s2 => v = u ∧ ∃ h' tk, s2 = { s with heap := h', toks := tk } ∧ ∀ b o, s.heap.get? b = some o → h'.get? b = some o) (fun _ _ => False) s := by
  obtain ⟨a, py, j, q, pp, rfl, rfl, hx, hk, hg, hco, hc, hf⟩ := lamB_inv hl
  refine wpAny_call (kla_callFunE hroom ho rfl hco hg rfl hcd ?_)
  have hb : bindArgs (kla_fn name qual ⟨[], [⟨"pair", none, a⟩], none, [], [], none, []⟩ (.Subscript (.Name "pair" py) (.Constant (.int 0) j q) pp) ls clos pm (.ref c') ctv) ⟨[.ref p], []⟩ = pure [(("pair" : Str), Value.ref p)] := by rfl
  rw [hb]
  refine wpAny_pure (wpAny_newFunctionEnv hc (fun y hy => ?_) (fun h₁ hns hsb => ⟨lim.fresh _ hsb, ?_⟩) hk)
  · rw [List.mem_singleton] at hy
    subst hy
    exact hx
  have kp : ∀ b o, s.heap.get? b = some o → h₁.get? b = some o := fun b o e => hsb.extBut b o (Nat.ne_of_lt (Heap.lt_size e)) (Heap.get?_push_of_some _ e)
  refine kla_codeExpr ?_
  refine subD_of (T := "tuple") (id := "tuple.__getitem__") PyProof.Rows.slot_tuple_getitem.lookup (fun _ _ => rfl) ?_
  refine wpAny_Name (wpAny_loadName_local hk hx hns (by rfl) ?_) (by decide)
  refine wpAny_Constant_int ?_
  have hp' : IsTup h₁ p items := hp.keeps kp
  have hpos : 0 < items.size := by
    rcases Nat.eq_zero_or_pos items.size with z | z
    · rw [Array.getElem?_eq_none (by omega)] at hu; cases hu
    · exact z
  refine ⟨hp'.typeIs, PyProof.Rows.getItem_tuple (j := 0) (x := u) hp' (by decide) (by decide) ?_ hu ?_⟩
  · unfold seqIndex?
    simp only [Int.lt_irrefl, if_false, gt_iff_lt, Int.natCast_pos]
    first | (rw [if_pos (by omega)]; rfl) | (rw [if_neg (by omega)]; rfl) | simp [hpos] | trace_state
  · exact ⟨rfl, _, _, rfl, kp⟩
end
end N57
end
section
set_option maxRecDepth 100000
set_option maxHeartbeats 400000
namespace N57
open PySem PySem.Spec PyProof.Rows L2 SrtO PySem.W

section
variable {prog : Program} {w : World} {A : Around} {E : Value → Shared → Prop} {s : Shared} {a kS : Addr} {vs : List Value} {keys : Array Value} {e e1 : Nat} {P : PySem.Fin → Shared → Prop}
/-- list.sort with keys: the sort itself -/
theorem keyO_end {h₁ : Heap} {lt : Keyed → Keyed → Bool} (O : Swo lt) (kp : KeepsBut a h₁ s.heap) (hkS : h₁.get? kS = none) (nk : s.heap.get? kS = some (seqObj "list" keys e)) (na : s.heap.get? a = some (seqObj "list" #[] e1)) (hka : kS ≠ a)
    (S : 2 ≤ vs.length → ∃ κ, (∀ (Q : SortKind → Shared → Prop) (E : Value → Shared → Prop), Q κ s → wpAny (model prog w) A (keyKind' keys) Q E s) ∧ Cmp prog w A s κ (fun p => p ∈ keys.toList.zip vs) lt) (hsz : keys.size = vs.length) (hZ : vs.length ≤ sizeLine)
    (h : ∀ h' tk c, KeepsBut a h₁ h' → h'.get? a = some (seqObj "list" ((sortBy lt (keys.toList.zip vs)).map (·.2)).toArray c) → P (.done (.ret .none)) { s with heap := h', toks := tk }) :
    wpAny (model prog w) A (ksk_end a false vs.toArray e1 (.ref kS) keys) P E s := by
  have hol : ((sortBy lt (keys.toList.zip vs)).map (·.2)).length ≤ sizeLine := by
    rw [List.length_map, (sort_perm _).length_eq, List.length_zip]
    omega
  have ez : (keys.zip vs.toArray).toList = keys.toList.zip vs := ksk_zip keys vs
  unfold ksk_end
  try dsimp only
  rw [if_neg (by simp)]
  by_cases hl2 : vs.toArray.size < 2
  · rw [if_pos hl2, if_pos hl2]
    refine wpAny_bind (wpAny_pure ?_)
    rw [StateT.run_pure]
    refine wpAny_bind (wpAny_pure ?_)
    try dsimp only
    refine keyH_tail (b := false) (st := SortSt.mk' general' (keys.zip vs.toArray) #[] 7 none) kp hkS nk na hka (by rw [hsz]; exact hZ) hol rfl ?_ h
    rw [if_neg (by simp)]
    show (keys.zip vs.toArray).map (·.2) = _
    have hs1 : sortBy lt (keys.toList.zip vs) = keys.toList.zip vs := by
      rw [List.size_toArray] at hl2
      have hlz : (keys.toList.zip vs).length < 2 := by rw [List.length_zip]; omega
      match keys.toList.zip vs, hlz with
      | [], _ => rfl
      | [x], _ => rfl
      | _ :: _ :: _, hq => simp only [List.length_cons] at hq; omega
    rw [hs1, ← ez, ← Array.toList_map, Array.toArray_toList]
  · rw [if_neg hl2, if_neg hl2]
    rw [List.size_toArray] at hl2
    obtain ⟨κ, hkind, hT⟩ := S (by omega)
    refine wpAny_bind (hkind _ _ ?_)
    refine wpAny_bind (wpAny_mono (wpS_sortO (st0 := SortSt.mk' κ (keys.zip vs.toArray) #[] 7 none) (P := fun p => p ∈ keys.toList.zip vs)
      (Q := fun _ st' => failedOf st' = none ∧ (arrOf st').map (·.2) = ((sortBy lt (keys.toList.zip vs)).map (·.2)).toArray) O hT rfl (fun p hm => by rw [← ez]; exact hm) rfl rfl fun st' a1 a2 a3 => ⟨a3, ?_⟩) ?_ fun _ _ e => e)
    · have e3 : (arrOf st').toList = sortBy lt (keys.toList.zip vs) := sort_out O a1 fun c => by
        have := a2.cls c
        rw [show (arrOf (SortSt.mk' κ (keys.zip vs.toArray) #[] 7 none)).toList = keys.toList.zip vs from ez] at this
        exact this
      rw [← e3, ← Array.toList_map, Array.toArray_toList]
    · rintro ⟨⟨⟩, st'⟩ s' ⟨rfl, hf, ho⟩
      try dsimp only at ho ⊢
      exact keyH_tail (b := false) kp hkS nk na hka (by rw [hsz]; exact hZ) hol hf (by rw [if_neg (by simp)]; exact ho) h
end
end N57
end
section
set_option maxRecDepth 100000
set_option maxHeartbeats 400000
namespace N57
open PySem PySem.Spec PyProof.Rows L2 SrtO PySem.W

section
variable {prog : Program} {w : World} {A : Around} {E : Value → Shared → Prop} {s : Shared} {a kS : Addr} {vs : List Value} {e e1 : Nat} {P : PySem.Fin → Shared → Prop} {kf : Value → Value}
/-- a call that keeps all that was there -/
def Keeps (u : Value) (s₁ : Shared) (v : Value) (s₂ : Shared) : Prop := v = u ∧ ∃ h' tk, s₂ = { s₁ with heap := h', toks := tk } ∧ ∀ b o, s₁.heap.get? b = some o → h'.get? b = some o
theorem keyO_rest {f : Value} {h₁ : Heap} {lt : Keyed → Keyed → Bool} (O : Swo lt) (kp : KeepsBut a h₁ s.heap) (hkS : h₁.get? kS = none) (nk : s.heap.get? kS = some (seqObj "list" #[] 0)) (na : s.heap.get? a = some (seqObj "list" #[] e1)) (hka : kS ≠ a)
    (hZ : vs.length ≤ sizeLine)
    (S : 2 ≤ vs.length → ∀ (h : Heap) (tk : Nat), KeepsBut a h₁ h → ∃ κ, (∀ (Q : SortKind → Shared → Prop) (E : Value → Shared → Prop), Q κ { s with heap := h, toks := tk } → wpAny (model prog w) A (keyKind' (vs.map kf).toArray) Q E { s with heap := h, toks := tk }) ∧ Cmp prog w A { s with heap := h, toks := tk } κ (fun p => p ∈ (vs.map kf).zip vs) lt)
    (turn : ∀ (v : Value), v ∈ vs → ∀ (h : Heap) (tk : Nat), KeepsBut a h₁ h →
      wpAny (model prog w) A (call f [v]) (Keeps (kf v) { s with heap := h, toks := tk }) (fun _ _ => False) { s with heap := h, toks := tk })
    (h : ∀ h' tk c, KeepsBut a h₁ h' → h'.get? a = some (seqObj "list" ((sortBy lt ((vs.map kf).zip vs)).map (·.2)).toArray c) → P (.done (.ret .none)) { s with heap := h', toks := tk }) :
    wpAny (model prog w) A (ksk_rest a f false vs.toArray e1 (.ref kS)) P E s := by
  unfold ksk_rest
  refine wpAny_bind (wpAny_rule ?_)
  first
    | rw [List.forIn_toArray]
    | (rw [← Array.forIn_toList]; simp only [List.toList_toArray])
    | rw [← Array.forIn_toList]
  refine wpAny_bind (ksk_fold (fun i s' => ∃ h' tk kA e, s' = { s with heap := h', toks := tk } ∧ KeepsBut a h₁ h' ∧ h'.get? kS = some (seqObj "list" kA e) ∧ h'.get? a = some (seqObj "list" #[] e1) ∧ kA.toList = (vs.take i).map kf) vs 0 s
    ⟨s.heap, s.toks, #[], 0, rfl, kp, nk, na, by rw [List.take_zero]; rfl⟩ ?step ?done)
  case step =>
    rintro j x s' hx ⟨h', tk, kA, e, rfl, kp', nk', na', hk⟩
    simp only [Nat.zero_add] at hk ⊢
    have hj : j < vs.length := (List.getElem?_eq_some_iff.mp hx).1
    have hz : kA.size ≤ vs.length := by
      have h1 := congrArg List.length hk
      rw [Array.length_toList, List.length_map, List.length_take] at h1
      omega
    refine wpAny_bind (wpAny_attempt (wpAny_mono (turn x (List.mem_of_getElem? hx) h' tk kp') (fun v s'' he => ?_) fun _ _ hF => hF.elim))
    obtain ⟨rfl, g, tk2, rfl, hg⟩ := he
    try dsimp only
    have nk2 : g.get? kS = some (seqObj "list" kA e) := hg _ _ nk'
    have na2 : g.get? a = some (seqObj "list" #[] e1) := hg _ _ na'
    have s1 := Heap.SameBut.update g kS (Obj.mapSeq (·.push (kf x)))
    obtain ⟨c2, hc2⟩ : ∃ c2, (g.update kS (Obj.mapSeq (·.push (kf x)))).get? kS = some (seqObj "list" (kA.push (kf x)) c2) := ⟨_, get?_update_seq nk2 (·.push (kf x))⟩
    refine wpAny_bind (listUpdate_at nk2 rfl ?_ (Nat.le_trans hz hZ) (Nat.le_trans (Nat.le_of_eq (Array.size_push ..)) (Nat.succ_le_succ (Nat.le_trans hz hZ))))
    refine wpAny_pure ⟨rfl, _, _, kA.push (kf x), c2, rfl, (kp'.trans_all hg).same s1 (.inr hkS), hc2, (s1.2 a hka.symm).trans na2, ?_⟩
    rw [Array.toList_push, hk, List.take_add_one, hx]
    simp
  case done =>
    rintro s' ⟨h', tk, kA, e, rfl, kp', nk', na', hk⟩
    have e3 : vs.take (0 + vs.length) = vs := List.take_of_length_le (by omega)
    rw [e3] at hk
    have hkA : kA = (vs.map kf).toArray := by rw [← hk, Array.toArray_toList]
    subst hkA
    try dsimp only
    refine wpAny_bind (listItems_at nk' rfl ?_)
    refine keyO_end (s := { s with heap := h', toks := tk }) (h₁ := h₁) (lt := lt) O kp' hkS nk' na' hka (fun h2 => ?_) (by simp) hZ fun h3 tk3 c k3 n3 => h h3 tk3 c k3 (by simpa using n3)
    have := S h2 h' tk kp'
    simpa using this
end
end N57
end
section
set_option maxRecDepth 100000
set_option maxHeartbeats 400000
namespace N57
open PySem PySem.Spec PyProof.Rows L2 SrtO PySem.W

section
variable {prog : Program} {w : World} {A : Around} {E : Value → Shared → Prop} {s : Shared} {vs : List Value} {kf : Value → Value}
theorem keyO_tree {a : Addr} {P : PySem.Fin → Shared → Prop} {f : Value} {n : Nat} {lt : Keyed → Keyed → Bool} (O : Swo lt) (ho : s.heap.get? a = some (seqObj "list" vs.toArray n)) (hZ : vs.length ≤ sizeLine)
    (S : 2 ≤ vs.length → ∀ (h : Heap) (tk : Nat), KeepsBut a s.heap h → ∃ κ, (∀ (Q : SortKind → Shared → Prop) (E : Value → Shared → Prop), Q κ { s with heap := h, toks := tk } → wpAny (model prog w) A (keyKind' (vs.map kf).toArray) Q E { s with heap := h, toks := tk }) ∧ Cmp prog w A { s with heap := h, toks := tk } κ (fun p => p ∈ (vs.map kf).zip vs) lt)
    (turn : ∀ (v : Value), v ∈ vs → ∀ (h : Heap) (tk : Nat), KeepsBut a s.heap h →
      wpAny (model prog w) A (call f [v]) (Keeps (kf v) { s with heap := h, toks := tk }) (fun _ _ => False) { s with heap := h, toks := tk })
    (h : ∀ h' tk c, KeepsBut a s.heap h' → h'.get? a = some (seqObj "list" ((sortBy lt ((vs.map kf).zip vs)).map (·.2)).toArray c) → P (.done (.ret .none)) { s with heap := h', toks := tk }) :
    wpAny (model prog w) A (ksk_tree a f false) P E s := by
  have ha : a < s.heap.objs.size := Heap.lt_size ho
  obtain ⟨e1, ho1⟩ : ∃ e1, (s.heap.update a (Obj.mapSeq fun _ => (#[] : Array Value))).get? a = some (seqObj "list" #[] e1) := ⟨_, get?_update_seq ho fun _ => #[]⟩
  have hkS : ((s.heap.update a (Obj.mapSeq fun _ => (#[] : Array Value))).push (seqObj "tuple" vs.toArray 0)).objs.size = s.heap.objs.size + 1 := by rw [size_push', Heap.size_update]
  unfold ksk_tree
  refine wpAny_bind (listItems_at ho rfl ?_)
  refine wpAny_bind (listUpdate_at ho rfl ?_ (by rw [List.size_toArray]; exact hZ) (Nat.zero_le _))
  refine wpAny_bind (seqEpoch_at ho1 rfl ?_)
  refine wpAny_bind (wpAny_newTuple ?_ (by show vs.length ≤ _; exact hZ))
  refine wpAny_bind (wpAny_newList ?_ (Nat.zero_le _))
  refine wpAny_holding ?_
  have kp : KeepsBut a s.heap (sortingHeap s.heap a vs) := fun b o hb q => sortingHeap_old hb q
  exact keyO_rest (lt := lt) (h₁ := s.heap) (s := { s with heap := ((s.heap.update a (Obj.mapSeq fun _ => (#[] : Array Value))).push (seqObj "tuple" vs.toArray 0)).push (seqObj "list" #[] 0) }) (kS := ((s.heap.update a (Obj.mapSeq fun _ => (#[] : Array Value))).push (seqObj "tuple" vs.toArray 0)).objs.size)
    O kp (Heap.get?_none_of_le (by rw [hkS]; exact Nat.le_succ _)) (Heap.get?_push_size _ rfl) (Heap.get?_push_of_some _ (Heap.get?_push_of_some _ ho1)) (by rw [hkS]; exact Nat.ne_of_gt (Nat.lt_succ_of_lt ha)) hZ S turn h
/-- sorted(xs, key=f) -/
theorem sorted_keyO {l q : Addr} {lt : Keyed → Keyed → Bool} {Q : Value → Shared → Prop} (O : Swo lt) (hl : s.heap.IsList l vs.toArray) (hZ : vs.length ≤ sizeLine)
    (S : 2 ≤ vs.length → ∀ (h : Heap) (tk : Nat), (∀ b o, s.heap.get? b = some o → h.get? b = some o) → ∃ κ, (∀ (Q : SortKind → Shared → Prop) (E : Value → Shared → Prop), Q κ { s with heap := h, toks := tk } → wpAny (model prog w) A.in1.in1 (keyKind' (vs.map kf).toArray) Q E { s with heap := h, toks := tk }) ∧ Cmp prog w A.in1.in1 { s with heap := h, toks := tk } κ (fun p => p ∈ (vs.map kf).zip vs) lt)
    (turn : ∀ (v : Value), v ∈ vs → ∀ (h : Heap) (tk : Nat), (∀ b o, s.heap.get? b = some o → h.get? b = some o) →
      wpAny (model prog w) A.in1.in1 (call (.ref q) [v]) (Keeps (kf v) { s with heap := h, toks := tk }) (fun _ _ => False) { s with heap := h, toks := tk })
    (h : ∀ c h' tk, (∀ b o, s.heap.get? b = some o → h'.get? b = some o) → h'.get? (s.heap.objs.size + 1) = some (seqObj "list" ((sortBy lt ((vs.map kf).zip vs)).map (·.2)).toArray c) → Q (.ref (s.heap.objs.size + 1)) { s with heap := h', toks := tk }) :
    wpAny (model prog w) A (call (.builtin "sorted") [.ref l] [(Str.ofString "key", .ref q)]) Q E s := by
  have up : ∀ {g : Heap}, KeepsBut (s.heap.objs.size + 1) (copyHeap s.heap vs) g → ∀ b o, s.heap.get? b = some o → g.get? b = some o := fun {g} kp b o q =>
    kp b o (Nat.ne_of_lt (Nat.lt_succ_of_lt (Heap.lt_size q))) (copyHeap_old q)
  refine sorted_of_sort hl hZ (ksk_s1 _ _) (fun x => ksk_l1 _ _) fun E' => ?_
  rw [ksk_t1]
  exact keyO_tree (lt := lt) (s := { s with heap := copyHeap s.heap vs }) O (copyHeap_at s.heap vs) hZ (fun h2 h tk kp => S h2 h tk (up kp)) (fun v hv h tk kp => turn v hv h tk (up kp)) fun h' tk c kp hD => ⟨rfl, h c h' tk (up kp) hD⟩
end
end N57
end
section
set_option maxRecDepth 100000
set_option maxHeartbeats 400000
namespace N57
open PySem PySem.Spec PyProof.Rows L2 SrtO PySem.W

/-- the first item -/
def kfH (h : Heap) : Value → Value
  | .ref a => match h.get? a with
    | some o => match o.data with
      | .seq its _ => (its[0]?).getD .none
      | _ => .none
    | none => .none
  | _ => .none
/-- a row of pairs: their addresses, keys, what they bear -/
inductive KRow (G : Gm) (C : Cn) (H : Hp) : List Addr → List (List Int × D) → Prop
  | nil : KRow G C H [] []
  | cons {a b : Addr} {x : V} {as : List Addr} {p : List Int × D} {ps : List (List Int × D)} : SqT G.K H a [.ref b, x] → SqT G.K H b (p.1.map V.int) → Rep G C H (.ref a) p.2 → KRow G C H as ps → KRow G C H (a :: as) (p :: ps)
section
variable {G : Gm} {C : Cn} {H : Hp}
theorem krow_of : ∀ {xs : List V} {l : List D} {m : List (List Int × D)}, RepL G C H xs l → l.mapM pairK = some m → ∃ as : List Addr, xs = as.map V.ref ∧ KRow G C H as m
  | _, _, m, .nil, h => by cases h; exact ⟨[], rfl, .nil⟩
  | _, _, m, .cons (v := x) (d := d) (ds := l) r t, h => by
    rw [List.mapM_cons] at h
    cases h1 : pairK d with
    | none => rw [h1] at h; cases h
    | some p =>
      rw [h1] at h
      cases h2 : l.mapM pairK with
      | none => rw [h2] at h; cases h
      | some m2 =>
        rw [h2] at h
        cases h
        obtain ⟨as, e1, e2⟩ := krow_of t h2
        unfold pairK at h1
        split at h1
        · rename_i k v
          cases h3 : intsOf k with
          | none => rw [h3] at h1; cases h1
          | some ns =>
            rw [h3] at h1
            cases h1
            obtain rfl := intsOf_tup h3
            have r0 := r
            cases r with
            | tup q1 q2 q3 =>
              obtain ⟨u, y, rfl, ru, ry⟩ := q3.inv2
              cases ru with
              | tup p1 p2 p3 =>
                have e5 := repInts p3
                subst e5
                exact ⟨_ :: as, by rw [e1]; rfl, .cons q1.sq p1.sq r0 e2⟩
        · cases h1
theorem KRow.fa {h : Heap} (tup : ∀ {a : Addr} {xs : List V}, SqT G.K H a xs → ∃ its : List Value, Vals xs its ∧ IsTup h a its.toArray) : ∀ {as : List Addr} {ps : List (List Int × D)}, KRow G C H as ps →
    Fa2 (fun (v : Value) (t : Addr × (List Int × D)) => v = .ref t.1 ∧ TI h (kfH h v) t.2.1 ∧ (∃ items : Array Value, IsTup h t.1 items ∧ items[0]? = some (kfH h v) ∧ items.size < 2 ^ 62) ∧ Rep G C H (.ref t.1) t.2.2) (as.map Value.ref) (as.zip ps)
  | _, _, .nil => .nil
  | _, _, .cons (a := a) (b := b) (x := x) h1 h2 h3 t => by
    obtain ⟨its, r, it⟩ := tup h1
    obtain ⟨its2, r2, ⟨o2, g2, c2, n2, d2⟩⟩ := tup h2
    have it' := it
    obtain ⟨o, g, c, n, d⟩ := it
    cases r with
    | cons ra rb =>
    cases rb with
    | cons rx rn =>
    cases rn
    rename_i u y
    have eu : u = Value.ref b := ra
    subst eu
    have ek : kfH h (.ref a) = .ref b := by
      unfold kfH
      simp only [g, d]
      rfl
    refine .cons ⟨rfl, ?_, ⟨_, it', by rw [ek]; rfl, by simp⟩, h3⟩ (KRow.fa tup t)
    rw [ek]
    exact ⟨b, o2, its2.toArray, n2, rfl, g2, c2, d2, by simpa using intsAre_of r2⟩
theorem zip_kf {f : Value → Value} : ∀ vs : List Value, (vs.map f).zip vs = vs.map fun v => (f v, v)
  | [] => rfl
  | v :: vs => by rw [List.map_cons, List.zip_cons_cons, zip_kf vs]; rfl
theorem krow_zip : ∀ {as : List Addr} {ps : List (List Int × D)}, KRow G C H as ps → Fa2 (fun (t : Addr × (List Int × D)) (p : List Int × D) => t.2 = p ∧ Rep G C H (.ref t.1) p.2) (as.zip ps) ps
  | _, _, .nil => .nil
  | _, _, .cons h1 h2 h3 t => .cons ⟨rfl, h3⟩ (krow_zip t)
theorem krow_out : ∀ {ts : List (Addr × (List Int × D))} {ps : List (List Int × D)}, Fa2 (fun (t : Addr × (List Int × D)) (p : List Int × D) => t.2 = p ∧ Rep G C H (.ref t.1) p.2) ts ps → RepL G C H (ts.map fun t => V.ref t.1) (ps.map (·.2))
  | _, _, .nil => .nil
  | _, _, .cons a t => .cons a.2 (krow_out t)
end
theorem fa_keyed {f : Value → Value} {P : Value → Addr × (List Int × D) → Prop} {Q : Keyed → Addr × (List Int × D) → Prop} (i : ∀ v t, P v t → Q (f v, v) t) : ∀ {vs : List Value} {ts : List (Addr × (List Int × D))}, Fa2 P vs ts → Fa2 Q (vs.map fun v => (f v, v)) ts
  | _, _, .nil => .nil
  | _, _, .cons a t => .cons (i _ _ a) (fa_keyed i t)
theorem fa_snd {Q : Keyed → Addr × (List Int × D) → Prop} (i : ∀ p t, Q p t → p.2 = .ref t.1) : ∀ {vs : List Keyed} {ts : List (Addr × (List Int × D))}, Fa2 Q vs ts → vs.map (·.2) = ts.map fun t => Value.ref t.1
  | _, _, .nil => rfl
  | _, _, .cons a t => by rw [List.map_cons, List.map_cons, i _ _ a, fa_snd i t]
theorem fa_mem {α β : Type} {P : α → β → Prop} : ∀ {l : List α} {m : List β}, Fa2 P l m → ∀ a ∈ l, ∃ b ∈ m, P a b
  | _, _, .nil, _, h => by cases h
  | _, _, .cons p t, a, h => by
    rcases List.mem_cons.mp h with e | h
    · subst e; exact ⟨_, List.mem_cons_self, p⟩
    · obtain ⟨b, h1, h2⟩ := fa_mem t a h
      exact ⟨b, List.mem_cons_of_mem _ h1, h2⟩
theorem t_vals : ∀ L : List (Addr × (List Int × D)), Vals (L.map fun t => V.ref t.1) (L.map fun t => Value.ref t.1)
  | [] => .nil
  | _ :: L => .cons rfl (t_vals L)
end N57
end
section
set_option maxRecDepth 100000
set_option maxHeartbeats 400000
namespace N57
open PySem PySem.Spec PyProof.Rows L2 SrtO PySem.W

abbrev ltT (x y : Addr × (List Int × D)) : Bool := ltI x.2.1 y.2.1
section
variable {X : Cx} {G : Gm} {C : Cn} {H : Hp} {s : Shared} {pins : List (Addr × Obj)} {σ : L2.St}
theorem sortK_call {Q : VK} {l f c' : Addr} {as : List Addr} {m : List (List Int × D)} {la : Arguments} {lb : Expr} {ls : Scope} {clos : List (Str × Addr)} {pm ctv : Value} {qual : Str} (I : Inv X pins σ H s) (hK : X.K = G.K) (hu : X.A.units + 100 < cLine) (hr : Room 1 X.A)
    (hl : lamB la lb ls = true) (hf : s.heap.get? f = some (kla_obj "<lambda>" qual la lb ls clos pm c' ctv)) (hc : H c' = some (LamX.CodeO c' qual)) (hq : SqL X.K H l (as.map V.ref)) (kr : KRow G C H as m) (hn : headNil (m.map (·.1)) = true)
    (h : ∀ p, H p = none → Q (.ref p) (upd H p (.lst ((sortBy ltT (as.zip m)).map fun t => V.ref t.1)))) :
    wpAny (model X.prog X.w) X.A (call (.builtin "sorted") [.ref l] [(Str.ofString "key", .ref f)]) (EP X pins σ Q) X.xe s := by
  obtain ⟨its, rv, hll, hz⟩ := I.list hq
  have ei := refs_at rv
  subst ei
  rw [List.length_map] at hz
  have fa := kr.fa (h := s.heap) (fun {a xs} hs => by
    rw [← hK] at hs
    obtain ⟨its, r, it, _⟩ := I.tuple hs
    exact ⟨its, r, it⟩)
  have cr : s.heap.CodeRec (.ref c') qual := by
    obtain ⟨⟨oc, vs, t, h1, h2, h3⟩, _, _⟩ := I.hok c' _ hc
    exact ⟨c', oc, vs, t, rfl, h1, h2, h3⟩
  have allTI : ∀ v ∈ as.map Value.ref, ∃ ns, TI s.heap (kfH s.heap v) ns := fun v hv => by
    obtain ⟨t, _, h1, h2, _⟩ := fa_mem fa v hv
    exact ⟨_, h2⟩
  refine sorted_keyO (kf := kfH s.heap) (vs := as.map Value.ref) (lt := fun p q => ltI (kOf s.heap p.1) (kOf s.heap q.1)) (swo_of ltI_swo _) hll.isList (by rw [List.length_map]; exact hz) (fun h2 hh tk kp => ?_) (fun v hv hh tk kp => ?_) fun c h' tk kp ho => ?_
  · refine ⟨oneType', fun Q' E' hq' => ?_, fun p q hp hq' => ?_⟩
    · cases kr with
      | nil => simp at h2
      | cons r1 r2 r3 rt =>
        rename_i a b x as' p ps
        rw [List.map_cons, List.map_cons]
        refine kind_head (s := { s with heap := hh, toks := tk }) ?_ (fun u hu' => ?_) hq'
        · cases fa with
          | cons fa1 _ =>
            have e0 : p.1 = [] := List.isEmpty_iff.mp hn
            have z := fa1.2.1
            rw [show (a, p).2.1 = p.1 from rfl, e0] at z
            exact z.keeps fun b o _ g => kp b o g
        · obtain ⟨v, hv, rfl⟩ := List.mem_map.mp hu'
          obtain ⟨ns, z⟩ := allTI v (List.mem_cons_of_mem _ hv)
          exact ⟨ns, z.keeps fun b o _ g => kp b o g⟩
    · rw [zip_kf] at hp hq'
      obtain ⟨v, hv, rfl⟩ := List.mem_map.mp hp
      obtain ⟨u, hu', rfl⟩ := List.mem_map.mp hq'
      obtain ⟨ns, z⟩ := allTI v hv
      obtain ⟨ms, z2⟩ := allTI u hu'
      show wpAny _ _ (keyLt' oneType' (kfH s.heap v) (kfH s.heap u)) (fun r s' => s' = _ ∧ r = ltI (kOf s.heap (kfH s.heap v)) (kOf s.heap (kfH s.heap u))) _ _
      rw [kOf_eq z, kOf_eq z2]
      exact lt_tup (s := { s with heap := hh, toks := tk }) (E := fun _ _ => False) (Q := fun r s' => s' = { s with heap := hh, toks := tk } ∧ r = ltI ns ms) (show X.A.units + 1 + 1 < cLine by omega) (z.keeps fun b o _ g => kp b o g) (z2.keeps fun b o _ g => kp b o g) ⟨rfl, rfl⟩
  · obtain ⟨t, _, rfl, _, ⟨items, it, i0, isz⟩, _⟩ := fa_mem fa v hv
    exact key_call (s := { s with heap := hh, toks := tk }) hl (by have := hr.dp; show X.A.depth < _; omega) (kp _ _ hf) (cr.keeps kp) (I.nolimit.keeps kp) (it.keeps kp) i0 isz
  · have e2 : Fa2 (fun (p : Keyed) (t : Addr × (List Int × D)) => p.2 = .ref t.1 ∧ kOf s.heap p.1 = t.2.1) (((as.map Value.ref).map (kfH s.heap)).zip (as.map Value.ref)) (as.zip m) := by
      rw [zip_kf]
      exact fa_keyed (fun v t z => ⟨z.1, kOf_eq z.2.1⟩) fa
    have e3 := fa_snd (fun p t z => z.1) (sort_rel (lt := fun p q : Keyed => ltI (kOf s.heap p.1) (kOf s.heap q.1)) (lt' := ltT) (fun a b a' b' r r' => by rw [r.2, r'.2]) e2)
    rw [e3] at ho
    have hlen : ((sortBy ltT (as.zip m)).map fun t => V.ref t.1).length ≤ sizeLine := by
      rw [List.length_map, (sort_perm _).length_eq, List.length_zip]
      omega
    exact ⟨.ref _, upd H (s.heap.objs.size + 1) (.lst ((sortBy ltT (as.zip m)).map fun t => V.ref t.1)), I.laid (t' := tk) (fun b o e => kp b o e) (Nat.le_succ _) ⟨hlen, _, c, t_vals _, ho⟩, rfl, h _ (I.hok.fresh (Nat.le_succ _))⟩
end
section
variable {G : Gm} {C : Cn} {st : Cup} {H H1 : Hp}
theorem ext_ofN (e : LamX.ExtN H H1) : Ext C H H1 := fun b o _ n h => e b o h n
theorem held_ofN (h : Held G C st H) (e : LamX.ExtN H H1) (t : LamX.Tabs G.tabs H1) : Held G C st H1 := by
  refine ⟨fun a ha => (h.trk a ha).imp (fun ⟨u, g, n⟩ => ⟨u, e _ _ g n, n⟩) id, h.ms, fun a ha => ?_, fun q hq => ⟨(h.tabs q hq).1, t q hq⟩⟩
  obtain ⟨h1, h2, h3⟩ := h.cup a ha
  exact ⟨h1, e _ _ h2 (fun _ z => nomatch z), h3⟩
end
theorem rk_sortK {G : Gm} {X : Cx} {e : Expr} {p kp lp pos : Pos} {la : Arguments} {lb : Expr} {ls : Scope} {m : Ev → M D} (hK : X.K = G.K) (hu : X.A.units + 100 < cLine) (hr : Room 1 X.A) (hL : LamAt G X) (hg : Gl X "sorted") (hm : X.mg "sorted" = none) (he : notStar e = true) (hl : lamB la lb ls = true) (pe : PE X e (tE G m)) :
    PE X (.Call (.Name "sorted" p) [e] [⟨some "key", .Lambda la lb ls lp, kp⟩] pos) (tE G fun ρ => M.bnd (m ρ) fun x => M.of (prD G.tbl .sortK [x])) := by
  refine ⟨fun pins s σ H Q I hh => ?_⟩
  obtain ⟨C, st, ρ, d, st', hd, rs, ex, fin⟩ := hh
  replace ex := bnd_some ex
  obtain ⟨y, s1, e1, ex⟩ := ex
  replace ex := of_some ex
  obtain ⟨ex, rfl⟩ := ex
  obtain ⟨c, P, TB, hcode, hmT, huT⟩ := hL
  have hdef : defaultsOf la X.env = ([], []) ∧ ∀ y ∈ ls.names, y.2 ≠ .free := by
    obtain ⟨a, py, j, q, pp, rfl, rfl, hx, hk, hgen, hco, hc, hf⟩ := lamB_inv hl
    exact ⟨rfl, hf⟩
  refine wpAny_Call_Name_kw (ld_blt I hg hm (u := .builtin "sorted") (by decide +kernel) ?_)
  refine PyProof.Rows.callWith_kw ?_ (star_ok he |> fun z => by rw [z]; rfl) (stars_ok (by simp [he])) (by rfl) (by rfl)
  refine thn ((pa_cons pe pa_nil (star_ok he)).run pos pins s σ H (fun vs H2 => ∃ v, vs = [v] ∧ Ext C H H2 ∧ Held G C st' H2 ∧ Rep G C H2 v y) I ?_) fun us s2 ⟨vs, H2, I2, r2, q2⟩ => ?_
  · exact ⟨C, st, ρ, y, st', hd, rs, e1, fun v H2 x2 h2 r => ⟨v, rfl, x2, h2, r⟩⟩
  obtain ⟨v, rfl, x2, h2, ry⟩ := q2
  have hTabs : LamX.Tabs G.tabs H2 := fun p hp => (h2.tabs p hp).2
  show wpAny _ _ (evalAll [do let v ← eval (.Lambda la lb ls lp) X.env; standAt pos; pure v]) _ _ s2
  refine wpAny_evalAll_cons (wpAny_bind (LamX.lam_make2 (T := G.tabs) I2 TB hcode hmT huT hTabs hdef.1 (fun y hy z => absurd z (hdef.2 y hy)) fun f c' pm ctv H3 s3 I3 eN T3 hf hfn hfr hco => wpAny_bind (wpAny_standAt (wpAny_pure (wpAny_evalAll_nil ?_)))))
  unfold prD at ex
  split at ex <;> first | (cases ‹Pr.sortK = _›; done) | skip
  all_goals first | (cases ex; done) | skip
  rename_i l hpr
  cases hpr
  rw [Option.bind_eq_some_iff] at ex
  obtain ⟨mm, hm1, ex⟩ := ex
  split at ex
  · rename_i hz
    cases ex
    have x3 : Ext C H2 H3 := ext_ofN eN
    have h3 := held_ofN h2 eN T3
    replace ry := ry.ext h2 x3
    cases ry with
    | lst q1 q3 q4 =>
    obtain ⟨as, ex, kr⟩ := krow_of q4 hm1
    subst ex
    cases r2 with
    | cons ra rn =>
    cases rn
    rename_i u _
    have eu : u = Value.ref _ := ra
    subst eu
    refine sortK_call (C := C) I3 hK hu hr hl hf hco (SqL.of q1) kr hz fun p hp => ?_
    have fs := sort_rel (lt := ltT) (lt' := fun a b : List Int × D => ltI a.1 b.1) (fun a b a' b' r r' => by show ltI _ _ = ltI _ _; rw [r.1, r'.1]) (krow_zip kr)
    exact fin _ _ ((x2.trans x3).trans (Ext.new hp)) (h3.new hp) (.lst upd_same (h3.notS hp) ((krow_out fs).ext h3 (Ext.new hp)))
  · cases ex
theorem rk2_all (G : Gm) : Rk2 G where
  items := rk_items
  splitA := rk_splitA
  get1 := rk_get1
  get2 := rk_get2
  sortK := fun hK _ _ hu hr hL hg hm he hl pe => rk_sortK hK hu hr hL hg hm he hl pe
end N57
end
section
set_option maxRecDepth 100000
/-! Rules for what trees come to. -/
namespace N57
open PySem

abbrev En (k : Nat) : Env0' := env0 tab (run tab k)
theorem bnd_eq {α β : Type} {m : M α} {f : α → M β} {st s1 : Cup} {a : α} (h : m st = some (a, s1)) : M.bnd m f st = f a s1 := by
  unfold M.bnd; rw [h]
theorem of_eq {α : Type} {o : Option α} {a : α} {st : Cup} (h : o = some a) : M.of o st = some (a, st) := by
  subst h; rfl
/-! what is shown, one name each: nothing of it is unfolded by accident -/
structure EV (k : Nat) (t : Tm) (ρ : Ev) (st : Cup) (d : D) (s1 : Cup) : Prop where
  h : ev (En k) t ρ st = some (d, s1)
structure XS (k : Nat) (s : Sm) (ρ : Ev) (st : Cup) (o : Out) (s1 : Cup) : Prop where
  h : ex (En k) s ρ st = some (o, s1)
structure Rn (k f : Nat) (l : List D) (st : Cup) (d : D) (s1 : Cup) : Prop where
  h : run tab k f l st = some (d, s1)
structure OpH (o : O2) (x y d : D) : Prop where
  h : op2 o x y = some d
structure CmH (o : C2) (x y : D) (p : Bool) : Prop where
  h : cmp2 tbls o x y = some p
structure IxH (x y d : D) : Prop where
  h : ixD tbls x y = some d
structure SlH (x : D) (lo hi : Option Int) (d : D) : Prop where
  h : slD x lo hi = some d
structure PrH (f : Pr) (l : List D) (d : D) : Prop where
  h : prD tbls f l = some d
structure ItH (k : IK) (x y : D) (its : List D) : Prop where
  h : itD k x y = some its
/-! envs -/
inductive SetR : Ev → Nat → Option D → Ev → Prop
  | z {x d : Option D} {ρ : Ev} : SetR (x :: ρ) 0 d (d :: ρ)
  | s {x d : Option D} {ρ ρ' : Ev} {i : Nat} : SetR ρ i d ρ' → SetR (x :: ρ) (i + 1) d (x :: ρ')
theorem SetR.eq {ρ ρ' : Ev} {i : Nat} {d : Option D} (h : SetR ρ i d ρ') : ρ.set i d = ρ' := by
  induction h with
  | z => rfl
  | s _ ih => simp [ih]
inductive AsR : Tg → D → Ev → Ev → Prop
  | slot {i : Nat} {d : D} {ρ ρ' : Ev} : SetR ρ i (some d) ρ' → AsR (.slot i) d ρ ρ'
  | tup {ts : Tg} {l : List D} {ρ ρ' : Ev} : AsR ts (.lst l) ρ ρ' → AsR (.tup ts) (.tup l) ρ ρ'
  | nil {ρ : Ev} : AsR .nil (.lst []) ρ ρ
  | cons {a b : Tg} {d : D} {l : List D} {ρ ρ1 ρ2 : Ev} : AsR a d ρ ρ1 → AsR b (.lst l) ρ1 ρ2 → AsR (.cons a b) (.lst (d :: l)) ρ ρ2
theorem AsR.eq {tg : Tg} {d : D} {ρ ρ' : Ev} (h : AsR tg d ρ ρ') : asgT tg d ρ = some ρ' := by
  induction h with
  | slot h => simp [asgT, h.eq]
  | tup _ ih => simpa [asgT] using ih
  | nil => rfl
  | cons _ _ ih1 ih2 => simp [asgT, ih1, ih2]
inductive WiR : Ev → List Nat → Ev → Prop
  | nil {ρ : Ev} : WiR ρ [] ρ
  | cons {ρ ρ1 ρ2 : Ev} {v : Nat} {vs : List Nat} : WiR ρ vs ρ1 → SetR ρ1 v none ρ2 → WiR ρ (v :: vs) ρ2
theorem WiR.eq {ρ ρ' : Ev} {vs : List Nat} (h : WiR ρ vs ρ') : wipeE ρ vs = ρ' := by
  induction h with
  | nil => rfl
  | cons _ h2 ih => simp [wipeE, ih, h2.eq]
inductive StR : Nat → List D → Ev → Prop
  | nil : StR 0 [] []
  | none {n : Nat} {ρ : Ev} : StR n [] ρ → StR (n + 1) [] (none :: ρ)
  | some {n : Nat} {a : D} {l : List D} {ρ : Ev} : StR n l ρ → StR (n + 1) (a :: l) (some a :: ρ)
theorem StR.eq {n : Nat} {l : List D} {ρ : Ev} (h : StR n l ρ) : startE n l = ρ := by
  induction h with
  | nil => rfl
  | none _ ih => simpa [startE, List.replicate_succ] using ih
  | some _ ih => simpa [startE] using ih
section
variable {k : Nat} {a b c as : Tm} {ρ : Ev} {st s1 s2 s3 s4 s5 : Cup} {x y z d : D} {l m : List D} {i j : Int} {p q r : Bool}
theorem e_var {n : Nat} (h : ρ[n]?.join = some d) : EV k (.var n) ρ st d st := ⟨of_eq h⟩
theorem e_con : EV k (.con d) ρ st d st := ⟨rfl⟩
theorem e_glb {g : Nat} (h : tab.gval g = d) : EV k (.glb g) ρ st d st := by subst h; exact ⟨rfl⟩
theorem e_nil : EV k .nil ρ st (.lst []) st := ⟨rfl⟩
theorem e_cons (ha : EV k a ρ st x s1) (hb : EV k b ρ s1 (.lst l) s2) : EV k (.cons a b) ρ st (.lst (x :: l)) s2 := by
  constructor
  show M.bnd _ _ _ = _
  rw [bnd_eq ha.h, bnd_eq hb.h]; rfl
theorem e_tup (h : EV k as ρ st (.lst l) s1) : EV k (.tup as) ρ st (.tup l) s1 := by
  constructor
  show M.bnd _ _ _ = _
  rw [bnd_eq h.h]; rfl
theorem e_lst (h : EV k as ρ st d s1) : EV k (.lst as) ρ st d s1 := ⟨h.h⟩
theorem e_dic0 : EV k .dic0 ρ st (.dS [] []) st := ⟨rfl⟩
theorem e_dicS {ks : List Wd} (h : EV k as ρ st (.lst l) s1) : EV k (.dicS ks as) ρ st (.dS ks l) s1 := by
  constructor
  show M.bnd _ _ _ = _
  rw [bnd_eq h.h]; rfl
theorem e_op {o : O2} (ha : EV k a ρ st x s1) (hb : EV k b ρ s1 y s2) (h : OpH o x y d) : EV k (.op o a b) ρ st d s2 := by
  constructor
  show M.bnd _ _ _ = _
  rw [bnd_eq ha.h, bnd_eq hb.h]; exact of_eq h.h
theorem e_neg (ha : EV k a ρ st (.int i) s1) (h : -i = j) : EV k (.neg a) ρ st (.int j) s1 := by
  subst h
  constructor
  show M.bnd _ _ _ = _
  rw [bnd_eq ha.h]; rfl
theorem e_isN (ha : EV k a ρ st x s1) (h : isNon x = p) : EV k (.isN a) ρ st (.bl p) s1 := by
  subst h
  constructor
  show M.bnd _ _ _ = _
  rw [bnd_eq ha.h]; rfl
theorem e_notN (ha : EV k a ρ st x s1) (h : (!isNon x) = p) : EV k (.notN a) ρ st (.bl p) s1 := by
  subst h
  constructor
  show M.bnd _ _ _ = _
  rw [bnd_eq ha.h]; rfl
theorem e_cmp {o : C2} (ha : EV k a ρ st x s1) (hb : EV k b ρ s1 y s2) (h : CmH o x y p) : EV k (.cmp o a b) ρ st (.bl p) s2 := by
  constructor
  show M.bnd _ _ _ = _
  rw [bnd_eq ha.h, bnd_eq hb.h]
  show M.of ((cmp2 tbls o x y).map _) _ = _
  rw [h.h]; rfl
theorem e_chain {o o2 : C2} (ha : EV k a ρ st x s1) (hb : EV k b ρ s1 y s2) (h : CmH o x y p) (hc : EV k c ρ s2 z s2) (h2 : CmH o2 y z q) (h3 : (p && q) = r) : EV k (.chain o o2 a b c) ρ st (.bl r) s2 := by
  subst h3
  constructor
  show M.bnd _ _ _ = _
  rw [bnd_eq ha.h, bnd_eq hb.h]
  show M.bnd (M.of (cmp2 tbls o x y)) _ _ = _
  rw [bnd_eq (of_eq h.h)]
  cases p
  · rfl
  · show M.bnd _ _ _ = _
    rw [bnd_eq hc.h]
    show M.of ((cmp2 tbls o2 y z).map _) _ = _
    rw [h2.h]; rfl
/-- what a test's outcome hands on -/
def AndK (k : Nat) (p : Bool) (b : Tm) (ρ : Ev) (st : Cup) (r : Bool) (s1 : Cup) : Prop := match p with
  | true => EV k b ρ st (.bl r) s1
  | false => r = false ∧ s1 = st
def OrK (k : Nat) (p : Bool) (b : Tm) (ρ : Ev) (st : Cup) (r : Bool) (s1 : Cup) : Prop := match p with
  | true => r = true ∧ s1 = st
  | false => EV k b ρ st (.bl r) s1
def IfK (k : Nat) (p : Bool) (a b : Tm) (ρ : Ev) (st : Cup) (d : D) (s1 : Cup) : Prop := match p with
  | true => EV k a ρ st d s1
  | false => EV k b ρ st d s1
def IfX (k : Nat) (p : Bool) (a b : Sm) (ρ : Ev) (st : Cup) (o : Out) (s1 : Cup) : Prop := match p with
  | true => XS k a ρ st o s1
  | false => XS k b ρ st o s1
def SqX (k : Nat) (o1 : Out) (r : Sm) (st : Cup) (o : Out) (s1 : Cup) : Prop := match o1 with
  | .nx ρ => XS k r ρ st o s1
  | .rt d => o = .rt d ∧ s1 = st
theorem e_and (ha : EV k a ρ st (.bl p) s1) (h : AndK k p b ρ s1 r s2) : EV k (.and a b) ρ st (.bl r) s2 := by
  constructor
  show M.bnd _ _ _ = _
  rw [bnd_eq ha.h]
  show M.bnd (M.of (some p)) _ _ = _
  rw [bnd_eq (of_eq rfl)]
  cases p
  · obtain ⟨rfl, rfl⟩ := h; rfl
  · show M.bnd _ _ _ = _
    rw [bnd_eq (EV.h h)]; rfl
theorem e_or (ha : EV k a ρ st (.bl p) s1) (h : OrK k p b ρ s1 r s2) : EV k (.or a b) ρ st (.bl r) s2 := by
  constructor
  show M.bnd _ _ _ = _
  rw [bnd_eq ha.h]
  show M.bnd (M.of (some p)) _ _ = _
  rw [bnd_eq (of_eq rfl)]
  cases p
  · show M.bnd _ _ _ = _
    rw [bnd_eq (EV.h h)]; rfl
  · obtain ⟨rfl, rfl⟩ := h; rfl
/-- both sides known -/
theorem andK_both (hb : EV k b ρ st (.bl q) st) (h : (p && q) = r) : AndK k p b ρ st r st := by
  subst h
  cases p
  · exact ⟨rfl, rfl⟩
  · exact hb
theorem orK_both (hb : EV k b ρ st (.bl q) st) (h : (p || q) = r) : OrK k p b ρ st r st := by
  subst h
  cases p
  · exact hb
  · exact ⟨rfl, rfl⟩
theorem e_not (ha : EV k a ρ st (.bl p) s1) (h : (!p) = q) : EV k (.not a) ρ st (.bl q) s1 := by
  subst h
  constructor
  show M.bnd _ _ _ = _
  rw [bnd_eq ha.h]; rfl
theorem e_ite (ha : EV k c ρ st (.bl p) s1) (h : IfK k p a b ρ s1 d s2) : EV k (.ite c a b) ρ st d s2 := by
  constructor
  show M.bnd _ _ _ = _
  rw [bnd_eq ha.h]
  show M.bnd (M.of (some p)) _ _ = _
  rw [bnd_eq (of_eq rfl)]
  cases p <;> exact EV.h h
theorem e_ix (ha : EV k a ρ st x s1) (hb : EV k b ρ s1 y s2) (h : IxH x y d) : EV k (.ix a b) ρ st d s2 := by
  constructor
  show M.bnd _ _ _ = _
  rw [bnd_eq ha.h, bnd_eq hb.h]; exact of_eq h.h
theorem e_sl {lo hi : Tm} {o o2 : Option Int} (ha : EV k a ρ st x s1) (h1 : EV k lo ρ s1 y s2) (p1 : partOf lo y = some o) (h2 : EV k hi ρ s2 z s3) (p2 : partOf hi z = some o2) (h : SlH x o o2 d) : EV k (.sl a lo hi) ρ st d s3 := by
  constructor
  show M.bnd _ _ _ = _
  rw [bnd_eq ha.h, bnd_eq h1.h, bnd_eq (of_eq p1), bnd_eq h2.h, bnd_eq (of_eq p2)]; exact of_eq h.h
theorem e_call {f : Nat} (ha : EV k as ρ st (.lst l) s1) (h : Rn k f l s1 d s2) : EV k (.call f as) ρ st d s2 := by
  constructor
  show M.bnd _ _ _ = _
  rw [bnd_eq ha.h]; exact h.h
theorem e_pr {f : Pr} (ha : EV k as ρ st (.lst l) s1) (h : PrH f l d) : EV k (.pr f as) ρ st d s1 := by
  constructor
  show M.bnd _ _ _ = _
  rw [bnd_eq ha.h]; exact of_eq h.h
theorem e_cg {w : Bool} (ha : EV k a ρ st .cup s1) : EV k (.cg a w) ρ st (.int (if w then s1.2 else s1.1)) s1 := by
  constructor
  show M.bnd _ _ _ = _
  rw [bnd_eq ha.h]; rfl
theorem andK_t (hp : p = true) (h : EV k b ρ st (.bl r) s1) : AndK k p b ρ st r s1 := by subst hp; exact h
theorem andK_f (hp : p = false) (h : false = r) : AndK k p b ρ st r st := by subst hp; subst h; exact ⟨rfl, rfl⟩
theorem orK_t (hp : p = true) (h : true = r) : OrK k p b ρ st r st := by subst hp; subst h; exact ⟨rfl, rfl⟩
theorem orK_f (hp : p = false) (h : EV k b ρ st (.bl r) s1) : OrK k p b ρ st r s1 := by subst hp; exact h
theorem ifK_t (hp : p = true) (h : EV k a ρ st d s1) : IfK k p a b ρ st d s1 := by subst hp; exact h
theorem ifK_f (hp : p = false) (h : EV k b ρ st d s1) : IfK k p a b ρ st d s1 := by subst hp; exact h
theorem ifK_both (h1 : p = true → EV k a ρ st x s1) (h2 : p = false → EV k b ρ st y s1) (h : (if p then x else y) = d) : IfK k p a b ρ st d s1 := by
  subst h
  cases p
  · exact h2 rfl
  · exact h1 rfl
/-! comprehensions -/
def turnF (k : Nat) (tg : Tg) (c e : Tm) (ρ : Ev) (x : D) : M (Option D) := M.bnd (M.of (asgT tg x (wipeE ρ tg.slots))) fun ρ' => match c with
      | .nil => M.bnd (ev (En k) e ρ') fun r => M.ret (some r)
      | _ => M.bnd (ev (En k) c ρ') fun t => M.bnd (M.of (asBool t)) fun
        | false => M.ret none
        | true => M.bnd (ev (En k) e ρ') fun r => M.ret (some r)
theorem compM_fm {α : Type} {F : D → M (Option D)} {f : α → D} {g : α → Option D} : ∀ (its : List α) (acc : List D), (∀ x ∈ its, F (f x) st = some (g x, st)) → acc.length + its.length ≤ sizeLine → compM F (its.map f) acc st = some (acc ++ its.filterMap g, st)
  | [], acc, _, _ => by simp [compM, M.ret]
  | x :: l, acc, h, hz => by
    rw [List.length_cons] at hz
    show M.bnd _ _ _ = _
    rw [bnd_eq (h x (List.mem_cons_self ..))]
    cases e : g x with
    | none =>
      show compM F (l.map f) acc st = _
      rw [compM_fm l acc (fun y hy => h y (List.mem_cons_of_mem _ hy)) (by omega)]
      simp [e]
    | some y =>
      show (if fitsL (acc.length + 1) then compM F (l.map f) (acc ++ [y]) else M.fail) st = _
      rw [if_pos (show fitsL (acc.length + 1) = true from decide_eq_true (by omega)), compM_fm l (acc ++ [y]) (fun y hy => h y (List.mem_cons_of_mem _ hy)) (by simp; omega)]
      simp [e]
theorem ev_comp' {tg : Tg} {kd : IK} {e : Tm} : ev (En k) (.comp tg kd a b c e) ρ = M.bnd (ev (En k) a ρ) fun x => M.bnd (ev (En k) b ρ) fun y => M.bnd (M.of (itD kd x y)) fun its => M.bnd (compM (turnF k tg c e ρ) its []) fun l => M.ret (.lst l) := by
  cases c <;> rfl
theorem e_comp {α : Type} {tg : Tg} {kd : IK} {e : Tm} {its : List α} {f : α → D} {g : α → Option D} (ha : EV k a ρ st x s1) (hb : EV k b ρ s1 y s2) (h : ItH kd x y (its.map f)) (hz : its.length ≤ sizeLine) (hF : ∀ x ∈ its, turnF k tg c e ρ (f x) s2 = some (g x, s2)) :
    EV k (.comp tg kd a b c e) ρ st (.lst (its.filterMap g)) s2 := by
  constructor
  rw [ev_comp', bnd_eq ha.h, bnd_eq hb.h, bnd_eq (of_eq h.h), bnd_eq (compM_fm (st := s2) (f := f) (g := g) its [] hF (by simpa using hz))]
  rfl
theorem t_all {tg : Tg} {e : Tm} {ρ' : Ev} (h : asgT tg x (wipeE ρ tg.slots) = some ρ') (he : EV k e ρ' st d s1) : turnF k tg .nil e ρ x st = some (some d, s1) := by
  unfold turnF
  rw [bnd_eq (of_eq h)]
  show M.bnd _ _ _ = _
  rw [bnd_eq he.h]; rfl
theorem t_if {tg : Tg} {e : Tm} {ρ' : Ev} (hn : c ≠ .nil) (h : asgT tg x (wipeE ρ tg.slots) = some ρ') (hc : EV k c ρ' st (.bl p) st) (he : p = true → EV k e ρ' st d st) : turnF k tg c e ρ x st = some (if p then some d else none, st) := by
  unfold turnF
  rw [bnd_eq (of_eq h)]
  cases c <;> first | exact absurd rfl hn | (show M.bnd _ _ _ = _; rw [bnd_eq hc.h]; show M.bnd (M.of (some p)) _ _ = _; rw [bnd_eq (of_eq rfl)]; cases p; rfl; (show M.bnd _ _ _ = _); rw [bnd_eq (he rfl).h]; rfl)
theorem fm_map {α : Type} {g : α → D} (its : List α) : its.filterMap (fun x => some (g x)) = its.map g := by
  induction its with
  | nil => rfl
  | cons x l ih => simp [ih]
/-- all turns hand back -/
theorem e_map {α : Type} {tg : Tg} {kd : IK} {e : Tm} {its : List α} {f g : α → D} (ha : EV k a ρ st x s1) (hb : EV k b ρ s1 y s2) (h : ItH kd x y (its.map f)) (hz : its.length ≤ sizeLine) (hF : ∀ x ∈ its, ∃ ρ', asgT tg (f x) (wipeE ρ tg.slots) = some ρ' ∧ EV k e ρ' s2 (g x) s2) :
    EV k (.comp tg kd a b .nil e) ρ st (.lst (its.map g)) s2 := by
  rw [← fm_map]
  exact e_comp ha hb h hz fun x hx => by
    obtain ⟨ρ', h1, h2⟩ := hF x hx
    exact t_all h1 h2
/-- some turns hand back -/
theorem e_fil {α : Type} {tg : Tg} {kd : IK} {e : Tm} {its : List α} {f g : α → D} {p : α → Bool} (hn : c ≠ .nil) (ha : EV k a ρ st x s1) (hb : EV k b ρ s1 y s2) (h : ItH kd x y (its.map f)) (hz : its.length ≤ sizeLine) (hF : ∀ x ∈ its, ∃ ρ', asgT tg (f x) (wipeE ρ tg.slots) = some ρ' ∧ EV k c ρ' s2 (.bl (p x)) s2 ∧ (p x = true → EV k e ρ' s2 (g x) s2)) :
    EV k (.comp tg kd a b c e) ρ st (.lst ((its.filter p).map g)) s2 := by
  have e1 : (its.filter p).map g = its.filterMap fun x => if p x then some (g x) else none := by
    clear hF hz h
    induction its with
    | nil => rfl
    | cons x l ih => cases h : p x <;> simp [h, ih]
  rw [e1]
  exact e_comp ha hb h hz fun x hx => by
    obtain ⟨ρ', h1, h2, h3⟩ := hF x hx
    exact t_if hn h1 h2 h3
/-! statements -/
variable {s t : Sm} {o o1 : Out} {ρ' : Ev}
theorem x_nil : XS k .nil ρ st (.nx ρ) st := ⟨rfl⟩
theorem x_cons (h1 : XS k s ρ st o1 s1) (h2 : SqX k o1 t s1 o s2) : XS k (.cons s t) ρ st o s2 := by
  constructor
  show M.bnd _ _ _ = _
  rw [bnd_eq h1.h]
  cases o1 with
  | nx ρ => exact XS.h h2
  | rt d => obtain ⟨rfl, rfl⟩ := h2; rfl
theorem x_asg {tg : Tg} (h : EV k a ρ st d s1) (ht : AsR tg d ρ ρ') : XS k (.asg tg a) ρ st (.nx ρ') s1 := by
  constructor
  show M.bnd _ _ _ = _
  rw [bnd_eq h.h, ht.eq]; rfl
theorem x_iff (h : EV k c ρ st (.bl p) s1) (h2 : IfX k p s t ρ s1 o s2) : XS k (.iff c s t) ρ st o s2 := by
  constructor
  show M.bnd _ _ _ = _
  rw [bnd_eq h.h]
  show M.bnd (M.of (some p)) _ _ = _
  rw [bnd_eq (of_eq rfl)]
  cases p <;> exact XS.h h2
theorem x_ret (h : EV k a ρ st d s1) : XS k (.ret a) ρ st (.rt d) s1 := by
  constructor
  show M.bnd _ _ _ = _
  rw [bnd_eq h.h]; rfl
theorem x_exp (h : EV k a ρ st d s1) : XS k (.exp a) ρ st (.nx ρ) s1 := by
  constructor
  show M.bnd _ _ _ = _
  rw [bnd_eq h.h]; rfl
theorem x_cs {n : Nat} {w : Bool} (h : EV k a ρ st (.int i) s1) (hv : ρ[n]?.join = some .cup) (hp : cupPut .cup w i s1 = some ((), s2)) : XS k (.cs n w a) ρ st (.nx ρ) s2 := by
  constructor
  show M.bnd _ _ _ = _
  rw [bnd_eq h.h]
  show M.bnd (M.of (some i)) _ _ = _
  rw [bnd_eq (of_eq rfl), bnd_eq (of_eq hv), bnd_eq hp]; rfl
theorem ifX_t (hp : p = true) (h : XS k s ρ st o s1) : IfX k p s t ρ st o s1 := by subst hp; exact h
theorem ifX_f (hp : p = false) (h : XS k t ρ st o s1) : IfX k p s t ρ st o s1 := by subst hp; exact h
theorem sqX_nx (h : XS k t ρ st o s1) : SqX k (.nx ρ) t st o s1 := h
theorem sqX_rt : SqX k (.rt d) t st (.rt d) st := ⟨rfl, rfl⟩
/-- a def -/
theorem r_df {f ar nn : Nat} {body : Sm} {args : List D} (hd : tab.df f = ⟨ar, nn, body⟩) (hl : Nat.beq args.length ar = true) (hs : StR nn args ρ) (h : XS k body ρ st o s1) (ho : outD o = d) : Rn (k + 1) f args st d s1 := by
  constructor
  show (if Nat.beq args.length (tab.df f).ar then M.bnd (ex (env0 tab (run tab k)) (tab.df f).body (startE (tab.df f).nn args)) fun o => M.ret (outD o) else M.fail) st = _
  rw [hd]
  rw [if_pos hl, hs.eq, bnd_eq h.h, ← ho]; rfl
/-! loops -/
structure FM (k : Nat) (tg : Tg) (s : Sm) (its : List D) (ρ : Ev) (st : Cup) (o : Out) (s1 : Cup) : Prop where
  h : forM' (fun d ρ1 => M.bnd (M.of (asgT tg d ρ1)) fun ρ2 => ex (En k) s ρ2) its ρ st = some (o, s1)
/-- what a turn hands on -/
def FmK (k : Nat) (tg : Tg) (s : Sm) (l : List D) (o1 : Out) (st : Cup) (o : Out) (s1 : Cup) : Prop := match o1 with
  | .nx ρ => FM k tg s l ρ st o s1
  | .rt d => o = .rt d ∧ s1 = st
theorem fm_nil {tg : Tg} : FM k tg s [] ρ st (.nx ρ) st := ⟨rfl⟩
theorem fm_cons {tg : Tg} (ht : AsR tg x ρ ρ') (h : XS k s ρ' st o1 s1) (h2 : FmK k tg s l o1 s1 o s2) : FM k tg s (x :: l) ρ st o s2 := by
  constructor
  show M.bnd (M.bnd _ _) _ _ = _
  have e : M.bnd (M.of (asgT tg x ρ)) (fun ρ2 => ex (En k) s ρ2) st = some (o1, s1) := by
    rw [bnd_eq (of_eq ht.eq)]; exact h.h
  rw [bnd_eq e]
  cases o1 with
  | nx ρ => exact FM.h h2
  | rt d => obtain ⟨rfl, rfl⟩ := h2; rfl
theorem fmK_nx {tg : Tg} (h : FM k tg s l ρ st o s1) : FmK k tg s l (.nx ρ) st o s1 := h
theorem fmK_rt {tg : Tg} : FmK k tg s l (.rt d) st (.rt d) st := ⟨rfl, rfl⟩
/-- a loop by an invariant -/
theorem fm_post {tg : Tg} (Inv : List D → Ev → Prop) (Post : Out → Prop) (h0 : ∀ ρ, Inv [] ρ → Post (.nx ρ))
    (h1 : ∀ x l ρ, Inv (x :: l) ρ → ∃ ρ', AsR tg x ρ ρ' ∧ ((∃ d, XS k s ρ' st (.rt d) st ∧ Post (.rt d)) ∨ ∃ ρ2, XS k s ρ' st (.nx ρ2) st ∧ Inv l ρ2)) : ∀ its ρ, Inv its ρ → ∃ o, FM k tg s its ρ st o st ∧ Post o
  | [], ρ, hi => ⟨_, fm_nil, h0 ρ hi⟩
  | x :: l, ρ, hi => by
    obtain ⟨ρ', ht, h⟩ := h1 x l ρ hi
    rcases h with ⟨d, e, p⟩ | ⟨ρ2, e, i'⟩
    · exact ⟨_, fm_cons ht e fmK_rt, p⟩
    · obtain ⟨o, e2, p⟩ := fm_post Inv Post h0 h1 l ρ2 i'
      exact ⟨o, fm_cons ht e (fmK_nx e2), p⟩
structure WM (k : Nat) (c : Tm) (s : Sm) (n : Nat) (ρ : Ev) (st : Cup) (o : Out) (s1 : Cup) : Prop where
  h : whlM (fun ρ1 => M.bnd (ev (En k) c ρ1) fun x => M.of (asBool x)) (ex (En k) s) n ρ st = some (o, s1)
theorem x_whl (h : WM k c s turns ρ st o s1) : XS k (.whl c s) ρ st o s1 := ⟨h.h⟩
theorem wm_post (Inv : Nat → Ev → Prop) (Post : Out → Prop)
    (h : ∀ m ρ, Inv m ρ → (EV k c ρ st (.bl false) st ∧ Post (.nx ρ)) ∨ (EV k c ρ st (.bl true) st ∧ ((∃ d, XS k s ρ st (.rt d) st ∧ Post (.rt d)) ∨ ∃ ρ' m', XS k s ρ st (.nx ρ') st ∧ m' < m ∧ Inv m' ρ'))) : ∀ n m ρ, m < n → Inv m ρ → ∃ o, WM k c s n ρ st o st ∧ Post o
  | 0, m, ρ, hm, _ => by omega
  | n + 1, m, ρ, hm, hi => by
    have cb : ∀ b, EV k c ρ st (.bl b) st → M.bnd (ev (En k) c ρ) (fun x => M.of (asBool x)) st = some (b, st) := fun b e => by
      rw [bnd_eq e.h]; rfl
    rcases h m ρ hi with ⟨e, p⟩ | ⟨e, ⟨d, e2, p⟩ | ⟨ρ', m', e2, hm', i'⟩⟩
    · refine ⟨_, ⟨?_⟩, p⟩
      show M.bnd _ _ _ = _
      rw [bnd_eq (cb _ e)]; rfl
    · refine ⟨_, ⟨?_⟩, p⟩
      show M.bnd _ _ _ = _
      rw [bnd_eq (cb _ e)]
      show M.bnd _ _ _ = _
      rw [bnd_eq e2.h]; rfl
    · obtain ⟨o, e3, p⟩ := wm_post Inv Post h n m' ρ' (by omega) i'
      refine ⟨o, ⟨?_⟩, p⟩
      show M.bnd _ _ _ = _
      rw [bnd_eq (cb _ e)]
      show M.bnd _ _ _ = _
      rw [bnd_eq e2.h]; exact e3.h
theorem x_for {tg : Tg} {kd : IK} {its : List D} (ha : EV k a ρ st x s1) (hb : EV k b ρ s1 y s2) (h : ItH kd x y its) (hf : FM k tg s its ρ s2 o s3) : XS k (.forr tg kd a b s) ρ st o s3 := by
  constructor
  show M.bnd _ _ _ = _
  rw [bnd_eq ha.h, bnd_eq hb.h, bnd_eq (of_eq h.h)]
  exact hf.h
end
/-! lists -/
theorem ix_last {x : D} {l : List D} : IxH (.lst (l ++ [x])) (.int (-1)) x := by
  constructor
  show L2.atI (l ++ [x]) (-1) = some x
  have e : L2.ixN (l ++ [x]).length (-1) = some l.length := by
    unfold L2.ixN
    rw [if_neg (by omega), if_pos (by simp; omega), List.length_append, List.length_singleton]
    congr 1
    omega
  unfold L2.atI
  rw [e]
  simp
theorem sl_init {x : D} {l : List D} : SlH (.lst (l ++ [x])) none (some (-1)) (.lst l) := by
  constructor
  show some (D.lst (cutG (l ++ [x]) none (some (-1)))) = _
  unfold cutG
  have e : HT.sIx (l ++ [x]).length (l ++ [x]).length (some (-1)) = l.length := by
    show (if (-1 : Int) < 0 then ((-1 : Int) + ((l ++ [x]).length : Int)).toNat else min (-1 : Int).toNat (l ++ [x]).length) = l.length
    rw [if_pos (by omega), List.length_append, List.length_singleton]
    omega
  rw [e]
  simp [HT.sIx]
theorem ne_nil {l : List D} : CmH .ne (.lst l) (.lst []) (!l.isEmpty) := by
  cases l <;> exact ⟨rfl⟩
theorem eq_nil {l : List D} : CmH .eq (.lst l) (.lst []) l.isEmpty := by
  cases l <;> exact ⟨rfl⟩
theorem ne_nilT {l : List D} : CmH .ne (.tup l) (.tup []) (!l.isEmpty) := by
  cases l <;> exact ⟨rfl⟩
theorem op_lst {l m : List D} (h : l.length + m.length ≤ sizeLine) : OpH .add (.lst l) (.lst m) (.lst (l ++ m)) := by
  constructor
  show (if fitsL (l.length + m.length) then _ else _) = _
  rw [if_pos (show fitsL (l.length + m.length) = true from decide_eq_true h)]
theorem op_tup {l m : List D} (h : l.length + m.length ≤ sizeLine) : OpH .add (.tup l) (.tup m) (.tup (l ++ m)) := by
  constructor
  show (if fitsL (l.length + m.length) then _ else _) = _
  rw [if_pos (show fitsL (l.length + m.length) = true from decide_eq_true h)]
/-! slices of written lists -/
theorem sl_t1 {x : D} {l : List D} : SlH (.tup (x :: l)) (some 1) none (.tup l) := by
  constructor
  show some (D.tup (cutG (x :: l) (some 1) none)) = _
  unfold cutG
  simp [HT.sIx]
theorem sl_t2 {x y : D} {l : List D} : SlH (.tup (x :: y :: l)) (some 2) none (.tup l) := by
  constructor
  show some (D.tup (cutG (x :: y :: l) (some 2) none)) = _
  unfold cutG
  simp [HT.sIx]
end N57
end
section
set_option maxRecDepth 100000
set_option maxHeartbeats 4000000
namespace N57
open PySem
local macro_rules | `(tactic| walk_at "b") => `(tactic| first | rfl | assumption)
local macro_rules | `(tactic| walk_at "cm") => `(tactic| first | assumption | (with_reducible exact ne_nil) | (with_reducible exact eq_nil) | exact ⟨(rfl : _ = some true)⟩ | exact ⟨(rfl : _ = some false)⟩ | exact ⟨rfl⟩)
local macro_rules | `(tactic| walk_at "o") => `(tactic| first | assumption | (with_reducible exact ix_last) | exact ⟨rfl⟩)
local macro_rules | `(tactic| walk_at "sl") => `(tactic| first | assumption | exact sl_init | exact sl_t1 | exact sl_t2 | exact ⟨rfl⟩)
local macro_rules | `(tactic| walk_at "c") => `(tactic| assumption)
local macro_rules | `(tactic| walk_at "as") => `(tactic| (repeat' (first | apply AsR.slot | apply AsR.tup | apply AsR.cons | apply AsR.nil | apply SetR.s | apply SetR.z)))
local macro_rules | `(tactic| walk_at "st") => `(tactic| (repeat' (first | apply StR.some | apply StR.none | apply StR.nil)))
local macro_rules | `(tactic| walk_at "e") => `(tactic| first
  | ((with_reducible apply e_var); rfl)
  | (with_reducible exact e_con)
  | ((with_reducible apply e_cons); walk_at "e"; walk_at "e")
  | (with_reducible exact e_nil)
  | ((with_reducible apply e_glb); rfl)
  | ((with_reducible apply e_tup); walk_at "e")
  | ((with_reducible apply e_lst); walk_at "e")
  | ((with_reducible apply e_ix); walk_at "e"; walk_at "e"; walk_at "o")
  | ((with_reducible apply e_cmp); walk_at "e"; walk_at "e"; walk_at "cm")
  | ((with_reducible apply e_op); walk_at "e"; walk_at "e"; walk_at "o")
  | ((with_reducible apply e_call); walk_at "e"; walk_at "c")
  | ((with_reducible apply e_pr); walk_at "e"; walk_at "o")
  | ((with_reducible apply e_and); walk_at "e"; first | ((with_reducible apply andK_t); walk_at "b"; walk_at "e") | ((with_reducible apply andK_f); walk_at "b"; walk_at "b") | ((with_reducible apply andK_both); walk_at "e"; walk_at "b"))
  | ((with_reducible apply e_or); walk_at "e"; first | ((with_reducible apply orK_t); walk_at "b"; walk_at "b") | ((with_reducible apply orK_f); walk_at "b"; walk_at "e") | ((with_reducible apply orK_both); walk_at "e"; walk_at "b"))
  | ((with_reducible apply e_ite); walk_at "e"; first | ((with_reducible apply ifK_t); walk_at "b"; walk_at "e") | ((with_reducible apply ifK_f); walk_at "b"; walk_at "e"))
  | ((with_reducible apply e_not); walk_at "e"; walk_at "b")
  | ((with_reducible apply e_isN); walk_at "e"; walk_at "b")
  | ((with_reducible apply e_notN); walk_at "e"; walk_at "b")
  | ((with_reducible apply e_neg); walk_at "e"; walk_at "b")
  | ((with_reducible apply e_chain); walk_at "e"; walk_at "e"; walk_at "cm"; walk_at "e"; walk_at "cm"; walk_at "b")
  | ((with_reducible apply e_sl); walk_at "e"; walk_at "e"; rfl; walk_at "e"; rfl; walk_at "sl")
  | (with_reducible exact e_dic0)
  | ((with_reducible apply e_dicS); walk_at "e")
  | ((with_reducible apply e_cg); walk_at "e")
  | assumption)
local macro_rules | `(tactic| walk_at "f") => `(tactic| first
  | exact fm_nil
  | (apply fm_cons; walk_at "as"; walk_at "x"; walk_at "f")
  | (with_reducible exact fmK_rt)
  | ((with_reducible apply fmK_nx); walk_at "f")
  | assumption)
local macro_rules | `(tactic| walk_at "x") => `(tactic| first
  | (with_reducible exact x_nil)
  | ((with_reducible apply x_cons); walk_at "x"; walk_at "x")
  | ((with_reducible apply x_asg); walk_at "e"; walk_at "as")
  | ((with_reducible apply x_iff); walk_at "e"; walk_at "x")
  | ((with_reducible apply x_ret); walk_at "e")
  | ((with_reducible apply x_exp); walk_at "e")
  | ((with_reducible apply ifX_t); walk_at "b"; walk_at "x")
  | ((with_reducible apply ifX_f); walk_at "b"; walk_at "x")
  | ((with_reducible apply x_for); walk_at "e"; walk_at "e"; walk_at "o"; walk_at "f")
  | (with_reducible exact sqX_rt)
  | ((with_reducible apply sqX_nx); walk_at "x")
  | assumption)
local macro_rules | `(tactic| walk_at "1") => `(tactic| ((with_reducible apply x_cons); walk_at "x"; (with_reducible apply sqX_nx)))

abbrev sAmount : Wd := [97, 109, 111, 117, 110, 116]
abbrev sUse : Wd := [117, 115, 101]
abbrev sGiven : Wd := [103, 105, 118, 101, 110]
abbrev sApply : Wd := [97, 112, 112, 108, 121]
abbrev sHold : Wd := [104, 111, 108, 100]
abbrev sReckon : Wd := [114, 101, 99, 107, 111, 110]
abbrev sTest : Wd := [116, 101, 115, 116]
inductive Sg where | add | sub | mul
  deriving DecidableEq, Inhabited
abbrev Sg.w : Sg → Wd
  | .add => [43] | .sub => [45] | .mul => [42]
inductive Tr where
  | amt (i : Int) | use (w : Wd) | giv (w : Wd) (b : Tr) | app (a b : Tr) | hol (w : Wd) (a b : Tr) | rek (o : Sg) (a b : Tr) | tst (a b c : Tr)
  deriving DecidableEq, Inhabited
abbrev nm (w : Wd) : D := .tup [.str w, .tup []]
def enc : Tr → D
  | .amt i => .tup [.str sAmount, .int i]
  | .use w => .tup [.str sUse, nm w]
  | .giv w b => .tup [.str sGiven, nm w, enc b]
  | .app a b => .tup [.str sApply, enc a, enc b]
  | .hol w a b => .tup [.str sHold, nm w, enc a, enc b]
  | .rek o a b => .tup [.str sReckon, .str o.w, enc a, enc b]
  | .tst a b c => .tup [.str sTest, enc a, enc b, enc c]
def Tr.parts : Tr → List Tr
  | .amt _ => [] | .use _ => [] | .giv _ b => [b] | .app a b => [a, b] | .hol _ a b => [a, b] | .rek _ a b => [a, b] | .tst a b c => [a, b, c]
def Tr.wth : Tr → List Tr → Tr
  | .giv w _, [b] => .giv w b
  | .app _ _, [a, b] => .app a b
  | .hol w _ _, [a, b] => .hol w a b
  | .rek o _ _, [a, b] => .rek o a b
  | .tst _ _ _, [a, b, c] => .tst a b c
  | t, _ => t
def lsT (ts : List Tr) : D := .lst (ts.map enc)
theorem parts_in_ok (t : Tr) (k : Nat) (st : Cup) : Rn (k + 1) f_parts_in [enc t] st (lsT t.parts) st := by
  cases t <;> exact ⟨rfl⟩
theorem law_parts_ok (t : Tr) (k : Nat) (st : Cup) : Rn (k + 1) f_law_parts [enc t] st (lsT t.parts) st := by
  cases t <;> exact ⟨rfl⟩
theorem wth_ok (t : Tr) (ps : List Tr) (h : ps.length = t.parts.length) (k : Nat) (st : Cup) : Rn (k + 1) f_with_parts [enc t, lsT ps] st (enc (t.wth ps)) st := by
  cases t <;> (simp only [Tr.parts, List.length_cons, List.length_nil] at h; rcases ps with _ | ⟨a, _ | ⟨b, _ | ⟨c, _ | ⟨d, r⟩⟩⟩⟩ <;> first | (simp at h; done) | exact ⟨rfl⟩ | (simp at h; omega))
theorem law_wth_ok (t : Tr) (ps : List Tr) (h : ps.length = t.parts.length) (k : Nat) (st : Cup) : Rn (k + 1) f_law_with [enc t, lsT ps] st (enc (t.wth ps)) st := by
  cases t <;> (simp only [Tr.parts, List.length_cons, List.length_nil] at h; rcases ps with _ | ⟨a, _ | ⟨b, _ | ⟨c, _ | ⟨d, r⟩⟩⟩⟩ <;> first | (simp at h; done) | exact ⟨rfl⟩ | (simp at h; omega))

theorem is_whole_ok (v lo hi : Int) (k : Nat) (st : Cup) : Rn (k + 1) f_is_whole [.int v, .int lo, .int hi] st (.bl (decide (lo ≤ v) && decide (v ≤ hi))) st := by
  apply r_df df_is_whole rfl
  · walk_at "st"
  · walk_at "x"
  · rfl
theorem is_row_ok (l : List D) (lo hi : Int) (k : Nat) (st : Cup) : Rn (k + 1) f_is_row_of [.tup l, .int lo, .int hi] st (.bl (decide (lo ≤ l.length) && decide ((l.length : Int) ≤ hi))) st := by
  apply r_df df_is_row_of rfl
  · walk_at "st"
  · walk_at "x"
  · rfl
theorem is_done_ok (t : Tr) (k : Nat) (st : Cup) : Rn (k + 1) f_is_done [enc t] st (.bl (match t with | .amt _ => true | .giv .. => true | _ => false)) st := by
  cases t <;> exact ⟨rfl⟩
theorem pieces_in_ok (t : Tr) (k : Nat) (st : Cup) : Rn (k + 1) f_pieces_in [enc t] st (.int 0) st := by
  cases t <;> exact ⟨rfl⟩
/-! words -/
def takenW : List Wd := [sGiven, sApply, sHold, sTest, [109, 97, 107, 101, 114], [114, 111, 119], [109, 97, 107, 101], [97, 110, 121], [110, 97, 109, 101], [119, 111, 114, 100], [102, 105, 108, 108]]
def letterC (c : Nat) : Bool := ([97, 98, 99, 100, 101, 102, 103, 104, 105, 106, 107, 108, 109, 110, 111, 112, 113, 114, 115, 116, 117, 118, 119, 120, 121, 122] : List Nat).any (Nat.beq c)
def fitsW (w : Wd) : Bool := decide (1 ≤ w.length) && decide (w.length ≤ 6) && !takenW.any (natsEq w) && w.all letterC
theorem letterC_lt {c : Nat} (h : letterC c = true) : 97 ≤ c ∧ c ≤ 122 := by
  unfold letterC at h
  simp only [List.any_cons, List.any_nil, Bool.or_eq_true, Nat.beq_eq, Bool.or_false] at h
  omega
theorem mapM_blf {α : Type} (f : α → Bool) (l : List α) : (l.map fun x => D.bl (f x)).mapM blOf = some (l.map f) := by
  induction l with
  | nil => rfl
  | cons x l ih => simp [List.mapM_cons, ih, blOf]
theorem fits_of {n : Nat} (h : n ≤ sizeLine) : fitsL n = true := decide_eq_true h
theorem prD_all {α : Type} (f : α → Bool) (l : List α) (tb : Nat → List (Wd × Option W0)) : prD tb .all [.lst (l.map fun x => .bl (f x))] = some (.bl (l.all f)) := by
  show ((l.map fun x => D.bl (f x)).mapM blOf).map _ = _
  rw [mapM_blf]
  simp [List.all_map, Function.comp_def]
theorem len_str {w : Wd} (h : w.length ≤ sizeLine) : PrH .len [.str w] (.int w.length) := by
  constructor
  show (if fitsL w.length then _ else _) = _
  rw [if_pos (fits_of h)]
theorem it_str {w : Wd} {y : D} (h : w.length ≤ sizeLine) : ItH .str (.str w) y (w.map fun c => .str [c]) := by
  constructor
  show (if fitsL w.length then _ else _) = _
  rw [if_pos (fits_of h)]
theorem fits_word_ok (w : Wd) (h : fitsW w = true) (k : Nat) (st : Cup) : Rn (k + 1) f_fits_word [.str w] st (.bl true) st := by
  unfold fitsW at h
  simp only [Bool.and_eq_true, decide_eq_true_eq, Bool.not_eq_true'] at h
  obtain ⟨⟨⟨h1, h2⟩, h3⟩, h4⟩ := h
  have hw : w.length ≤ sizeLine := by unfold sizeLine; omega
  have hz := len_str hw
  have c1 : CmH .le (.int 1) (.int w.length) true := ⟨congrArg some (decide_eq_true (by omega))⟩
  have c2 : CmH .le (.int w.length) (.int 6) true := ⟨congrArg some (decide_eq_true (by omega))⟩
  have c3 : CmH .inQ (.str w) (.wt takenW) false := ⟨congrArg some h3⟩
  apply r_df df_fits_word rfl
  · walk_at "st"
  · with_reducible apply x_cons
    · walk_at "x"
    with_reducible apply sqX_nx
    with_reducible apply x_cons
    · with_reducible apply x_ret
      with_reducible apply e_pr
      · with_reducible apply e_cons
        · apply e_map (g := fun _ => .bl true) (f := fun c => .str [c]) (its := w)
          · walk_at "e"
          · walk_at "e"
          · exact it_str hw
          · exact hw
          intro c hc
          have hl : letterC c = true := List.all_eq_true.mp h4 c hc
          refine ⟨_, rfl, ?_⟩
          have c4 : CmH .inS (.str [c]) (.str [97, 98, 99, 100, 101, 102, 103, 104, 105, 106, 107, 108, 109, 110, 111, 112, 113, 114, 115, 116, 117, 118, 119, 120, 121, 122]) true := ⟨congrArg some hl⟩
          walk_at "e"
        · walk_at "e"
      · exact ⟨prD_all (fun _ => true) w tbls⟩
    · walk_at "x"
  · simp [outD]
end N57
end
section
set_option maxRecDepth 100000
set_option maxHeartbeats 4000000
namespace N57
open PySem
local macro_rules | `(tactic| walk_at "b") => `(tactic| first | rfl | assumption)
local macro_rules | `(tactic| walk_at "cm") => `(tactic| first | assumption | (with_reducible exact ne_nil) | (with_reducible exact eq_nil) | exact ⟨(rfl : _ = some true)⟩ | exact ⟨(rfl : _ = some false)⟩ | exact ⟨rfl⟩)
local macro_rules | `(tactic| walk_at "o") => `(tactic| first | assumption | (with_reducible exact ix_last) | exact ⟨rfl⟩)
local macro_rules | `(tactic| walk_at "sl") => `(tactic| first | assumption | exact sl_init | exact sl_t1 | exact sl_t2 | exact ⟨rfl⟩)
local macro_rules | `(tactic| walk_at "c") => `(tactic| assumption)
local macro_rules | `(tactic| walk_at "as") => `(tactic| (repeat' (first | apply AsR.slot | apply AsR.tup | apply AsR.cons | apply AsR.nil | apply SetR.s | apply SetR.z)))
local macro_rules | `(tactic| walk_at "st") => `(tactic| (repeat' (first | apply StR.some | apply StR.none | apply StR.nil)))
local macro_rules | `(tactic| walk_at "e") => `(tactic| first
  | ((with_reducible apply e_var); rfl)
  | (with_reducible exact e_con)
  | ((with_reducible apply e_cons); walk_at "e"; walk_at "e")
  | (with_reducible exact e_nil)
  | ((with_reducible apply e_glb); rfl)
  | ((with_reducible apply e_tup); walk_at "e")
  | ((with_reducible apply e_lst); walk_at "e")
  | ((with_reducible apply e_ix); walk_at "e"; walk_at "e"; walk_at "o")
  | ((with_reducible apply e_cmp); walk_at "e"; walk_at "e"; walk_at "cm")
  | ((with_reducible apply e_op); walk_at "e"; walk_at "e"; walk_at "o")
  | ((with_reducible apply e_call); walk_at "e"; walk_at "c")
  | ((with_reducible apply e_pr); walk_at "e"; walk_at "o")
  | ((with_reducible apply e_and); walk_at "e"; first | ((with_reducible apply andK_t); walk_at "b"; walk_at "e") | ((with_reducible apply andK_f); walk_at "b"; walk_at "b") | ((with_reducible apply andK_both); walk_at "e"; walk_at "b"))
  | ((with_reducible apply e_or); walk_at "e"; first | ((with_reducible apply orK_t); walk_at "b"; walk_at "b") | ((with_reducible apply orK_f); walk_at "b"; walk_at "e") | ((with_reducible apply orK_both); walk_at "e"; walk_at "b"))
  | ((with_reducible apply e_ite); walk_at "e"; first | ((with_reducible apply ifK_t); walk_at "b"; walk_at "e") | ((with_reducible apply ifK_f); walk_at "b"; walk_at "e"))
  | ((with_reducible apply e_not); walk_at "e"; walk_at "b")
  | ((with_reducible apply e_isN); walk_at "e"; walk_at "b")
  | ((with_reducible apply e_notN); walk_at "e"; walk_at "b")
  | ((with_reducible apply e_neg); walk_at "e"; walk_at "b")
  | ((with_reducible apply e_chain); walk_at "e"; walk_at "e"; walk_at "cm"; walk_at "e"; walk_at "cm"; walk_at "b")
  | ((with_reducible apply e_sl); walk_at "e"; walk_at "e"; rfl; walk_at "e"; rfl; walk_at "sl")
  | (with_reducible exact e_dic0)
  | ((with_reducible apply e_dicS); walk_at "e")
  | ((with_reducible apply e_cg); walk_at "e")
  | assumption)
local macro_rules | `(tactic| walk_at "f") => `(tactic| first
  | exact fm_nil
  | (apply fm_cons; walk_at "as"; walk_at "x"; walk_at "f")
  | (with_reducible exact fmK_rt)
  | ((with_reducible apply fmK_nx); walk_at "f")
  | assumption)
local macro_rules | `(tactic| walk_at "x") => `(tactic| first
  | (with_reducible exact x_nil)
  | ((with_reducible apply x_cons); walk_at "x"; walk_at "x")
  | ((with_reducible apply x_asg); walk_at "e"; walk_at "as")
  | ((with_reducible apply x_iff); walk_at "e"; walk_at "x")
  | ((with_reducible apply x_ret); walk_at "e")
  | ((with_reducible apply x_exp); walk_at "e")
  | ((with_reducible apply ifX_t); walk_at "b"; walk_at "x")
  | ((with_reducible apply ifX_f); walk_at "b"; walk_at "x")
  | ((with_reducible apply x_for); walk_at "e"; walk_at "e"; walk_at "o"; walk_at "f")
  | (with_reducible exact sqX_rt)
  | ((with_reducible apply sqX_nx); walk_at "x")
  | assumption)
local macro_rules | `(tactic| walk_at "1") => `(tactic| ((with_reducible apply x_cons); walk_at "x"; (with_reducible apply sqX_nx)))
/-! sizes, depths, what is good -/
def Tr.size : Tr → Nat
  | .amt _ => 1 | .use _ => 1 | .giv _ b => b.size + 1 | .app a b => a.size + b.size + 1 | .hol _ a b => a.size + b.size + 1 | .rek _ a b => a.size + b.size + 1 | .tst a b c => a.size + b.size + c.size + 1
def Tr.depth : Tr → Nat
  | .amt _ => 1 | .use _ => 1 | .giv _ b => b.depth + 1 | .app a b => max a.depth b.depth + 1 | .hol _ a b => max a.depth b.depth + 1 | .rek _ a b => max a.depth b.depth + 1 | .tst a b c => max (max a.depth b.depth) c.depth + 1
def amtB (i : Int) : Bool := decide (-1000000000000 ≤ i) && decide (i ≤ 1000000000000)
def Tr.good : Tr → Bool
  | .amt i => amtB i | .use w => fitsW w | .giv w b => fitsW w && b.good | .app a b => a.good && b.good | .hol w a b => fitsW w && (a.good && b.good) | .rek _ a b => a.good && b.good | .tst a b c => a.good && (b.good && c.good)
theorem ascii_of {w : Wd} (h : fitsW w = true) : w.all (Nat.blt · 256) = true := by
  unfold fitsW at h
  simp only [Bool.and_eq_true] at h
  rw [List.all_eq_true]
  intro c hc
  have := letterC_lt (List.all_eq_true.mp h.2 c hc)
  rw [Nat.blt_eq]; omega
theorem eqO_str {w v : Wd} (hw : w.all (Nat.blt · 256) = true) (hv : v.all (Nat.blt · 256) = true) : eqO (.str w) (.str v) = some (natsEq w v) := by
  show (if okB 62 (.str w) && okB 62 (.str v) then _ else _) = _
  rw [show okB 62 (.str w) = true from hw, show okB 62 (.str v) = true from hv]
  rfl
theorem eqO_nm {w v : Wd} (hw : fitsW w = true) (hv : fitsW v = true) : eqO (nm w) (nm v) = some (natsEq w v) := by
  show (if (((w.all (Nat.blt · 256)) && (true && true)) && ((v.all (Nat.blt · 256)) && (true && true))) then some (natsEq w v && (true && true)) else none) = _
  rw [ascii_of hw, ascii_of hv]
  simp
theorem not_taken {w : Wd} (h : fitsW w = true) {x : Wd} (hx : x ∈ takenW) : natsEq w x = false := by
  unfold fitsW at h
  simp only [Bool.and_eq_true, Bool.not_eq_true', List.any_eq_false] at h
  have := h.1.2 x hx
  simpa using this
theorem fits_name_ok (w : Wd) (h : fitsW w = true) (k : Nat) (st : Cup) : Rn (k + 2) f_fits_name [nm w] st (.bl true) st := by
  have h1 := is_row_ok [.str w, .tup []] 2 2 k st
  have h2 := is_row_ok [] 0 40 k st
  have h3 := fits_word_ok w h k st
  apply r_df df_fits_name rfl
  · walk_at "st"
  · with_reducible apply x_cons
    · walk_at "x"
    with_reducible apply sqX_nx
    with_reducible apply x_cons
    · walk_at "x"
    with_reducible apply sqX_nx
    with_reducible apply x_cons
    · with_reducible apply x_ret
      with_reducible apply e_and
      · with_reducible apply e_pr
        · with_reducible apply e_cons
          · apply e_map (g := fun _ => .bl true) (its := []) (f := id)
            · walk_at "e"
            · walk_at "e"
            · exact ⟨rfl⟩
            · simp
            · intro x hx; cases hx
          · walk_at "e"
        · exact ⟨rfl⟩
      with_reducible apply andK_t
      · rfl
      with_reducible apply e_pr
      · with_reducible apply e_cons
        · apply e_map (g := fun _ => .bl true) (its := []) (f := id)
          · walk_at "e"
          · walk_at "e"
          · exact ⟨rfl⟩
          · simp
          · intro x hx; cases hx
        · walk_at "e"
      · exact ⟨rfl⟩
    · walk_at "x"
  · rfl
abbrev kTree : Wd := [116, 114, 101, 101]
abbrev kAmount : Wd := sAmount
abbrev kSign : Wd := [115, 105, 103, 110]
abbrev kBinder : Wd := [98, 105, 110, 100, 101, 114]
abbrev kName : Wd := [110, 97, 109, 101]
abbrev d0 : D := .dS [] []
theorem ti_tree (d : D) (k : Nat) (st : Cup) : Rn (k + 3) f_things_in [.str kTree, d, d0] st (.lst [.tup [d, d0]]) st := by
  apply r_df df_things_in rfl
  · walk_at "st"
  · walk_at "x"
  · rfl
theorem ti_amount (i : Int) (h : amtB i = true) (k : Nat) (st : Cup) : Rn (k + 3) f_things_in [.str kAmount, .int i, d0] st (.lst []) st := by
  have h1 := is_whole_ok i (-1000000000000) 1000000000000 (k + 1) st
  rw [show (decide (-1000000000000 ≤ i) && decide (i ≤ 1000000000000)) = true from h] at h1
  apply r_df df_things_in rfl
  · walk_at "st"
  · walk_at "x"
  · rfl
theorem ti_sign (o : Sg) (k : Nat) (st : Cup) : Rn (k + 3) f_things_in [.str kSign, .str o.w, d0] st (.lst []) st := by
  cases o <;> exact ⟨rfl⟩
theorem ti_name (w : Wd) (h : fitsW w = true) (k : Nat) (st : Cup) : Rn (k + 3) f_things_in [.str kName, nm w, d0] st (.lst []) st := by
  have h1 := fits_name_ok w h k st
  apply r_df df_things_in rfl
  · walk_at "st"
  · walk_at "x"
  · rfl
theorem ti_binder (w : Wd) (h : fitsW w = true) (k : Nat) (st : Cup) : Rn (k + 3) f_things_in [.str kBinder, nm w, d0] st (.lst []) st := by
  have h1 := fits_name_ok w h k st
  have h2 := is_row_ok [.str w, .tup []] 2 2 (k + 1) st
  have h3 : CmH .eq (.str w) (.str [102, 105, 108, 108]) false := ⟨(eqO_str (ascii_of h) rfl).trans (congrArg some (not_taken h (by decide +kernel)))⟩
  apply r_df df_things_in rfl
  · walk_at "st"
  · walk_at "x"
  · rfl
def lsD (ts : List Tr) : D := .lst (ts.map fun t => .tup [enc t, d0])
theorem things_of_ok (t : Tr) (h : t.good = true) (k : Nat) (st : Cup) : Rn (k + 4) f_things_of [enc t, d0] st (lsD t.parts) st := by
  cases t with
  | amt i =>
    have h1 := ti_amount i h k st
    apply r_df df_things_of rfl
    · walk_at "st"
    · walk_at "x"
    · rfl
  | use w =>
    have h1 := ti_name w h k st
    apply r_df df_things_of rfl
    · walk_at "st"
    · walk_at "x"
    · rfl
  | giv w b =>
    have h' := Bool.and_eq_true_iff.mp h
    have h1 := ti_binder w h'.1 k st
    have h2 := ti_tree (enc b) k st
    apply r_df df_things_of rfl
    · walk_at "st"
    · walk_at "x"
    · rfl
  | app a b =>
    have h1 := ti_tree (enc a) k st
    have h2 := ti_tree (enc b) k st
    apply r_df df_things_of rfl
    · walk_at "st"
    · walk_at "x"
    · rfl
  | hol w a b =>
    have h' := Bool.and_eq_true_iff.mp h
    have h0 := ti_binder w h'.1 k st
    have h1 := ti_tree (enc a) k st
    have h2 := ti_tree (enc b) k st
    apply r_df df_things_of rfl
    · walk_at "st"
    · walk_at "x"
    · rfl
  | rek o a b =>
    have h0 := ti_sign o k st
    have h1 := ti_tree (enc a) k st
    have h2 := ti_tree (enc b) k st
    apply r_df df_things_of rfl
    · walk_at "st"
    · walk_at "x"
    · rfl
  | tst a b c =>
    have h1 := ti_tree (enc a) k st
    have h2 := ti_tree (enc b) k st
    have h3 := ti_tree (enc c) k st
    apply r_df df_things_of rfl
    · walk_at "st"
    · walk_at "x"
    · rfl
end N57
end
section
set_option maxRecDepth 100000
set_option maxHeartbeats 4000000
namespace N57
open PySem
local macro_rules | `(tactic| walk_at "b") => `(tactic| first | rfl | assumption)
local macro_rules | `(tactic| walk_at "cm") => `(tactic| first | assumption | (with_reducible exact ne_nil) | (with_reducible exact eq_nil) | exact ⟨(rfl : _ = some true)⟩ | exact ⟨(rfl : _ = some false)⟩ | exact ⟨rfl⟩)
local macro_rules | `(tactic| walk_at "o") => `(tactic| first | assumption | (with_reducible exact ix_last) | exact ⟨rfl⟩)
local macro_rules | `(tactic| walk_at "sl") => `(tactic| first | assumption | exact sl_init | exact sl_t1 | exact sl_t2 | exact ⟨rfl⟩)
local macro_rules | `(tactic| walk_at "c") => `(tactic| assumption)
local macro_rules | `(tactic| walk_at "as") => `(tactic| (repeat' (first | apply AsR.slot | apply AsR.tup | apply AsR.cons | apply AsR.nil | apply SetR.s | apply SetR.z)))
local macro_rules | `(tactic| walk_at "st") => `(tactic| (repeat' (first | apply StR.some | apply StR.none | apply StR.nil)))
local macro_rules | `(tactic| walk_at "e") => `(tactic| first
  | ((with_reducible apply e_var); rfl)
  | (with_reducible exact e_con)
  | ((with_reducible apply e_cons); walk_at "e"; walk_at "e")
  | (with_reducible exact e_nil)
  | ((with_reducible apply e_glb); rfl)
  | ((with_reducible apply e_tup); walk_at "e")
  | ((with_reducible apply e_lst); walk_at "e")
  | ((with_reducible apply e_ix); walk_at "e"; walk_at "e"; walk_at "o")
  | ((with_reducible apply e_cmp); walk_at "e"; walk_at "e"; walk_at "cm")
  | ((with_reducible apply e_op); walk_at "e"; walk_at "e"; walk_at "o")
  | ((with_reducible apply e_call); walk_at "e"; walk_at "c")
  | ((with_reducible apply e_pr); walk_at "e"; walk_at "o")
  | ((with_reducible apply e_and); walk_at "e"; first | ((with_reducible apply andK_t); walk_at "b"; walk_at "e") | ((with_reducible apply andK_f); walk_at "b"; walk_at "b") | ((with_reducible apply andK_both); walk_at "e"; walk_at "b"))
  | ((with_reducible apply e_or); walk_at "e"; first | ((with_reducible apply orK_t); walk_at "b"; walk_at "b") | ((with_reducible apply orK_f); walk_at "b"; walk_at "e") | ((with_reducible apply orK_both); walk_at "e"; walk_at "b"))
  | ((with_reducible apply e_ite); walk_at "e"; first | ((with_reducible apply ifK_t); walk_at "b"; walk_at "e") | ((with_reducible apply ifK_f); walk_at "b"; walk_at "e"))
  | ((with_reducible apply e_not); walk_at "e"; walk_at "b")
  | ((with_reducible apply e_isN); walk_at "e"; walk_at "b")
  | ((with_reducible apply e_notN); walk_at "e"; walk_at "b")
  | ((with_reducible apply e_neg); walk_at "e"; walk_at "b")
  | ((with_reducible apply e_chain); walk_at "e"; walk_at "e"; walk_at "cm"; walk_at "e"; walk_at "cm"; walk_at "b")
  | ((with_reducible apply e_sl); walk_at "e"; walk_at "e"; rfl; walk_at "e"; rfl; walk_at "sl")
  | (with_reducible exact e_dic0)
  | ((with_reducible apply e_dicS); walk_at "e")
  | ((with_reducible apply e_cg); walk_at "e")
  | assumption)
local macro_rules | `(tactic| walk_at "f") => `(tactic| first
  | exact fm_nil
  | (apply fm_cons; walk_at "as"; walk_at "x"; walk_at "f")
  | (with_reducible exact fmK_rt)
  | ((with_reducible apply fmK_nx); walk_at "f")
  | assumption)
local macro_rules | `(tactic| walk_at "x") => `(tactic| first
  | (with_reducible exact x_nil)
  | ((with_reducible apply x_cons); walk_at "x"; walk_at "x")
  | ((with_reducible apply x_asg); walk_at "e"; walk_at "as")
  | ((with_reducible apply x_iff); walk_at "e"; walk_at "x")
  | ((with_reducible apply x_ret); walk_at "e")
  | ((with_reducible apply x_exp); walk_at "e")
  | ((with_reducible apply ifX_t); walk_at "b"; walk_at "x")
  | ((with_reducible apply ifX_f); walk_at "b"; walk_at "x")
  | ((with_reducible apply x_for); walk_at "e"; walk_at "e"; walk_at "o"; walk_at "f")
  | (with_reducible exact sqX_rt)
  | ((with_reducible apply sqX_nx); walk_at "x")
  | assumption)
local macro_rules | `(tactic| walk_at "1") => `(tactic| ((with_reducible apply x_cons); walk_at "x"; (with_reducible apply sqX_nx)))
/-! measured -/
abbrev fitsT (t : Tr) : Prop := t.size ≤ 1000 ∧ t.depth ≤ 60
def mesD (t : Tr) : D := if fitsT t then .tup [.int t.size, .int t.depth] else .non
def sumS : List (Tr × Nat) → Nat
  | [] => 0
  | p :: l => p.1.size + sumS l
def mxD : List (Tr × Nat) → Nat
  | [] => 0
  | p :: l => max (p.2 + p.1.depth - 1) (mxD l)
theorem sumS_app (a b : List (Tr × Nat)) : sumS (a ++ b) = sumS a + sumS b := by
  induction a with
  | nil => simp [sumS]
  | cons x l ih => simp [sumS, ih]; omega
theorem mxD_app (a b : List (Tr × Nat)) : mxD (a ++ b) = max (mxD a) (mxD b) := by
  induction a with
  | nil => simp [mxD]
  | cons x l ih => simp only [List.cons_append, mxD, ih]; omega
theorem size_pos (t : Tr) : 1 ≤ t.size := by
  cases t <;> simp [Tr.size]
theorem depth_pos (t : Tr) : 1 ≤ t.depth := by
  cases t <;> simp [Tr.depth]
theorem good_parts {t : Tr} (h : t.good = true) : ∀ u ∈ t.parts, u.good = true := by
  cases t <;> simp [Tr.good, Tr.parts] at * <;> simp [*]
theorem parts_len (t : Tr) : t.parts.length ≤ 3 := by
  cases t <;> simp [Tr.parts]
theorem sum_parts (t : Tr) (d : Nat) : sumS (t.parts.map fun u => (u, d)) + 1 = t.size := by
  cases t <;> simp [Tr.parts, sumS, Tr.size] <;> omega
theorem mx_parts (t : Tr) (d : Nat) (hd : 1 ≤ d) : max d (mxD (t.parts.map fun u => (u, d + 1))) = d + t.depth - 1 := by
  cases t <;> simp only [Tr.parts, List.map_cons, List.map_nil, mxD, Tr.depth] <;> (first | omega | skip)
  all_goals
    (try have := depth_pos ‹Tr›)
    omega
abbrev lnD (L : List (Tr × Nat)) : List D := L.map fun p => .tup [enc p.1, d0, .int p.2]
def MesInv (t : Tr) (m : Nat) (ρ : Ev) : Prop := ∃ L : List (Tr × Nat), ∃ sz dp : Nat, ∃ o4 o5 o6 o7 o8 o9, ρ = [some (enc t), some (.lst (lnD L)), some (.int sz), some (.int dp), o4, o5, o6, o7, o8, o9] ∧ (∀ p ∈ L, p.1.good = true ∧ 1 ≤ p.2) ∧
  sz + sumS L = t.size ∧ max dp (mxD L) = t.depth ∧ sz ≤ 1000 ∧ dp ≤ 60 ∧ L.length ≤ 1 + 2 * sz ∧ m = 1001 - sz
def MesPost (t : Tr) (o : Out) : Prop := (fitsT t ∧ ∃ o0 o1 r, o = .nx (o0 :: o1 :: some (.int t.size) :: some (.int t.depth) :: r)) ∨ (¬ fitsT t ∧ o = .rt .non)
theorem mes_loop (t : Tr) (hg : t.good = true) (k : Nat) (st : Cup) {ρ : Ev} (hi : MesInv t 1001 ρ) : ∃ o, WM (k + 4) b_measured_L0c b_measured_L0b turns ρ st o st ∧ MesPost t o := by
  refine wm_post (MesInv t) (MesPost t) ?_ turns 1001 ρ (by decide) hi
  rintro m ρ ⟨L, sz, dp, o4, o5, o6, o7, o8, o9, rfl, hL, hs, hd, hsz, hdp, hlen, rfl⟩
  rcases List.eq_nil_or_concat L with rfl | ⟨L', ⟨u, d⟩, rfl⟩
  · left
    refine ⟨?_, .inl ⟨⟨?_, ?_⟩, ?_⟩⟩
    · walk_at "e"
    · simp [sumS] at hs; omega
    · simp [mxD] at hd; omega
    · simp [sumS] at hs
      simp [mxD] at hd
      rw [← hs, ← hd]
      exact ⟨_, _, _, rfl⟩
  · right
    rw [List.concat_eq_append] at *
    have hu := hL (u, d) (by simp)
    have hL' : ∀ p ∈ L', p.1.good = true ∧ 1 ≤ p.2 := fun p hp => hL p (by simp [hp])
    rw [sumS_app] at hs
    rw [mxD_app] at hd
    simp only [sumS, mxD, Nat.add_zero, Nat.max_zero] at hs hd
    rw [List.length_append, List.length_singleton] at hlen
    have up := size_pos u
    have ud := depth_pos u
    have emap : lnD (L' ++ [(u, d)]) = lnD L' ++ [.tup [enc u, d0, .int d]] := by simp [lnD]
    rw [emap]
    have hne : (lnD L' ++ [D.tup [enc u, d0, .int d]]).isEmpty = false := by simp
    have ht := things_of_ok u hu.1 k st
    have hp := pieces_in_ok u (k + 3) st
    refine ⟨?_, ?_⟩
    · have := ne_nil (l := lnD L' ++ [D.tup [enc u, d0, .int d]])
      rw [hne] at this
      walk_at "e"
    by_cases h60 : 60 < d
    · left
      have c1 : CmH .gt (.int d) (.int 60) true := ⟨congrArg some (decide_eq_true (by omega))⟩
      refine ⟨.non, ?_, .inr ⟨fun hf => ?_, rfl⟩⟩
      · with_reducible apply x_cons
        · walk_at "x"
        with_reducible apply sqX_nx
        with_reducible apply x_cons
        · walk_at "x"
        with_reducible apply sqX_nx
        with_reducible apply x_cons
        · with_reducible apply x_iff
          · with_reducible apply e_or
            · walk_at "e"
            with_reducible apply orK_f
            · rfl
            walk_at "e"
          · walk_at "x"
        · walk_at "x"
      · unfold fitsT at hf
        omega
    · have c1 : CmH .gt (.int d) (.int 60) false := ⟨congrArg some (decide_eq_false (by omega))⟩
      have ez : (((sz : Int) + 1) + 0) = ((sz + 1 : Nat) : Int) := by omega
      have em : (if (d : Int) > (dp : Int) then (d : Int) else (dp : Int)) = ((max dp d : Nat) : Int) := by split <;> omega
      have p1 : PrH .max2 [.int dp, .int d] (.int ((max dp d : Nat) : Int)) := ⟨by rw [← em]; rfl⟩
      have q1 : OpH .add (.int (sz + 1)) (.int 0) (.int ((sz + 1 : Nat) : Int)) := ⟨by rw [← ez]; rfl⟩
      by_cases h1000 : 1000 < sz + 1
      · left
        have c2 : CmH .gt (.int ((sz + 1 : Nat) : Int)) (.int 1000) true := ⟨congrArg some (decide_eq_true (by omega))⟩
        refine ⟨.non, ?_, .inr ⟨fun hf => ?_, rfl⟩⟩
        · walk_at "1"
          walk_at "1"
          walk_at "1"
          walk_at "1"
          walk_at "x"
        · unfold fitsT at hf
          omega
      · right
        have c2 : CmH .gt (.int ((sz + 1 : Nat) : Int)) (.int 1000) false := ⟨congrArg some (decide_eq_false (by omega))⟩
        refine ⟨_, 1001 - (sz + 1), ?_, by omega, L' ++ (u.parts.map fun v => (v, d + 1)), sz + 1, max dp d, some (enc u), some d0, some (.int d), some (lsD u.parts), o8, o9, rfl, ?_, ?_, ?_, by omega, by omega, ?_, rfl⟩
        · walk_at "1"
          walk_at "1"
          walk_at "1"
          walk_at "1"
          walk_at "1"
          with_reducible apply x_cons
          · with_reducible apply x_asg
            · with_reducible apply e_op
              · walk_at "e"
              · apply e_map (its := u.parts) (f := fun v => .tup [enc v, d0]) (g := fun v => .tup [enc v, d0, .int ((d + 1 : Nat) : Int)])
                · walk_at "e"
                · walk_at "e"
                · exact ⟨rfl⟩
                · have := parts_len u; unfold sizeLine; omega
                · intro v hv
                  exact ⟨_, rfl, by walk_at "e"⟩
              · exact op_lst (by have := parts_len u; simp only [List.length_map]; unfold sizeLine; omega)
            · walk_at "as"
          · have : lnD (L' ++ u.parts.map fun v => (v, d + 1)) = lnD L' ++ (u.parts.map fun v => .tup [enc v, d0, .int ((d + 1 : Nat) : Int)]) := by simp [lnD]
            rw [this]
            walk_at "x"
        · intro p hp
          rcases List.mem_append.mp hp with hp | hp
          · exact hL' p hp
          · obtain ⟨v, hv, rfl⟩ := List.mem_map.mp hp
            exact ⟨good_parts hu.1 v hv, by simp⟩
        · rw [sumS_app]
          have := sum_parts u (d + 1)
          omega
        · rw [mxD_app]
          have := mx_parts u d hu.2
          omega
        · have := parts_len u
          simp only [List.length_append, List.length_map]
          omega
theorem measured_ok (t : Tr) (hg : t.good = true) (k : Nat) (st : Cup) : Rn (k + 5) f_measured [enc t] st (mesD t) st := by
  obtain ⟨o, hw, hp⟩ := mes_loop t hg k st (ρ := [some (enc t), some (.lst (lnD [(t, 1)])), some (.int (0 : Nat)), some (.int (0 : Nat)), none, none, none, none, none, none])
    ⟨[(t, 1)], 0, 0, _, _, _, _, _, _, rfl, by simp [hg], by simp [sumS], by simp [mxD], by omega, by omega, by simp, rfl⟩
  unfold mesD
  rcases hp with ⟨hf, o0, o1, r, rfl⟩ | ⟨hf, rfl⟩
  · rw [if_pos hf]
    apply r_df df_measured rfl
    · walk_at "st"
    · walk_at "1"
      with_reducible apply x_cons
      · exact x_whl hw
      walk_at "x"
    · rfl
  · rw [if_neg hf]
    apply r_df df_measured rfl
    · walk_at "st"
    · walk_at "1"
      with_reducible apply x_cons
      · exact x_whl hw
      walk_at "x"
    · rfl
end N57
end
section
set_option maxRecDepth 100000
set_option maxHeartbeats 4000000
namespace N57
open PySem
local macro_rules | `(tactic| walk_at "b") => `(tactic| first | rfl | assumption)
local macro_rules | `(tactic| walk_at "cm") => `(tactic| first | assumption | (with_reducible exact ne_nil) | (with_reducible exact eq_nil) | exact ⟨(rfl : _ = some true)⟩ | exact ⟨(rfl : _ = some false)⟩ | exact ⟨rfl⟩)
local macro_rules | `(tactic| walk_at "o") => `(tactic| first | assumption | (with_reducible exact ix_last) | exact ⟨rfl⟩)
local macro_rules | `(tactic| walk_at "sl") => `(tactic| first | assumption | exact sl_init | exact sl_t1 | exact sl_t2 | exact ⟨rfl⟩)
local macro_rules | `(tactic| walk_at "c") => `(tactic| first | assumption | (with_reducible exact parts_in_ok _ _ _) | (with_reducible exact law_parts_ok _ _ _) | (with_reducible exact is_done_ok _ _ _))
local macro_rules | `(tactic| walk_at "as") => `(tactic| (repeat' (first | apply AsR.slot | apply AsR.tup | apply AsR.cons | apply AsR.nil | apply SetR.s | apply SetR.z)))
local macro_rules | `(tactic| walk_at "st") => `(tactic| (repeat' (first | apply StR.some | apply StR.none | apply StR.nil)))
local macro_rules | `(tactic| walk_at "e") => `(tactic| first
  | ((with_reducible apply e_var); rfl)
  | (with_reducible exact e_con)
  | ((with_reducible apply e_cons); walk_at "e"; walk_at "e")
  | (with_reducible exact e_nil)
  | ((with_reducible apply e_glb); rfl)
  | ((with_reducible apply e_tup); walk_at "e")
  | ((with_reducible apply e_lst); walk_at "e")
  | ((with_reducible apply e_ix); walk_at "e"; walk_at "e"; walk_at "o")
  | ((with_reducible apply e_cmp); walk_at "e"; walk_at "e"; walk_at "cm")
  | ((with_reducible apply e_op); walk_at "e"; walk_at "e"; walk_at "o")
  | ((with_reducible apply e_call); walk_at "e"; walk_at "c")
  | ((with_reducible apply e_pr); walk_at "e"; walk_at "o")
  | ((with_reducible apply e_and); walk_at "e"; first | ((with_reducible apply andK_t); walk_at "b"; walk_at "e") | ((with_reducible apply andK_f); walk_at "b"; walk_at "b") | ((with_reducible apply andK_both); walk_at "e"; walk_at "b"))
  | ((with_reducible apply e_or); walk_at "e"; first | ((with_reducible apply orK_t); walk_at "b"; walk_at "b") | ((with_reducible apply orK_f); walk_at "b"; walk_at "e") | ((with_reducible apply orK_both); walk_at "e"; walk_at "b"))
  | ((with_reducible apply e_ite); walk_at "e"; first | ((with_reducible apply ifK_t); walk_at "b"; walk_at "e") | ((with_reducible apply ifK_f); walk_at "b"; walk_at "e"))
  | ((with_reducible apply e_not); walk_at "e"; walk_at "b")
  | ((with_reducible apply e_isN); walk_at "e"; walk_at "b")
  | ((with_reducible apply e_notN); walk_at "e"; walk_at "b")
  | ((with_reducible apply e_neg); walk_at "e"; walk_at "b")
  | ((with_reducible apply e_chain); walk_at "e"; walk_at "e"; walk_at "cm"; walk_at "e"; walk_at "cm"; walk_at "b")
  | ((with_reducible apply e_sl); walk_at "e"; walk_at "e"; rfl; walk_at "e"; rfl; walk_at "sl")
  | (with_reducible exact e_dic0)
  | ((with_reducible apply e_dicS); walk_at "e")
  | ((with_reducible apply e_cg); walk_at "e")
  | assumption)
local macro_rules | `(tactic| walk_at "f") => `(tactic| first
  | exact fm_nil
  | (apply fm_cons; walk_at "as"; walk_at "x"; walk_at "f")
  | (with_reducible exact fmK_rt)
  | ((with_reducible apply fmK_nx); walk_at "f")
  | assumption)
local macro_rules | `(tactic| walk_at "x") => `(tactic| first
  | (with_reducible exact x_nil)
  | ((with_reducible apply x_cons); walk_at "x"; walk_at "x")
  | ((with_reducible apply x_asg); walk_at "e"; walk_at "as")
  | ((with_reducible apply x_iff); walk_at "e"; walk_at "x")
  | ((with_reducible apply x_ret); walk_at "e")
  | ((with_reducible apply x_exp); walk_at "e")
  | ((with_reducible apply ifX_t); walk_at "b"; walk_at "x")
  | ((with_reducible apply ifX_f); walk_at "b"; walk_at "x")
  | ((with_reducible apply x_for); walk_at "e"; walk_at "e"; walk_at "o"; walk_at "f")
  | (with_reducible exact sqX_rt)
  | ((with_reducible apply sqX_nx); walk_at "x")
  | assumption)
local macro_rules | `(tactic| walk_at "1") => `(tactic| ((with_reducible apply x_cons); walk_at "x"; (with_reducible apply sqX_nx)))
/-! paths -/
abbrev pth (p : List Nat) : D := .tup (p.map fun (i : Nat) => D.int (i : Int))
def Tr.at : Tr → List Nat → Option Tr
  | t, [] => some t
  | t, i :: p => match t.parts[i]? with
    | some u => Tr.at u p
    | none => none
theorem ix_lst {l : List D} {i : Nat} {d : D} (h : l[i]? = some d) : IxH (.lst l) (.int i) d := by
  constructor
  show L2.atI l i = some d
  have hi : i < l.length := by
    rcases Nat.lt_or_ge i l.length with h' | h'
    · exact h'
    · rw [List.getElem?_eq_none h'] at h; cases h
  unfold L2.atI L2.ixN
  rw [if_pos (by omega), if_pos (by omega)]
  simpa using h
theorem ix_tup {l : List D} {i : Nat} {d : D} (h : l[i]? = some d) : IxH (.tup l) (.int i) d := ⟨(ix_lst h).h⟩
theorem ix_part {t u : Tr} {i : Nat} (h : t.parts[i]? = some u) : IxH (lsT t.parts) (.int i) (enc u) :=
  ix_lst (by rw [List.getElem?_map, h]; rfl)
theorem sl_take {l : List D} {i : Nat} : SlH (.lst l) none (some (i : Int)) (.lst (l.take i)) := by
  constructor
  show some (D.lst (cutG l none (some (i : Int)))) = _
  unfold cutG
  rw [HT.sIx_nat]
  simp [HT.sIx, List.take_eq_take_iff]
theorem sl_dropI {l : List D} {i : Nat} : SlH (.lst l) (some ((i : Nat) : Int)) none (.lst (l.drop i)) := by
  constructor
  show some (D.lst (cutG l (some (i : Int)) none)) = _
  unfold cutG
  rw [HT.sIx_nat]
  congr 2
  show List.take (l.length - min i l.length) (l.drop (min i l.length)) = l.drop i
  by_cases hi : i ≤ l.length
  · rw [Nat.min_eq_left hi]
    exact List.take_of_length_le (by simp)
  · rw [Nat.min_eq_right (by omega), List.drop_of_length_le (by omega), List.drop_of_length_le (by omega : l.length ≤ i)]
    simp
theorem sl_drop1 {l : List D} {i : Nat} : SlH (.lst l) (some ((i : Int) + 1)) none (.lst (l.drop (i + 1))) := sl_dropI (i := i + 1)
theorem it_tup {l : List D} {y : D} : ItH .tup (.tup l) y l := ⟨rfl⟩
theorem it_lst {l : List D} {y : D} : ItH .lst (.lst l) y l := ⟨rfl⟩
theorem led_fm (k : Nat) (st : Cup) (q : D) : ∀ (p : List Nat) (t u : Tr) (o : Option D), t.at p = some u → ∃ o', FM (k + 1) (.slot 2) b_led_to_L0b (p.map fun (i : Nat) => D.int (i : Int)) [some (enc t), some q, o] st (.nx [some (enc u), some q, o']) st
  | [], t, u, o, h => by
    cases h
    exact ⟨o, fm_nil⟩
  | i :: p, t, u, o, h => by
    unfold Tr.at at h
    split at h
    · rename_i v hv
      obtain ⟨o', hf⟩ := led_fm k st q p v u (some (.int i)) h
      have hx := ix_part hv
      refine ⟨o', ?_⟩
      apply fm_cons
      · walk_at "as"
      · walk_at "x"
      · exact hf
    · cases h
theorem led_to_ok (t u : Tr) (p : List Nat) (h : t.at p = some u) (k : Nat) (st : Cup) : Rn (k + 2) f_led_to [enc t, pth p] st (enc u) st := by
  obtain ⟨o', hf⟩ := led_fm k st (pth p) p t u none h
  have hi := it_tup (l := p.map fun (i : Nat) => D.int (i : Int)) (y := .lst [])
  apply r_df df_led_to rfl
  · walk_at "st"
  · walk_at "x"
  · rfl
theorem there_fm (k : Nat) (st : Cup) (q : D) : ∀ (p : List Nat) (t u : Tr) (o : Option D), t.at p = some u → ∃ o', FM (k + 1) (.slot 2) b_law_there_L0b (p.map fun (i : Nat) => D.int (i : Int)) [some (enc t), some q, o] st (.nx [some (enc u), some q, o']) st
  | [], t, u, o, h => by
    cases h
    exact ⟨o, fm_nil⟩
  | i :: p, t, u, o, h => by
    unfold Tr.at at h
    split at h
    · rename_i v hv
      obtain ⟨o', hf⟩ := there_fm k st q p v u (some (.int i)) h
      have hx := ix_part hv
      refine ⟨o', ?_⟩
      apply fm_cons
      · walk_at "as"
      · walk_at "x"
      · exact hf
    · cases h
theorem there_ok (t u : Tr) (p : List Nat) (h : t.at p = some u) (k : Nat) (st : Cup) : Rn (k + 2) f_law_there [enc t, pth p] st (enc u) st := by
  obtain ⟨o', hf⟩ := there_fm k st (pth p) p t u none h
  have hi := it_tup (l := p.map fun (i : Nat) => D.int (i : Int)) (y := .lst [])
  apply r_df df_law_there rfl
  · walk_at "st"
  · walk_at "x"
  · rfl
/-- a tree and its parts along a path -/
def Tr.line : Tr → List Nat → List Tr
  | t, [] => [t]
  | t, i :: p => t :: match t.parts[i]? with
    | some u => Tr.line u p
    | none => []
theorem line_len : ∀ (p : List Nat) (t u : Tr), t.at p = some u → (t.line p).length = p.length + 1
  | [], t, u, h => rfl
  | i :: p, t, u, h => by
    unfold Tr.at at h
    split at h
    · rename_i v hv
      simp [Tr.line, hv, line_len p v u h]
    · cases h
theorem line_fm (k : Nat) (st : Cup) (q e : D) : ∀ (p : List Nat) (t u : Tr) (l : List D) (o : Option D), t.at p = some u → l.length + 1 + p.length ≤ sizeLine → ∃ o', FM (k + 1) (.slot 3) b_line_to_L0b (p.map fun (i : Nat) => D.int (i : Int)) [some e, some q, some (.lst (l ++ [enc t])), o] st (.nx [some e, some q, some (.lst (l ++ (t.line p).map enc)), o']) st
  | [], t, u, l, o, h, hz => by
    exact ⟨o, fm_nil⟩
  | i :: p, t, u, l, o, h, hz => by
    unfold Tr.at at h
    split at h
    · rename_i v hv
      rw [List.length_cons] at hz
      obtain ⟨o', hf⟩ := line_fm k st q e p v u (l ++ [enc t]) (some (.int i)) h (by simp; omega)
      have hx := ix_part hv
      have hl := ix_last (x := enc t) (l := l)
      have ho := op_lst (l := l ++ [enc t]) (m := [enc v]) (by simp; omega)
      have e1 : l ++ (t.line (i :: p)).map enc = l ++ [enc t] ++ (v.line p).map enc := by simp [Tr.line, hv]
      rw [e1]
      refine ⟨o', ?_⟩
      apply fm_cons
      · walk_at "as"
      · walk_at "x"
      · exact hf
    · cases h
theorem line_to_ok (t u : Tr) (p : List Nat) (h : t.at p = some u) (hz : p.length < sizeLine) (k : Nat) (st : Cup) : Rn (k + 2) f_line_to [enc t, pth p] st (lsT (t.line p)) st := by
  obtain ⟨o', hf⟩ := line_fm k st (pth p) (enc t) p t u [] none h (by simp; omega)
  rw [List.nil_append] at hf
  have hi := it_tup (l := p.map fun (i : Nat) => D.int (i : Int)) (y := .lst [])
  apply r_df df_line_to rfl
  · walk_at "st"
  · walk_at "1"
    with_reducible apply x_cons
    · with_reducible apply x_for
      · walk_at "e"
      · walk_at "e"
      · exact hi
      · exact hf
    · walk_at "x"
  · rfl
/-! a part put in the place of another -/
def Tr.putAt : Tr → List Nat → Tr → Tr
  | _, [], o => o
  | t, i :: p, o => match t.parts[i]? with
    | some u => t.wth (t.parts.set i (Tr.putAt u p o))
    | none => t
theorem set_eq {α : Type} {l : List α} {i : Nat} {x : α} (h : i < l.length) : l.take i ++ [x] ++ l.drop (i + 1) = l.set i x := by
  rw [List.set_eq_take_append_cons_drop, if_pos h]
  simp
theorem getSome_lt {α : Type} {l : List α} {i : Nat} {x : α} (h : l[i]? = some x) : i < l.length := by
  rcases Nat.lt_or_ge i l.length with h' | h'
  · exact h'
  · rw [List.getElem?_eq_none h'] at h; cases h
def dn : Nat → List D
  | 0 => []
  | n + 1 => .int (n : Int) :: dn n
theorem dn_eq (n : Nat) : ((List.range ((n : Int) - 1 + 1).toNat).map fun (i : Nat) => D.int (((n : Int) - 1) - i)) = dn n := by
  rw [show ((n : Int) - 1 + 1).toNat = n by omega]
  induction n with
  | zero => rfl
  | succ n ih =>
    rw [List.range_succ_eq_map, List.map_cons, List.map_map]
    show D.int _ :: _ = D.int _ :: dn n
    rw [← ih]
    congr 1
    · congr 1; omega
    · apply List.map_congr_left
      intro i _
      simp only [Function.comp]
      congr 1
      omega
theorem it_dn {n : Nat} {y : D} (h : n < 1000000000) : ItH .rngD (.int ((n : Int) - 1)) y (dn n) := by
  constructor
  show (if decide (-1 ≤ (n : Int) - 1) && decide ((n : Int) - 1 < 2 ^ 30) then _ else _) = _
  rw [decide_eq_true (by omega : -1 ≤ (n : Int) - 1), decide_eq_true (by omega : (n : Int) - 1 < 2 ^ 30)]
  exact congrArg some (dn_eq n)
theorem at_app : ∀ (p q : List Nat) (t u : Tr), t.at p = some u → t.at (p ++ q) = u.at q
  | [], q, t, u, h => by cases h; rfl
  | i :: p, q, t, u, h => by
    unfold Tr.at at h
    rw [List.cons_append]
    split at h
    · rename_i v hv
      simp only [Tr.at, hv]
      exact at_app p q v u h
    · cases h
theorem line_get : ∀ (p : List Nat) (t u : Tr), t.at p = some u → ∀ j, j ≤ p.length → (t.line p)[j]? = t.at (p.take j)
  | [], t, u, h, j, hj => by
    have : j = 0 := by simpa using hj
    subst this
    rfl
  | i :: p, t, u, h, 0, hj => by
    simp [Tr.line, Tr.at]
  | i :: p, t, u, h, j + 1, hj => by
    unfold Tr.at at h
    split at h
    · rename_i v hv
      have := line_get p v u h j (by simpa using hj)
      simp [Tr.line, Tr.at, hv, this]
    · cases h
theorem putAt_app : ∀ (p q : List Nat) (t u o : Tr), t.at p = some u → t.putAt (p ++ q) o = t.putAt p (u.putAt q o)
  | [], q, t, u, o, h => by cases h; rfl
  | i :: p, q, t, u, o, h => by
    unfold Tr.at at h
    rw [List.cons_append]
    split at h
    · rename_i v hv
      simp only [Tr.putAt, hv]
      rw [putAt_app p q v u o h]
    · cases h
theorem putAt_step {u v o : Tr} {i : Nat} (h : u.parts[i]? = some v) : u.putAt [i] o = u.wth (u.parts.set i o) := by
  simp [Tr.putAt, h]
theorem rebuilt_fm (k : Nat) (st : Cup) (e e2 : D) (t w : Tr) (p : List Nat) (hw : t.at p = some w) : ∀ (n : Nat) (u f : Tr) (o5 o6 : Option D), n ≤ p.length → t.at (p.take n) = some u →
    ∃ o5' o6', FM (k + 1) (.slot 5) b_rebuilt_L0b (dn n) [some e, some (pth p), some e2, some (lsT (t.line p)), some (enc f), o5, o6] st (.nx [some e, some (pth p), some e2, some (lsT (t.line p)), some (enc (t.putAt (p.take n) f)), o5', o6']) st
  | 0, u, f, o5, o6, hn, hu => ⟨o5, o6, by rw [List.take_zero]; exact fm_nil⟩
  | n + 1, u, f, o5, o6, hn, hu => by
    obtain ⟨i, hi⟩ : ∃ i, p[n]? = some i := ⟨p[n], List.getElem?_eq_getElem (by omega)⟩
    have e1 : p.take (n + 1) = p.take n ++ [i] := by
      rw [List.take_add_one, hi]; rfl
    obtain ⟨v, hv⟩ : ∃ v, t.at (p.take n) = some v := by
      have := line_get p t w hw n (by omega)
      rw [← this]
      exact ⟨(t.line p)[n]'(by rw [line_len p t w hw]; omega), List.getElem?_eq_getElem (by rw [line_len p t w hw]; omega)⟩
    have hvu : v.parts[i]? = some u := by
      rw [e1, at_app _ _ _ _ hv] at hu
      simp only [Tr.at] at hu
      split at hu
      · rename_i z hz; rw [hz, hu]
      · cases hu
    obtain ⟨o5', o6', hf⟩ := rebuilt_fm k st e e2 t w p hw n v (v.wth (v.parts.set i f)) (some (.int n)) (some (lsT v.parts)) (by omega) hv
    have e2' : t.putAt (p.take (n + 1)) f = t.putAt (p.take n) (v.wth (v.parts.set i f)) := by
      rw [e1, putAt_app _ _ _ _ _ hv, putAt_step hvu]
    rw [e2']
    have g1 : IxH (lsT (t.line p)) (.int n) (enc v) := ix_lst (by rw [List.getElem?_map, line_get p t w hw n (by omega), hv]; rfl)
    have g2 : IxH (pth p) (.int n) (.int i) := ix_tup (by rw [List.getElem?_map, hi]; rfl)
    have hlt := getSome_lt hvu
    have hp3 := parts_len v
    have g3 : SlH (lsT v.parts) none (some (i : Int)) (.lst ((v.parts.map enc).take i)) := sl_take
    have g4 : SlH (lsT v.parts) (some ((i : Int) + 1)) none (.lst ((v.parts.map enc).drop (i + 1))) := sl_drop1
    have g5 : OpH .add (.lst ((v.parts.map enc).take i)) (.lst [enc f]) (.lst ((v.parts.map enc).take i ++ [enc f])) := op_lst (by unfold sizeLine; simp; omega)
    have g6 : OpH .add (.lst ((v.parts.map enc).take i ++ [enc f])) (.lst ((v.parts.map enc).drop (i + 1))) (lsT (v.parts.set i f)) := by
      have := op_lst (l := (v.parts.map enc).take i ++ [enc f]) (m := (v.parts.map enc).drop (i + 1)) (by unfold sizeLine; simp; omega)
      rw [set_eq (by simpa using hlt)] at this
      rw [show lsT (v.parts.set i f) = .lst ((v.parts.map enc).set i (enc f)) by unfold lsT; rw [List.map_set]]
      exact this
    have g7 := wth_ok v (v.parts.set i f) (by simp) k st
    refine ⟨o5', o6', ?_⟩
    show FM _ _ _ (.int (n : Int) :: dn n) _ _ _ _
    apply fm_cons
    · walk_at "as"
    · walk_at "x"
    · exact hf
theorem len_pth {p : List Nat} : PrH .len [pth p] (.int p.length) := ⟨by
  show some (D.int ((p.map fun (i : Nat) => D.int (i : Int)).length : Nat)) = _
  rw [List.length_map]⟩
theorem rebuilt_ok (t u o : Tr) (p : List Nat) (h : t.at p = some u) (hz : p.length < 1000000) (k : Nat) (st : Cup) : Rn (k + 3) f_rebuilt [enc t, pth p, enc o] st (enc (t.putAt p o)) st := by
  have h1 := line_to_ok t u p h (by unfold sizeLine; omega) k st
  obtain ⟨o5', o6', hf⟩ := rebuilt_fm (k + 1) st (enc t) (enc o) t u p h p.length u o none none (Nat.le_refl _) (by rw [List.take_length]; exact h)
  rw [List.take_length] at hf
  have hi := it_dn (n := p.length) (y := .lst []) (by omega)
  have hl := len_pth (p := p)
  apply r_df df_rebuilt rfl
  · walk_at "st"
  · walk_at "1"
    with_reducible apply x_cons
    · with_reducible apply x_for
      · walk_at "e"
      · walk_at "e"
      · exact hi
      · exact hf
    · walk_at "x"
  · rfl
end N57
end
section
set_option maxRecDepth 100000
set_option maxHeartbeats 4000000
namespace N57
open PySem
local macro_rules | `(tactic| walk_at "b") => `(tactic| first | rfl | assumption)
local macro_rules | `(tactic| walk_at "cm") => `(tactic| first | assumption | (with_reducible exact ne_nil) | (with_reducible exact eq_nil) | exact ⟨(rfl : _ = some true)⟩ | exact ⟨(rfl : _ = some false)⟩ | exact ⟨rfl⟩)
local macro_rules | `(tactic| walk_at "o") => `(tactic| first | assumption | (with_reducible exact ix_last) | exact ⟨rfl⟩)
local macro_rules | `(tactic| walk_at "sl") => `(tactic| first | assumption | exact sl_init | exact sl_t1 | exact sl_t2 | exact ⟨rfl⟩)
local macro_rules | `(tactic| walk_at "c") => `(tactic| first | assumption | (with_reducible exact parts_in_ok _ _ _) | (with_reducible exact law_parts_ok _ _ _) | (with_reducible exact is_done_ok _ _ _))
local macro_rules | `(tactic| walk_at "as") => `(tactic| (repeat' (first | apply AsR.slot | apply AsR.tup | apply AsR.cons | apply AsR.nil | apply SetR.s | apply SetR.z)))
local macro_rules | `(tactic| walk_at "st") => `(tactic| (repeat' (first | apply StR.some | apply StR.none | apply StR.nil)))
local macro_rules | `(tactic| walk_at "e") => `(tactic| first
  | ((with_reducible apply e_var); rfl)
  | (with_reducible exact e_con)
  | ((with_reducible apply e_cons); walk_at "e"; walk_at "e")
  | (with_reducible exact e_nil)
  | ((with_reducible apply e_glb); rfl)
  | ((with_reducible apply e_tup); walk_at "e")
  | ((with_reducible apply e_lst); walk_at "e")
  | ((with_reducible apply e_ix); walk_at "e"; walk_at "e"; walk_at "o")
  | ((with_reducible apply e_cmp); walk_at "e"; walk_at "e"; walk_at "cm")
  | ((with_reducible apply e_op); walk_at "e"; walk_at "e"; walk_at "o")
  | ((with_reducible apply e_call); walk_at "e"; walk_at "c")
  | ((with_reducible apply e_pr); walk_at "e"; walk_at "o")
  | ((with_reducible apply e_and); walk_at "e"; first | ((with_reducible apply andK_t); walk_at "b"; walk_at "e") | ((with_reducible apply andK_f); walk_at "b"; walk_at "b") | ((with_reducible apply andK_both); walk_at "e"; walk_at "b"))
  | ((with_reducible apply e_or); walk_at "e"; first | ((with_reducible apply orK_t); walk_at "b"; walk_at "b") | ((with_reducible apply orK_f); walk_at "b"; walk_at "e") | ((with_reducible apply orK_both); walk_at "e"; walk_at "b"))
  | ((with_reducible apply e_ite); walk_at "e"; first | ((with_reducible apply ifK_t); walk_at "b"; walk_at "e") | ((with_reducible apply ifK_f); walk_at "b"; walk_at "e"))
  | ((with_reducible apply e_not); walk_at "e"; walk_at "b")
  | ((with_reducible apply e_isN); walk_at "e"; walk_at "b")
  | ((with_reducible apply e_notN); walk_at "e"; walk_at "b")
  | ((with_reducible apply e_neg); walk_at "e"; walk_at "b")
  | ((with_reducible apply e_chain); walk_at "e"; walk_at "e"; walk_at "cm"; walk_at "e"; walk_at "cm"; walk_at "b")
  | ((with_reducible apply e_sl); walk_at "e"; walk_at "e"; rfl; walk_at "e"; rfl; walk_at "sl")
  | (with_reducible exact e_dic0)
  | ((with_reducible apply e_dicS); walk_at "e")
  | ((with_reducible apply e_cg); walk_at "e")
  | assumption)
local macro_rules | `(tactic| walk_at "f") => `(tactic| first
  | exact fm_nil
  | (apply fm_cons; walk_at "as"; walk_at "x"; walk_at "f")
  | (with_reducible exact fmK_rt)
  | ((with_reducible apply fmK_nx); walk_at "f")
  | assumption)
local macro_rules | `(tactic| walk_at "x") => `(tactic| first
  | (with_reducible exact x_nil)
  | ((with_reducible apply x_cons); walk_at "x"; walk_at "x")
  | ((with_reducible apply x_asg); walk_at "e"; walk_at "as")
  | ((with_reducible apply x_iff); walk_at "e"; walk_at "x")
  | ((with_reducible apply x_ret); walk_at "e")
  | ((with_reducible apply x_exp); walk_at "e")
  | ((with_reducible apply ifX_t); walk_at "b"; walk_at "x")
  | ((with_reducible apply ifX_f); walk_at "b"; walk_at "x")
  | ((with_reducible apply x_for); walk_at "e"; walk_at "e"; walk_at "o"; walk_at "f")
  | (with_reducible exact sqX_rt)
  | ((with_reducible apply sqX_nx); walk_at "x")
  | assumption)
local macro_rules | `(tactic| walk_at "1") => `(tactic| ((with_reducible apply x_cons); walk_at "x"; (with_reducible apply sqX_nx)))
section
variable {k : Nat} {ρ ρ1 ρ2 : Ev} {st s1 s2 s3 s4 s5 : Cup}
theorem x_mkL {n f : Nat} {e ib jb rest : Tm} {o0 : Option D} {y r sub : D} {l rl l' : List D} {i j : Int} (h0 : ρ[n]? = some o0) (he : EV k e ρ st y s1) (hl : PrH .list [y] (.lst l)) (hs : SetR ρ n none ρ1) (hj : EV k jb ρ1 s1 (.int j) s2) (hx : L2.atI l j = some sub)
    (hr : EV k rest ρ1 s2 (.lst rl) s3) (hc : Rn k f (sub :: rl) s3 r s4) (hi : EV k ib ρ1 s4 (.int i) s5) (hset : setI l i r = some l') (hs2 : SetR ρ n (some (.lst l')) ρ2) : XS k (.mkL n e ib f jb rest) ρ st (.nx ρ2) s5 := by
  constructor
  show M.bnd _ _ _ = _
  rw [bnd_eq (of_eq h0), bnd_eq he.h]
  have e1 : (prD (En k).tbl .list [y]).bind unL = some l := by
    show (prD tbls .list [y]).bind unL = some l
    rw [hl.h]; rfl
  rw [bnd_eq (of_eq e1), hs.eq, bnd_eq hj.h]
  have e2 : (intOf (.int j)).bind (L2.atI l) = some sub := hx
  rw [bnd_eq (of_eq e2), bnd_eq hr.h]
  have e3 : unL (.lst rl) = some rl := rfl
  rw [bnd_eq (of_eq e3)]
  have e4 : (En k).cl f (sub :: rl) s3 = some (r, s4) := hc.h
  rw [bnd_eq e4, bnd_eq hi.h]
  have e5 : ((intOf (.int i)).bind fun k => setI l k r) = some l' := hset
  rw [bnd_eq (of_eq e5), hs2.eq]
  rfl
end
theorem setI_ok {α : Type} {l : List α} {i : Nat} {x : α} (h : i < l.length) : setI l (i : Int) x = some (l.set i x) := by
  unfold setI L2.ixN
  rw [if_pos (by omega), if_pos (by omega)]
  simp
theorem law_rebuilt_ok (o u : Tr) : ∀ (p : List Nat) (t : Tr), t.at p = some u → ∀ (k : Nat) (st : Cup), p.length + 2 ≤ k → Rn k f_law_rebuilt [enc t, pth p, enc o] st (enc (t.putAt p o)) st
  | [], t, h, k, st, hk => by
    obtain ⟨k, rfl⟩ : ∃ k', k = k' + 1 := ⟨k - 1, by omega⟩
    apply r_df df_law_rebuilt rfl
    · walk_at "st"
    · walk_at "x"
    · rfl
  | i :: p, t, h, k, st, hk => by
    obtain ⟨k, rfl⟩ : ∃ k', k = k' + 2 := ⟨k - 2, by omega⟩
    rw [List.length_cons] at hk
    unfold Tr.at at h
    split at h
    · rename_i v hv
      have hr := law_rebuilt_ok o u p v h (k + 1) st (by omega)
      have h1 := law_wth_ok t (t.parts.set i (v.putAt p o)) (by simp) k st
      have hlt := getSome_lt hv
      have g1 : L2.atI (t.parts.map enc) (i : Int) = some (enc v) := (ix_part hv).h
      have g2 : setI (t.parts.map enc) (i : Int) (enc (v.putAt p o)) = some ((t.parts.set i (v.putAt p o)).map enc) := by
        rw [setI_ok (by simpa using hlt), List.map_set]
      have g3 : SlH (pth (i :: p)) (some 1) none (pth p) := sl_t1
      have g5 : IxH (pth (i :: p)) (.int 0) (.int i) := ix_tup (i := 0) rfl
      have g4 : PrH .list [lsT t.parts] (.lst (t.parts.map enc)) := ⟨rfl⟩
      have e : t.putAt (i :: p) o = t.wth (t.parts.set i (v.putAt p o)) := by simp [Tr.putAt, hv]
      rw [e]
      apply r_df df_law_rebuilt rfl
      · walk_at "st"
      · walk_at "1"
        with_reducible apply x_cons
        · apply x_mkL
          · rfl
          · walk_at "e"
          · exact g4
          · walk_at "as"
          · walk_at "e"
          · exact g1
          · walk_at "e"
          · exact hr
          · walk_at "e"
          · exact g2
          · walk_at "as"
        · walk_at "x"
      · rfl
    · cases h
/-! whose turn it is -/
def Tr.done : Tr → Bool
  | .amt _ => true | .giv .. => true | _ => false
theorem done_ok (t : Tr) (k : Nat) (st : Cup) : Rn (k + 1) f_is_done [enc t] st (.bl t.done) st := by
  cases t <;> exact ⟨rfl⟩
/-- the first part that is worked on -/
def Tr.fu : Tr → Option Nat
  | .app a b => if a.done then (if b.done then none else some 1) else some 0
  | .rek _ a b => if a.done then (if b.done then none else some 1) else some 0
  | .hol _ a _ => if a.done then none else some 0
  | .tst a _ _ => if a.done then none else some 0
  | _ => none
def fuD : Option Nat → D
  | none => .non
  | some i => .int (i : Int)
theorem first_undone_ok (t : Tr) (k : Nat) (st : Cup) : Rn (k + 2) f_first_undone [enc t] st (fuD t.fu) st := by
  cases t with
  | amt i => exact ⟨rfl⟩
  | use w => exact ⟨rfl⟩
  | giv w b => exact ⟨rfl⟩
  | app a b =>
    have h1 := done_ok a k st
    have h2 := done_ok b k st
    have hp := parts_in_ok (.app a b) k st
    cases e1 : a.done <;> cases e2 : b.done <;> rw [e1] at h1 <;> rw [e2] at h2 <;> simp only [Tr.fu, e1, e2] <;>
    · apply r_df df_first_undone rfl
      · walk_at "st"
      · walk_at "x"
      · rfl
  | rek o a b =>
    have h1 := done_ok a k st
    have h2 := done_ok b k st
    have hp := parts_in_ok (.rek o a b) k st
    cases e1 : a.done <;> cases e2 : b.done <;> rw [e1] at h1 <;> rw [e2] at h2 <;> simp only [Tr.fu, e1, e2] <;>
    · apply r_df df_first_undone rfl
      · walk_at "st"
      · walk_at "x"
      · rfl
  | hol w a b =>
    have h1 := done_ok a k st
    have hp := parts_in_ok (.hol w a b) k st
    cases e1 : a.done <;> rw [e1] at h1 <;> simp only [Tr.fu, e1] <;>
    · apply r_df df_first_undone rfl
      · walk_at "st"
      · walk_at "x"
      · rfl
  | tst a b c =>
    have h1 := done_ok a k st
    have hp := parts_in_ok (.tst a b c) k st
    cases e1 : a.done <;> rw [e1] at h1 <;> simp only [Tr.fu, e1] <;>
    · apply r_df df_first_undone rfl
      · walk_at "st"
      · walk_at "x"
      · rfl
def Tr.turn : Tr → List Nat
  | .app a b => if a.done then (if b.done then [] else 1 :: b.turn) else 0 :: a.turn
  | .rek _ a b => if a.done then (if b.done then [] else 1 :: b.turn) else 0 :: a.turn
  | .hol _ a _ => if a.done then [] else 0 :: a.turn
  | .tst a _ _ => if a.done then [] else 0 :: a.turn
  | _ => []
def Tr.here : Tr → Tr
  | .app a b => if a.done then (if b.done then .app a b else b.here) else a.here
  | .rek o a b => if a.done then (if b.done then .rek o a b else b.here) else a.here
  | .hol w a b => if a.done then .hol w a b else a.here
  | .tst a b c => if a.done then .tst a b c else a.here
  | t => t
theorem turn_none {t : Tr} (h : t.fu = none) : t.turn = [] ∧ t.here = t := by
  cases t <;> simp only [Tr.fu, Tr.turn, Tr.here] at * <;> (repeat' split at h) <;> simp_all
theorem turn_some {t : Tr} {i : Nat} (h : t.fu = some i) : ∃ v, t.parts[i]? = some v ∧ t.turn = i :: v.turn ∧ t.here = v.here ∧ v.size < t.size := by
  cases t with
  | app a b =>
    simp only [Tr.fu] at h
    split at h
    · rename_i h1
      split at h
      · cases h
      · rename_i h2
        cases h
        exact ⟨b, rfl, by simp [Tr.turn, h1, h2], by simp [Tr.here, h1, h2], by simp only [Tr.size]; omega⟩
    · rename_i h1
      cases h
      exact ⟨a, rfl, by simp [Tr.turn, h1], by simp [Tr.here, h1], by simp only [Tr.size]; omega⟩
  | rek o a b =>
    simp only [Tr.fu] at h
    split at h
    · rename_i h1
      split at h
      · cases h
      · rename_i h2
        cases h
        exact ⟨b, rfl, by simp [Tr.turn, h1, h2], by simp [Tr.here, h1, h2], by simp only [Tr.size]; omega⟩
    · rename_i h1
      cases h
      exact ⟨a, rfl, by simp [Tr.turn, h1], by simp [Tr.here, h1], by simp only [Tr.size]; omega⟩
  | hol w a b =>
    simp only [Tr.fu] at h
    split at h
    · cases h
    · rename_i h1
      cases h
      exact ⟨a, rfl, by simp [Tr.turn, h1], by simp [Tr.here, h1], by simp only [Tr.size]; omega⟩
  | tst a b c =>
    simp only [Tr.fu] at h
    split at h
    · cases h
    · rename_i h1
      cases h
      exact ⟨a, rfl, by simp [Tr.turn, h1], by simp [Tr.here, h1], by simp only [Tr.size]; omega⟩
  | _ => cases h
theorem turn_at (t : Tr) : t.at t.turn = some t.here ∧ t.here.fu = none := by
  generalize hn : t.size = n
  induction n using Nat.strongRecOn generalizing t with
  | _ n ih =>
    cases h : t.fu with
    | none =>
      obtain ⟨h1, h2⟩ := turn_none h
      rw [h1, h2]
      exact ⟨rfl, h⟩
    | some i =>
      obtain ⟨v, h1, h2, h3, h4⟩ := turn_some h
      obtain ⟨z1, z2⟩ := ih v.size (by omega) v rfl
      rw [h2, h3]
      refine ⟨?_, z2⟩
      simp only [Tr.at, h1]
      exact z1
def TurnInv (t : Tr) (m : Nat) (ρ : Ev) : Prop := ∃ p : List Nat, ∃ u : Tr, ρ = [some (enc t), some (pth p), some (enc u), some (fuD u.fu)] ∧ p ++ u.turn = t.turn ∧ u.here = t.here ∧ m = u.size ∧ p.length + u.size ≤ t.size
def TurnPost (t : Tr) (o : Out) : Prop := o = .nx [some (enc t), some (pth t.turn), some (enc t.here), some .non]
theorem turn_loop (t : Tr) (hz : t.size ≤ 100000) (k : Nat) (st : Cup) {ρ : Ev} (hi : TurnInv t t.size ρ) : ∃ o, WM (k + 2) b_turn_of_L0c b_turn_of_L0b turns ρ st o st ∧ TurnPost t o := by
  refine wm_post (TurnInv t) (TurnPost t) ?_ turns t.size ρ (by unfold turns; omega) hi
  rintro m ρ ⟨p, u, rfl, hp, hh, rfl, hl⟩
  cases h : u.fu with
  | none =>
    left
    obtain ⟨h1, h2⟩ := turn_none h
    refine ⟨by walk_at "e", ?_⟩
    unfold TurnPost
    rw [h1, List.append_nil] at hp
    rw [h2] at hh
    rw [hp, hh]
    rfl
  | some i =>
    right
    obtain ⟨v, h1, h2, h3, h4⟩ := turn_some h
    refine ⟨by walk_at "e", .inr ⟨[some (enc t), some (pth (p ++ [i])), some (enc v), some (fuD v.fu)], v.size, ?_, h4, p ++ [i], v, rfl, by rw [← hp, h2]; simp, by rw [← hh, h3], rfl, by simp; omega⟩⟩
    have hx := ix_part h1
    have h5 := first_undone_ok v k st
    have g1 : OpH .add (pth p) (.tup [.int (i : Int)]) (pth (p ++ [i])) := by
      have := op_tup (l := p.map fun (i : Nat) => D.int (i : Int)) (m := [.int (i : Int)]) (by unfold sizeLine; simp; omega)
      rw [show pth (p ++ [i]) = .tup ((p.map fun (i : Nat) => D.int (i : Int)) ++ [.int (i : Int)]) by simp [pth]]
      exact this
    walk_at "x"
theorem turn_of_ok (t : Tr) (hz : t.size ≤ 100000) (k : Nat) (st : Cup) : Rn (k + 3) f_turn_of [enc t] st (.tup [pth t.turn, enc t.here]) st := by
  obtain ⟨o, hw, rfl⟩ := turn_loop t hz k st (ρ := [some (enc t), some (pth []), some (enc t), some (fuD t.fu)]) ⟨[], t, rfl, by simp, rfl, rfl, by simp⟩
  have h1 := first_undone_ok t k st
  apply r_df df_turn_of rfl
  · walk_at "st"
  · walk_at "1"
    walk_at "1"
    with_reducible apply x_cons
    · exact x_whl hw
    walk_at "x"
  · rfl
theorem pth_cons {i : Nat} {p : List Nat} (h : p.length + 1 ≤ 1000000) : OpH .add (.tup [.int (i : Int)]) (pth p) (pth (i :: p)) := op_tup (by unfold sizeLine; simp; omega)
theorem turn_len (t : Tr) : t.turn.length + 1 ≤ t.depth := by
  induction t with
  | app a b iha ihb => simp only [Tr.turn, Tr.depth]; (repeat' split) <;> simp only [List.length_cons, List.length_nil] <;> omega
  | rek o a b iha ihb => simp only [Tr.turn, Tr.depth]; (repeat' split) <;> simp only [List.length_cons, List.length_nil] <;> omega
  | hol w a b iha ihb => simp only [Tr.turn, Tr.depth]; (repeat' split) <;> simp only [List.length_cons, List.length_nil] <;> omega
  | tst a b c iha ihb ihc => simp only [Tr.turn, Tr.depth]; (repeat' split) <;> simp only [List.length_cons, List.length_nil] <;> omega
  | _ => simp [Tr.turn, Tr.depth]
theorem head_done (a : Tr) : ∃ h r, enc a = .tup (.str h :: r) ∧ CmH .ninQ (.str h) (.tup [.str sAmount, .str sGiven]) (!a.done) := by
  cases a <;> exact ⟨_, _, rfl, ⟨rfl⟩⟩
theorem head_ix (a : Tr) : ∃ h, IxH (enc a) (.int 0) (.str h) ∧ CmH .ninQ (.str h) (.tup [.str sAmount, .str sGiven]) (!a.done) := by
  obtain ⟨h, r, e, c⟩ := head_done a
  rw [e]
  exact ⟨h, ix_tup (i := 0) rfl, c⟩
theorem law_turn_ok : ∀ (t : Tr) (k : Nat) (st : Cup), t.depth + 1 ≤ k → t.depth ≤ 1000 → Rn k f_law_turn [enc t] st (pth t.turn) st
  | .amt i, k, st, hk, hd => by
    obtain ⟨k, rfl⟩ : ∃ k', k = k' + 2 := ⟨k - 2, by simp only [Tr.depth] at hk; omega⟩
    exact ⟨rfl⟩
  | .use w, k, st, hk, hd => by
    obtain ⟨k, rfl⟩ : ∃ k', k = k' + 2 := ⟨k - 2, by simp only [Tr.depth] at hk; omega⟩
    exact ⟨rfl⟩
  | .giv w b, k, st, hk, hd => by
    obtain ⟨k, rfl⟩ : ∃ k', k = k' + 2 := ⟨k - 2, by simp only [Tr.depth] at hk; omega⟩
    exact ⟨rfl⟩
  | .app a b, k, st, hk, hd => by
    simp only [Tr.depth] at hk hd
    obtain ⟨k, rfl⟩ : ∃ k', k = k' + 2 := ⟨k - 2, by omega⟩
    have ra := law_turn_ok a (k + 1) st (by omega) (by omega)
    have rb := law_turn_ok b (k + 1) st (by omega) (by omega)
    have hp := law_parts_ok (.app a b) k st
    obtain ⟨ha, i1, c1⟩ := head_ix a
    obtain ⟨hb, i2, c2⟩ := head_ix b
    have la := turn_len a
    have lb := turn_len b
    have pa : OpH .add (.tup [.int 0]) (pth a.turn) (pth (0 :: a.turn)) := pth_cons (i := 0) (by omega)
    have pb : OpH .add (.tup [.int (0 + 1)]) (pth b.turn) (pth (1 :: b.turn)) := pth_cons (i := 1) (by omega)
    cases e1 : a.done <;> cases e2 : b.done <;> rw [e1] at c1 <;> rw [e2] at c2 <;> simp only [Tr.turn, e1, e2] <;>
    · apply r_df df_law_turn rfl
      · walk_at "st"
      · walk_at "x"
      · rfl
  | .rek o a b, k, st, hk, hd => by
    simp only [Tr.depth] at hk hd
    obtain ⟨k, rfl⟩ : ∃ k', k = k' + 2 := ⟨k - 2, by omega⟩
    have ra := law_turn_ok a (k + 1) st (by omega) (by omega)
    have rb := law_turn_ok b (k + 1) st (by omega) (by omega)
    have hp := law_parts_ok (.rek o a b) k st
    obtain ⟨ha, i1, c1⟩ := head_ix a
    obtain ⟨hb, i2, c2⟩ := head_ix b
    have la := turn_len a
    have lb := turn_len b
    have pa : OpH .add (.tup [.int 0]) (pth a.turn) (pth (0 :: a.turn)) := pth_cons (i := 0) (by omega)
    have pb : OpH .add (.tup [.int (0 + 1)]) (pth b.turn) (pth (1 :: b.turn)) := pth_cons (i := 1) (by omega)
    cases e1 : a.done <;> cases e2 : b.done <;> rw [e1] at c1 <;> rw [e2] at c2 <;> simp only [Tr.turn, e1, e2] <;>
    · apply r_df df_law_turn rfl
      · walk_at "st"
      · walk_at "x"
      · rfl
  | .hol w a b, k, st, hk, hd => by
    simp only [Tr.depth] at hk hd
    obtain ⟨k, rfl⟩ : ∃ k', k = k' + 2 := ⟨k - 2, by omega⟩
    have ra := law_turn_ok a (k + 1) st (by omega) (by omega)
    have hp := law_parts_ok (.hol w a b) k st
    obtain ⟨ha, i1, c1⟩ := head_ix a
    have la := turn_len a
    have pa : OpH .add (.tup [.int 0]) (pth a.turn) (pth (0 :: a.turn)) := pth_cons (i := 0) (by omega)
    cases e1 : a.done <;> rw [e1] at c1 <;> simp only [Tr.turn, e1] <;>
    · apply r_df df_law_turn rfl
      · walk_at "st"
      · walk_at "x"
      · rfl
  | .tst a b c, k, st, hk, hd => by
    simp only [Tr.depth] at hk hd
    obtain ⟨k, rfl⟩ : ∃ k', k = k' + 2 := ⟨k - 2, by omega⟩
    have ra := law_turn_ok a (k + 1) st (by omega) (by omega)
    have hp := law_parts_ok (.tst a b c) k st
    obtain ⟨ha, i1, c1⟩ := head_ix a
    have la := turn_len a
    have pa : OpH .add (.tup [.int 0]) (pth a.turn) (pth (0 :: a.turn)) := pth_cons (i := 0) (by omega)
    cases e1 : a.done <;> rw [e1] at c1 <;> simp only [Tr.turn, e1] <;>
    · apply r_df df_law_turn rfl
      · walk_at "st"
      · walk_at "x"
      · rfl
end N57
end
section
set_option maxRecDepth 100000
set_option maxHeartbeats 4000000
namespace N57
open PySem
local macro_rules | `(tactic| walk_at "b") => `(tactic| first | rfl | assumption)
local macro_rules | `(tactic| walk_at "cm") => `(tactic| first | assumption | (with_reducible exact ne_nil) | (with_reducible exact eq_nil) | exact ⟨(rfl : _ = some true)⟩ | exact ⟨(rfl : _ = some false)⟩ | exact ⟨rfl⟩)
local macro_rules | `(tactic| walk_at "o") => `(tactic| first | assumption | (with_reducible exact ix_last) | exact ⟨rfl⟩)
local macro_rules | `(tactic| walk_at "sl") => `(tactic| first | assumption | exact sl_init | exact sl_t1 | exact sl_t2 | exact ⟨rfl⟩)
local macro_rules | `(tactic| walk_at "c") => `(tactic| first | assumption | (with_reducible exact parts_in_ok _ _ _) | (with_reducible exact law_parts_ok _ _ _) | (with_reducible exact is_done_ok _ _ _))
local macro_rules | `(tactic| walk_at "as") => `(tactic| (repeat' (first | apply AsR.slot | apply AsR.tup | apply AsR.cons | apply AsR.nil | apply SetR.s | apply SetR.z)))
local macro_rules | `(tactic| walk_at "st") => `(tactic| (repeat' (first | apply StR.some | apply StR.none | apply StR.nil)))
local macro_rules | `(tactic| walk_at "e") => `(tactic| first
  | ((with_reducible apply e_var); rfl)
  | (with_reducible exact e_con)
  | ((with_reducible apply e_cons); walk_at "e"; walk_at "e")
  | (with_reducible exact e_nil)
  | ((with_reducible apply e_glb); rfl)
  | ((with_reducible apply e_tup); walk_at "e")
  | ((with_reducible apply e_lst); walk_at "e")
  | ((with_reducible apply e_ix); walk_at "e"; walk_at "e"; walk_at "o")
  | ((with_reducible apply e_cmp); walk_at "e"; walk_at "e"; walk_at "cm")
  | ((with_reducible apply e_op); walk_at "e"; walk_at "e"; walk_at "o")
  | ((with_reducible apply e_call); walk_at "e"; walk_at "c")
  | ((with_reducible apply e_pr); walk_at "e"; walk_at "o")
  | ((with_reducible apply e_and); walk_at "e"; first | ((with_reducible apply andK_t); walk_at "b"; walk_at "e") | ((with_reducible apply andK_f); walk_at "b"; walk_at "b") | ((with_reducible apply andK_both); walk_at "e"; walk_at "b"))
  | ((with_reducible apply e_or); walk_at "e"; first | ((with_reducible apply orK_t); walk_at "b"; walk_at "b") | ((with_reducible apply orK_f); walk_at "b"; walk_at "e") | ((with_reducible apply orK_both); walk_at "e"; walk_at "b"))
  | ((with_reducible apply e_ite); walk_at "e"; first | ((with_reducible apply ifK_t); walk_at "b"; walk_at "e") | ((with_reducible apply ifK_f); walk_at "b"; walk_at "e"))
  | ((with_reducible apply e_not); walk_at "e"; walk_at "b")
  | ((with_reducible apply e_isN); walk_at "e"; walk_at "b")
  | ((with_reducible apply e_notN); walk_at "e"; walk_at "b")
  | ((with_reducible apply e_neg); walk_at "e"; walk_at "b")
  | ((with_reducible apply e_chain); walk_at "e"; walk_at "e"; walk_at "cm"; walk_at "e"; walk_at "cm"; walk_at "b")
  | ((with_reducible apply e_sl); walk_at "e"; walk_at "e"; rfl; walk_at "e"; rfl; walk_at "sl")
  | (with_reducible exact e_dic0)
  | ((with_reducible apply e_dicS); walk_at "e")
  | ((with_reducible apply e_cg); walk_at "e")
  | assumption)
local macro_rules | `(tactic| walk_at "f") => `(tactic| first
  | exact fm_nil
  | (apply fm_cons; walk_at "as"; walk_at "x"; walk_at "f")
  | (with_reducible exact fmK_rt)
  | ((with_reducible apply fmK_nx); walk_at "f")
  | assumption)
local macro_rules | `(tactic| walk_at "x") => `(tactic| first
  | (with_reducible exact x_nil)
  | ((with_reducible apply x_cons); walk_at "x"; walk_at "x")
  | ((with_reducible apply x_asg); walk_at "e"; walk_at "as")
  | ((with_reducible apply x_iff); walk_at "e"; walk_at "x")
  | ((with_reducible apply x_ret); walk_at "e")
  | ((with_reducible apply x_exp); walk_at "e")
  | ((with_reducible apply ifX_t); walk_at "b"; walk_at "x")
  | ((with_reducible apply ifX_f); walk_at "b"; walk_at "x")
  | ((with_reducible apply x_for); walk_at "e"; walk_at "e"; walk_at "o"; walk_at "f")
  | (with_reducible exact sqX_rt)
  | ((with_reducible apply sqX_nx); walk_at "x")
  | assumption)
local macro_rules | `(tactic| walk_at "1") => `(tactic| ((with_reducible apply x_cons); walk_at "x"; (with_reducible apply sqX_nx)))
/-! putting in -/
def Tr.sub : Tr → Wd → Tr → Tr
  | .amt i, _, _ => .amt i
  | .use x, w, v => if natsEq x w then v else .use x
  | .giv x b, w, v => .giv x (if natsEq x w then b else b.sub w v)
  | .app a b, w, v => .app (a.sub w v) (b.sub w v)
  | .hol x a b, w, v => .hol x (a.sub w v) (if natsEq x w then b else b.sub w v)
  | .rek o a b, w, v => .rek o (a.sub w v) (b.sub w v)
  | .tst a b c, w, v => .tst (a.sub w v) (b.sub w v) (c.sub w v)
theorem cm_nm {x w : Wd} (hx : fitsW x = true) (hw : fitsW w = true) : CmH .eq (nm x) (nm w) (natsEq x w) := ⟨eqO_nm hx hw⟩
theorem wth1 {t t' : Tr} {a : D} (ps : List Tr) (hl : ps.length = t.parts.length) (k : Nat) (st : Cup) : Rn (k + 1) f_with_parts [enc t, .lst (ps.map enc)] st (enc (t.wth ps)) st := wth_ok t ps hl k st
theorem put_in_ok (w : Wd) (hw : fitsW w = true) (v : Tr) : ∀ (t : Tr) (k : Nat) (st : Cup), t.good = true → t.depth + 1 ≤ k → Rn k f_put_in [enc t, nm w, enc v] st (enc (t.sub w v)) st
  | .amt i, k, st, hg, hk => by
    obtain ⟨k, rfl⟩ : ∃ k', k = k' + 2 := ⟨k - 2, by simp only [Tr.depth] at hk; omega⟩
    exact ⟨rfl⟩
  | .use x, k, st, hg, hk => by
    obtain ⟨k, rfl⟩ : ∃ k', k = k' + 2 := ⟨k - 2, by simp only [Tr.depth] at hk; omega⟩
    have c := cm_nm (show fitsW x = true from hg) hw
    cases e : natsEq x w <;> rw [e] at c <;> simp only [Tr.sub, e] <;>
    · apply r_df df_put_in rfl
      · walk_at "st"
      · walk_at "x"
      · rfl
  | .giv x b, k, st, hg, hk => by
    simp only [Tr.depth] at hk
    have hg' := Bool.and_eq_true_iff.mp hg
    obtain ⟨k, rfl⟩ : ∃ k', k = k' + 2 := ⟨k - 2, by omega⟩
    have hb := put_in_ok w hw v b (k + 1) st hg'.2 (by omega)
    have c := cm_nm hg'.1 hw
    have hp := parts_in_ok (.giv x b) k st
    have w1 : Rn (k + 1) f_with_parts [enc (.giv x b), .lst [enc b]] st (enc (.giv x b)) st := wth_ok (.giv x b) [b] rfl k st
    have w2 : Rn (k + 1) f_with_parts [enc (.giv x b), .lst [enc (b.sub w v)]] st (enc (.giv x (b.sub w v))) st := wth_ok (.giv x b) [b.sub w v] rfl k st
    cases e : natsEq x w <;> rw [e] at c <;> simp only [Tr.sub, e] <;>
    · apply r_df df_put_in rfl
      · walk_at "st"
      · walk_at "x"
      · rfl
  | .app a b, k, st, hg, hk => by
    simp only [Tr.depth] at hk
    have hg' := Bool.and_eq_true_iff.mp hg
    obtain ⟨k, rfl⟩ : ∃ k', k = k' + 2 := ⟨k - 2, by omega⟩
    have ha := put_in_ok w hw v a (k + 1) st hg'.1 (by omega)
    have hb := put_in_ok w hw v b (k + 1) st hg'.2 (by omega)
    have hp := parts_in_ok (.app a b) k st
    have w2 : Rn (k + 1) f_with_parts [enc (.app a b), .lst [enc (a.sub w v), enc (b.sub w v)]] st (enc (.app (a.sub w v) (b.sub w v))) st := wth_ok (.app a b) [a.sub w v, b.sub w v] rfl k st
    apply r_df df_put_in rfl
    · walk_at "st"
    · walk_at "x"
    · rfl
  | .hol x a b, k, st, hg, hk => by
    simp only [Tr.depth] at hk
    have hg' := Bool.and_eq_true_iff.mp hg
    have hg2 := Bool.and_eq_true_iff.mp hg'.2
    obtain ⟨k, rfl⟩ : ∃ k', k = k' + 2 := ⟨k - 2, by omega⟩
    have ha := put_in_ok w hw v a (k + 1) st hg2.1 (by omega)
    have hb := put_in_ok w hw v b (k + 1) st hg2.2 (by omega)
    have c := cm_nm hg'.1 hw
    have hp := parts_in_ok (.hol x a b) k st
    have w1 : Rn (k + 1) f_with_parts [enc (.hol x a b), .lst [enc (a.sub w v), enc b]] st (enc (.hol x (a.sub w v) b)) st := wth_ok (.hol x a b) [a.sub w v, b] rfl k st
    have w2 : Rn (k + 1) f_with_parts [enc (.hol x a b), .lst [enc (a.sub w v), enc (b.sub w v)]] st (enc (.hol x (a.sub w v) (b.sub w v))) st := wth_ok (.hol x a b) [a.sub w v, b.sub w v] rfl k st
    cases e : natsEq x w <;> rw [e] at c <;> simp only [Tr.sub, e] <;>
    · apply r_df df_put_in rfl
      · walk_at "st"
      · walk_at "x"
      · rfl
  | .rek o a b, k, st, hg, hk => by
    simp only [Tr.depth] at hk
    have hg' := Bool.and_eq_true_iff.mp hg
    obtain ⟨k, rfl⟩ : ∃ k', k = k' + 2 := ⟨k - 2, by omega⟩
    have ha := put_in_ok w hw v a (k + 1) st hg'.1 (by omega)
    have hb := put_in_ok w hw v b (k + 1) st hg'.2 (by omega)
    have hp := parts_in_ok (.rek o a b) k st
    have w2 : Rn (k + 1) f_with_parts [enc (.rek o a b), .lst [enc (a.sub w v), enc (b.sub w v)]] st (enc (.rek o (a.sub w v) (b.sub w v))) st := wth_ok (.rek o a b) [a.sub w v, b.sub w v] rfl k st
    apply r_df df_put_in rfl
    · walk_at "st"
    · walk_at "x"
    · rfl
  | .tst a b c, k, st, hg, hk => by
    simp only [Tr.depth] at hk
    have hg' := Bool.and_eq_true_iff.mp hg
    have hg2 := Bool.and_eq_true_iff.mp hg'.2
    obtain ⟨k, rfl⟩ : ∃ k', k = k' + 2 := ⟨k - 2, by omega⟩
    have ha := put_in_ok w hw v a (k + 1) st hg'.1 (by omega)
    have hb := put_in_ok w hw v b (k + 1) st hg2.1 (by omega)
    have hc := put_in_ok w hw v c (k + 1) st hg2.2 (by omega)
    have hp := parts_in_ok (.tst a b c) k st
    have w2 : Rn (k + 1) f_with_parts [enc (.tst a b c), .lst [enc (a.sub w v), enc (b.sub w v), enc (c.sub w v)]] st (enc (.tst (a.sub w v) (b.sub w v) (c.sub w v))) st := wth_ok (.tst a b c) [a.sub w v, b.sub w v, c.sub w v] rfl k st
    apply r_df df_put_in rfl
    · walk_at "st"
    · walk_at "x"
    · rfl
theorem sub_good {w : Wd} {v : Tr} (hv : v.good = true) : ∀ {t : Tr}, t.good = true → (t.sub w v).good = true
  | .amt i, h => h
  | .use x, h => by
    simp only [Tr.sub]
    split
    · exact hv
    · exact h
  | .giv x b, h => by
    have h' := Bool.and_eq_true_iff.mp h
    simp only [Tr.sub, Tr.good, h'.1, Bool.true_and]
    split
    · exact h'.2
    · exact sub_good hv h'.2
  | .app a b, h => by
    have h' := Bool.and_eq_true_iff.mp h
    simp only [Tr.sub, Tr.good, sub_good hv h'.1, sub_good hv h'.2, Bool.and_self]
  | .hol x a b, h => by
    have h' := Bool.and_eq_true_iff.mp h
    have h2 := Bool.and_eq_true_iff.mp h'.2
    simp only [Tr.sub, Tr.good, h'.1, sub_good hv h2.1, Bool.true_and]
    split
    · exact h2.2
    · exact sub_good hv h2.2
  | .rek o a b, h => by
    have h' := Bool.and_eq_true_iff.mp h
    simp only [Tr.sub, Tr.good, sub_good hv h'.1, sub_good hv h'.2, Bool.and_self]
  | .tst a b c, h => by
    have h' := Bool.and_eq_true_iff.mp h
    have h2 := Bool.and_eq_true_iff.mp h'.2
    simp only [Tr.sub, Tr.good, sub_good hv h'.1, sub_good hv h2.1, sub_good hv h2.2, Bool.and_self]
theorem law_put_ok (w : Wd) (hw : fitsW w = true) (v : Tr) : ∀ (t : Tr) (k : Nat) (st : Cup), t.good = true → t.depth + 1 ≤ k → Rn k f_law_put [enc t, nm w, enc v] st (enc (t.sub w v)) st
  | .amt i, k, st, hg, hk => by
    obtain ⟨k, rfl⟩ : ∃ k', k = k' + 2 := ⟨k - 2, by simp only [Tr.depth] at hk; omega⟩
    exact ⟨rfl⟩
  | .use x, k, st, hg, hk => by
    obtain ⟨k, rfl⟩ : ∃ k', k = k' + 2 := ⟨k - 2, by simp only [Tr.depth] at hk; omega⟩
    have c := cm_nm (show fitsW x = true from hg) hw
    cases e : natsEq x w <;> rw [e] at c <;> simp only [Tr.sub, e] <;>
    · apply r_df df_law_put rfl
      · walk_at "st"
      · walk_at "x"
      · rfl
  | .giv x b, k, st, hg, hk => by
    simp only [Tr.depth] at hk
    have hg' := Bool.and_eq_true_iff.mp hg
    obtain ⟨k, rfl⟩ : ∃ k', k = k' + 2 := ⟨k - 2, by omega⟩
    have hb := law_put_ok w hw v b (k + 1) st hg'.2 (by omega)
    have c := cm_nm hg'.1 hw
    have hp := law_parts_ok (.giv x b) k st
    have w1 : Rn (k + 1) f_law_with [enc (.giv x b), .lst [enc b]] st (enc (.giv x b)) st := law_wth_ok (.giv x b) [b] rfl k st
    have w2 : Rn (k + 1) f_law_with [enc (.giv x b), .lst [enc (b.sub w v)]] st (enc (.giv x (b.sub w v))) st := law_wth_ok (.giv x b) [b.sub w v] rfl k st
    cases e : natsEq x w <;> rw [e] at c <;> simp only [Tr.sub, e] <;>
    · apply r_df df_law_put rfl
      · walk_at "st"
      · walk_at "1"
        walk_at "1"
        walk_at "1"
        with_reducible apply x_cons
        · with_reducible apply x_asg
          · apply e_map (its := [b]) (f := enc) (g := fun u => enc (u.sub w v))
            · walk_at "e"
            · walk_at "e"
            · exact ⟨rfl⟩
            · unfold sizeLine; simp
            · intro u hu
              cases hu with
              | head => exact ⟨_, rfl, by walk_at "e"⟩
              | tail _ hu => cases hu
          · walk_at "as"
        walk_at "x"
      · rfl
  | .app a b, k, st, hg, hk => by
    simp only [Tr.depth] at hk
    have hg' := Bool.and_eq_true_iff.mp hg
    obtain ⟨k, rfl⟩ : ∃ k', k = k' + 2 := ⟨k - 2, by omega⟩
    have ha := law_put_ok w hw v a (k + 1) st hg'.1 (by omega)
    have hb := law_put_ok w hw v b (k + 1) st hg'.2 (by omega)
    have hp := law_parts_ok (.app a b) k st
    have w2 : Rn (k + 1) f_law_with [enc (.app a b), .lst [enc (a.sub w v), enc (b.sub w v)]] st (enc (.app (a.sub w v) (b.sub w v))) st := law_wth_ok (.app a b) [a.sub w v, b.sub w v] rfl k st
    apply r_df df_law_put rfl
    · walk_at "st"
    · walk_at "1"
      walk_at "1"
      walk_at "1"
      with_reducible apply x_cons
      · with_reducible apply x_asg
        · apply e_map (its := [a, b]) (f := enc) (g := fun u => enc (u.sub w v))
          · walk_at "e"
          · walk_at "e"
          · exact ⟨rfl⟩
          · unfold sizeLine; simp
          · intro u hu
            simp only [List.mem_cons, List.not_mem_nil, or_false] at hu
            rcases hu with rfl | rfl
            · exact ⟨_, rfl, by walk_at "e"⟩
            · exact ⟨_, rfl, by walk_at "e"⟩
        · walk_at "as"
      walk_at "x"
    · rfl
  | .hol x a b, k, st, hg, hk => by
    simp only [Tr.depth] at hk
    have hg' := Bool.and_eq_true_iff.mp hg
    have hg2 := Bool.and_eq_true_iff.mp hg'.2
    obtain ⟨k, rfl⟩ : ∃ k', k = k' + 2 := ⟨k - 2, by omega⟩
    have ha := law_put_ok w hw v a (k + 1) st hg2.1 (by omega)
    have hb := law_put_ok w hw v b (k + 1) st hg2.2 (by omega)
    have c := cm_nm hg'.1 hw
    have hp := law_parts_ok (.hol x a b) k st
    have w1 : Rn (k + 1) f_law_with [enc (.hol x a b), .lst [enc (a.sub w v), enc b]] st (enc (.hol x (a.sub w v) b)) st := law_wth_ok (.hol x a b) [a.sub w v, b] rfl k st
    have w2 : Rn (k + 1) f_law_with [enc (.hol x a b), .lst [enc (a.sub w v), enc (b.sub w v)]] st (enc (.hol x (a.sub w v) (b.sub w v))) st := law_wth_ok (.hol x a b) [a.sub w v, b.sub w v] rfl k st
    cases e : natsEq x w <;> rw [e] at c <;> simp only [Tr.sub, e] <;>
    · apply r_df df_law_put rfl
      · walk_at "st"
      · walk_at "1"
        walk_at "1"
        walk_at "1"
        with_reducible apply x_cons
        · with_reducible apply x_asg
          · apply e_map (its := [a, b]) (f := enc) (g := fun u => enc (u.sub w v))
            · walk_at "e"
            · walk_at "e"
            · exact ⟨rfl⟩
            · unfold sizeLine; simp
            · intro u hu
              simp only [List.mem_cons, List.not_mem_nil, or_false] at hu
              rcases hu with rfl | rfl
              · exact ⟨_, rfl, by walk_at "e"⟩
              · exact ⟨_, rfl, by walk_at "e"⟩
          · walk_at "as"
        walk_at "x"
      · rfl
  | .rek o a b, k, st, hg, hk => by
    simp only [Tr.depth] at hk
    have hg' := Bool.and_eq_true_iff.mp hg
    obtain ⟨k, rfl⟩ : ∃ k', k = k' + 2 := ⟨k - 2, by omega⟩
    have ha := law_put_ok w hw v a (k + 1) st hg'.1 (by omega)
    have hb := law_put_ok w hw v b (k + 1) st hg'.2 (by omega)
    have hp := law_parts_ok (.rek o a b) k st
    have w2 : Rn (k + 1) f_law_with [enc (.rek o a b), .lst [enc (a.sub w v), enc (b.sub w v)]] st (enc (.rek o (a.sub w v) (b.sub w v))) st := law_wth_ok (.rek o a b) [a.sub w v, b.sub w v] rfl k st
    apply r_df df_law_put rfl
    · walk_at "st"
    · walk_at "1"
      walk_at "1"
      walk_at "1"
      with_reducible apply x_cons
      · with_reducible apply x_asg
        · apply e_map (its := [a, b]) (f := enc) (g := fun u => enc (u.sub w v))
          · walk_at "e"
          · walk_at "e"
          · exact ⟨rfl⟩
          · unfold sizeLine; simp
          · intro u hu
            simp only [List.mem_cons, List.not_mem_nil, or_false] at hu
            rcases hu with rfl | rfl
            · exact ⟨_, rfl, by walk_at "e"⟩
            · exact ⟨_, rfl, by walk_at "e"⟩
        · walk_at "as"
      walk_at "x"
    · rfl
  | .tst a b c, k, st, hg, hk => by
    simp only [Tr.depth] at hk
    have hg' := Bool.and_eq_true_iff.mp hg
    have hg2 := Bool.and_eq_true_iff.mp hg'.2
    obtain ⟨k, rfl⟩ : ∃ k', k = k' + 2 := ⟨k - 2, by omega⟩
    have ha := law_put_ok w hw v a (k + 1) st hg'.1 (by omega)
    have hb := law_put_ok w hw v b (k + 1) st hg2.1 (by omega)
    have hc := law_put_ok w hw v c (k + 1) st hg2.2 (by omega)
    have hp := law_parts_ok (.tst a b c) k st
    have w2 : Rn (k + 1) f_law_with [enc (.tst a b c), .lst [enc (a.sub w v), enc (b.sub w v), enc (c.sub w v)]] st (enc (.tst (a.sub w v) (b.sub w v) (c.sub w v))) st := law_wth_ok (.tst a b c) [a.sub w v, b.sub w v, c.sub w v] rfl k st
    apply r_df df_law_put rfl
    · walk_at "st"
    · walk_at "1"
      walk_at "1"
      walk_at "1"
      with_reducible apply x_cons
      · with_reducible apply x_asg
        · apply e_map (its := [a, b, c]) (f := enc) (g := fun u => enc (u.sub w v))
          · walk_at "e"
          · walk_at "e"
          · exact ⟨rfl⟩
          · unfold sizeLine; simp
          · intro u hu
            simp only [List.mem_cons, List.not_mem_nil, or_false] at hu
            rcases hu with rfl | rfl | rfl
            · exact ⟨_, rfl, by walk_at "e"⟩
            · exact ⟨_, rfl, by walk_at "e"⟩
            · exact ⟨_, rfl, by walk_at "e"⟩
        · walk_at "as"
      walk_at "x"
    · rfl
end N57
end
section
set_option maxRecDepth 100000
set_option maxHeartbeats 4000000
namespace N57
open PySem
local macro_rules | `(tactic| walk_at "b") => `(tactic| first | rfl | assumption)
local macro_rules | `(tactic| walk_at "cm") => `(tactic| first | assumption | (with_reducible exact ne_nil) | (with_reducible exact eq_nil) | exact ⟨(rfl : _ = some true)⟩ | exact ⟨(rfl : _ = some false)⟩ | exact ⟨rfl⟩)
local macro_rules | `(tactic| walk_at "o") => `(tactic| first | assumption | (with_reducible exact ix_last) | exact ⟨rfl⟩)
local macro_rules | `(tactic| walk_at "sl") => `(tactic| first | assumption | exact sl_init | exact sl_t1 | exact sl_t2 | exact ⟨rfl⟩)
local macro_rules | `(tactic| walk_at "c") => `(tactic| first | assumption | (with_reducible exact parts_in_ok _ _ _) | (with_reducible exact law_parts_ok _ _ _) | (with_reducible exact is_done_ok _ _ _))
local macro_rules | `(tactic| walk_at "as") => `(tactic| (repeat' (first | apply AsR.slot | apply AsR.tup | apply AsR.cons | apply AsR.nil | apply SetR.s | apply SetR.z)))
local macro_rules | `(tactic| walk_at "st") => `(tactic| (repeat' (first | apply StR.some | apply StR.none | apply StR.nil)))
local macro_rules | `(tactic| walk_at "e") => `(tactic| first
  | ((with_reducible apply e_var); rfl)
  | (with_reducible exact e_con)
  | ((with_reducible apply e_cons); walk_at "e"; walk_at "e")
  | (with_reducible exact e_nil)
  | ((with_reducible apply e_glb); rfl)
  | ((with_reducible apply e_tup); walk_at "e")
  | ((with_reducible apply e_lst); walk_at "e")
  | ((with_reducible apply e_ix); walk_at "e"; walk_at "e"; walk_at "o")
  | ((with_reducible apply e_cmp); walk_at "e"; walk_at "e"; walk_at "cm")
  | ((with_reducible apply e_op); walk_at "e"; walk_at "e"; walk_at "o")
  | ((with_reducible apply e_call); walk_at "e"; walk_at "c")
  | ((with_reducible apply e_pr); walk_at "e"; walk_at "o")
  | ((with_reducible apply e_and); walk_at "e"; first | ((with_reducible apply andK_t); walk_at "b"; walk_at "e") | ((with_reducible apply andK_f); walk_at "b"; walk_at "b") | ((with_reducible apply andK_both); walk_at "e"; walk_at "b"))
  | ((with_reducible apply e_or); walk_at "e"; first | ((with_reducible apply orK_t); walk_at "b"; walk_at "b") | ((with_reducible apply orK_f); walk_at "b"; walk_at "e") | ((with_reducible apply orK_both); walk_at "e"; walk_at "b"))
  | ((with_reducible apply e_ite); walk_at "e"; first | ((with_reducible apply ifK_t); walk_at "b"; walk_at "e") | ((with_reducible apply ifK_f); walk_at "b"; walk_at "e"))
  | ((with_reducible apply e_not); walk_at "e"; walk_at "b")
  | ((with_reducible apply e_isN); walk_at "e"; walk_at "b")
  | ((with_reducible apply e_notN); walk_at "e"; walk_at "b")
  | ((with_reducible apply e_neg); walk_at "e"; walk_at "b")
  | ((with_reducible apply e_chain); walk_at "e"; walk_at "e"; walk_at "cm"; walk_at "e"; walk_at "cm"; walk_at "b")
  | ((with_reducible apply e_sl); walk_at "e"; walk_at "e"; rfl; walk_at "e"; rfl; walk_at "sl")
  | (with_reducible exact e_dic0)
  | ((with_reducible apply e_dicS); walk_at "e")
  | ((with_reducible apply e_cg); walk_at "e")
  | assumption)
local macro_rules | `(tactic| walk_at "f") => `(tactic| first
  | exact fm_nil
  | (apply fm_cons; walk_at "as"; walk_at "x"; walk_at "f")
  | (with_reducible exact fmK_rt)
  | ((with_reducible apply fmK_nx); walk_at "f")
  | assumption)
local macro_rules | `(tactic| walk_at "x") => `(tactic| first
  | (with_reducible exact x_nil)
  | ((with_reducible apply x_cons); walk_at "x"; walk_at "x")
  | ((with_reducible apply x_asg); walk_at "e"; walk_at "as")
  | ((with_reducible apply x_iff); walk_at "e"; walk_at "x")
  | ((with_reducible apply x_ret); walk_at "e")
  | ((with_reducible apply x_exp); walk_at "e")
  | ((with_reducible apply ifX_t); walk_at "b"; walk_at "x")
  | ((with_reducible apply ifX_f); walk_at "b"; walk_at "x")
  | ((with_reducible apply x_for); walk_at "e"; walk_at "e"; walk_at "o"; walk_at "f")
  | (with_reducible exact sqX_rt)
  | ((with_reducible apply sqX_nx); walk_at "x")
  | assumption)
local macro_rules | `(tactic| walk_at "1") => `(tactic| ((with_reducible apply x_cons); walk_at "x"; (with_reducible apply sqX_nx)))
/-! a step -/
def Sg.op : Sg → Int → Int → Int
  | .add, i, j => i + j
  | .sub, i, j => i - j
  | .mul, i, j => i * j
inductive Stp where | go (t : Tr) | stuck (w : Wd)
abbrev sGreat : Wd := [103, 114, 101, 97, 116]
def Tr.move : Tr → Stp
  | .app (.giv x b) v => .go (b.sub x v)
  | .app _ _ => .stuck sApply
  | .hol x a b => .go (b.sub x a)
  | .rek o (.amt i) (.amt j) => if amtB (o.op i j) then .go (.amt (o.op i j)) else .stuck sGreat
  | .rek _ _ _ => .stuck sReckon
  | .tst (.amt i) b c => if i = 0 then .go c else .go b
  | .tst _ _ _ => .stuck sTest
  | _ => .stuck []
abbrev sStep : Wd := [115, 116, 101, 112]
abbrev sStuck : Wd := [115, 116, 117, 99, 107]
def Stp.d : Stp → D
  | .go t => .tup [.str sStep, enc t]
  | .stuck w => .tup [.str sStuck, .str w]
def Stp.l : Stp → D
  | .go t => enc t
  | .stuck w => .str w
def Tr.isAmt : Tr → Bool
  | .amt _ => true | _ => false
def Tr.isGiv : Tr → Bool
  | .giv .. => true | _ => false
theorem head_amt (a : Tr) : ∃ h, IxH (enc a) (.int 0) (.str h) ∧ CmH .ne (.str h) (.str sAmount) (!a.isAmt) := by
  cases a <;> exact ⟨_, ⟨rfl⟩, ⟨rfl⟩⟩
theorem head_giv (a : Tr) : ∃ h, IxH (enc a) (.int 0) (.str h) ∧ CmH .eq (.str h) (.str sGiven) a.isGiv := by
  cases a <;> exact ⟨_, ⟨rfl⟩, ⟨rfl⟩⟩
theorem amt_of {a : Tr} (h : a.isAmt = true) : ∃ i, a = .amt i := by
  cases a <;> first | exact ⟨_, rfl⟩ | cases h
theorem giv_of {a : Tr} (h : a.isGiv = true) : ∃ w b, a = .giv w b := by
  cases a <;> first | exact ⟨_, _, rfl⟩ | cases h
theorem op_mul {i j : Int} (h : amtB i = true) : OpH .mul (.int i) (.int j) (.int (i * j)) := by
  constructor
  show (if small64 i || small64 j then _ else _) = _
  unfold amtB at h
  simp only [Bool.and_eq_true, decide_eq_true_eq] at h
  have : small64 i = true := by
    unfold small64
    rw [decide_eq_true (by omega), decide_eq_true (by omega)]
    rfl
  rw [this]
  rfl
theorem reckoned_ok (o : Sg) (a b : Tr) (ha : a.good = true) (k : Nat) (st : Cup) : Rn (k + 1) f_reckoned [enc (.rek o a b)] st (Tr.rek o a b).move.d st := by
  obtain ⟨h1, i1, c1⟩ := head_amt a
  obtain ⟨h2, i2, c2⟩ := head_amt b
  cases e1 : a.isAmt
  · rw [e1] at c1
    have e : (Tr.rek o a b).move = .stuck sReckon := by cases a <;> first | rfl | cases e1
    rw [e]
    apply r_df df_reckoned rfl
    · walk_at "st"
    · walk_at "x"
    · rfl
  · cases e2 : b.isAmt
    · rw [e1] at c1
      rw [e2] at c2
      have e : (Tr.rek o a b).move = .stuck sReckon := by cases a <;> cases b <;> first | rfl | (cases e2; done)
      rw [e]
      apply r_df df_reckoned rfl
      · walk_at "st"
      · walk_at "x"
      · rfl
    · obtain ⟨i, rfl⟩ := amt_of e1
      obtain ⟨j, rfl⟩ := amt_of e2
      have m := op_mul (j := j) ha
      have hm : (Tr.rek o (.amt i) (.amt j)).move = if amtB (o.op i j) then .go (.amt (o.op i j)) else .stuck sGreat := rfl
      rw [hm]
      cases hB : amtB (o.op i j) <;> unfold amtB at hB <;> cases o <;> simp only [Sg.op] at hB ⊢ <;>
      · apply r_df df_reckoned rfl
        · walk_at "st"
        · walk_at "x"
        · rfl
theorem law_reckoned_ok (o : Sg) (i j : Int) (ha : amtB i = true) (k : Nat) (st : Cup) : Rn (k + 1) f_law_reckoned [.str o.w, .int i, .int j] st (.int (o.op i j)) st := by
  have m := op_mul (j := j) ha
  cases o <;>
  · apply r_df df_law_reckoned rfl
    · walk_at "st"
    · walk_at "x"
    · rfl
/-- a tree whose own turn it is -/
structure Own (t : Tr) : Prop where
  fu : t.fu = none
  done : t.done = false
  use : ∀ w, t ≠ .use w
theorem done_here_ok (t : Tr) (hg : t.good = true) (ho : Own t) (k : Nat) (st : Cup) (hk : t.depth + 2 ≤ k) : Rn k f_done_here [enc t] st t.move.d st := by
  obtain ⟨h1, h2, h3⟩ := ho
  obtain ⟨k, rfl⟩ : ∃ k', k = k' + 2 := ⟨k - 2, by omega⟩
  cases t with
  | amt i => cases h2
  | giv w b => cases h2
  | use w => exact absurd rfl (h3 w)
  | app a b =>
    obtain ⟨h, i1, c1⟩ := head_giv a
    cases e1 : a.isGiv
    · rw [e1] at c1
      have e : (Tr.app a b).move = .stuck sApply := by cases a <;> first | rfl | cases e1
      rw [e]
      apply r_df df_done_here rfl
      · walk_at "st"
      · walk_at "x"
      · rfl
    · obtain ⟨x, c, rfl⟩ := giv_of e1
      have hg' := Bool.and_eq_true_iff.mp hg
      have hg2 := Bool.and_eq_true_iff.mp hg'.1
      simp only [Tr.depth] at hk
      have hp := put_in_ok x hg2.1 b c (k + 1) st hg2.2 (by omega)
      show Rn _ _ _ _ (.tup [.str sStep, enc (c.sub x b)]) _
      apply r_df df_done_here rfl
      · walk_at "st"
      · walk_at "x"
      · rfl
  | hol x a b =>
    have hg' := Bool.and_eq_true_iff.mp hg
    have hg2 := Bool.and_eq_true_iff.mp hg'.2
    simp only [Tr.depth] at hk
    have hp := put_in_ok x hg'.1 a b (k + 1) st hg2.2 (by omega)
    show Rn _ _ _ _ (.tup [.str sStep, enc (b.sub x a)]) _
    apply r_df df_done_here rfl
    · walk_at "st"
    · walk_at "x"
    · rfl
  | rek o a b =>
    have hg' := Bool.and_eq_true_iff.mp hg
    have hp := reckoned_ok o a b hg'.1 k st
    apply r_df df_done_here rfl
    · walk_at "st"
    · walk_at "x"
    · rfl
  | tst a b c =>
    simp only [Tr.fu] at h1
    split at h1
    · rename_i hd
      cases a with
      | amt i =>
        by_cases hi : i = 0
        · subst hi
          show Rn _ _ _ _ (.tup [.str sStep, enc c]) _
          apply r_df df_done_here rfl
          · walk_at "st"
          · walk_at "x"
          · rfl
        · have hm : (Tr.tst (.amt i) b c).move = .go b := by simp [Tr.move, hi]
          rw [hm]
          have c1 : CmH .ne (.int i) (.int 0) true := ⟨by
            show (some (decide (i = 0))).map (!·) = _
            rw [decide_eq_false hi]; rfl⟩
          apply r_df df_done_here rfl
          · walk_at "st"
          · walk_at "x"
          · rfl
      | giv w e =>
        show Rn _ _ _ _ (.tup [.str sStuck, .str sTest]) _
        apply r_df df_done_here rfl
        · walk_at "st"
        · walk_at "x"
        · rfl
      | _ => cases hd
    · cases h1
theorem law_moved_ok (t : Tr) (hg : t.good = true) (ho : Own t) (k : Nat) (st : Cup) (hk : t.depth + 2 ≤ k) : Rn k f_law_moved [enc t] st t.move.l st := by
  obtain ⟨h1, h2, h3⟩ := ho
  obtain ⟨k, rfl⟩ : ∃ k', k = k' + 2 := ⟨k - 2, by omega⟩
  cases t with
  | amt i => cases h2
  | giv w b => cases h2
  | use w => exact absurd rfl (h3 w)
  | app a b =>
    obtain ⟨h, i1, c1⟩ := head_giv a
    cases e1 : a.isGiv
    · rw [e1] at c1
      have e : (Tr.app a b).move = .stuck sApply := by cases a <;> first | rfl | cases e1
      rw [e]
      apply r_df df_law_moved rfl
      · walk_at "st"
      · walk_at "x"
      · rfl
    · obtain ⟨x, c, rfl⟩ := giv_of e1
      have hg' := Bool.and_eq_true_iff.mp hg
      have hg2 := Bool.and_eq_true_iff.mp hg'.1
      simp only [Tr.depth] at hk
      have hp := law_put_ok x hg2.1 b c (k + 1) st hg2.2 (by omega)
      show Rn _ _ _ _ (enc (c.sub x b)) _
      apply r_df df_law_moved rfl
      · walk_at "st"
      · walk_at "x"
      · rfl
  | hol x a b =>
    have hg' := Bool.and_eq_true_iff.mp hg
    have hg2 := Bool.and_eq_true_iff.mp hg'.2
    simp only [Tr.depth] at hk
    have hp := law_put_ok x hg'.1 a b (k + 1) st hg2.2 (by omega)
    show Rn _ _ _ _ (enc (b.sub x a)) _
    apply r_df df_law_moved rfl
    · walk_at "st"
    · walk_at "x"
    · rfl
  | rek o a b =>
    have hg' := Bool.and_eq_true_iff.mp hg
    obtain ⟨h1, i1, c1⟩ := head_amt a
    obtain ⟨h2, i2, c2⟩ := head_amt b
    cases e1 : a.isAmt
    · rw [e1] at c1
      have e : (Tr.rek o a b).move = .stuck sReckon := by cases a <;> first | rfl | cases e1
      rw [e]
      apply r_df df_law_moved rfl
      · walk_at "st"
      · walk_at "x"
      · rfl
    · cases e2 : b.isAmt
      · rw [e1] at c1
        rw [e2] at c2
        have e : (Tr.rek o a b).move = .stuck sReckon := by cases a <;> cases b <;> first | rfl | (cases e2; done)
        rw [e]
        apply r_df df_law_moved rfl
        · walk_at "st"
        · walk_at "x"
        · rfl
      · obtain ⟨i, rfl⟩ := amt_of e1
        obtain ⟨j, rfl⟩ := amt_of e2
        have m := law_reckoned_ok o i j hg'.1 k st
        have hm : (Tr.rek o (.amt i) (.amt j)).move = if amtB (o.op i j) then .go (.amt (o.op i j)) else .stuck sGreat := rfl
        rw [hm]
        have g1 : OpH .pow (.int 10) (.int 12) (.int 1000000000000) := ⟨rfl⟩
        generalize o.op i j = f at *
        have g2 : CmH .le (.int (if f < 0 then -f else f)) (.int 1000000000000) (amtB f) := ⟨by
          show some (decide _) = _
          unfold amtB
          congr 1
          rw [← Bool.decide_and, decide_eq_decide]
          split <;> omega⟩
        cases hb : amtB f <;> rw [hb] at g2 <;>
        · apply r_df df_law_moved rfl
          · walk_at "st"
          · walk_at "x"
          · rfl
  | tst a b c =>
    simp only [Tr.fu] at h1
    split at h1
    · rename_i hd
      cases a with
      | amt i =>
        by_cases hi : i = 0
        · subst hi
          show Rn _ _ _ _ (enc c) _
          apply r_df df_law_moved rfl
          · walk_at "st"
          · walk_at "x"
          · rfl
        · have hm : (Tr.tst (.amt i) b c).move = .go b := by simp [Tr.move, hi]
          rw [hm]
          have c1 : CmH .ne (.int i) (.int 0) true := ⟨by
            show (some (decide (i = 0))).map (!·) = _
            rw [decide_eq_false hi]; rfl⟩
          apply r_df df_law_moved rfl
          · walk_at "st"
          · walk_at "x"
          · rfl
      | giv w e =>
        show Rn _ _ _ _ (.str sTest) _
        apply r_df df_law_moved rfl
        · walk_at "st"
        · walk_at "x"
        · rfl
      | _ => cases hd
    · cases h1
/-! sizes, as the law reckons them -/
def sumT : List Tr → Nat
  | [] => 0
  | t :: l => t.size + sumT l
def maxT : List Tr → Nat
  | [] => 0
  | t :: l => max t.depth (maxT l)
theorem size_parts (t : Tr) : 1 + sumT t.parts = t.size := by
  cases t <;> simp only [Tr.parts, sumT, Tr.size] <;> omega
theorem depth_parts (t : Tr) : 1 + maxT t.parts = t.depth := by
  cases t <;> simp only [Tr.parts, maxT, Tr.depth] <;> omega
theorem part_depth {t u : Tr} (h : u ∈ t.parts) : u.depth + 1 ≤ t.depth := by
  have : ∀ l : List Tr, u ∈ l → u.depth ≤ maxT l := by
    intro l
    induction l with
    | nil => intro h; cases h
    | cons x l ih =>
      intro h
      rcases List.mem_cons.mp h with rfl | h
      · simp only [maxT]; omega
      · have := ih h; simp only [maxT]; omega
  have := this _ h
  have := depth_parts t
  omega
theorem pr_sum (ts : List Tr) : PrH .sum [.lst (ts.map fun u => .int (u.size : Int))] (.int (sumT ts : Int)) := by
  constructor
  show ((ts.map fun u => D.int (u.size : Int)).mapM intOf).map _ = _
  have e : (ts.map fun u => D.int (u.size : Int)).mapM intOf = some (ts.map fun u => (u.size : Int)) := by
    induction ts with
    | nil => rfl
    | cons x l ih => simp [List.mapM_cons, ih, intOf]
  rw [e]
  show some (D.int _) = _
  congr 2
  induction ts with
  | nil => rfl
  | cons x l ih =>
    simp only [List.map_cons, List.sum_cons, sumT]
    rw [ih (by
      have := e
      simp only [List.map_cons, List.mapM_cons] at this
      cases h : (l.map fun u => D.int (u.size : Int)).mapM intOf with
      | none => rw [h] at this; cases this
      | some z => rw [h] at this; simp [intOf] at this; rw [this])]
    omega
theorem maxI_ok (m : Nat) (ts : List Tr) : maxI (m : Int) (ts.map fun u => (u.depth : Int)) = ((max m (maxT ts) : Nat) : Int) := by
  induction ts generalizing m with
  | nil => simp [maxI, maxT]
  | cons x l ih =>
    simp only [List.map_cons, maxI, maxT]
    by_cases h : (m : Int) < (x.depth : Int)
    · rw [if_pos h, ih]; omega
    · rw [if_neg h, ih]; omega
theorem pr_max (ts : List Tr) : PrH .maxL [.lst (.int 0 :: ts.map fun u => .int (u.depth : Int))] (.int (maxT ts : Int)) := by
  constructor
  have e : (ts.map fun u => D.int (u.depth : Int)).mapM intOf = some (ts.map fun u => (u.depth : Int)) := by
    induction ts with
    | nil => rfl
    | cons x l ih => simp [List.mapM_cons, ih, intOf]
  have e2 : (D.int 0 :: ts.map fun u => D.int (u.depth : Int)).mapM intOf = some (0 :: ts.map fun u => (u.depth : Int)) := by
    rw [List.mapM_cons, e]; rfl
  show (match (D.int 0 :: ts.map fun u => D.int (u.depth : Int)).mapM intOf with | some (x :: m) => some (D.int (maxI x m)) | _ => none) = _
  rw [e2]
  show some (D.int _) = _
  have := maxI_ok 0 ts
  rw [Nat.zero_max] at this
  rw [← this]
  rfl
theorem law_size_ok : ∀ (n : Nat) (t : Tr) (k : Nat) (st : Cup), t.depth ≤ n → n + 1 ≤ k → Rn k f_law_size [enc t] st (.int (t.size : Int)) st
  | 0, t, k, st, h, _ => by have := depth_pos t; omega
  | n + 1, t, k, st, h, hk => by
    obtain ⟨k, rfl⟩ : ∃ k', k = k' + 2 := ⟨k - 2, by omega⟩
    have hp := law_parts_ok t k st
    have g := pr_sum t.parts
    have g2 : OpH .add (.int 1) (.int (sumT t.parts : Int)) (.int (t.size : Int)) := ⟨by
      show some (D.int _) = _
      have := size_parts t
      congr 2
      omega⟩
    apply r_df df_law_size rfl
    · walk_at "st"
    · with_reducible apply x_cons
      · with_reducible apply x_ret
        with_reducible apply e_op
        · walk_at "e"
        · with_reducible apply e_pr
          · with_reducible apply e_cons
            · apply e_map (its := t.parts) (f := enc) (g := fun u => .int (u.size : Int))
              · walk_at "e"
              · walk_at "e"
              · exact ⟨rfl⟩
              · have := parts_len t; unfold sizeLine; omega
              · intro u hu
                have := law_size_ok n u (k + 1) st (by have := part_depth hu; omega) (by omega)
                exact ⟨_, rfl, by walk_at "e"⟩
            · walk_at "e"
          · walk_at "o"
        · walk_at "o"
      · walk_at "x"
    · rfl
theorem law_deep_ok : ∀ (n : Nat) (t : Tr) (k : Nat) (st : Cup), t.depth ≤ n → n + 1 ≤ k → Rn k f_law_deep [enc t] st (.int (t.depth : Int)) st
  | 0, t, k, st, h, _ => by have := depth_pos t; omega
  | n + 1, t, k, st, h, hk => by
    obtain ⟨k, rfl⟩ : ∃ k', k = k' + 2 := ⟨k - 2, by omega⟩
    have hp := law_parts_ok t k st
    have g := pr_max t.parts
    have g2 : OpH .add (.int 1) (.int (maxT t.parts : Int)) (.int (t.depth : Int)) := ⟨by
      show some (D.int _) = _
      have := depth_parts t
      congr 2
      omega⟩
    have g3 : OpH .add (.lst [.int 0]) (.lst (t.parts.map fun u => .int (u.depth : Int))) (.lst (.int 0 :: t.parts.map fun u => .int (u.depth : Int))) := op_lst (l := [.int 0]) (by have := parts_len t; unfold sizeLine; simp; omega)
    apply r_df df_law_deep rfl
    · walk_at "st"
    · with_reducible apply x_cons
      · with_reducible apply x_ret
        with_reducible apply e_op
        · walk_at "e"
        · with_reducible apply e_pr
          · with_reducible apply e_cons
            · with_reducible apply e_op
              · walk_at "e"
              · apply e_map (its := t.parts) (f := enc) (g := fun u => .int (u.depth : Int))
                · walk_at "e"
                · walk_at "e"
                · exact ⟨rfl⟩
                · have := parts_len t; unfold sizeLine; omega
                · intro u hu
                  have := law_deep_ok n u (k + 1) st (by have := part_depth hu; omega) (by omega)
                  exact ⟨_, rfl, by walk_at "e"⟩
              · exact g3
            · walk_at "e"
          · walk_at "o"
        · walk_at "o"
      · walk_at "x"
    · rfl
theorem law_fits_ok (t : Tr) (k : Nat) (st : Cup) (hk : t.depth + 2 ≤ k) : Rn k f_law_fits [enc t] st (.bl (decide (fitsT t))) st := by
  obtain ⟨k, rfl⟩ : ∃ k', k = k' + 1 := ⟨k - 1, by omega⟩
  have h1 := law_size_ok t.depth t k st (Nat.le_refl _) (by omega)
  have h2 := law_deep_ok t.depth t k st (Nat.le_refl _) (by omega)
  have c1 : CmH .le (.int (t.depth : Int)) (.int 60) (decide (t.depth ≤ 60)) := ⟨congrArg some (decide_eq_decide.mpr (by omega))⟩
  have c2 : CmH .le (.int (t.size : Int)) (.int 1000) (decide (t.size ≤ 1000)) := ⟨congrArg some (decide_eq_decide.mpr (by omega))⟩
  have e : (decide (t.depth ≤ 60) && decide (t.size ≤ 1000)) = decide (fitsT t) := by
    rw [← Bool.decide_and, decide_eq_decide]
    unfold fitsT
    omega
  apply r_df df_law_fits rfl
  · walk_at "st"
  · walk_at "x"
  · rw [← e]; rfl
end N57
end
section
set_option maxRecDepth 100000
set_option maxHeartbeats 4000000
namespace N57
open PySem
local macro_rules | `(tactic| walk_at "b") => `(tactic| first | rfl | assumption)
local macro_rules | `(tactic| walk_at "cm") => `(tactic| first | assumption | (with_reducible exact ne_nil) | (with_reducible exact eq_nil) | exact ⟨(rfl : _ = some true)⟩ | exact ⟨(rfl : _ = some false)⟩ | exact ⟨rfl⟩)
local macro_rules | `(tactic| walk_at "o") => `(tactic| first | assumption | (with_reducible exact ix_last) | exact ⟨rfl⟩)
local macro_rules | `(tactic| walk_at "sl") => `(tactic| first | assumption | exact sl_init | exact sl_t1 | exact sl_t2 | exact ⟨rfl⟩)
local macro_rules | `(tactic| walk_at "c") => `(tactic| first | assumption | (with_reducible exact parts_in_ok _ _ _) | (with_reducible exact law_parts_ok _ _ _) | (with_reducible exact is_done_ok _ _ _))
local macro_rules | `(tactic| walk_at "as") => `(tactic| (repeat' (first | apply AsR.slot | apply AsR.tup | apply AsR.cons | apply AsR.nil | apply SetR.s | apply SetR.z)))
local macro_rules | `(tactic| walk_at "st") => `(tactic| (repeat' (first | apply StR.some | apply StR.none | apply StR.nil)))
local macro_rules | `(tactic| walk_at "e") => `(tactic| first
  | ((with_reducible apply e_var); rfl)
  | (with_reducible exact e_con)
  | ((with_reducible apply e_cons); walk_at "e"; walk_at "e")
  | (with_reducible exact e_nil)
  | ((with_reducible apply e_glb); rfl)
  | ((with_reducible apply e_tup); walk_at "e")
  | ((with_reducible apply e_lst); walk_at "e")
  | ((with_reducible apply e_ix); walk_at "e"; walk_at "e"; walk_at "o")
  | ((with_reducible apply e_cmp); walk_at "e"; walk_at "e"; walk_at "cm")
  | ((with_reducible apply e_op); walk_at "e"; walk_at "e"; walk_at "o")
  | ((with_reducible apply e_call); walk_at "e"; walk_at "c")
  | ((with_reducible apply e_pr); walk_at "e"; walk_at "o")
  | ((with_reducible apply e_and); walk_at "e"; first | ((with_reducible apply andK_t); walk_at "b"; walk_at "e") | ((with_reducible apply andK_f); walk_at "b"; walk_at "b") | ((with_reducible apply andK_both); walk_at "e"; walk_at "b"))
  | ((with_reducible apply e_or); walk_at "e"; first | ((with_reducible apply orK_t); walk_at "b"; walk_at "b") | ((with_reducible apply orK_f); walk_at "b"; walk_at "e") | ((with_reducible apply orK_both); walk_at "e"; walk_at "b"))
  | ((with_reducible apply e_ite); walk_at "e"; first | ((with_reducible apply ifK_t); walk_at "b"; walk_at "e") | ((with_reducible apply ifK_f); walk_at "b"; walk_at "e"))
  | ((with_reducible apply e_not); walk_at "e"; walk_at "b")
  | ((with_reducible apply e_isN); walk_at "e"; walk_at "b")
  | ((with_reducible apply e_notN); walk_at "e"; walk_at "b")
  | ((with_reducible apply e_neg); walk_at "e"; walk_at "b")
  | ((with_reducible apply e_chain); walk_at "e"; walk_at "e"; walk_at "cm"; walk_at "e"; walk_at "cm"; walk_at "b")
  | ((with_reducible apply e_sl); walk_at "e"; walk_at "e"; rfl; walk_at "e"; rfl; walk_at "sl")
  | (with_reducible exact e_dic0)
  | ((with_reducible apply e_dicS); walk_at "e")
  | ((with_reducible apply e_cg); walk_at "e")
  | assumption)
local macro_rules | `(tactic| walk_at "f") => `(tactic| first
  | exact fm_nil
  | (apply fm_cons; walk_at "as"; walk_at "x"; walk_at "f")
  | (with_reducible exact fmK_rt)
  | ((with_reducible apply fmK_nx); walk_at "f")
  | assumption)
local macro_rules | `(tactic| walk_at "x") => `(tactic| first
  | (with_reducible exact x_nil)
  | ((with_reducible apply x_cons); walk_at "x"; walk_at "x")
  | ((with_reducible apply x_asg); walk_at "e"; walk_at "as")
  | ((with_reducible apply x_iff); walk_at "e"; walk_at "x")
  | ((with_reducible apply x_ret); walk_at "e")
  | ((with_reducible apply x_exp); walk_at "e")
  | ((with_reducible apply ifX_t); walk_at "b"; walk_at "x")
  | ((with_reducible apply ifX_f); walk_at "b"; walk_at "x")
  | ((with_reducible apply x_for); walk_at "e"; walk_at "e"; walk_at "o"; walk_at "f")
  | (with_reducible exact sqX_rt)
  | ((with_reducible apply sqX_nx); walk_at "x")
  | assumption)
local macro_rules | `(tactic| walk_at "1") => `(tactic| ((with_reducible apply x_cons); walk_at "x"; (with_reducible apply sqX_nx)))
/-! what a put part does to sizes -/
def Tr.uses : Tr → Nat
  | .amt _ => 0 | .use _ => 1 | .giv _ b => b.uses | .app a b => a.uses + b.uses | .hol _ a b => a.uses + b.uses | .rek _ a b => a.uses + b.uses | .tst a b c => a.uses + b.uses + c.uses
theorem uses_le (t : Tr) : t.uses ≤ t.size := by
  induction t <;> simp only [Tr.uses, Tr.size] <;> omega
theorem wth_set {t u : Tr} {i : Nat} (h : t.parts[i]? = some u) (x : Tr) : (t.wth (t.parts.set i x)).size + u.size = t.size + x.size ∧ (t.wth (t.parts.set i x)).uses + u.uses = t.uses + x.uses ∧
    (t.wth (t.parts.set i x)).depth ≤ max t.depth (x.depth + 1) ∧ (x.depth = u.depth → (t.wth (t.parts.set i x)).depth = t.depth) ∧ (t.good = true → x.good = true → (t.wth (t.parts.set i x)).good = true) ∧ (t.wth (t.parts.set i x)).done = t.done := by
  cases t with
  | amt _ => simp [Tr.parts] at h
  | use _ => simp [Tr.parts] at h
  | giv w b =>
    match i, h with
    | 0, h => cases h; simp [Tr.parts, Tr.wth, Tr.size, Tr.uses, Tr.depth, Tr.good, Tr.done]; refine ⟨by omega, by omega, by omega, ?_⟩; intro h1 _ h2; exact ⟨h1, h2⟩
    | n + 1, h => simp [Tr.parts] at h
  | app a b =>
    match i, h with
    | 0, h => cases h; simp [Tr.parts, Tr.wth, Tr.size, Tr.uses, Tr.depth, Tr.good, Tr.done]; refine ⟨by omega, by omega, by omega, by omega, ?_⟩; intro _ h1 h2; exact ⟨h2, h1⟩
    | 1, h => cases h; simp [Tr.parts, Tr.wth, Tr.size, Tr.uses, Tr.depth, Tr.good, Tr.done]; refine ⟨by omega, by omega, by omega, by omega, ?_⟩; intro h1 _ h2; exact ⟨h1, h2⟩
    | n + 2, h => simp [Tr.parts] at h
  | hol w a b =>
    match i, h with
    | 0, h => cases h; simp [Tr.parts, Tr.wth, Tr.size, Tr.uses, Tr.depth, Tr.good, Tr.done]; refine ⟨by omega, by omega, by omega, by omega, ?_⟩; intro h0 _ h1 h2; exact ⟨h0, h2, h1⟩
    | 1, h => cases h; simp [Tr.parts, Tr.wth, Tr.size, Tr.uses, Tr.depth, Tr.good, Tr.done]; refine ⟨by omega, by omega, by omega, by omega, ?_⟩; intro h0 h1 _ h2; exact ⟨h0, h1, h2⟩
    | n + 2, h => simp [Tr.parts] at h
  | rek o a b =>
    match i, h with
    | 0, h => cases h; simp [Tr.parts, Tr.wth, Tr.size, Tr.uses, Tr.depth, Tr.good, Tr.done]; refine ⟨by omega, by omega, by omega, by omega, ?_⟩; intro _ h1 h2; exact ⟨h2, h1⟩
    | 1, h => cases h; simp [Tr.parts, Tr.wth, Tr.size, Tr.uses, Tr.depth, Tr.good, Tr.done]; refine ⟨by omega, by omega, by omega, by omega, ?_⟩; intro h1 _ h2; exact ⟨h1, h2⟩
    | n + 2, h => simp [Tr.parts] at h
  | tst a b c =>
    match i, h with
    | 0, h => cases h; simp [Tr.parts, Tr.wth, Tr.size, Tr.uses, Tr.depth, Tr.good, Tr.done]; refine ⟨by omega, by omega, by omega, by omega, ?_⟩; intro _ h1 h3 h2; exact ⟨h2, h1, h3⟩
    | 1, h => cases h; simp [Tr.parts, Tr.wth, Tr.size, Tr.uses, Tr.depth, Tr.good, Tr.done]; refine ⟨by omega, by omega, by omega, by omega, ?_⟩; intro h1 _ h3 h2; exact ⟨h1, h2, h3⟩
    | 2, h => cases h; simp [Tr.parts, Tr.wth, Tr.size, Tr.uses, Tr.depth, Tr.good, Tr.done]; refine ⟨by omega, by omega, by omega, by omega, ?_⟩; intro h1 h3 _ h2; exact ⟨h1, h3, h2⟩
    | n + 3, h => simp [Tr.parts] at h
theorem putAt_facts : ∀ (p : List Nat) (t u o : Tr), t.at p = some u → (t.putAt p o).size + u.size = t.size + o.size ∧ (t.putAt p o).uses + u.uses = t.uses + o.uses ∧ (t.putAt p o).depth ≤ t.depth + o.depth ∧ (o.depth = u.depth → (t.putAt p o).depth = t.depth) ∧ (t.good = true → o.good = true → (t.putAt p o).good = true)
  | [], t, u, o, h => by
    cases h
    simp only [Tr.putAt]
    exact ⟨by omega, by omega, by omega, fun h => h, fun _ h => h⟩
  | i :: p, t, u, o, h => by
    unfold Tr.at at h
    split at h
    · rename_i v hv
      obtain ⟨h1, h2, h3, h4, h5⟩ := putAt_facts p v u o h
      obtain ⟨g1, g2, g3, g4, g5, _⟩ := wth_set hv (v.putAt p o)
      have hd := part_depth (List.mem_of_getElem? hv)
      simp only [Tr.putAt, hv]
      exact ⟨by omega, by omega, by omega, fun e => g4 (h4 e), fun a b => g5 a (h5 (good_parts a v (List.mem_of_getElem? hv)) b)⟩
    · cases h
theorem at_facts : ∀ (p : List Nat) (t u : Tr), t.at p = some u → u.size ≤ t.size ∧ u.depth + p.length ≤ t.depth ∧ u.uses ≤ t.uses ∧ (t.good = true → u.good = true)
  | [], t, u, h => by
    cases h
    exact ⟨by omega, by simp, by omega, fun h => h⟩
  | i :: p, t, u, h => by
    unfold Tr.at at h
    split at h
    · rename_i v hv
      obtain ⟨h1, h2, h3, h4⟩ := at_facts p v u h
      obtain ⟨g1, g2, _⟩ := wth_set hv (.amt 0)
      have hd := part_depth (List.mem_of_getElem? hv)
      have e1 : v.size + 1 ≤ t.size := by
        obtain ⟨z1, z2, _⟩ := wth_set hv v
        have := sum_parts t 0
        have : ∀ l : List Tr, v ∈ l → v.size ≤ sumS (l.map fun u => (u, 0)) := by
          intro l
          induction l with
          | nil => intro h; cases h
          | cons x l ih =>
            intro h
            rcases List.mem_cons.mp h with rfl | h
            · simp only [List.map_cons, sumS]; omega
            · have := ih h; simp only [List.map_cons, sumS]; omega
        have := this _ (List.mem_of_getElem? hv)
        omega
      rw [List.length_cons]
      refine ⟨by omega, by omega, ?_, fun a => h4 (good_parts a v (List.mem_of_getElem? hv))⟩
      have e2 : v.uses ≤ t.uses := by
        simp only [Tr.uses] at g2
        omega
      omega
    · cases h
theorem sub_depth (t : Tr) (w : Wd) (v : Tr) : (t.sub w v).depth ≤ t.depth + v.depth := by
  induction t with
  | amt i => simp only [Tr.sub, Tr.depth]; omega
  | use x => simp only [Tr.sub]; split <;> simp only [Tr.depth] <;> omega
  | giv x b ih => simp only [Tr.sub, Tr.depth]; split <;> omega
  | app a b iha ihb => simp only [Tr.sub, Tr.depth]; omega
  | hol x a b iha ihb => simp only [Tr.sub, Tr.depth]; split <;> omega
  | rek o a b iha ihb => simp only [Tr.sub, Tr.depth]; omega
  | tst a b c iha ihb ihc => simp only [Tr.sub, Tr.depth]; omega
theorem move_facts {t u : Tr} (h : t.move = .go u) : u.depth ≤ 2 * t.depth ∧ (t.good = true → u.good = true) := by
  unfold Tr.move at h
  split at h
  · cases h
    rename_i x b v
    have := sub_depth b x v
    refine ⟨by simp only [Tr.depth]; omega, fun hg => ?_⟩
    have h' := Bool.and_eq_true_iff.mp hg
    have h2 := Bool.and_eq_true_iff.mp h'.1
    exact sub_good h'.2 h2.2
  · cases h
  · cases h
    rename_i x a b
    have := sub_depth b x a
    refine ⟨by simp only [Tr.depth]; omega, fun hg => ?_⟩
    have h' := Bool.and_eq_true_iff.mp hg
    have h2 := Bool.and_eq_true_iff.mp h'.2
    exact sub_good h2.1 h2.2
  · split at h
    · cases h
      rename_i hb
      exact ⟨by simp only [Tr.depth]; omega, fun _ => hb⟩
    · cases h
  · cases h
  · split at h
    · cases h
      refine ⟨by simp only [Tr.depth]; omega, fun hg => ?_⟩
      have h' := Bool.and_eq_true_iff.mp hg
      exact (Bool.and_eq_true_iff.mp h'.2).2
    · cases h
      refine ⟨by simp only [Tr.depth]; omega, fun hg => ?_⟩
      have h' := Bool.and_eq_true_iff.mp hg
      exact (Bool.and_eq_true_iff.mp h'.2).1
  · cases h
  · cases h
theorem here_done (t : Tr) (h : t.done = false) : t.here.done = false := by
  generalize hn : t.size = n
  induction n using Nat.strongRecOn generalizing t with
  | _ n ih =>
    cases hf : t.fu with
    | none => rw [(turn_none hf).2]; exact h
    | some i =>
      obtain ⟨v, h1, h2, h3, h4⟩ := turn_some hf
      rw [h3]
      refine ih v.size (by omega) v ?_ rfl
      cases t with
      | app a b =>
        simp only [Tr.fu] at hf
        split at hf
        · split at hf
          · cases hf
          · cases hf; cases h1; simp_all
        · cases hf; cases h1; simp_all
      | rek o a b =>
        simp only [Tr.fu] at hf
        split at hf
        · split at hf
          · cases hf
          · cases hf; cases h1; simp_all
        · cases hf; cases h1; simp_all
      | hol w a b =>
        simp only [Tr.fu] at hf
        split at hf
        · cases hf
        · cases hf; cases h1; simp_all
      | tst a b c =>
        simp only [Tr.fu] at hf
        split at hf
        · cases hf
        · cases hf; cases h1; simp_all
      | _ => cases hf
/-! stores, ends -/
abbrev Sto := List (Wd × Int)
def stoD (s : Sto) : D := .tup (s.map fun p => .tup [.str p.1, .int p.2])
def celD (s : Sto) : D := .dS (s.map (·.1)) (s.map fun p => .int p.2)
def lk : Sto → Wd → Option Int
  | [], _ => none
  | p :: s, w => if natsEq w p.1 then some p.2 else lk s w
inductive Nd where | val (i : Int) | giv | stuck (w : Wd) | more
  deriving DecidableEq
abbrev sValue : Wd := [118, 97, 108, 117, 101]
abbrev sFree : Wd := [102, 114, 101, 101]
abbrev sMore : Wd := [109, 111, 114, 101]
def Nd.d : Nd → D
  | .val i => .tup [.str sValue, .int i]
  | .giv => .tup [.str sValue, .str sGiven]
  | .stuck w => .tup [.str sStuck, .str w]
  | .more => .tup [.str sMore]
def Tr.fin : Tr → Nd
  | .amt i => .val i
  | _ => .giv
def Tr.useW : Tr → Option Wd
  | .use w => some w
  | _ => none
/-- a tree worked out in a store -/
def wk (s : Sto) : Nat → Tr → Nat → Nd
  | 0, _, _ => .more
  | n + 1, t, m => if t.done then t.fin else match t.here.useW with
    | some w => match lk s w with
      | none => .stuck sFree
      | some i => wk s n (t.putAt t.turn (.amt i)) m
    | none => match t.here.move with
      | .stuck w => .stuck w
      | .go u => if fitsT (t.putAt t.turn u) then (if 400 < m + 1 then .more else wk s n (t.putAt t.turn u) (m + 1)) else .stuck sGreat
def wkF (s : Sto) (t : Tr) : Nd := wk s 500000 t 0
theorem nodupW_of {l : List Wd} (h : l.Nodup) : nodupW l = true := by
  induction l with
  | nil => rfl
  | cons x l ih =>
    rw [List.nodup_cons] at h
    simp only [nodupW, Bool.and_eq_true, Bool.not_eq_true', List.any_eq_false]
    refine ⟨fun y hy e => ?_, ih h.2⟩
    rw [natsEq_iff] at e
    subst e
    exact h.1 hy
theorem isSto_sto {s : Sto} (h : s ≠ []) : isSto (s.map fun p => D.tup [.str p.1, .int p.2]) = true := by
  cases s with
  | nil => exact absurd rfl h
  | cons p s =>
    simp only [List.map_cons, isSto, pairSI, Bool.true_and, List.all_eq_true, List.mem_map]
    rintro x ⟨q, _, rfl⟩
    rfl
theorem pr_dict {s : Sto} (hn : s ≠ []) (hd : (s.map (·.1)).Nodup) (hz : s.length ≤ 1000) : PrH .dict [stoD s] (celD s) := by
  constructor
  show (if isSto (s.map fun p => D.tup [.str p.1, .int p.2]) then _ else _) = _
  rw [if_pos (isSto_sto hn)]
  have e : (s.map fun p => D.tup [.str p.1, .int p.2]).mapM pairS = some (s.map fun p => (p.1, D.int p.2)) := by
    clear hn hd hz
    induction s with
    | nil => rfl
    | cons x l ih => simp [List.mapM_cons, ih, pairS]
  rw [e]
  show (if nodupW _ && fitsL _ then _ else _) = _
  have e1 : (s.map fun p => (p.1, D.int p.2)).map (·.1) = s.map (·.1) := by simp [List.map_map, Function.comp_def]
  have e2 : (s.map fun p => (p.1, D.int p.2)).map (·.2) = s.map fun p => D.int p.2 := by simp [List.map_map, Function.comp_def]
  rw [e1, e2, nodupW_of hd, if_pos (by rw [Bool.true_and]; exact fits_of (by simp; unfold sizeLine; omega))]
  rfl
theorem lk_some {s : Sto} {w : Wd} {i : Int} (h : lk s w = some i) : lookS (s.map (·.1)) (s.map fun p => D.int p.2) w = some (.int i) ∧ (s.map (·.1)).any (natsEq w) = true ∧ (w, i) ∈ s := by
  induction s with
  | nil => cases h
  | cons p s ih =>
    simp only [lk] at h
    split at h
    · rename_i e
      cases h
      refine ⟨by simp [lookS, e], by simp [e], ?_⟩
      rw [natsEq_iff] at e
      rw [e]; simp
    · rename_i e
      obtain ⟨h1, h2, h3⟩ := ih h
      refine ⟨by simpa [lookS, e] using h1, by simpa [e] using h2, by simp [h3]⟩
theorem lk_none {s : Sto} {w : Wd} (h : lk s w = none) : (s.map (·.1)).any (natsEq w) = false := by
  induction s with
  | nil => rfl
  | cons p s ih =>
    simp only [lk] at h
    split at h
    · cases h
    · rename_i e
      have := ih h
      simpa [e] using this
theorem cel_ix {s : Sto} {w : Wd} {i : Int} (h : lk s w = some i) : IxH (celD s) (.str w) (.int i) := ⟨(lk_some h).1⟩
theorem cel_in {s : Sto} {w : Wd} {i : Int} (h : lk s w = some i) : CmH .ninT (.str w) (celD s) false := ⟨by
  show (some _).map (!·) = _
  rw [(lk_some h).2.1]; rfl⟩
theorem cel_nin {s : Sto} {w : Wd} (h : lk s w = none) : CmH .ninT (.str w) (celD s) true := ⟨by
  show (some _).map (!·) = _
  rw [lk_none h]; rfl⟩
end N57
end
section
set_option maxRecDepth 100000
set_option maxHeartbeats 4000000
namespace N57
open PySem
local macro_rules | `(tactic| walk_at "b") => `(tactic| first | rfl | assumption)
local macro_rules | `(tactic| walk_at "cm") => `(tactic| first | assumption | (with_reducible exact ne_nil) | (with_reducible exact eq_nil) | exact ⟨(rfl : _ = some true)⟩ | exact ⟨(rfl : _ = some false)⟩ | exact ⟨rfl⟩)
local macro_rules | `(tactic| walk_at "o") => `(tactic| first | assumption | (with_reducible exact ix_last) | exact ⟨rfl⟩)
local macro_rules | `(tactic| walk_at "sl") => `(tactic| first | assumption | exact sl_init | exact sl_t1 | exact sl_t2 | exact ⟨rfl⟩)
local macro_rules | `(tactic| walk_at "c") => `(tactic| first | assumption | (with_reducible exact parts_in_ok _ _ _) | (with_reducible exact law_parts_ok _ _ _) | (with_reducible exact is_done_ok _ _ _))
local macro_rules | `(tactic| walk_at "as") => `(tactic| (repeat' (first | apply AsR.slot | apply AsR.tup | apply AsR.cons | apply AsR.nil | apply SetR.s | apply SetR.z)))
local macro_rules | `(tactic| walk_at "st") => `(tactic| (repeat' (first | apply StR.some | apply StR.none | apply StR.nil)))
local macro_rules | `(tactic| walk_at "e") => `(tactic| first
  | ((with_reducible apply e_var); rfl)
  | (with_reducible exact e_con)
  | ((with_reducible apply e_cons); walk_at "e"; walk_at "e")
  | (with_reducible exact e_nil)
  | ((with_reducible apply e_glb); rfl)
  | ((with_reducible apply e_tup); walk_at "e")
  | ((with_reducible apply e_lst); walk_at "e")
  | ((with_reducible apply e_ix); walk_at "e"; walk_at "e"; walk_at "o")
  | ((with_reducible apply e_cmp); walk_at "e"; walk_at "e"; walk_at "cm")
  | ((with_reducible apply e_op); walk_at "e"; walk_at "e"; walk_at "o")
  | ((with_reducible apply e_call); walk_at "e"; walk_at "c")
  | ((with_reducible apply e_pr); walk_at "e"; walk_at "o")
  | ((with_reducible apply e_and); walk_at "e"; first | ((with_reducible apply andK_t); walk_at "b"; walk_at "e") | ((with_reducible apply andK_f); walk_at "b"; walk_at "b") | ((with_reducible apply andK_both); walk_at "e"; walk_at "b"))
  | ((with_reducible apply e_or); walk_at "e"; first | ((with_reducible apply orK_t); walk_at "b"; walk_at "b") | ((with_reducible apply orK_f); walk_at "b"; walk_at "e") | ((with_reducible apply orK_both); walk_at "e"; walk_at "b"))
  | ((with_reducible apply e_ite); walk_at "e"; first | ((with_reducible apply ifK_t); walk_at "b"; walk_at "e") | ((with_reducible apply ifK_f); walk_at "b"; walk_at "e"))
  | ((with_reducible apply e_not); walk_at "e"; walk_at "b")
  | ((with_reducible apply e_isN); walk_at "e"; walk_at "b")
  | ((with_reducible apply e_notN); walk_at "e"; walk_at "b")
  | ((with_reducible apply e_neg); walk_at "e"; walk_at "b")
  | ((with_reducible apply e_chain); walk_at "e"; walk_at "e"; walk_at "cm"; walk_at "e"; walk_at "cm"; walk_at "b")
  | ((with_reducible apply e_sl); walk_at "e"; walk_at "e"; rfl; walk_at "e"; rfl; walk_at "sl")
  | (with_reducible exact e_dic0)
  | ((with_reducible apply e_dicS); walk_at "e")
  | ((with_reducible apply e_cg); walk_at "e")
  | assumption)
local macro_rules | `(tactic| walk_at "f") => `(tactic| first
  | exact fm_nil
  | (apply fm_cons; walk_at "as"; walk_at "x"; walk_at "f")
  | (with_reducible exact fmK_rt)
  | ((with_reducible apply fmK_nx); walk_at "f")
  | assumption)
local macro_rules | `(tactic| walk_at "x") => `(tactic| first
  | (with_reducible exact x_nil)
  | ((with_reducible apply x_cons); walk_at "x"; walk_at "x")
  | ((with_reducible apply x_asg); walk_at "e"; walk_at "as")
  | ((with_reducible apply x_iff); walk_at "e"; walk_at "x")
  | ((with_reducible apply x_ret); walk_at "e")
  | ((with_reducible apply x_exp); walk_at "e")
  | ((with_reducible apply ifX_t); walk_at "b"; walk_at "x")
  | ((with_reducible apply ifX_f); walk_at "b"; walk_at "x")
  | ((with_reducible apply x_for); walk_at "e"; walk_at "e"; walk_at "o"; walk_at "f")
  | (with_reducible exact sqX_rt)
  | ((with_reducible apply sqX_nx); walk_at "x")
  | assumption)
local macro_rules | `(tactic| walk_at "1") => `(tactic| ((with_reducible apply x_cons); walk_at "x"; (with_reducible apply sqX_nx)))
/-! trees worked out in stores -/
theorem xs_to {k : Nat} {t : Sm} {ρ : Ev} {st s1 : Cup} {o o' : Out} (h : XS k t ρ st o s1) (e : o = o') : XS k t ρ st o' s1 := e ▸ h
theorem head_use (a : Tr) : ∃ h, IxH (enc a) (.int 0) (.str h) ∧ CmH .eq (.str h) (.str sUse) a.useW.isSome := by
  cases a <;> exact ⟨_, ⟨rfl⟩, ⟨rfl⟩⟩
theorem useW_some {t : Tr} {w : Wd} (h : t.useW = some w) : t = .use w := by
  cases t <;> first | (cases h; rfl) | cases h
theorem useW_none {t : Tr} (h : t.useW = none) : ∀ w, t ≠ .use w := fun w e => by subst e; cases h
abbrev wkM (t : Tr) (many : Nat) : Nat := (401 - many) * 1001 + t.uses
def WkInv (s : Sto) (R : Nd) (m : Nat) (ρ : Ev) : Prop := ∃ t : Tr, ∃ asked : List D, ∃ many : Nat, ∃ o5 o6 o7 o8, ρ = [some (stoD s), some (enc t), some (celD s), some (.lst asked), some (.int many), o5, o6, o7, o8] ∧ t.good = true ∧ fitsT t ∧ many ≤ 400 ∧ m = wkM t many ∧ asked.length + m ≤ 500000 ∧ ∃ n, m ≤ n ∧ wk s n t many = R
def WkPost (s : Sto) (R : Nd) (o : Out) : Prop := (∃ t : Tr, ∃ asked : List D, ∃ many : Nat, ∃ o5 o6 o7 o8, o = .nx [some (stoD s), some (enc t), some (celD s), some (.lst asked), some (.int many), o5, o6, o7, o8] ∧ t.done = true ∧ R = t.fin) ∨ ∃ asked : List D, o = .rt (.tup [R.d, .lst asked])
theorem wk_loop (s : Sto) (hs : ∀ p ∈ s, amtB p.2 = true) (R : Nd) (k : Nat) (st : Cup) {m : Nat} {ρ : Ev} (hm : m < turns) (hi : WkInv s R m ρ) : ∃ o, WM (k + 64) b_worked_in_L0c b_worked_in_L0b turns ρ st o st ∧ WkPost s R o := by
  refine wm_post (WkInv s R) (WkPost s R) ?_ turns m ρ hm hi
  rintro m ρ ⟨t, asked, many, o5, o6, o7, o8, rfl, hg, hf, hmany, rfl, hask, n, hn, hR⟩
  have d1 := done_ok t (k + 63) st
  cases hd : t.done
  · right
    rw [hd] at d1
    obtain ⟨n, rfl⟩ : ∃ n', n = n' + 1 := ⟨n - 1, by unfold wkM at hn; omega⟩
    have hz : t.size ≤ 100000 := by have := hf.1; omega
    have t1 := turn_of_ok t hz (k + 61) st
    obtain ⟨a1, a2⟩ := turn_at t
    obtain ⟨f1, f2, f3, f4⟩ := at_facts _ _ _ a1
    have hgh := f4 hg
    have hul := uses_le t
    unfold wk at hR
    rw [hd] at hR
    simp only [Bool.false_eq_true, if_false] at hR
    refine ⟨by walk_at "e", ?_⟩
    cases hu : t.here.useW with
    | some w =>
      rw [hu] at hR
      simp only at hR
      have he := useW_some hu
      rw [he] at a1 t1
      cases hl : lk s w with
      | none =>
        left
        rw [hl] at hR
        have c1 := cel_nin hl
        refine ⟨.tup [R.d, .lst asked], ?_, .inr ⟨asked, rfl⟩⟩
        apply xs_to
        · walk_at "x"
        · rw [← hR]; rfl
      | some i =>
        right
        rw [hl] at hR
        simp only at hR
        have c1 := cel_in hl
        have c2 := cel_ix hl
        have r1 := rebuilt_ok t (.use w) (.amt i) t.turn a1 (by have := hf.2; omega) (k + 61) st
        have g1 : OpH .add (.lst asked) (.lst [.str w]) (.lst (asked ++ [.str w])) := op_lst (by unfold wkM at hask; unfold sizeLine; simp; omega)
        obtain ⟨p1, p2, p3, p4, p5⟩ := putAt_facts _ _ _ (.amt i) a1
        have p4 := p4 rfl
        simp only [Tr.size, Tr.uses] at p1 p2
        refine ⟨_, wkM (t.putAt t.turn (.amt i)) many, ?_, ?_, t.putAt t.turn (.amt i), asked ++ [.str w], many, some (pth t.turn), some (enc (.use w)), some (.str w), o8, rfl, ?_, ⟨by omega, by omega⟩, hmany, rfl, ?_, n, ?_, hR⟩
        · walk_at "x"
        · unfold wkM; omega
        · exact p5 hg (hs _ (lk_some hl).2.2)
        · unfold wkM at *; simp; omega
        · unfold wkM at *; omega
    | none =>
      rw [hu] at hR
      simp only at hR
      obtain ⟨hh, i1, c1⟩ := head_use t.here
      rw [hu] at c1
      simp only [Option.isSome_none] at c1
      have own : Own t.here := ⟨a2, here_done t hd, useW_none hu⟩
      have m1 := done_here_ok t.here hgh own (k + 64) st (by have := hf.2; omega)
      cases hmv : t.here.move with
      | stuck w =>
        left
        rw [hmv] at hR m1
        simp only at hR
        refine ⟨.tup [R.d, .lst asked], ?_, .inr ⟨asked, rfl⟩⟩
        apply xs_to
        · walk_at "x"
        · rw [← hR]; rfl
      | go u =>
        rw [hmv] at hR m1
        simp only at hR
        obtain ⟨u1, u2⟩ := move_facts hmv
        have r1 := rebuilt_ok t t.here u t.turn a1 (by have := hf.2; omega) (k + 61) st
        obtain ⟨p1, p2, p3, p4, p5⟩ := putAt_facts _ _ _ u a1
        have hg' := p5 hg (u2 hgh)
        have m2 := measured_ok (t.putAt t.turn u) hg' (k + 59) st
        have q1 : OpH .add (.int many) (.int 1) (.int ((many + 1 : Nat) : Int)) := ⟨rfl⟩
        unfold mesD at m2
        by_cases hft : fitsT (t.putAt t.turn u)
        · rw [if_pos hft] at hR m2
          by_cases h4 : 400 < many + 1
          · left
            rw [if_pos h4] at hR
            have c2 : CmH .gt (.int ((many + 1 : Nat) : Int)) (.int 400) true := ⟨congrArg some (decide_eq_true (by omega))⟩
            refine ⟨.tup [R.d, .lst asked], ?_, .inr ⟨asked, rfl⟩⟩
            apply xs_to
            · walk_at "x"
            · rw [← hR]; rfl
          · right
            rw [if_neg h4] at hR
            have c2 : CmH .gt (.int ((many + 1 : Nat) : Int)) (.int 400) false := ⟨congrArg some (decide_eq_false (by omega))⟩
            have hul' := uses_le (t.putAt t.turn u)
            have hf1 := hft.1
            refine ⟨_, wkM (t.putAt t.turn u) (many + 1), ?_, ?_, t.putAt t.turn u, asked, many + 1, some (pth t.turn), some (enc t.here), o7, some (Stp.go u).d, rfl, hg', hft, by omega, rfl, ?_, n, ?_, hR⟩
            · walk_at "x"
            · unfold wkM; omega
            · unfold wkM at *; omega
            · unfold wkM at *; omega
        · left
          rw [if_neg hft] at hR m2
          refine ⟨.tup [R.d, .lst asked], ?_, .inr ⟨asked, rfl⟩⟩
          apply xs_to
          · walk_at "x"
          · rw [← hR]; rfl
  · left
    rw [hd] at d1
    obtain ⟨n, rfl⟩ : ∃ n', n = n' + 1 := ⟨n - 1, by unfold wkM at hn; omega⟩
    unfold wk at hR
    rw [hd] at hR
    simp only [if_true] at hR
    exact ⟨by walk_at "e", .inl ⟨t, asked, many, o5, o6, o7, o8, rfl, hd, hR.symm⟩⟩

theorem worked_in_ok (s : Sto) (hs : ∀ p ∈ s, amtB p.2 = true) (hn : s ≠ []) (hd : (s.map (·.1)).Nodup) (hz : s.length ≤ 1000) (t : Tr) (hg : t.good = true) (hf : fitsT t) (k : Nat) (st : Cup) : ∃ asked : List D, Rn (k + 65) f_worked_in [stoD s, enc t] st (.tup [(wkF s t).d, .lst asked]) st := by
  have hu := uses_le t
  have hf1 := hf.1
  obtain ⟨o, hw, hp⟩ := wk_loop s hs (wkF s t) k st (m := wkM t 0) (ρ := [some (stoD s), some (enc t), some (celD s), some (.lst []), some (.int (0 : Nat)), none, none, none, none]) (by unfold turns wkM; omega)
    ⟨t, [], 0, none, none, none, none, rfl, hg, hf, by omega, rfl, by unfold wkM; simp; omega, 500000, by unfold wkM; omega, rfl⟩
  have p1 := pr_dict hn hd hz
  rcases hp with ⟨t', asked, many, o5, o6, o7, o8, rfl, hd', hR⟩ | ⟨asked, rfl⟩
  · refine ⟨asked, ?_⟩
    rw [hR]
    cases t' <;> first | (cases hd'; done) | skip
    · apply r_df df_worked_in rfl
      · walk_at "st"
      · walk_at "1"
        with_reducible apply x_cons
        · exact x_whl hw
        walk_at "x"
      · rfl
    · apply r_df df_worked_in rfl
      · walk_at "st"
      · walk_at "1"
        with_reducible apply x_cons
        · exact x_whl hw
        walk_at "x"
      · rfl
  · refine ⟨asked, ?_⟩
    apply r_df df_worked_in rfl
    · walk_at "st"
    · walk_at "1"
      with_reducible apply x_cons
      · exact x_whl hw
      walk_at "x"
    · rfl
end N57
end
section
set_option maxRecDepth 100000
set_option maxHeartbeats 4000000
namespace N57
open PySem
local macro_rules | `(tactic| walk_at "b") => `(tactic| first | rfl | assumption)
local macro_rules | `(tactic| walk_at "cm") => `(tactic| first | assumption | (with_reducible exact ne_nil) | (with_reducible exact eq_nil) | exact ⟨(rfl : _ = some true)⟩ | exact ⟨(rfl : _ = some false)⟩ | exact ⟨rfl⟩)
local macro_rules | `(tactic| walk_at "o") => `(tactic| first | assumption | (with_reducible exact ix_last) | exact ⟨rfl⟩)
local macro_rules | `(tactic| walk_at "sl") => `(tactic| first | assumption | exact sl_init | exact sl_t1 | exact sl_t2 | exact ⟨rfl⟩)
local macro_rules | `(tactic| walk_at "c") => `(tactic| first | assumption | (with_reducible exact parts_in_ok _ _ _) | (with_reducible exact law_parts_ok _ _ _) | (with_reducible exact is_done_ok _ _ _))
local macro_rules | `(tactic| walk_at "as") => `(tactic| (repeat' (first | apply AsR.slot | apply AsR.tup | apply AsR.cons | apply AsR.nil | apply SetR.s | apply SetR.z)))
local macro_rules | `(tactic| walk_at "st") => `(tactic| (repeat' (first | apply StR.some | apply StR.none | apply StR.nil)))
local macro_rules | `(tactic| walk_at "e") => `(tactic| first
  | ((with_reducible apply e_var); rfl)
  | (with_reducible exact e_con)
  | ((with_reducible apply e_cons); walk_at "e"; walk_at "e")
  | (with_reducible exact e_nil)
  | ((with_reducible apply e_glb); rfl)
  | ((with_reducible apply e_tup); walk_at "e")
  | ((with_reducible apply e_lst); walk_at "e")
  | ((with_reducible apply e_ix); walk_at "e"; walk_at "e"; walk_at "o")
  | ((with_reducible apply e_cmp); walk_at "e"; walk_at "e"; walk_at "cm")
  | ((with_reducible apply e_op); walk_at "e"; walk_at "e"; walk_at "o")
  | ((with_reducible apply e_call); walk_at "e"; walk_at "c")
  | ((with_reducible apply e_pr); walk_at "e"; walk_at "o")
  | ((with_reducible apply e_and); walk_at "e"; first | ((with_reducible apply andK_t); walk_at "b"; walk_at "e") | ((with_reducible apply andK_f); walk_at "b"; walk_at "b") | ((with_reducible apply andK_both); walk_at "e"; walk_at "b"))
  | ((with_reducible apply e_or); walk_at "e"; first | ((with_reducible apply orK_t); walk_at "b"; walk_at "b") | ((with_reducible apply orK_f); walk_at "b"; walk_at "e") | ((with_reducible apply orK_both); walk_at "e"; walk_at "b"))
  | ((with_reducible apply e_ite); walk_at "e"; first | ((with_reducible apply ifK_t); walk_at "b"; walk_at "e") | ((with_reducible apply ifK_f); walk_at "b"; walk_at "e"))
  | ((with_reducible apply e_not); walk_at "e"; walk_at "b")
  | ((with_reducible apply e_isN); walk_at "e"; walk_at "b")
  | ((with_reducible apply e_notN); walk_at "e"; walk_at "b")
  | ((with_reducible apply e_neg); walk_at "e"; walk_at "b")
  | ((with_reducible apply e_chain); walk_at "e"; walk_at "e"; walk_at "cm"; walk_at "e"; walk_at "cm"; walk_at "b")
  | ((with_reducible apply e_sl); walk_at "e"; walk_at "e"; rfl; walk_at "e"; rfl; walk_at "sl")
  | (with_reducible exact e_dic0)
  | ((with_reducible apply e_dicS); walk_at "e")
  | ((with_reducible apply e_cg); walk_at "e")
  | assumption)
local macro_rules | `(tactic| walk_at "f") => `(tactic| first
  | exact fm_nil
  | (apply fm_cons; walk_at "as"; walk_at "x"; walk_at "f")
  | (with_reducible exact fmK_rt)
  | ((with_reducible apply fmK_nx); walk_at "f")
  | assumption)
local macro_rules | `(tactic| walk_at "x") => `(tactic| first
  | (with_reducible exact x_nil)
  | ((with_reducible apply x_cons); walk_at "x"; walk_at "x")
  | ((with_reducible apply x_asg); walk_at "e"; walk_at "as")
  | ((with_reducible apply x_iff); walk_at "e"; walk_at "x")
  | ((with_reducible apply x_ret); walk_at "e")
  | ((with_reducible apply x_exp); walk_at "e")
  | ((with_reducible apply ifX_t); walk_at "b"; walk_at "x")
  | ((with_reducible apply ifX_f); walk_at "b"; walk_at "x")
  | ((with_reducible apply x_for); walk_at "e"; walk_at "e"; walk_at "o"; walk_at "f")
  | (with_reducible exact sqX_rt)
  | ((with_reducible apply sqX_nx); walk_at "x")
  | assumption)
local macro_rules | `(tactic| walk_at "1") => `(tactic| ((with_reducible apply x_cons); walk_at "x"; (with_reducible apply sqX_nx)))
/-! the law's own way to work out -/
theorem dedupW_sub : ∀ {l : List Wd} {x : Wd}, x ∈ dedupW l → x ∈ l
  | [], _, h => by cases h
  | y :: l, x, h => by
    simp only [dedupW] at h
    split at h
    · exact List.mem_cons_of_mem _ (dedupW_sub h)
    · rcases List.mem_cons.mp h with rfl | h
      · exact List.mem_cons_self ..
      · exact List.mem_cons_of_mem _ (dedupW_sub h)
theorem dedupW_nodup : ∀ l : List Wd, (dedupW l).Nodup
  | [] => List.nodup_nil
  | y :: l => by
    simp only [dedupW]
    split
    · exact dedupW_nodup l
    · rename_i h
      rw [List.nodup_cons]
      refine ⟨fun hy => ?_, dedupW_nodup l⟩
      have := dedupW_sub hy
      simp only [Bool.not_eq_true, List.any_eq_false] at h
      have h1 := h y this
      rw [natsEq_iff.mpr rfl] at h1
      cases h1
theorem len_sub : ∀ {l ks : List Wd}, l.Nodup → (∀ x ∈ l, x ∈ ks) → l.length ≤ ks.length
  | [], ks, _, _ => by simp
  | x :: l, ks, hn, hs => by
    rw [List.nodup_cons] at hn
    have hx := hs x (List.mem_cons_self ..)
    have := len_sub (l := l) (ks := ks.erase x) hn.2 fun y hy => (List.mem_erase_of_ne (fun (e : y = x) => hn.1 (by rw [← e]; exact hy))).mpr (hs y (List.mem_cons_of_mem _ hy))
    rw [List.length_erase_of_mem hx] at this
    have := List.length_pos_of_mem hx
    rw [List.length_cons]
    omega
theorem mapM_strP (l : List Wd) : (l.map D.str).mapM strOf = some l := by
  induction l with
  | nil => rfl
  | cons x l ih => simp [List.mapM_cons, ih, strOf]
theorem pr_sortS {l : List Wd} (h : (dedupW l).length < 64) : PrH .sortS [.lst (l.map .str)] (.lst ((sortBy ltW (dedupW l)).map .str)) := by
  constructor
  show ((l.map D.str).mapM strOf).bind _ = _
  rw [mapM_strP]
  show (if Nat.blt (dedupW l).length 64 then _ else _) = _
  rw [if_pos (by rw [Nat.blt_eq]; exact h)]
theorem isi_enc (u : Tr) : PrH (.isi "str") [enc u] (.bl false) := by
  cases u <;> exact ⟨rfl⟩
def LwInv (s : Sto) (R : Nd) (m : Nat) (ρ : Ev) : Prop := ∃ t : Tr, ∃ l : List Wd, ∃ many : Nat, ∃ o4 o5 o6, ρ = [some (celD s), some (enc t), some (.lst (l.map .str)), some (.int many), o4, o5, o6] ∧ t.good = true ∧ fitsT t ∧ (∀ x ∈ l, x ∈ s.map (·.1)) ∧ m = wkM t many ∧ l.length + m ≤ 500000 ∧
  ((many ≤ 400 ∧ ∃ n, m ≤ n ∧ wk s n t many = R) ∨ (many = 401 ∧ R = .more))
def LwPost (s : Sto) (R : Nd) (o : Out) : Prop := (∃ t : Tr, ∃ l : List Wd, ∃ many : Nat, ∃ o4 o5 o6, o = .nx [some (celD s), some (enc t), some (.lst (l.map .str)), some (.int many), o4, o5, o6] ∧ (∀ x ∈ l, x ∈ s.map (·.1)) ∧ ((many ≤ 400 ∧ t.done = true ∧ R = t.fin) ∨ (many = 401 ∧ R = .more))) ∨ ∃ r, o = .rt (.tup [R.d, r])
theorem lw_loop (s : Sto) (hs : ∀ p ∈ s, amtB p.2 = true) (hz : s.length < 64) (R : Nd) (k : Nat) (st : Cup) {m : Nat} {ρ : Ev} (hm : m < turns) (hi : LwInv s R m ρ) : ∃ o, WM (k + 200) b_law_worked_out_L0c b_law_worked_out_L0b turns ρ st o st ∧ LwPost s R o := by
  refine wm_post (LwInv s R) (LwPost s R) ?_ turns m ρ hm hi
  rintro m ρ ⟨t, l, many, o4, o5, o6, rfl, hg, hf, hl, rfl, hask, hR⟩
  obtain ⟨hh, i1, c1⟩ := head_ix t
  rcases hR with ⟨hmany, n, hn, hR⟩ | ⟨hmany, hR⟩
  case inr =>
    left
    have c2 : CmH .le (.int (many : Int)) (.int 400) false := ⟨congrArg some (decide_eq_false (by omega))⟩
    refine ⟨?_, .inl ⟨t, l, many, o4, o5, o6, rfl, hl, .inr ⟨hmany, hR⟩⟩⟩
    cases hd : t.done <;> rw [hd] at c1 <;> walk_at "e"
  have c2 : CmH .le (.int (many : Int)) (.int 400) true := ⟨congrArg some (decide_eq_true (by omega))⟩
  obtain ⟨n, rfl⟩ : ∃ n', n = n' + 1 := ⟨n - 1, by unfold wkM at hn; omega⟩
  unfold wk at hR
  cases hd : t.done
  case true =>
    left
    rw [hd] at hR c1
    simp only [if_true] at hR
    exact ⟨by walk_at "e", .inl ⟨t, l, many, o4, o5, o6, rfl, hl, .inl ⟨hmany, hd, hR.symm⟩⟩⟩
  right
  rw [hd] at hR c1
  simp only [Bool.false_eq_true, if_false] at hR
  refine ⟨by walk_at "e", ?_⟩
  clear i1 c1 c2 hh
  have hd2 := hf.2
  have t1 := law_turn_ok t (k + 200) st (by omega) (by omega)
  obtain ⟨a1, a2⟩ := turn_at t
  obtain ⟨f1, f2, f3, f4⟩ := at_facts _ _ _ a1
  have t2 := there_ok t t.here t.turn a1 (k + 198) st
  have hgh := f4 hg
  have hul := uses_le t
  have s1 := pr_sortS (l := l) (Nat.lt_of_le_of_lt (len_sub (dedupW_nodup l) fun x hx => hl x (dedupW_sub hx)) (by simpa using hz))
  cases hu : t.here.useW with
  | some w =>
    rw [hu] at hR
    simp only at hR
    have he := useW_some hu
    rw [he] at a1 t2
    cases hlk : lk s w with
    | none =>
      left
      rw [hlk] at hR
      have c1 := cel_nin hlk
      refine ⟨_, ?_, .inr ⟨.lst ((sortBy ltW (dedupW l)).map .str), rfl⟩⟩
      apply xs_to
      · walk_at "x"
      · rw [← hR]; rfl
    | some i =>
      right
      rw [hlk] at hR
      simp only at hR
      have c1 := cel_in hlk
      have c2 := cel_ix hlk
      have g1 : OpH .add (.lst (l.map .str)) (.lst [.str w]) (.lst ((l ++ [w]).map .str)) := by
        rw [List.map_append]
        exact op_lst (by unfold wkM at hask; unfold sizeLine; simp; omega)
      have r1 := law_rebuilt_ok (.amt i) (.use w) t.turn t a1 (k + 200) st (by omega)
      obtain ⟨p1, p2, p3, p4, p5⟩ := putAt_facts _ _ _ (.amt i) a1
      have p4 := p4 rfl
      simp only [Tr.size, Tr.uses] at p1 p2
      have hft : fitsT (t.putAt t.turn (.amt i)) := ⟨by have := hf.1; omega, by omega⟩
      have m2 := law_fits_ok (t.putAt t.turn (.amt i)) (k + 200) st (by omega)
      rw [decide_eq_true hft] at m2
      refine ⟨_, wkM (t.putAt t.turn (.amt i)) many, ?_, ?_, t.putAt t.turn (.amt i), l ++ [w], many, some (pth t.turn), some (enc (.use w)), some (enc (.amt i)), rfl, p5 hg (hs _ (lk_some hlk).2.2), hft, ?_, rfl, ?_, .inl ⟨hmany, n, ?_, hR⟩⟩
      · apply xs_to
        · walk_at "x"
        · rfl
      · unfold wkM; omega
      · intro x hx
        rcases List.mem_append.mp hx with hx | hx
        · exact hl x hx
        · rw [List.mem_singleton] at hx
          subst hx
          exact List.mem_map_of_mem (lk_some hlk).2.2
      · unfold wkM at *; simp; omega
      · unfold wkM at *; omega
  | none =>
    rw [hu] at hR
    simp only at hR
    obtain ⟨hh, i1, c1⟩ := head_use t.here
    rw [hu] at c1
    simp only [Option.isSome_none] at c1
    have own : Own t.here := ⟨a2, here_done t hd, useW_none hu⟩
    have m1 := law_moved_ok t.here hgh own (k + 200) st (by omega)
    have q1 : OpH .add (.int many) (.int 1) (.int ((many + 1 : Nat) : Int)) := ⟨rfl⟩
    cases hmv : t.here.move with
    | stuck w =>
      left
      rw [hmv] at hR m1
      simp only at hR
      refine ⟨_, ?_, .inr ⟨.lst ((sortBy ltW (dedupW l)).map .str), rfl⟩⟩
      apply xs_to
      · walk_at "x"
      · rw [← hR]; rfl
    | go u =>
      rw [hmv] at hR m1
      simp only at hR
      have m1 : Rn (k + 200) f_law_moved [enc t.here] st (enc u) st := m1
      obtain ⟨u1, u2⟩ := move_facts hmv
      have i2 := isi_enc u
      have r1 := law_rebuilt_ok u t.here t.turn t a1 (k + 200) st (by omega)
      obtain ⟨p1, p2, p3, p4, p5⟩ := putAt_facts _ _ _ u a1
      have hg' := p5 hg (u2 hgh)
      have m2 := law_fits_ok (t.putAt t.turn u) (k + 200) st (by omega)
      by_cases hft : fitsT (t.putAt t.turn u)
      · right
        rw [if_pos hft] at hR
        rw [decide_eq_true hft] at m2
        have hul' := uses_le (t.putAt t.turn u)
        have hf1 := hft.1
        refine ⟨_, wkM (t.putAt t.turn u) (many + 1), ?_, ?_, t.putAt t.turn u, l, many + 1, some (pth t.turn), some (enc t.here), some (enc u), rfl, hg', hft, hl, rfl, ?_, ?_⟩
        · walk_at "x"
        · unfold wkM; omega
        · unfold wkM at *; omega
        · by_cases h4 : 400 < many + 1
          · rw [if_pos h4] at hR
            exact .inr ⟨by omega, hR.symm⟩
          · rw [if_neg h4] at hR
            exact .inl ⟨by omega, n, by unfold wkM at *; omega, hR⟩
      · left
        rw [if_neg hft] at hR
        rw [decide_eq_false hft] at m2
        refine ⟨_, ?_, .inr ⟨.lst ((sortBy ltW (dedupW l)).map .str), rfl⟩⟩
        apply xs_to
        · walk_at "x"
        · rw [← hR]; rfl
theorem law_worked_ok (s : Sto) (hs : ∀ p ∈ s, amtB p.2 = true) (hz : s.length < 64) (t : Tr) (hg : t.good = true) (hf : fitsT t) (k : Nat) (st : Cup) : ∃ r : D, Rn (k + 201) f_law_worked_out [celD s, enc t] st (.tup [(wkF s t).d, r]) st := by
  have hu := uses_le t
  have hf1 := hf.1
  obtain ⟨o, hw, hp⟩ := lw_loop s hs hz (wkF s t) k st (m := wkM t 0) (ρ := [some (celD s), some (enc t), some (.lst (([] : List Wd).map .str)), some (.int (0 : Nat)), none, none, none]) (by unfold turns wkM; omega)
    ⟨t, [], 0, none, none, none, rfl, hg, hf, by simp, rfl, by unfold wkM; simp; omega, .inl ⟨by omega, 500000, by unfold wkM; omega, rfl⟩⟩
  rcases hp with ⟨t', l, many, o4, o5, o6, rfl, hl, hR⟩ | ⟨r, rfl⟩
  · have s1 := pr_sortS (l := l) (Nat.lt_of_le_of_lt (len_sub (dedupW_nodup l) fun x hx => hl x (dedupW_sub hx)) (by simpa using hz))
    refine ⟨.lst ((sortBy ltW (dedupW l)).map .str), ?_⟩
    rcases hR with ⟨hm, hd, hR⟩ | ⟨hm, hR⟩
    · have c2 : CmH .gt (.int (many : Int)) (.int 400) false := ⟨congrArg some (decide_eq_false (by omega))⟩
      rw [hR]
      cases t' <;> first | (cases hd; done) | skip
      · apply r_df df_law_worked_out rfl
        · walk_at "st"
        · walk_at "1"
          with_reducible apply x_cons
          · exact x_whl hw
          walk_at "x"
        · rfl
      · apply r_df df_law_worked_out rfl
        · walk_at "st"
        · walk_at "1"
          with_reducible apply x_cons
          · exact x_whl hw
          walk_at "x"
        · rfl
    · have c2 : CmH .gt (.int (many : Int)) (.int 400) true := ⟨congrArg some (decide_eq_true (by omega))⟩
      rw [hR]
      apply r_df df_law_worked_out rfl
      · walk_at "st"
      · walk_at "1"
        with_reducible apply x_cons
        · exact x_whl hw
        walk_at "x"
      · rfl
  · refine ⟨r, ?_⟩
    apply r_df df_law_worked_out rfl
    · walk_at "st"
    · walk_at "1"
      with_reducible apply x_cons
      · exact x_whl hw
      walk_at "x"
    · rfl
end N57
end
section
set_option maxRecDepth 100000
set_option maxHeartbeats 4000000
namespace N57
open PySem
local macro_rules | `(tactic| walk_at "b") => `(tactic| first | rfl | assumption)
local macro_rules | `(tactic| walk_at "cm") => `(tactic| first | assumption | (with_reducible exact ne_nil) | (with_reducible exact eq_nil) | exact ⟨(rfl : _ = some true)⟩ | exact ⟨(rfl : _ = some false)⟩ | exact ⟨rfl⟩)
local macro_rules | `(tactic| walk_at "o") => `(tactic| first | assumption | (with_reducible exact ix_last) | exact ⟨rfl⟩)
local macro_rules | `(tactic| walk_at "sl") => `(tactic| first | assumption | exact sl_init | exact sl_t1 | exact sl_t2 | exact ⟨rfl⟩)
local macro_rules | `(tactic| walk_at "c") => `(tactic| first | assumption | (with_reducible exact parts_in_ok _ _ _) | (with_reducible exact law_parts_ok _ _ _) | (with_reducible exact is_done_ok _ _ _))
local macro_rules | `(tactic| walk_at "as") => `(tactic| (repeat' (first | apply AsR.slot | apply AsR.tup | apply AsR.cons | apply AsR.nil | apply SetR.s | apply SetR.z)))
local macro_rules | `(tactic| walk_at "st") => `(tactic| (repeat' (first | apply StR.some | apply StR.none | apply StR.nil)))
local macro_rules | `(tactic| walk_at "e") => `(tactic| first
  | ((with_reducible apply e_var); rfl)
  | (with_reducible exact e_con)
  | ((with_reducible apply e_cons); walk_at "e"; walk_at "e")
  | (with_reducible exact e_nil)
  | ((with_reducible apply e_glb); rfl)
  | ((with_reducible apply e_tup); walk_at "e")
  | ((with_reducible apply e_lst); walk_at "e")
  | ((with_reducible apply e_ix); walk_at "e"; walk_at "e"; walk_at "o")
  | ((with_reducible apply e_cmp); walk_at "e"; walk_at "e"; walk_at "cm")
  | ((with_reducible apply e_op); walk_at "e"; walk_at "e"; walk_at "o")
  | ((with_reducible apply e_call); walk_at "e"; walk_at "c")
  | ((with_reducible apply e_pr); walk_at "e"; walk_at "o")
  | ((with_reducible apply e_and); walk_at "e"; first | ((with_reducible apply andK_t); walk_at "b"; walk_at "e") | ((with_reducible apply andK_f); walk_at "b"; walk_at "b") | ((with_reducible apply andK_both); walk_at "e"; walk_at "b"))
  | ((with_reducible apply e_or); walk_at "e"; first | ((with_reducible apply orK_t); walk_at "b"; walk_at "b") | ((with_reducible apply orK_f); walk_at "b"; walk_at "e") | ((with_reducible apply orK_both); walk_at "e"; walk_at "b"))
  | ((with_reducible apply e_ite); walk_at "e"; first | ((with_reducible apply ifK_t); walk_at "b"; walk_at "e") | ((with_reducible apply ifK_f); walk_at "b"; walk_at "e"))
  | ((with_reducible apply e_not); walk_at "e"; walk_at "b")
  | ((with_reducible apply e_isN); walk_at "e"; walk_at "b")
  | ((with_reducible apply e_notN); walk_at "e"; walk_at "b")
  | ((with_reducible apply e_neg); walk_at "e"; walk_at "b")
  | ((with_reducible apply e_chain); walk_at "e"; walk_at "e"; walk_at "cm"; walk_at "e"; walk_at "cm"; walk_at "b")
  | ((with_reducible apply e_sl); walk_at "e"; walk_at "e"; rfl; walk_at "e"; rfl; walk_at "sl")
  | (with_reducible exact e_dic0)
  | ((with_reducible apply e_dicS); walk_at "e")
  | ((with_reducible apply e_cg); walk_at "e")
  | assumption)
local macro_rules | `(tactic| walk_at "f") => `(tactic| first
  | exact fm_nil
  | (apply fm_cons; walk_at "as"; walk_at "x"; walk_at "f")
  | (with_reducible exact fmK_rt)
  | ((with_reducible apply fmK_nx); walk_at "f")
  | assumption)
local macro_rules | `(tactic| walk_at "x") => `(tactic| first
  | (with_reducible exact x_nil)
  | ((with_reducible apply x_cons); walk_at "x"; walk_at "x")
  | ((with_reducible apply x_asg); walk_at "e"; walk_at "as")
  | ((with_reducible apply x_iff); walk_at "e"; walk_at "x")
  | ((with_reducible apply x_ret); walk_at "e")
  | ((with_reducible apply x_exp); walk_at "e")
  | ((with_reducible apply ifX_t); walk_at "b"; walk_at "x")
  | ((with_reducible apply ifX_f); walk_at "b"; walk_at "x")
  | ((with_reducible apply x_for); walk_at "e"; walk_at "e"; walk_at "o"; walk_at "f")
  | (with_reducible exact sqX_rt)
  | ((with_reducible apply sqX_nx); walk_at "x")
  | assumption)
local macro_rules | `(tactic| walk_at "1") => `(tactic| ((with_reducible apply x_cons); walk_at "x"; (with_reducible apply sqX_nx)))
/-! deeds -/
section
variable {k : Nat} {ρ ρ1 ρ2 : Ev} {st s1 s2 s3 : Cup}
theorem x_mkD {n : Nat} {e kb v : Tm} {o0 : Option D} {ks : List Wd} {vs vs' : List D} {x : D} {w : Wd} (h0 : ρ[n]? = some o0) (he : EV k e ρ st (.dS ks vs) s1) (hz : ks.length + 1 ≤ sizeLine) (hs : SetR ρ n none ρ1) (hv : EV k v ρ1 s1 x s2) (hk : EV k kb ρ1 s2 (.str w) s3) (hp : putS ks vs w x = some vs') (hs2 : SetR ρ n (some (.dS ks vs')) ρ2) :
    XS k (.mkD n e kb v) ρ st (.nx ρ2) s3 := by
  constructor
  show M.bnd _ _ _ = _
  rw [bnd_eq (of_eq h0), bnd_eq he.h]
  have e1 : dsOf (.dS ks vs) = some (ks, vs) := by
    show (if fitsL (ks.length + 1) then _ else _) = _
    rw [if_pos (fits_of hz)]
  rw [bnd_eq (of_eq e1), hs.eq, bnd_eq hv.h, bnd_eq hk.h]
  have e2 : strOf (.str w) = some w := rfl
  rw [bnd_eq (of_eq e2)]
  show M.bnd (M.of (putS ks vs w x)) _ _ = _
  rw [bnd_eq (of_eq hp), hs2.eq]
  rfl
end
abbrev sCell : Wd := [99, 101, 108, 108]
abbrev sDone : Wd := [100, 111, 110, 101]
abbrev sStopped : Wd := [115, 116, 111, 112, 112, 101, 100]
inductive Rs where | done (s : Sto) | stop (e : Nd)
  deriving DecidableEq
def Rs.d : Rs → D
  | .done s => .tup [.str sDone, stoD s]
  | .stop e => .tup [.str sStopped, e.d]
def Rs.l : Rs → D
  | .done s => celD s
  | .stop e => e.d
def upS (s : Sto) (w : Wd) (i : Int) : Sto := s.map fun p => (p.1, if natsEq w p.1 then i else p.2)
abbrev Ded := Wd × Tr
def dedD (d : Ded) : D := .tup [.str d.1, enc d.2]
def doD (s : Sto) (d : Ded) : Rs := match wkF s d.2 with
  | .val i => .done (upS s d.1 i)
  | e => .stop e
def doT (s : Sto) (d e : Ded) : Rs := match doD s d with
  | .done s1 => doD s1 e
  | .stop x => .stop x
structure StoOk (s : Sto) : Prop where
  amt : ∀ p ∈ s, amtB p.2 = true
  fit : ∀ p ∈ s, fitsW p.1 = true
  nod : (s.map (·.1)).Nodup
  srt : (s.map (·.1)).Pairwise fun a b => ltW b a = false
  non : s ≠ []
  len : s.length < 60
theorem natsEq_comm (a b : Wd) : natsEq a b = natsEq b a := by
  rw [Bool.eq_iff_iff, natsEq_iff, natsEq_iff]
  exact eq_comm
theorem up_keys (s : Sto) (w : Wd) (i : Int) : (upS s w i).map (·.1) = s.map (·.1) := by
  unfold upS
  rw [List.map_map]
  rfl
theorem StoOk.up {s : Sto} (h : StoOk s) {i : Int} (hi : amtB i = true) (w : Wd) : StoOk (upS s w i) where
  amt := fun p hp => by
    obtain ⟨q, hq, rfl⟩ := List.mem_map.mp hp
    show amtB (if _ then _ else _) = true
    split
    · exact hi
    · exact h.amt q hq
  fit := fun p hp => by
    obtain ⟨q, hq, rfl⟩ := List.mem_map.mp hp
    exact h.fit q hq
  nod := by rw [up_keys]; exact h.nod
  srt := by rw [up_keys]; exact h.srt
  non := fun e => h.non (List.map_eq_nil_iff.mp e)
  len := by unfold upS; rw [List.length_map]; exact h.len
theorem lk_in {s : Sto} {w : Wd} (h : w ∈ s.map (·.1)) : ∃ i, lk s w = some i := by
  cases e : lk s w with
  | some i => exact ⟨i, rfl⟩
  | none =>
    have := lk_none e
    rw [List.any_eq_false] at this
    exact absurd (natsEq_iff.mpr rfl) (this w h)
theorem wk_val {s : Sto} (hs : ∀ p ∈ s, amtB p.2 = true) : ∀ (n : Nat) (t : Tr) (m : Nat) (i : Int), t.good = true → wk s n t m = .val i → amtB i = true
  | 0, _, _, _, _, h => by cases h
  | n + 1, t, m, i, hg, h => by
    unfold wk at h
    split at h
    · cases t <;> first | (cases h; done) | skip
      cases h
      exact hg
    · obtain ⟨a1, _⟩ := turn_at t
      obtain ⟨_, _, _, f4⟩ := at_facts _ _ _ a1
      split at h
      · split at h
        · cases h
        · rename_i j hj
          obtain ⟨_, _, _, _, p5⟩ := putAt_facts _ _ _ (.amt j) a1
          exact wk_val hs n _ _ i (p5 hg (hs _ (lk_some hj).2.2)) h
      · split at h
        · cases h
        · rename_i u hu
          obtain ⟨_, _, _, _, p5⟩ := putAt_facts _ _ _ u a1
          split at h
          · split at h
            · cases h
            · exact wk_val hs n _ _ i (p5 hg ((move_facts hu).2 (f4 hg))) h
          · cases h
theorem move_stuck {t : Tr} {w : Wd} (h : t.move = .stuck w) : w.all (Nat.blt · 256) = true := by
  unfold Tr.move at h
  split at h <;> (try split at h) <;> cases h <;> rfl
theorem wk_ok (s : Sto) : ∀ (n : Nat) (t : Tr) (m : Nat), okB 60 (wk s n t m).d = true
  | 0, _, _ => rfl
  | n + 1, t, m => by
    unfold wk
    split
    · cases t <;> rfl
    · split
      · split
        · rfl
        · exact wk_ok s n _ _
      · split
        · rename_i w hw
          show (true && (w.all (Nat.blt · 256) && true)) = true
          rw [move_stuck hw]; rfl
        · split
          · split
            · rfl
            · exact wk_ok s n _ _
          · rfl
theorem ok_sto {s : Sto} (h : ∀ p ∈ s, fitsW p.1 = true) : okB 61 (stoD s) = true := by
  show (s.map fun p => D.tup [.str p.1, .int p.2]).all (okB 60) = true
  rw [List.all_eq_true]
  intro x hx
  obtain ⟨p, hp, rfl⟩ := List.mem_map.mp hx
  show ((p.1.all (Nat.blt · 256)) && (true && true)) = true
  rw [ascii_of (h p hp)]; rfl
theorem okB_mono : ∀ (n : Nat) (d : D), okB n d = true → okB (n + 1) d = true
  | 0, d, h => by
    cases d <;> first | rfl | exact h | cases h
  | n + 1, d, h => by
    cases d with
    | tup l =>
      have h' : l.all (okB n) = true := h
      show l.all (okB (n + 1)) = true
      rw [List.all_eq_true] at h' ⊢
      exact fun x hx => okB_mono n x (h' x hx)
    | lst l =>
      have h' : l.all (okB n) = true := h
      show l.all (okB (n + 1)) = true
      rw [List.all_eq_true] at h' ⊢
      exact fun x hx => okB_mono n x (h' x hx)
    | _ => first | rfl | exact h | cases h
theorem doD_ok {s : Sto} (h : StoOk s) {d : Ded} (hg : d.2.good = true) : (∃ s', doD s d = .done s' ∧ StoOk s' ∧ s'.map (·.1) = s.map (·.1)) ∨ ∃ e, doD s d = .stop e ∧ okB 60 e.d = true := by
  unfold doD
  have := wk_ok s 500000 d.2 0
  cases e : wkF s d.2 with
  | val i => exact .inl ⟨_, rfl, h.up (wk_val h.amt 500000 d.2 0 i hg e) d.1, up_keys _ _ _⟩
  | _ => unfold wkF at e; rw [e] at this; exact .inr ⟨_, rfl, this⟩
theorem val_pos {i : Int} : (Nd.val i).d = .tup [.str sValue, .int i] := rfl
theorem done_by_ok (s : Sto) (h : StoOk s) (d : Ded) (hg : d.2.good = true) (hf : fitsT d.2) (hw : d.1 ∈ s.map (·.1)) (k : Nat) (st : Cup) : Rn (k + 66) f_done_by [stoD s, dedD d] st (doD s d).d st := by
  have hlen := h.len
  obtain ⟨asked, w1⟩ := worked_in_ok s h.amt h.non h.nod (by omega) d.2 hg hf k st
  have p1 := pr_dict h.non h.nod (by omega)
  obtain ⟨i0, hi0⟩ := lk_in hw
  have c1 := cel_in hi0
  obtain ⟨w, t⟩ := d
  have hfw : fitsW w = true := by
    obtain ⟨p, hp, e⟩ := List.mem_map.mp hw
    have e : p.1 = w := e
    rw [← e]; exact h.fit p hp
  unfold doD
  cases e : wkF s t with
  | val i =>
    rw [e] at w1
    have q1 : PrH .tuple [.lst (s.map fun p => .tup [.str p.1, .int (if natsEq w p.1 then i else p.2)])] (stoD (upS s w i)) := ⟨by
      unfold stoD upS
      rw [List.map_map]
      rfl⟩
    apply r_df df_done_by rfl
    · walk_at "st"
    · walk_at "1"
      walk_at "1"
      walk_at "1"
      walk_at "1"
      with_reducible apply x_cons
      · with_reducible apply x_ret
        with_reducible apply e_tup
        with_reducible apply e_cons
        · walk_at "e"
        with_reducible apply e_cons
        · with_reducible apply e_pr
          · with_reducible apply e_cons
            · apply e_map (its := s) (f := fun p => .tup [.str p.1, .int p.2]) (g := fun p => .tup [.str p.1, .int (if natsEq w p.1 then i else p.2)])
              · walk_at "e"
              · walk_at "e"
              · exact ⟨rfl⟩
              · unfold sizeLine; omega
              · intro p hp
                have c : CmH .eq (.str p.1) (.str w) (natsEq w p.1) := ⟨by rw [natsEq_comm]; exact eqO_str (ascii_of (h.fit p hp)) (ascii_of hfw)⟩
                refine ⟨_, rfl, ?_⟩
                cases e2 : natsEq w p.1 <;> rw [e2] at c <;> walk_at "e"
            · walk_at "e"
          · exact q1
        · walk_at "e"
      · walk_at "x"
    · rfl
  | giv =>
    rw [e] at w1
    apply r_df df_done_by rfl
    · walk_at "st"
    · walk_at "x"
    · rfl
  | stuck w =>
    rw [e] at w1
    apply r_df df_done_by rfl
    · walk_at "st"
    · walk_at "x"
    · rfl
  | more =>
    rw [e] at w1
    apply r_df df_done_by rfl
    · walk_at "st"
    · walk_at "x"
    · rfl
theorem done_all_ok (s : Sto) (h : StoOk s) (d e : Ded) (hg : d.2.good = true) (hf : fitsT d.2) (hw : d.1 ∈ s.map (·.1)) (hg2 : e.2.good = true) (hf2 : fitsT e.2) (hw2 : e.1 ∈ s.map (·.1)) (k : Nat) (st : Cup) :
    Rn (k + 67) f_done_all [stoD s, .tup [dedD d, dedD e]] st (doT s d e).d st := by
  have h1 := done_by_ok s h d hg hf hw k st
  unfold doT
  rcases doD_ok h hg with ⟨s', e1, ok, ek⟩ | ⟨x, e1, _⟩
  · have h2 := done_by_ok s' ok e hg2 hf2 (by rw [ek]; exact hw2) k st
    rw [e1] at h1 ⊢
    simp only
    rcases doD_ok ok hg2 with ⟨s2, e2, _, _⟩ | ⟨x, e2, _⟩
    · rw [e2] at h2 ⊢
      apply r_df df_done_all rfl
      · walk_at "st"
      · walk_at "x"
      · rfl
    · rw [e2] at h2 ⊢
      apply r_df df_done_all rfl
      · walk_at "st"
      · walk_at "x"
      · rfl
  · rw [e1] at h1 ⊢
    simp only
    apply r_df df_done_all rfl
    · walk_at "st"
    · walk_at "x"
    · rfl
theorem put_cel {s : Sto} {w : Wd} {i : Int} (h : w ∈ s.map (·.1)) : putS (s.map (·.1)) (s.map fun p => D.int p.2) w (.int i) = some ((upS s w i).map fun p => D.int p.2) := by
  obtain ⟨j, hj⟩ := lk_in h
  unfold putS
  rw [(lk_some hj).2.1, if_pos rfl]
  congr 1
  clear hj h
  induction s with
  | nil => rfl
  | cons p s ih =>
    simp only [List.map_cons, setS, upS] at ih ⊢
    rw [ih]
    congr 1
    split <;> rfl
theorem law_deed_ok (s : Sto) (h : StoOk s) (d : Ded) (hg : d.2.good = true) (hf : fitsT d.2) (hw : d.1 ∈ s.map (·.1)) (k : Nat) (st : Cup) : Rn (k + 202) f_law_deed [celD s, dedD d] st (doD s d).l st := by
  have hlen := h.len
  obtain ⟨r, w1⟩ := law_worked_ok s h.amt (by omega) d.2 hg hf k st
  obtain ⟨i0, hi0⟩ := lk_in hw
  have c1 := cel_in hi0
  obtain ⟨w, t⟩ := d
  unfold doD
  cases e : wkF s t with
  | val i =>
    rw [e] at w1
    have q1 := put_cel (i := i) hw
    have q2 : (Rs.done (upS s w i)).l = .dS (s.map (·.1)) ((upS s w i).map fun p => D.int p.2) := by
      show celD _ = _
      unfold celD
      rw [up_keys]
    simp only
    rw [q2]
    apply r_df df_law_deed rfl
    · walk_at "st"
    · walk_at "1"
      walk_at "1"
      walk_at "1"
      with_reducible apply x_cons
      · apply x_mkD
        · rfl
        · walk_at "e"
        · unfold sizeLine; simp; omega
        · walk_at "as"
        · walk_at "e"
        · walk_at "e"
        · exact q1
        · walk_at "as"
      walk_at "x"
    · rfl
  | giv =>
    rw [e] at w1
    apply r_df df_law_deed rfl
    · walk_at "st"
    · walk_at "x"
    · rfl
  | stuck w =>
    rw [e] at w1
    apply r_df df_law_deed rfl
    · walk_at "st"
    · walk_at "x"
    · rfl
  | more =>
    rw [e] at w1
    apply r_df df_law_deed rfl
    · walk_at "st"
    · walk_at "x"
    · rfl
theorem isi_cel (s : Sto) : PrH (.isi "dict") [celD s] (.bl true) := ⟨rfl⟩
theorem isi_nd (e : Nd) : PrH (.isi "dict") [e.d] (.bl false) := by
  cases e <;> exact ⟨rfl⟩
theorem law_train_ok (s : Sto) (h : StoOk s) (d e : Ded) (hg : d.2.good = true) (hf : fitsT d.2) (hw : d.1 ∈ s.map (·.1)) (hg2 : e.2.good = true) (hf2 : fitsT e.2) (hw2 : e.1 ∈ s.map (·.1)) (k : Nat) (st : Cup) :
    Rn (k + 203) f_law_train [celD s, .tup [dedD d, dedD e]] st (doT s d e).l st := by
  have h1 := law_deed_ok s h d hg hf hw k st
  have i1 := isi_cel s
  unfold doT
  rcases doD_ok h hg with ⟨s', e1, ok, ek⟩ | ⟨x, e1, _⟩
  · have h2 := law_deed_ok s' ok e hg2 hf2 (by rw [ek]; exact hw2) k st
    have i2 := isi_cel s'
    rw [e1] at h1 ⊢
    simp only
    have h1 : Rn (k + 202) f_law_deed [celD s, dedD d] st (celD s') st := h1
    apply r_df df_law_train rfl
    · walk_at "st"
    · walk_at "x"
    · rfl
  · rw [e1] at h1 ⊢
    simp only
    have h1 : Rn (k + 202) f_law_deed [celD s, dedD d] st x.d st := h1
    have i2 := isi_nd x
    apply r_df df_law_train rfl
    · walk_at "st"
    · walk_at "x"
    · rfl

/-! what is told -/
theorem insBy_id {α : Type} {lt : α → α → Bool} {x : α} {l : List α} (h : ∀ y ∈ l, lt y x = false) : insBy lt x l = x :: l := by
  cases l with
  | nil => rfl
  | cons y l =>
    simp only [insBy]
    rw [h y (List.mem_cons_self ..)]
    rfl
theorem sortBy_id {α : Type} {lt : α → α → Bool} : ∀ {l : List α}, l.Pairwise (fun a b => lt b a = false) → sortBy lt l = l
  | [], _ => rfl
  | x :: l, h => by
    rw [List.pairwise_cons] at h
    simp only [sortBy]
    rw [sortBy_id h.2]
    exact insBy_id h.1
theorem law_told_ok (s : Sto) (h : StoOk s) (r : Rs) (hr : (∃ s', r = .done s' ∧ StoOk s') ∨ ∃ e, r = .stop e) (k : Nat) (st : Cup) : Rn (k + 1) f_law_told [r.l] st r.d st := by
  rcases hr with ⟨s', rfl, ok⟩ | ⟨e, rfl⟩
  · have i1 := isi_cel s'
    show Rn _ _ [celD s'] _ _ _
    have g1 : PrH .items [celD s'] (.lst (s'.map fun p => .tup [.str p.1, .int p.2])) := ⟨by
      show (if nodupW (s'.map (·.1)) && Nat.beq (s'.map (·.1)).length (s'.map fun p => D.int p.2).length then _ else _) = _
      rw [nodupW_of ok.nod, List.length_map, List.length_map, if_pos (by simp)]
      congr 2
      rw [List.zip_map', List.map_map]
      rfl⟩
    have g2 : PrH .sortI [.lst (s'.map fun p => .tup [.str p.1, .int p.2])] (.lst (s'.map fun p => .tup [.str p.1, .int p.2])) := ⟨by
      show ((s'.map fun p => D.tup [.str p.1, .int p.2]).mapM pairS).bind _ = _
      have e : (s'.map fun p => D.tup [.str p.1, .int p.2]).mapM pairS = some (s'.map fun p => (p.1, D.int p.2)) := by
        have : ∀ s : Sto, (s.map fun p => D.tup [.str p.1, .int p.2]).mapM pairS = some (s.map fun p => (p.1, D.int p.2)) := by
          intro s
          induction s with
          | nil => rfl
          | cons x l ih => simp [List.mapM_cons, ih, pairS]
        exact this s'
      rw [e]
      show (if nodupW _ && List.all _ pairSI then _ else _) = _
      have e1 : (s'.map fun p => (p.1, D.int p.2)).map (·.1) = s'.map (·.1) := by simp [List.map_map, Function.comp_def]
      rw [e1, nodupW_of ok.nod, if_pos]
      · congr 2
        rw [sortBy_id]
        · rw [List.map_map]; rfl
        · rw [List.pairwise_map]
          have := ok.srt
          rw [List.pairwise_map] at this
          exact this
      · rw [Bool.true_and, List.all_eq_true]
        intro x hx
        obtain ⟨p, _, rfl⟩ := List.mem_map.mp hx
        rfl⟩
    have g3 : PrH .tuple [.lst (s'.map fun p => .tup [.str p.1, .int p.2])] (stoD s') := ⟨rfl⟩
    apply r_df df_law_told rfl
    · walk_at "st"
    · walk_at "x"
    · rfl
  · have i1 := isi_nd e
    show Rn _ _ [e.d] _ _ _
    apply r_df df_law_told rfl
    · walk_at "st"
    · walk_at "x"
    · rfl
theorem doT_ok {s : Sto} (h : StoOk s) {d e : Ded} (hg : d.2.good = true) (hg2 : e.2.good = true) : ((∃ s', doT s d e = .done s' ∧ StoOk s') ∨ ∃ x, doT s d e = .stop x) ∧ okB 62 (doT s d e).d = true := by
  unfold doT
  rcases doD_ok h hg with ⟨s', e1, ok, ek⟩ | ⟨x, e1, hx⟩
  · rw [e1]
    simp only
    rcases doD_ok ok hg2 with ⟨s2, e2, ok2, _⟩ | ⟨x, e2, hx⟩
    · rw [e2]
      exact ⟨.inl ⟨_, rfl, ok2⟩, by
        show (true && (okB 61 (stoD s2) && true)) = true
        rw [ok_sto ok2.fit]; rfl⟩
    · rw [e2]
      exact ⟨.inr ⟨_, rfl⟩, by
        show (true && (okB 61 x.d && true)) = true
        rw [okB_mono _ _ hx]; rfl⟩
  · rw [e1]
    exact ⟨.inr ⟨_, rfl⟩, by
      show (true && (okB 61 x.d && true)) = true
      rw [okB_mono _ _ hx]; rfl⟩
/-- whether the two orders come to unlike ends -/
def tells (s : Sto) (d e : Ded) : Bool := !eqB 62 (doT s d e).d (doT s e d).d
theorem ne_rs (r q : Rs) (h1 : okB 62 r.d = true) (h2 : okB 62 q.d = true) : CmH .ne r.d q.d (!eqB 62 r.d q.d) := by
  constructor
  show (eqO r.d q.d).map (!·) = _
  have : eqO r.d q.d = if okB 62 r.d && okB 62 q.d then some (eqB 62 r.d q.d) else none := by
    cases r <;> cases q <;> rfl
  rw [this, h1, h2]
  rfl
theorem law_tells_ok (s : Sto) (h : StoOk s) (d e : Ded) (hg : d.2.good = true) (hf : fitsT d.2) (hw : d.1 ∈ s.map (·.1)) (hg2 : e.2.good = true) (hf2 : fitsT e.2) (hw2 : e.1 ∈ s.map (·.1)) (k : Nat) (st : Cup) :
    Rn (k + 204) f_law_tells [stoD s, dedD d, dedD e] st (.bl (tells s d e)) st := by
  have hlen := h.len
  have p1 := pr_dict h.non h.nod (by omega)
  have a1 := law_train_ok s h d e hg hf hw hg2 hf2 hw2 k st
  have a2 := law_train_ok s h e d hg2 hf2 hw2 hg hf hw k st
  obtain ⟨b1, o1⟩ := doT_ok h hg hg2
  obtain ⟨b2, o2⟩ := doT_ok h hg2 hg
  have c1 := law_told_ok s h _ b1 (k + 202) st
  have c2 := law_told_ok s h _ b2 (k + 202) st
  have q := ne_rs _ _ o1 o2
  apply r_df df_law_tells rfl
  · walk_at "st"
  · walk_at "x"
  · rfl
end N57
end
section
set_option maxRecDepth 100000
set_option maxHeartbeats 4000000
namespace N57
open PySem
local macro_rules | `(tactic| walk_at "b") => `(tactic| first | rfl | assumption)
local macro_rules | `(tactic| walk_at "cm") => `(tactic| first | assumption | (with_reducible exact ne_nil) | (with_reducible exact eq_nil) | exact ⟨(rfl : _ = some true)⟩ | exact ⟨(rfl : _ = some false)⟩ | exact ⟨rfl⟩)
local macro_rules | `(tactic| walk_at "o") => `(tactic| first | assumption | (with_reducible exact ix_last) | exact ⟨rfl⟩)
local macro_rules | `(tactic| walk_at "sl") => `(tactic| first | assumption | exact sl_init | exact sl_t1 | exact sl_t2 | exact ⟨rfl⟩)
local macro_rules | `(tactic| walk_at "c") => `(tactic| first | assumption | (with_reducible exact parts_in_ok _ _ _) | (with_reducible exact law_parts_ok _ _ _) | (with_reducible exact is_done_ok _ _ _))
local macro_rules | `(tactic| walk_at "as") => `(tactic| (repeat' (first | apply AsR.slot | apply AsR.tup | apply AsR.cons | apply AsR.nil | apply SetR.s | apply SetR.z)))
local macro_rules | `(tactic| walk_at "st") => `(tactic| (repeat' (first | apply StR.some | apply StR.none | apply StR.nil)))
local macro_rules | `(tactic| walk_at "e") => `(tactic| first
  | ((with_reducible apply e_var); rfl)
  | (with_reducible exact e_con)
  | ((with_reducible apply e_cons); walk_at "e"; walk_at "e")
  | (with_reducible exact e_nil)
  | ((with_reducible apply e_glb); rfl)
  | ((with_reducible apply e_tup); walk_at "e")
  | ((with_reducible apply e_lst); walk_at "e")
  | ((with_reducible apply e_ix); walk_at "e"; walk_at "e"; walk_at "o")
  | ((with_reducible apply e_cmp); walk_at "e"; walk_at "e"; walk_at "cm")
  | ((with_reducible apply e_op); walk_at "e"; walk_at "e"; walk_at "o")
  | ((with_reducible apply e_call); walk_at "e"; walk_at "c")
  | ((with_reducible apply e_pr); walk_at "e"; walk_at "o")
  | ((with_reducible apply e_and); walk_at "e"; first | ((with_reducible apply andK_t); walk_at "b"; walk_at "e") | ((with_reducible apply andK_f); walk_at "b"; walk_at "b") | ((with_reducible apply andK_both); walk_at "e"; walk_at "b"))
  | ((with_reducible apply e_or); walk_at "e"; first | ((with_reducible apply orK_t); walk_at "b"; walk_at "b") | ((with_reducible apply orK_f); walk_at "b"; walk_at "e") | ((with_reducible apply orK_both); walk_at "e"; walk_at "b"))
  | ((with_reducible apply e_ite); walk_at "e"; first | ((with_reducible apply ifK_t); walk_at "b"; walk_at "e") | ((with_reducible apply ifK_f); walk_at "b"; walk_at "e"))
  | ((with_reducible apply e_not); walk_at "e"; walk_at "b")
  | ((with_reducible apply e_isN); walk_at "e"; walk_at "b")
  | ((with_reducible apply e_notN); walk_at "e"; walk_at "b")
  | ((with_reducible apply e_neg); walk_at "e"; walk_at "b")
  | ((with_reducible apply e_chain); walk_at "e"; walk_at "e"; walk_at "cm"; walk_at "e"; walk_at "cm"; walk_at "b")
  | ((with_reducible apply e_sl); walk_at "e"; walk_at "e"; rfl; walk_at "e"; rfl; walk_at "sl")
  | (with_reducible exact e_dic0)
  | ((with_reducible apply e_dicS); walk_at "e")
  | ((with_reducible apply e_cg); walk_at "e")
  | assumption)
local macro_rules | `(tactic| walk_at "f") => `(tactic| first
  | exact fm_nil
  | (apply fm_cons; walk_at "as"; walk_at "x"; walk_at "f")
  | (with_reducible exact fmK_rt)
  | ((with_reducible apply fmK_nx); walk_at "f")
  | assumption)
local macro_rules | `(tactic| walk_at "x") => `(tactic| first
  | (with_reducible exact x_nil)
  | ((with_reducible apply x_cons); walk_at "x"; walk_at "x")
  | ((with_reducible apply x_asg); walk_at "e"; walk_at "as")
  | ((with_reducible apply x_iff); walk_at "e"; walk_at "x")
  | ((with_reducible apply x_ret); walk_at "e")
  | ((with_reducible apply x_exp); walk_at "e")
  | ((with_reducible apply ifX_t); walk_at "b"; walk_at "x")
  | ((with_reducible apply ifX_f); walk_at "b"; walk_at "x")
  | ((with_reducible apply x_for); walk_at "e"; walk_at "e"; walk_at "o"; walk_at "f")
  | (with_reducible exact sqX_rt)
  | ((with_reducible apply sqX_nx); walk_at "x")
  | assumption)
local macro_rules | `(tactic| walk_at "1") => `(tactic| ((with_reducible apply x_cons); walk_at "x"; (with_reducible apply sqX_nx)))
open SrtO
/-! sorting what is told apart -/
theorem perm_srt_eq {α : Type} {lt : α → α → Bool} (O : Swo lt) : ∀ {l' m : List α}, m.Perm l' → m.Pairwise (fun a b => lt b a = false) → l'.Pairwise (fun a b => lt a b = true) → m = l'
  | [], m, p, _, _ => p.eq_nil
  | y :: l2, m, p, s1, s2 => by
    cases m with
    | nil => exact absurd p.length_eq (by simp)
    | cons x m2 =>
      rw [List.pairwise_cons] at s1 s2
      have e : x = y := by
        rcases List.mem_cons.mp (p.mem_iff.mp (List.mem_cons_self .. : x ∈ x :: m2)) with h | h
        · exact h
        · have h1 := s2.1 x h
          rcases List.mem_cons.mp (p.mem_iff.mpr (List.mem_cons_self .. : y ∈ y :: l2)) with h2 | h2
          · exact h2.symm
          · rw [s1.1 y h2] at h1
            cases h1
      subst e
      rw [perm_srt_eq O (p.cons_inv) s1.2 s2.2]
theorem sort_eq {α : Type} {lt : α → α → Bool} (O : Swo lt) {l l' : List α} (p : l.Perm l') (s : l'.Pairwise fun a b => lt a b = true) : sortBy lt l = l' :=
  perm_srt_eq O ((sort_perm l).trans p) (sort_srtd O l) s
/-! all places, in order -/
abbrev Plc := List Nat × Tr
def psh (i : Nat) (l : List Plc) : List Plc := l.map fun x => (i :: x.1, x.2)
def prel : Tr → List Plc
  | .amt i => [([], .amt i)]
  | .use w => [([], .use w)]
  | .giv w b => ([], .giv w b) :: psh 0 (prel b)
  | .app a b => ([], .app a b) :: (psh 0 (prel a) ++ psh 1 (prel b))
  | .hol w a b => ([], .hol w a b) :: (psh 0 (prel a) ++ psh 1 (prel b))
  | .rek o a b => ([], .rek o a b) :: (psh 0 (prel a) ++ psh 1 (prel b))
  | .tst a b c => ([], .tst a b c) :: (psh 0 (prel a) ++ (psh 1 (prel b) ++ psh 2 (prel c)))
def ip (p : List Nat) : List Int := p.map fun (i : Nat) => (i : Int)
abbrev ltP (x y : Plc) : Bool := ltI (ip x.1) (ip y.1)
theorem ltP_swo : Swo ltP := swo_of ltI_swo _
theorem psh_mem {i : Nat} {l : List Plc} {x : Plc} (h : x ∈ psh i l) : ∃ y ∈ l, x = (i :: y.1, y.2) := by
  obtain ⟨y, hy, e⟩ := List.mem_map.mp h
  exact ⟨y, hy, e.symm⟩
theorem psh_srt {i : Nat} {l : List Plc} (h : l.Pairwise fun a b => ltP a b = true) : (psh i l).Pairwise fun a b => ltP a b = true := by
  unfold psh
  rw [List.pairwise_map]
  refine h.imp fun {a b} hab => ?_
  show ltI ((i : Int) :: ip a.1) ((i : Int) :: ip b.1) = true
  simp only [ltI, decide_true, if_true]
  exact hab
theorem psh_lt {i j : Nat} (hij : i < j) {l m : List Plc} : ∀ a ∈ psh i l, ∀ b ∈ psh j m, ltP a b = true := by
  intro a ha b hb
  obtain ⟨x, _, rfl⟩ := psh_mem ha
  obtain ⟨y, _, rfl⟩ := psh_mem hb
  show ltI ((i : Int) :: ip x.1) ((j : Int) :: ip y.1) = true
  simp only [ltI]
  rw [decide_eq_false (by omega)]
  simp; omega
theorem nil_lt {t : Tr} {i : Nat} {l : List Plc} : ∀ b ∈ psh i l, ltP ([], t) b = true := by
  intro b hb
  obtain ⟨y, _, rfl⟩ := psh_mem hb
  rfl
theorem prel_srt (t : Tr) : (prel t).Pairwise fun a b => ltP a b = true := by
  induction t with
  | amt i => exact List.pairwise_singleton _ _
  | use w => exact List.pairwise_singleton _ _
  | giv w b ih => exact List.pairwise_cons.mpr ⟨nil_lt, psh_srt ih⟩
  | app a b iha ihb =>
    refine List.pairwise_cons.mpr ⟨fun x hx => ?_, List.pairwise_append.mpr ⟨psh_srt iha, psh_srt ihb, psh_lt (by omega)⟩⟩
    rcases List.mem_append.mp hx with h | h <;> exact nil_lt _ h
  | hol w a b iha ihb =>
    refine List.pairwise_cons.mpr ⟨fun x hx => ?_, List.pairwise_append.mpr ⟨psh_srt iha, psh_srt ihb, psh_lt (by omega)⟩⟩
    rcases List.mem_append.mp hx with h | h <;> exact nil_lt _ h
  | rek o a b iha ihb =>
    refine List.pairwise_cons.mpr ⟨fun x hx => ?_, List.pairwise_append.mpr ⟨psh_srt iha, psh_srt ihb, psh_lt (by omega)⟩⟩
    rcases List.mem_append.mp hx with h | h <;> exact nil_lt _ h
  | tst a b c iha ihb ihc =>
    refine List.pairwise_cons.mpr ⟨fun x hx => ?_, List.pairwise_append.mpr ⟨psh_srt iha, List.pairwise_append.mpr ⟨psh_srt ihb, psh_srt ihc, psh_lt (by omega)⟩, fun x hx y hy => ?_⟩⟩
    · rcases List.mem_append.mp hx with h | h
      · exact nil_lt _ h
      · rcases List.mem_append.mp h with h | h <;> exact nil_lt _ h
    · rcases List.mem_append.mp hy with h | h
      · exact psh_lt (by omega) x hx y h
      · exact psh_lt (by omega) x hx y h
theorem prel_at : ∀ (t : Tr) (x : Plc), x ∈ prel t → t.at x.1 = some x.2
  | .amt i, x, h => by cases h with | head => rfl | tail _ h => cases h
  | .use w, x, h => by cases h with | head => rfl | tail _ h => cases h
  | .giv w b, x, h => by
    rcases List.mem_cons.mp h with rfl | h
    · rfl
    · obtain ⟨y, hy, rfl⟩ := psh_mem h
      exact prel_at b y hy
  | .app a b, x, h => by
    rcases List.mem_cons.mp h with rfl | h
    · rfl
    · rcases List.mem_append.mp h with h | h
      · obtain ⟨y, hy, rfl⟩ := psh_mem h
        exact prel_at a y hy
      · obtain ⟨y, hy, rfl⟩ := psh_mem h
        exact prel_at b y hy
  | .hol w a b, x, h => by
    rcases List.mem_cons.mp h with rfl | h
    · rfl
    · rcases List.mem_append.mp h with h | h
      · obtain ⟨y, hy, rfl⟩ := psh_mem h
        exact prel_at a y hy
      · obtain ⟨y, hy, rfl⟩ := psh_mem h
        exact prel_at b y hy
  | .rek o a b, x, h => by
    rcases List.mem_cons.mp h with rfl | h
    · rfl
    · rcases List.mem_append.mp h with h | h
      · obtain ⟨y, hy, rfl⟩ := psh_mem h
        exact prel_at a y hy
      · obtain ⟨y, hy, rfl⟩ := psh_mem h
        exact prel_at b y hy
  | .tst a b c, x, h => by
    rcases List.mem_cons.mp h with rfl | h
    · rfl
    · rcases List.mem_append.mp h with h | h
      · obtain ⟨y, hy, rfl⟩ := psh_mem h
        exact prel_at a y hy
      · rcases List.mem_append.mp h with h | h
        · obtain ⟨y, hy, rfl⟩ := psh_mem h
          exact prel_at b y hy
        · obtain ⟨y, hy, rfl⟩ := psh_mem h
          exact prel_at c y hy
theorem prel_len (t : Tr) : (prel t).length = t.size := by
  induction t <;> simp_all [prel, psh, Tr.size] <;> omega
/-- places under a place -/
def preP (x : Plc) : List Plc := (prel x.2).map fun y => (x.1 ++ y.1, y.2)
def prtP (x : Plc) : List Plc := (enumT 0 x.2.parts).map fun y => (x.1 ++ [y.1], y.2)
where enumT : Nat → List Tr → List (Nat × Tr)
  | _, [] => []
  | n, t :: l => (n, t) :: enumT (n + 1) l
def flatP : List Plc → List Plc
  | [] => []
  | x :: l => preP x ++ flatP l
theorem flatP_app (a b : List Plc) : flatP (a ++ b) = flatP a ++ flatP b := by
  induction a with
  | nil => rfl
  | cons x l ih => simp [flatP, ih]
theorem preP_psh (p : List Nat) (i : Nat) (t : Tr) : (psh i (prel t)).map (fun y => (p ++ y.1, y.2)) = preP (p ++ [i], t) := by
  unfold psh preP
  rw [List.map_map]
  apply List.map_congr_left
  intro y _
  simp
theorem preP_eq (x : Plc) : preP x = x :: flatP (prtP x) := by
  obtain ⟨p, t⟩ := x
  cases t <;> simp [preP, prel, prtP, prtP.enumT, Tr.parts, flatP, psh, List.map_map, Function.comp_def]
abbrev plD (x : Plc) : D := .tup [pth x.1, enc x.2]
theorem enum_parts (t : Tr) : enumD 0 (t.parts.map enc) = (prtP.enumT 0 t.parts).map fun y => .tup [.int (y.1 : Int), enc y.2] := by
  have : ∀ (n : Nat) (l : List Tr), enumD n (l.map enc) = (prtP.enumT n l).map fun y => .tup [.int (y.1 : Int), enc y.2] := by
    intro n l
    induction l generalizing n with
    | nil => rfl
    | cons x l ih => simp [enumD, prtP.enumT, ih]
  exact this 0 _
theorem enumT_len (n : Nat) (l : List Tr) : (prtP.enumT n l).length = l.length := by
  induction l generalizing n with
  | nil => rfl
  | cons x l ih => simp [prtP.enumT, ih]
def sizP : List Plc → Nat
  | [] => 0
  | x :: l => x.2.size + sizP l
theorem sizP_app (a b : List Plc) : sizP (a ++ b) = sizP a + sizP b := by
  induction a with
  | nil => simp [sizP]
  | cons x l ih => simp [sizP, ih]; omega
theorem sizP_prt (x : Plc) : sizP (prtP x) + 1 = x.2.size := by
  obtain ⟨p, t⟩ := x
  cases t <;> simp [prtP, prtP.enumT, Tr.parts, sizP, Tr.size] <;> omega
theorem prt_path {x y : Plc} (h : y ∈ prtP x) : y.1.length = x.1.length + 1 := by
  obtain ⟨z, _, rfl⟩ := List.mem_map.mp h
  simp
/-- the places met, and those that wait -/
structure OpI (t : Tr) (F L : List Plc) : Prop where
  perm : (F ++ flatP L).Perm (prel t)
  siz : F.length + sizP L = t.size
  len : L.length ≤ 1 + 2 * F.length
  pl : ∀ x ∈ L, x.1.length + x.2.size ≤ t.size
  hd : (F = [] ∧ L = [([], t)]) ∨ F.head? = some ([], t)
theorem OpI.start (t : Tr) : OpI t [] [([], t)] where
  perm := by
    show (flatP [([], t)]).Perm _
    simp [flatP, preP]
  siz := by simp [sizP]
  len := by simp
  pl := by simp
  hd := .inl ⟨rfl, rfl⟩
theorem OpI.step {t : Tr} {F L : List Plc} {x : Plc} (h : OpI t F (L ++ [x])) : OpI t (F ++ [x]) (L ++ prtP x) where
  perm := by
    refine List.Perm.trans ?_ h.perm
    rw [flatP_app, flatP_app]
    simp only [flatP, List.append_nil]
    rw [preP_eq x]
    rw [List.append_assoc]
    refine List.Perm.append_left F ?_
    show (x :: (flatP L ++ flatP (prtP x))).Perm _
    exact List.perm_middle.symm
  siz := by
    have := h.siz
    rw [sizP_app] at this ⊢
    have := sizP_prt x
    simp only [sizP, List.length_append, List.length_singleton] at *
    omega
  len := by
    have := h.len
    have h3 := parts_len x.2
    simp only [List.length_append, List.length_singleton, prtP, List.length_map, enumT_len] at *
    omega
  pl := by
    intro y hy
    rcases List.mem_append.mp hy with hy | hy
    · exact h.pl y (by simp [hy])
    · have h1 := h.pl x (by simp)
      have h2 := prt_path hy
      have h3 : ∀ l : List Plc, y ∈ l → y.2.size ≤ sizP l := by
        intro l
        induction l with
        | nil => intro h; cases h
        | cons z l ih =>
          intro h
          rcases List.mem_cons.mp h with rfl | h
          · simp only [sizP]; omega
          · have := ih h; simp only [sizP]; omega
      have h4 := h3 _ hy
      have h5 := sizP_prt x
      omega
  hd := by
    rcases h.hd with ⟨rfl, e⟩ | e
    · right
      have : L = [] ∧ x = ([], t) := by
        cases L with
        | nil => simpa using e
        | cons a l => simp at e
      rw [this.2]; rfl
    · right
      cases F with
      | nil => cases e
      | cons a l => simpa using e
end N57
end
section
set_option maxRecDepth 100000
set_option maxHeartbeats 4000000
namespace N57
open PySem
local macro_rules | `(tactic| walk_at "b") => `(tactic| first | rfl | assumption)
local macro_rules | `(tactic| walk_at "cm") => `(tactic| first | assumption | (with_reducible exact ne_nil) | (with_reducible exact eq_nil) | exact ⟨(rfl : _ = some true)⟩ | exact ⟨(rfl : _ = some false)⟩ | exact ⟨rfl⟩)
local macro_rules | `(tactic| walk_at "o") => `(tactic| first | assumption | (with_reducible exact ix_last) | exact ⟨rfl⟩)
local macro_rules | `(tactic| walk_at "sl") => `(tactic| first | assumption | exact sl_init | exact sl_t1 | exact sl_t2 | exact ⟨rfl⟩)
local macro_rules | `(tactic| walk_at "c") => `(tactic| first | assumption | (with_reducible exact parts_in_ok _ _ _) | (with_reducible exact law_parts_ok _ _ _) | (with_reducible exact is_done_ok _ _ _))
local macro_rules | `(tactic| walk_at "as") => `(tactic| (repeat' (first | apply AsR.slot | apply AsR.tup | apply AsR.cons | apply AsR.nil | apply SetR.s | apply SetR.z)))
local macro_rules | `(tactic| walk_at "st") => `(tactic| (repeat' (first | apply StR.some | apply StR.none | apply StR.nil)))
local macro_rules | `(tactic| walk_at "e") => `(tactic| first
  | ((with_reducible apply e_var); rfl)
  | (with_reducible exact e_con)
  | ((with_reducible apply e_cons); walk_at "e"; walk_at "e")
  | (with_reducible exact e_nil)
  | ((with_reducible apply e_glb); rfl)
  | ((with_reducible apply e_tup); walk_at "e")
  | ((with_reducible apply e_lst); walk_at "e")
  | ((with_reducible apply e_ix); walk_at "e"; walk_at "e"; walk_at "o")
  | ((with_reducible apply e_cmp); walk_at "e"; walk_at "e"; walk_at "cm")
  | ((with_reducible apply e_op); walk_at "e"; walk_at "e"; walk_at "o")
  | ((with_reducible apply e_call); walk_at "e"; walk_at "c")
  | ((with_reducible apply e_pr); walk_at "e"; walk_at "o")
  | ((with_reducible apply e_and); walk_at "e"; first | ((with_reducible apply andK_t); walk_at "b"; walk_at "e") | ((with_reducible apply andK_f); walk_at "b"; walk_at "b") | ((with_reducible apply andK_both); walk_at "e"; walk_at "b"))
  | ((with_reducible apply e_or); walk_at "e"; first | ((with_reducible apply orK_t); walk_at "b"; walk_at "b") | ((with_reducible apply orK_f); walk_at "b"; walk_at "e") | ((with_reducible apply orK_both); walk_at "e"; walk_at "b"))
  | ((with_reducible apply e_ite); walk_at "e"; first | ((with_reducible apply ifK_t); walk_at "b"; walk_at "e") | ((with_reducible apply ifK_f); walk_at "b"; walk_at "e"))
  | ((with_reducible apply e_not); walk_at "e"; walk_at "b")
  | ((with_reducible apply e_isN); walk_at "e"; walk_at "b")
  | ((with_reducible apply e_notN); walk_at "e"; walk_at "b")
  | ((with_reducible apply e_neg); walk_at "e"; walk_at "b")
  | ((with_reducible apply e_chain); walk_at "e"; walk_at "e"; walk_at "cm"; walk_at "e"; walk_at "cm"; walk_at "b")
  | ((with_reducible apply e_sl); walk_at "e"; walk_at "e"; rfl; walk_at "e"; rfl; walk_at "sl")
  | (with_reducible exact e_dic0)
  | ((with_reducible apply e_dicS); walk_at "e")
  | ((with_reducible apply e_cg); walk_at "e")
  | assumption)
local macro_rules | `(tactic| walk_at "f") => `(tactic| first
  | exact fm_nil
  | (apply fm_cons; walk_at "as"; walk_at "x"; walk_at "f")
  | (with_reducible exact fmK_rt)
  | ((with_reducible apply fmK_nx); walk_at "f")
  | assumption)
local macro_rules | `(tactic| walk_at "x") => `(tactic| first
  | (with_reducible exact x_nil)
  | ((with_reducible apply x_cons); walk_at "x"; walk_at "x")
  | ((with_reducible apply x_asg); walk_at "e"; walk_at "as")
  | ((with_reducible apply x_iff); walk_at "e"; walk_at "x")
  | ((with_reducible apply x_ret); walk_at "e")
  | ((with_reducible apply x_exp); walk_at "e")
  | ((with_reducible apply ifX_t); walk_at "b"; walk_at "x")
  | ((with_reducible apply ifX_f); walk_at "b"; walk_at "x")
  | ((with_reducible apply x_for); walk_at "e"; walk_at "e"; walk_at "o"; walk_at "f")
  | (with_reducible exact sqX_rt)
  | ((with_reducible apply sqX_nx); walk_at "x")
  | assumption)
local macro_rules | `(tactic| walk_at "1") => `(tactic| ((with_reducible apply x_cons); walk_at "x"; (with_reducible apply sqX_nx)))
open SrtO
/-! all places, walked -/
theorem head_mk (a : Tr) : ∃ h, IxH (enc a) (.int 0) (.str h) ∧ CmH .eq (.str h) (.str [109, 97, 107, 101, 114]) false ∧ CmH .inQ (.str h) (.tup [.str [109, 97, 107, 101, 114], .str [109, 97, 107, 101], .str [102, 105, 108, 108]]) false := by
  cases a <;> exact ⟨_, ⟨rfl⟩, ⟨rfl⟩, ⟨rfl⟩⟩
theorem pth_snoc {i : Nat} {p : List Nat} (h : p.length + 1 ≤ 1000000) : OpH .add (pth p) (.tup [.int (i : Int)]) (pth (p ++ [i])) := by
  have := op_tup (l := p.map fun (i : Nat) => D.int (i : Int)) (m := [.int (i : Int)]) (by unfold sizeLine; simp; omega)
  rw [show pth (p ++ [i]) = .tup ((p.map fun (i : Nat) => D.int (i : Int)) ++ [.int (i : Int)]) by simp [pth]]
  exact this
theorem it_enum (t : Tr) {y : D} : ItH .enum (lsT t.parts) y ((prtP.enumT 0 t.parts).map fun y => .tup [.int (y.1 : Int), enc y.2]) := ⟨congrArg some (enum_parts t)⟩
theorem sortBy_map {α β : Type} {lt : α → α → Bool} {lt' : β → β → Bool} {f : α → β} (h : ∀ a b, lt' (f a) (f b) = lt a b) : ∀ l : List α, sortBy lt' (l.map f) = (sortBy lt l).map f := by
  have ins : ∀ (x : α) (l : List α), insBy lt' (f x) (l.map f) = (insBy lt x l).map f := by
    intro x l
    induction l with
    | nil => rfl
    | cons y l ih =>
      simp only [List.map_cons, insBy, h]
      split
      · rw [ih]; rfl
      · rfl
  intro l
  induction l with
  | nil => rfl
  | cons x l ih =>
    simp only [List.map_cons, sortBy]
    rw [ih, ins]
theorem ints_pth (p : List Nat) : intsOf (pth p) = some (ip p) := by
  show (p.map fun (i : Nat) => D.int (i : Int)).mapM intOf = _
  induction p with
  | nil => rfl
  | cons x l ih => simp [List.mapM_cons, ih, intOf, ip]
theorem pr_sortK {t : Tr} {F : List Plc} (hp : F.Perm (prel t)) (hd : F.head? = some ([], t)) : PrH .sortK [.lst (F.map plD)] (.lst ((prel t).map plD)) := by
  constructor
  have e : (F.map plD).mapM pairK = some (F.map fun x => (ip x.1, plD x)) := by
    clear hp hd
    induction F with
    | nil => rfl
    | cons x l ih =>
      have h1 : pairK (plD x) = some (ip x.1, plD x) := by
        show (intsOf (pth x.1)).map _ = _
        rw [ints_pth]
        rfl
      simp [List.mapM_cons, ih, h1]
  show ((F.map plD).mapM pairK).bind _ = _
  rw [e]
  show (if headNil _ then _ else _) = _
  rw [if_pos]
  · congr 2
    rw [sortBy_map (lt := ltP) (lt' := fun a b : List Int × D => ltI a.1 b.1) (f := fun x : Plc => (ip x.1, plD x)) (fun a b => rfl), sort_eq ltP_swo hp (prel_srt t), List.map_map]
    rfl
  · cases F with
    | nil => rfl
    | cons a l =>
      cases hd
      rfl
theorem pr_sortP {t : Tr} {F : List Plc} (hp : F.Perm (prel t)) (hd : F.head? = some ([], t)) : PrH .sortP [.lst (F.map fun x => pth x.1)] (.lst ((prel t).map fun x => pth x.1)) := by
  constructor
  have e : (F.map fun x => pth x.1).mapM intsOf = some (F.map fun x => ip x.1) := by
    clear hp hd
    induction F with
    | nil => rfl
    | cons x l ih => simp [List.mapM_cons, ih, ints_pth]
  show ((F.map fun x => pth x.1).mapM intsOf).bind _ = _
  rw [e]
  show (if headNil _ then _ else _) = _
  rw [if_pos]
  · congr 2
    rw [sortBy_map (lt := ltP) (lt' := ltI) (f := fun x : Plc => ip x.1) (fun a b => rfl), sort_eq ltP_swo hp (prel_srt t), List.map_map]
    apply List.map_congr_left
    intro x _
    simp [ip, pth]
  · cases F with
    | nil => rfl
    | cons a l =>
      cases hd
      rfl
def OpInv (t : Tr) (m : Nat) (ρ : Ev) : Prop := ∃ F L : List Plc, ∃ o3 o4 o5 o6 o7, ρ = [some (enc t), some (.lst (F.map plD)), some (.lst (L.map plD)), o3, o4, o5, o6, o7] ∧ OpI t F L ∧ m = sizP L
def OpPost (t : Tr) (o : Out) : Prop := ∃ F : List Plc, ∃ o2 o3 o4 o5 o6 o7, o = .nx [some (enc t), some (.lst (F.map plD)), o2, o3, o4, o5, o6, o7] ∧ OpI t F []
theorem op_loop (t : Tr) (hz : t.size ≤ 100000) (k : Nat) (st : Cup) {ρ : Ev} (hi : OpInv t t.size ρ) : ∃ o, WM (k + 1) b_outer_places_L0c b_outer_places_L0b turns ρ st o st ∧ OpPost t o := by
  refine wm_post (OpInv t) (OpPost t) ?_ turns t.size ρ (by unfold turns; omega) hi
  rintro m ρ ⟨F, L, o3, o4, o5, o6, o7, rfl, hI, rfl⟩
  rcases List.eq_nil_or_concat L with rfl | ⟨L', ⟨p, u⟩, rfl⟩
  · left
    exact ⟨by walk_at "e", F, _, _, _, _, _, _, rfl, hI⟩
  · right
    rw [List.concat_eq_append] at *
    have hS := hI.step
    have hsz := hI.siz
    have hlen := hI.len
    have hpl : p.length + u.size ≤ t.size := hI.pl (p, u) (by simp)
    have xs : 1 ≤ u.size := size_pos u
    have hp3 : u.parts.length ≤ 3 := parts_len u
    have hprt : sizP (prtP (p, u)) + 1 = u.size := sizP_prt (p, u)
    rw [List.length_append, List.length_singleton] at hlen
    rw [sizP_app] at *
    simp only [sizP, Nat.add_zero] at hsz ⊢
    have emap : (L' ++ [(p, u)]).map plD = L'.map plD ++ [.tup [pth p, enc u]] := by simp
    rw [emap]
    have hne : CmH .ne (.lst (L'.map plD ++ [.tup [pth p, enc u]])) (.lst []) true := by
      have := ne_nil (l := L'.map plD ++ [D.tup [pth p, enc u]])
      rwa [show (L'.map plD ++ [D.tup [pth p, enc u]]).isEmpty = false by simp] at this
    obtain ⟨hh, i1, c1, _⟩ := head_mk u
    have hu := parts_in_ok u k st
    have g1 : OpH .add (.lst (F.map plD)) (.lst [.tup [pth p, enc u]]) (.lst ((F ++ [(p, u)]).map plD)) := by
      rw [List.map_append]
      exact op_lst (by unfold sizeLine; simp only [List.length_map, List.length_singleton]; omega)
    refine ⟨by walk_at "e", .inr ⟨_, sizP (L' ++ prtP (p, u)), ?_, ?_, F ++ [(p, u)], L' ++ prtP (p, u), some (pth p), some (enc u), some (.int 0), o6, o7, rfl, hS, rfl⟩⟩
    · walk_at "1"
      walk_at "1"
      walk_at "1"
      with_reducible apply x_cons
      · with_reducible apply x_asg
        · with_reducible apply e_op
          · walk_at "e"
          · apply e_fil (its := prtP.enumT 0 u.parts) (f := fun y => .tup [.int (y.1 : Int), enc y.2]) (p := fun _ => true) (g := fun y => plD (p ++ [y.1], y.2))
            · exact fun h => nomatch h
            · walk_at "e"
            · walk_at "e"
            · exact it_enum u
            · rw [enumT_len]; unfold sizeLine; omega
            · intro y hy
              have c2 : CmH .ge (.int (y.1 : Int)) (.int 0) true := ⟨congrArg some (decide_eq_true (by omega))⟩
              have g2 : OpH .add (pth p) (.tup [.int (y.1 : Int)]) (pth (p ++ [y.1])) := pth_snoc (by omega)
              exact ⟨_, rfl, by walk_at "e", fun _ => by walk_at "e"⟩
          · rw [List.filter_eq_self.mpr (fun _ _ => rfl)]
            exact op_lst (by unfold sizeLine; simp only [List.length_map, enumT_len]; omega)
        · walk_at "as"
      · have : (L' ++ prtP (p, u)).map plD = L'.map plD ++ (prtP.enumT 0 u.parts).map fun y => plD (p ++ [y.1], y.2) := by
          simp [prtP, List.map_map, Function.comp_def]
        rw [this]
        walk_at "x"
    · rw [sizP_app]
      omega
theorem outer_places_ok (t : Tr) (hz : t.size ≤ 100000) (k : Nat) (st : Cup) : Rn (k + 2) f_outer_places [enc t] st (.lst ((prel t).map plD)) st := by
  obtain ⟨o, hw, F, o2, o3, o4, o5, o6, o7, rfl, hI⟩ := op_loop t hz k st (ρ := [some (enc t), some (.lst (([] : List Plc).map plD)), some (.lst ([([], t)].map plD)), none, none, none, none, none]) ⟨[], [([], t)], none, none, none, none, none, rfl, OpI.start t, by simp [sizP]⟩
  have hp : F.Perm (prel t) := by simpa [flatP] using hI.perm
  have hd : F.head? = some ([], t) := by
    rcases hI.hd with ⟨_, h⟩ | h
    · cases h
    · exact h
  have s1 := pr_sortK hp hd
  apply r_df df_outer_places rfl
  · walk_at "st"
  · walk_at "1"
    with_reducible apply x_cons
    · exact x_whl hw
    walk_at "x"
  · rfl
def PiInv (t : Tr) (m : Nat) (ρ : Ev) : Prop := ∃ F L : List Plc, ∃ o3 o4 o5 o6, ρ = [some (enc t), some (.lst (F.map fun x => pth x.1)), some (.lst (L.map plD)), o3, o4, o5, o6] ∧ OpI t F L ∧ m = sizP L
def PiPost (t : Tr) (o : Out) : Prop := ∃ F : List Plc, ∃ o2 o3 o4 o5 o6, o = .nx [some (enc t), some (.lst (F.map fun x => pth x.1)), o2, o3, o4, o5, o6] ∧ OpI t F []
theorem pi_loop (t : Tr) (hz : t.size ≤ 100000) (k : Nat) (st : Cup) {ρ : Ev} (hi : PiInv t t.size ρ) : ∃ o, WM (k + 1) b_paths_in_L0c b_paths_in_L0b turns ρ st o st ∧ PiPost t o := by
  refine wm_post (PiInv t) (PiPost t) ?_ turns t.size ρ (by unfold turns; omega) hi
  rintro m ρ ⟨F, L, o3, o4, o5, o6, rfl, hI, rfl⟩
  rcases List.eq_nil_or_concat L with rfl | ⟨L', ⟨p, u⟩, rfl⟩
  · left
    exact ⟨by walk_at "e", F, _, _, _, _, _, rfl, hI⟩
  · right
    rw [List.concat_eq_append] at *
    have hS := hI.step
    have hsz := hI.siz
    have hlen := hI.len
    have hpl : p.length + u.size ≤ t.size := hI.pl (p, u) (by simp)
    have xs : 1 ≤ u.size := size_pos u
    have hp3 : u.parts.length ≤ 3 := parts_len u
    have hprt : sizP (prtP (p, u)) + 1 = u.size := sizP_prt (p, u)
    rw [List.length_append, List.length_singleton] at hlen
    rw [sizP_app] at *
    simp only [sizP, Nat.add_zero] at hsz ⊢
    have emap : (L' ++ [(p, u)]).map plD = L'.map plD ++ [.tup [pth p, enc u]] := by simp
    rw [emap]
    have hne : CmH .ne (.lst (L'.map plD ++ [.tup [pth p, enc u]])) (.lst []) true := by
      have := ne_nil (l := L'.map plD ++ [D.tup [pth p, enc u]])
      rwa [show (L'.map plD ++ [D.tup [pth p, enc u]]).isEmpty = false by simp] at this
    have hu := parts_in_ok u k st
    have g1 : OpH .add (.lst (F.map fun x => pth x.1)) (.lst [pth p]) (.lst ((F ++ [(p, u)]).map fun x => pth x.1)) := by
      rw [List.map_append]
      exact op_lst (by unfold sizeLine; simp only [List.length_map, List.length_singleton]; omega)
    refine ⟨by walk_at "e", .inr ⟨_, sizP (L' ++ prtP (p, u)), ?_, ?_, F ++ [(p, u)], L' ++ prtP (p, u), some (pth p), some (enc u), o5, o6, rfl, hS, rfl⟩⟩
    · walk_at "1"
      walk_at "1"
      with_reducible apply x_cons
      · with_reducible apply x_asg
        · with_reducible apply e_op
          · walk_at "e"
          · apply e_map (its := prtP.enumT 0 u.parts) (f := fun y => .tup [.int (y.1 : Int), enc y.2]) (g := fun y => plD (p ++ [y.1], y.2))
            · walk_at "e"
            · walk_at "e"
            · exact it_enum u
            · rw [enumT_len]; unfold sizeLine; omega
            · intro y hy
              have g2 : OpH .add (pth p) (.tup [.int (y.1 : Int)]) (pth (p ++ [y.1])) := pth_snoc (by omega)
              exact ⟨_, rfl, by walk_at "e"⟩
          · exact op_lst (by unfold sizeLine; simp only [List.length_map, enumT_len]; omega)
        · walk_at "as"
      · have : (L' ++ prtP (p, u)).map plD = L'.map plD ++ (prtP.enumT 0 u.parts).map fun y => plD (p ++ [y.1], y.2) := by
          simp [prtP, List.map_map, Function.comp_def]
        rw [this]
        walk_at "x"
    · rw [sizP_app]
      omega
theorem paths_in_ok (t : Tr) (hz : t.size ≤ 100000) (k : Nat) (st : Cup) : Rn (k + 2) f_paths_in [enc t] st (.lst ((prel t).map fun x => pth x.1)) st := by
  obtain ⟨o, hw, F, o2, o3, o4, o5, o6, rfl, hI⟩ := pi_loop t hz k st (ρ := [some (enc t), some (.lst (([] : List Plc).map fun x => pth x.1)), some (.lst ([([], t)].map plD)), none, none, none, none]) ⟨[], [([], t)], none, none, none, none, rfl, OpI.start t, by simp [sizP]⟩
  have hp : F.Perm (prel t) := by simpa [flatP] using hI.perm
  have hd : F.head? = some ([], t) := by
    rcases hI.hd with ⟨_, h⟩ | h
    · cases h
    · exact h
  have s1 := pr_sortP hp hd
  apply r_df df_paths_in rfl
  · walk_at "st"
  · walk_at "1"
    with_reducible apply x_cons
    · exact x_whl hw
    walk_at "x"
  · rfl
def Tr.nms : Tr → List Wd
  | .use w => [w] | .giv w _ => [w] | .hol w _ _ => [w] | _ => []
theorem cm_fill {w : Wd} (h : fitsW w = true) : CmH .ne (.str w) (.str [102, 105, 108, 108]) true := ⟨by
  show (eqO (.str w) (.str _)).map (!·) = _
  rw [eqO_str (ascii_of h) rfl, not_taken h (by decide +kernel)]
  rfl⟩
theorem names_at_ok (t : Tr) (hg : t.good = true) (k : Nat) (st : Cup) : Rn (k + 1) f_names_at [enc t] st (.lst (t.nms.map nm)) st := by
  cases t with
  | use w =>
    have c := cm_fill (show fitsW w = true from hg)
    apply r_df df_names_at rfl
    · walk_at "st"
    · walk_at "x"
    · rfl
  | giv w b =>
    have c := cm_fill (Bool.and_eq_true_iff.mp hg).1
    apply r_df df_names_at rfl
    · walk_at "st"
    · walk_at "x"
    · rfl
  | hol w a b =>
    have c := cm_fill (Bool.and_eq_true_iff.mp hg).1
    apply r_df df_names_at rfl
    · walk_at "st"
    · walk_at "x"
    · rfl
  | _ => exact ⟨rfl⟩
theorem plain_fm (t : Tr) (hg : t.good = true) (k : Nat) (st : Cup) : ∀ (l : List Plc) (o1 o2 o3 : Option D), (∀ x ∈ l, t.at x.1 = some x.2) → ∃ o1' o2' o3', FM (k + 2) (.slot 1) b_is_all_plain_L0b (l.map fun x => pth x.1) [some (enc t), o1, o2, o3] st (.nx [some (enc t), o1', o2', o3']) st
  | [], o1, o2, o3, _ => ⟨_, _, _, fm_nil⟩
  | x :: l, o1, o2, o3, h => by
    obtain ⟨p, u⟩ := x
    have hx := h (p, u) (List.mem_cons_self ..)
    have gu := (at_facts _ _ _ hx).2.2.2 hg
    have h1 := led_to_ok t u p hx k st
    have h2 := names_at_ok u gu (k + 1) st
    obtain ⟨hh, i1, _, c1⟩ := head_mk u
    obtain ⟨o1', o2', o3', hf⟩ := plain_fm t hg k st l (some (pth p)) (some (enc u)) o3 fun y hy => h y (List.mem_cons_of_mem _ hy)
    refine ⟨o1', o2', o3', ?_⟩
    apply fm_cons
    · walk_at "as"
    · walk_at "1"
      with_reducible apply x_cons
      · with_reducible apply x_iff
        · with_reducible apply e_or
          · walk_at "e"
          with_reducible apply orK_f
          · rfl
          with_reducible apply e_cmp
          · apply e_fil (its := u.nms) (f := nm) (p := fun _ => false) (g := nm)
            · exact fun h => nomatch h
            · walk_at "e"
            · walk_at "e"
            · exact ⟨rfl⟩
            · cases u <;> unfold sizeLine <;> simp [Tr.nms]
            · intro w hw
              exact ⟨_, rfl, by walk_at "e", fun h => nomatch h⟩
          · walk_at "e"
          · rw [List.filter_eq_nil_iff.mpr (fun _ _ => by simp)]
            exact ⟨(rfl : _ = some false)⟩
        · walk_at "x"
      · walk_at "x"
    · exact hf
theorem is_all_plain_ok (t : Tr) (hg : t.good = true) (hz : t.size ≤ 100000) (k : Nat) (st : Cup) : Rn (k + 3) f_is_all_plain [enc t] st (.bl true) st := by
  obtain ⟨o1, o2, o3, hf⟩ := plain_fm t hg k st (prel t) none none none (prel_at t)
  have h1 := paths_in_ok t hz k st
  have h2 := it_lst (l := (prel t).map fun x => pth x.1) (y := .lst [])
  apply r_df df_is_all_plain rfl
  · walk_at "st"
  · walk_at "x"
  · rfl
end N57
end
section
set_option maxRecDepth 100000
set_option maxHeartbeats 4000000
namespace N57
open PySem
local macro_rules | `(tactic| walk_at "b") => `(tactic| first | rfl | assumption)
local macro_rules | `(tactic| walk_at "cm") => `(tactic| first | assumption | (with_reducible exact ne_nil) | (with_reducible exact eq_nil) | exact ⟨(rfl : _ = some true)⟩ | exact ⟨(rfl : _ = some false)⟩ | exact ⟨rfl⟩)
local macro_rules | `(tactic| walk_at "o") => `(tactic| first | assumption | (with_reducible exact ix_last) | exact ⟨rfl⟩)
local macro_rules | `(tactic| walk_at "sl") => `(tactic| first | assumption | exact sl_init | exact sl_t1 | exact sl_t2 | exact ⟨rfl⟩)
local macro_rules | `(tactic| walk_at "c") => `(tactic| first | assumption | (with_reducible exact parts_in_ok _ _ _) | (with_reducible exact law_parts_ok _ _ _) | (with_reducible exact is_done_ok _ _ _))
local macro_rules | `(tactic| walk_at "as") => `(tactic| (repeat' (first | apply AsR.slot | apply AsR.tup | apply AsR.cons | apply AsR.nil | apply SetR.s | apply SetR.z)))
local macro_rules | `(tactic| walk_at "st") => `(tactic| (repeat' (first | apply StR.some | apply StR.none | apply StR.nil)))
local macro_rules | `(tactic| walk_at "e") => `(tactic| first
  | ((with_reducible apply e_var); rfl)
  | (with_reducible exact e_con)
  | ((with_reducible apply e_cons); walk_at "e"; walk_at "e")
  | (with_reducible exact e_nil)
  | ((with_reducible apply e_glb); rfl)
  | ((with_reducible apply e_tup); walk_at "e")
  | ((with_reducible apply e_lst); walk_at "e")
  | ((with_reducible apply e_ix); walk_at "e"; walk_at "e"; walk_at "o")
  | ((with_reducible apply e_cmp); walk_at "e"; walk_at "e"; walk_at "cm")
  | ((with_reducible apply e_op); walk_at "e"; walk_at "e"; walk_at "o")
  | ((with_reducible apply e_call); walk_at "e"; walk_at "c")
  | ((with_reducible apply e_pr); walk_at "e"; walk_at "o")
  | ((with_reducible apply e_and); walk_at "e"; first | ((with_reducible apply andK_t); walk_at "b"; walk_at "e") | ((with_reducible apply andK_f); walk_at "b"; walk_at "b") | ((with_reducible apply andK_both); walk_at "e"; walk_at "b"))
  | ((with_reducible apply e_or); walk_at "e"; first | ((with_reducible apply orK_t); walk_at "b"; walk_at "b") | ((with_reducible apply orK_f); walk_at "b"; walk_at "e") | ((with_reducible apply orK_both); walk_at "e"; walk_at "b"))
  | ((with_reducible apply e_ite); walk_at "e"; first | ((with_reducible apply ifK_t); walk_at "b"; walk_at "e") | ((with_reducible apply ifK_f); walk_at "b"; walk_at "e"))
  | ((with_reducible apply e_not); walk_at "e"; walk_at "b")
  | ((with_reducible apply e_isN); walk_at "e"; walk_at "b")
  | ((with_reducible apply e_notN); walk_at "e"; walk_at "b")
  | ((with_reducible apply e_neg); walk_at "e"; walk_at "b")
  | ((with_reducible apply e_chain); walk_at "e"; walk_at "e"; walk_at "cm"; walk_at "e"; walk_at "cm"; walk_at "b")
  | ((with_reducible apply e_sl); walk_at "e"; walk_at "e"; rfl; walk_at "e"; rfl; walk_at "sl")
  | (with_reducible exact e_dic0)
  | ((with_reducible apply e_dicS); walk_at "e")
  | ((with_reducible apply e_cg); walk_at "e")
  | assumption)
local macro_rules | `(tactic| walk_at "f") => `(tactic| first
  | exact fm_nil
  | (apply fm_cons; walk_at "as"; walk_at "x"; walk_at "f")
  | (with_reducible exact fmK_rt)
  | ((with_reducible apply fmK_nx); walk_at "f")
  | assumption)
local macro_rules | `(tactic| walk_at "x") => `(tactic| first
  | (with_reducible exact x_nil)
  | ((with_reducible apply x_cons); walk_at "x"; walk_at "x")
  | ((with_reducible apply x_asg); walk_at "e"; walk_at "as")
  | ((with_reducible apply x_iff); walk_at "e"; walk_at "x")
  | ((with_reducible apply x_ret); walk_at "e")
  | ((with_reducible apply x_exp); walk_at "e")
  | ((with_reducible apply ifX_t); walk_at "b"; walk_at "x")
  | ((with_reducible apply ifX_f); walk_at "b"; walk_at "x")
  | ((with_reducible apply x_for); walk_at "e"; walk_at "e"; walk_at "o"; walk_at "f")
  | (with_reducible exact sqX_rt)
  | ((with_reducible apply sqX_nx); walk_at "x")
  | assumption)
local macro_rules | `(tactic| walk_at "1") => `(tactic| ((with_reducible apply x_cons); walk_at "x"; (with_reducible apply sqX_nx)))
/-! what a name means -/
abbrev PEnv := List (Wd × List Nat)
def Tr.ext : Tr → Nat → List Nat → PEnv → PEnv
  | .giv w _, _, q, e => (w, q) :: e
  | .hol w _ _, i, q, e => if i = 1 then (w, q) :: e else e
  | _, _, _, e => e
def envAt : Tr → List Nat → List Nat → PEnv → PEnv
  | _, [], _, e => e
  | t, i :: p, q, e => match t.parts[i]? with
    | some u => envAt u p (q ++ [i]) (t.ext i q e)
    | none => e
def lookE : PEnv → Wd → Option (List Nat)
  | [], _ => none
  | p :: e, w => if natsEq p.1 w then some p.2 else lookE e w
theorem env_snoc : ∀ (p : List Nat) (t v u : Tr) (i : Nat) (q : List Nat) (e : PEnv), t.at p = some v → v.parts[i]? = some u → envAt t (p ++ [i]) q e = v.ext i (q ++ p) (envAt t p q e)
  | [], t, v, u, i, q, e, h, hu => by
    cases h
    simp [envAt, hu]
  | j :: p, t, v, u, i, q, e, h, hu => by
    unfold Tr.at at h
    split at h
    · rename_i z hz
      have := env_snoc p z v u i (q ++ [j]) (t.ext j q e) h hu
      simp only [List.cons_append, envAt, hz]
      rw [this]
      simp
    · cases h
def qD : Option (List Nat) → D
  | none => .non
  | some q => pth q
theorem sl_pth {p : List Nat} {i : Nat} : SlH (pth p) none (some (i : Int)) (pth (p.take i)) := by
  constructor
  show some (D.tup (cutG (p.map fun (i : Nat) => D.int (i : Int)) none (some (i : Int)))) = _
  unfold cutG
  rw [HT.sIx_nat]
  simp [HT.sIx, List.take_eq_take_iff, List.map_take]
theorem binds_giv (x : Wd) (b : Tr) (i : Nat) (k : Nat) (st : Cup) : Rn (k + 1) f_binds_in [enc (.giv x b), .int (i : Int)] st (.bl true) st := ⟨rfl⟩
theorem binds_hol (x : Wd) (a b : Tr) (i : Nat) (k : Nat) (st : Cup) : Rn (k + 1) f_binds_in [enc (.hol x a b), .int (i : Int)] st (.bl (decide (i = 1))) st := by
  have c : CmH .eq (.int (i : Int)) (.int 1) (decide (i = 1)) := ⟨by
    show some (decide ((i : Int) = 1)) = _
    congr 1
    rw [decide_eq_decide]
    omega⟩
  apply r_df df_binds_in rfl
  · walk_at "st"
  · walk_at "x"
  · rfl
def nrOut (r : Option (List Nat)) (a b c d o4 o5 : Option D) : Out := match r with
  | none => .nx [a, b, c, d, o4, o5]
  | some q => .rt (pth q)
theorem nearest_fm (k : Nat) (st : Cup) (t z : Tr) (hg : t.good = true) (w : Wd) (hw : fitsW w = true) (p : List Nat) (hp : t.at p = some z) : ∀ (n : Nat) (o4 o5 : Option D), n ≤ p.length →
    ∃ o4' o5', FM (k + 1) (.slot 4) b_nearest_L0b (dn n) [some (enc t), some (pth p), some (nm w), some (lsT (t.line p)), o4, o5] st (nrOut (lookE (envAt t (p.take n) [] []) w) (some (enc t)) (some (pth p)) (some (nm w)) (some (lsT (t.line p))) o4' o5') st
  | 0, o4, o5, hn => ⟨o4, o5, by rw [List.take_zero]; exact fm_nil⟩
  | n + 1, o4, o5, hn => by
    obtain ⟨i, hi⟩ : ∃ i, p[n]? = some i := ⟨p[n], List.getElem?_eq_getElem (by omega)⟩
    have e1 : p.take (n + 1) = p.take n ++ [i] := by
      rw [List.take_add_one, hi]; rfl
    obtain ⟨v, hv⟩ : ∃ v, t.at (p.take n) = some v := by
      have := line_get p t z hp n (by omega)
      rw [← this]
      exact ⟨(t.line p)[n]'(by rw [line_len p t z hp]; omega), List.getElem?_eq_getElem (by rw [line_len p t z hp]; omega)⟩
    obtain ⟨u, hu⟩ : ∃ u, v.parts[i]? = some u := by
      have h2 : t.at (p.take (n + 1) ++ p.drop (n + 1)) = some z := by rw [List.take_append_drop]; exact hp
      rw [e1, List.append_assoc, at_app _ _ _ _ hv] at h2
      simp only [List.cons_append, List.nil_append, Tr.at] at h2
      split at h2
      · exact ⟨_, by assumption⟩
      · cases h2
    have hgv := (at_facts _ _ _ hv).2.2.2 hg
    have ee : envAt t (p.take (n + 1)) [] [] = v.ext i (p.take n) (envAt t (p.take n) [] []) := by
      rw [e1, env_snoc _ _ _ _ _ _ _ hv hu, List.nil_append]
    rw [ee]
    have g1 : IxH (lsT (t.line p)) (.int n) (enc v) := ix_lst (by rw [List.getElem?_map, line_get p t z hp n (by omega), hv]; rfl)
    have g2 : IxH (pth p) (.int n) (.int i) := ix_tup (by rw [List.getElem?_map, hi]; rfl)
    have g3 := sl_pth (p := p) (i := n)
    obtain ⟨o4', o5', hf⟩ := nearest_fm k st t z hg w hw p hp n (some (.int n)) (some (enc v)) (by omega)
    show ∃ o4' o5', FM _ _ _ (.int (n : Int) :: dn n) _ _ _ _
    have skip : v.ext i (p.take n) (envAt t (p.take n) [] []) = envAt t (p.take n) [] [] → XS (k + 1) b_nearest_L0b [some (enc t), some (pth p), some (nm w), some (lsT (t.line p)), some (.int n), o5] st (.nx [some (enc t), some (pth p), some (nm w), some (lsT (t.line p)), some (.int n), some (enc v)]) st →
        ∃ o4' o5', FM (k + 1) (.slot 4) b_nearest_L0b (.int (n : Int) :: dn n) [some (enc t), some (pth p), some (nm w), some (lsT (t.line p)), o4, o5] st (nrOut (lookE (v.ext i (p.take n) (envAt t (p.take n) [] [])) w) (some (enc t)) (some (pth p)) (some (nm w)) (some (lsT (t.line p))) o4' o5') st := by
      intro e0 hx
      rw [e0]
      refine ⟨o4', o5', ?_⟩
      apply fm_cons
      · walk_at "as"
      · exact hx
      · exact hf
    cases v with
    | giv x b =>
      have hgx := (Bool.and_eq_true_iff.mp hgv).1
      have c := cm_nm hgx hw
      have bi := binds_giv x b i k st
      cases e : natsEq x w
      · rw [e] at c
        have e2 : lookE (Tr.ext (.giv x b) i (p.take n) (envAt t (p.take n) [] [])) w = lookE (envAt t (p.take n) [] []) w := by simp [Tr.ext, lookE, e]
        rw [e2]
        refine ⟨o4', o5', ?_⟩
        apply fm_cons
        · walk_at "as"
        · walk_at "x"
        · exact hf
      · rw [e] at c
        have e2 : lookE (Tr.ext (.giv x b) i (p.take n) (envAt t (p.take n) [] [])) w = some (p.take n) := by simp [Tr.ext, lookE, e]
        rw [e2]
        refine ⟨none, none, ?_⟩
        apply fm_cons
        · walk_at "as"
        · walk_at "x"
        · exact fmK_rt
    | hol x a b =>
      have hgx := (Bool.and_eq_true_iff.mp hgv).1
      have c := cm_nm hgx hw
      have bi := binds_hol x a b i k st
      by_cases h1 : i = 1
      · rw [decide_eq_true h1] at bi
        cases e : natsEq x w
        · rw [e] at c
          have e2 : lookE (Tr.ext (.hol x a b) i (p.take n) (envAt t (p.take n) [] [])) w = lookE (envAt t (p.take n) [] []) w := by simp [Tr.ext, lookE, e, h1]
          rw [e2]
          refine ⟨o4', o5', ?_⟩
          apply fm_cons
          · walk_at "as"
          · walk_at "x"
          · exact hf
        · rw [e] at c
          have e2 : lookE (Tr.ext (.hol x a b) i (p.take n) (envAt t (p.take n) [] [])) w = some (p.take n) := by simp [Tr.ext, lookE, e, h1]
          rw [e2]
          refine ⟨none, none, ?_⟩
          apply fm_cons
          · walk_at "as"
          · walk_at "x"
          · exact fmK_rt
      · rw [decide_eq_false h1] at bi
        refine skip (by simp [Tr.ext, h1]) ?_
        cases e : natsEq x w <;> rw [e] at c <;> walk_at "x"
    | amt _ => exact skip rfl (by walk_at "x")
    | use _ => exact skip rfl (by walk_at "x")
    | app _ _ => exact skip rfl (by walk_at "x")
    | rek _ _ _ => exact skip rfl (by walk_at "x")
    | tst _ _ _ => exact skip rfl (by walk_at "x")
theorem nearest_ok (t z : Tr) (hg : t.good = true) (w : Wd) (hw : fitsW w = true) (p : List Nat) (hp : t.at p = some z) (hz : p.length < 1000000) (k : Nat) (st : Cup) : Rn (k + 3) f_nearest [enc t, pth p, nm w] st (qD (lookE (envAt t p [] []) w)) st := by
  have h1 := line_to_ok t z p hp (by unfold sizeLine; omega) k st
  obtain ⟨o4, o5, hf⟩ := nearest_fm (k + 1) st t z hg w hw p hp p.length none none (Nat.le_refl _)
  rw [List.take_length] at hf
  have hi := it_dn (n := p.length) (y := .lst []) (by omega)
  have hl := len_pth (p := p)
  cases e : lookE (envAt t p [] []) w with
  | none =>
    rw [e] at hf
    have hf : FM (k + 2) (.slot 4) b_nearest_L0b (dn p.length) [some (enc t), some (pth p), some (nm w), some (lsT (t.line p)), none, none] st (.nx [some (enc t), some (pth p), some (nm w), some (lsT (t.line p)), o4, o5]) st := hf
    apply r_df df_nearest rfl
    · walk_at "st"
    · walk_at "1"
      with_reducible apply x_cons
      · with_reducible apply x_for
        · walk_at "e"
        · walk_at "e"
        · exact hi
        · exact hf
      · walk_at "x"
    · rfl
  | some q =>
    rw [e] at hf
    have hf : FM (k + 2) (.slot 4) b_nearest_L0b (dn p.length) [some (enc t), some (pth p), some (nm w), some (lsT (t.line p)), none, none] st (.rt (pth q)) st := hf
    apply r_df df_nearest rfl
    · walk_at "st"
    · walk_at "1"
      with_reducible apply x_cons
      · with_reducible apply x_for
        · walk_at "e"
        · walk_at "e"
        · exact hi
        · exact hf
      · walk_at "x"
    · rfl
theorem wm_stop {k : Nat} {c : Tm} {s : Sm} {ρ : Ev} {st : Cup} (h : EV k c ρ st (.bl false) st) : WM k c s turns ρ st (.nx ρ) st := by
  constructor
  show whlM _ _ (999999 + 1) ρ st = _
  show M.bnd _ _ _ = _
  have e : M.bnd (ev (En k) c ρ) (fun x => M.of (asBool x)) st = some (false, st) := by
    rw [bnd_eq h.h]; rfl
  rw [bnd_eq e]; rfl
abbrev wkD (t : Tr) : D := .tup [enc t, .tup []]
theorem meant_ok (t z : Tr) (hg : t.good = true) (w : Wd) (hw : fitsW w = true) (p : List Nat) (hp : t.at p = some z) (hz : p.length < 1000000) (k : Nat) (st : Cup) : Rn (k + 4) f_meant [wkD t, pth p, nm w] st (.tup [qD (lookE (envAt t p [] []) w), .str w]) st := by
  have h1 := nearest_ok t z hg w hw p hp hz k st
  cases e : lookE (envAt t p [] []) w <;> rw [e] at h1 <;>
  · apply r_df df_meant rfl
    · walk_at "st"
    · walk_at "1"
      walk_at "1"
      with_reducible apply x_cons
      · apply x_whl
        apply wm_stop
        walk_at "e"
      · walk_at "x"
    · rfl
/-! free words -/
def frb : List Wd → Tr → List Wd
  | _, .amt _ => []
  | bd, .use w => if bd.any (fun x => natsEq x w) then [] else [w]
  | bd, .giv w b => frb (w :: bd) b
  | bd, .app a b => frb bd a ++ frb bd b
  | bd, .hol w a b => frb bd a ++ frb (w :: bd) b
  | bd, .rek _ a b => frb bd a ++ frb bd b
  | bd, .tst a b c => frb bd a ++ (frb bd b ++ frb bd c)
def frP (u : Tr) (q : List Nat) (e : PEnv) (x : Plc) : Option Wd := match x.2 with
  | .use w => if (lookE (envAt u x.1 q e) w).isNone then some w else none
  | _ => none
theorem look_any (e : PEnv) (w : Wd) : (lookE e w).isNone = !(e.map (·.1)).any (fun x => natsEq x w) := by
  induction e with
  | nil => rfl
  | cons p e ih =>
    simp only [lookE, List.map_cons, List.any_cons]
    split
    · rename_i h; simp [h]
    · rename_i h
      rw [ih]
      have h : natsEq p.1 w = false := by simpa using h
      rw [h]; rfl
theorem fm_psh {i : Nat} {u v : Tr} {q : List Nat} {e : PEnv} (h : u.parts[i]? = some v) (l : List Plc) : (psh i l).filterMap (frP u q e) = l.filterMap (frP v (q ++ [i]) (u.ext i q e)) := by
  unfold psh
  rw [List.filterMap_map]
  congr 1
  funext x
  unfold frP
  simp only [Function.comp]
  cases x.2 <;> simp [envAt, h]
theorem frees_eq : ∀ (u : Tr) (q : List Nat) (e : PEnv), (prel u).filterMap (frP u q e) = frb (e.map (·.1)) u
  | .amt i, q, e => rfl
  | .use w, q, e => by
    have := look_any e w
    have e1 : frP (.use w) q e ([], .use w) = if (lookE e w).isNone then some w else none := rfl
    simp only [prel, List.filterMap_cons, List.filterMap_nil, frb, e1, this]
    cases (e.map (·.1)).any (fun x => natsEq x w) <;> rfl
  | .giv w b, q, e => by
    simp only [prel, List.filterMap_cons]
    rw [fm_psh (v := b) rfl, frees_eq b]
    rfl
  | .app a b, q, e => by
    simp only [prel, List.filterMap_cons, List.filterMap_append]
    rw [fm_psh (v := a) rfl, fm_psh (v := b) rfl, frees_eq a, frees_eq b]
    rfl
  | .hol w a b, q, e => by
    simp only [prel, List.filterMap_cons, List.filterMap_append]
    rw [fm_psh (v := a) rfl, fm_psh (v := b) rfl, frees_eq a, frees_eq b]
    rfl
  | .rek o a b, q, e => by
    simp only [prel, List.filterMap_cons, List.filterMap_append]
    rw [fm_psh (v := a) rfl, fm_psh (v := b) rfl, frees_eq a, frees_eq b]
    rfl
  | .tst a b c, q, e => by
    simp only [prel, List.filterMap_cons, List.filterMap_append]
    rw [fm_psh (v := a) rfl, fm_psh (v := b) rfl, fm_psh (v := c) rfl, frees_eq a, frees_eq b, frees_eq c]
    rfl
theorem head_um (a : Tr) : ∃ h, IxH (enc a) (.int 0) (.str h) ∧ CmH .inQ (.str h) (.tup [.str sUse, .str [109, 97, 107, 101]]) a.useW.isSome := by
  cases a <;> exact ⟨_, ⟨rfl⟩, ⟨rfl⟩⟩
theorem frees_fm (t : Tr) (hg : t.good = true) (hz : t.size ≤ 100000) (k : Nat) (st : Cup) : ∀ (l : List Plc) (acc : List Wd) (o2 o3 o4 o5 : Option D), (∀ x ∈ l, t.at x.1 = some x.2) → acc.length + l.length ≤ 1000000 →
    ∃ o2' o3' o4' o5', FM (k + 4) (.tup (.cons (.slot 2) (.cons (.slot 3) .nil))) b_frees_in_L0b (l.map plD) [some (wkD t), some (.lst (acc.map .str)), o2, o3, o4, o5] st (.nx [some (wkD t), some (.lst ((acc ++ l.filterMap (frP t [] [])).map .str)), o2', o3', o4', o5']) st
  | [], acc, o2, o3, o4, o5, _, _ => ⟨_, _, _, _, by rw [List.filterMap_nil, List.append_nil]; exact fm_nil⟩
  | x :: l, acc, o2, o3, o4, o5, h, hl => by
    obtain ⟨p, u⟩ := x
    have hx := h (p, u) (List.mem_cons_self ..)
    obtain ⟨f1, f2, f3, f4⟩ := at_facts _ _ _ hx
    have gu := f4 hg
    have ht := fun y hy => h y (List.mem_cons_of_mem (p, u) hy)
    rw [List.length_cons] at hl
    have hpl : p.length < 1000000 := by
      have : ∀ t : Tr, t.depth ≤ t.size := by
        intro t
        induction t <;> simp only [Tr.depth, Tr.size] <;> omega
      have := this t
      simp only at f2
      omega
    obtain ⟨hh, i1, c1⟩ := head_um u
    cases hu : u.useW with
    | none =>
      rw [hu] at c1
      simp only [Option.isSome_none] at c1
      have e : frP t [] [] (p, u) = none := by
        unfold frP
        cases u <;> first | rfl | cases hu
      obtain ⟨o2', o3', o4', o5', hf⟩ := frees_fm t hg hz k st l acc (some (pth p)) (some (enc u)) o4 o5 ht (by omega)
      rw [List.filterMap_cons, e]
      refine ⟨o2', o3', o4', o5', ?_⟩
      apply fm_cons
      · walk_at "as"
      · walk_at "x"
      · exact hf
    | some w =>
      rw [hu] at c1
      simp only [Option.isSome_some] at c1
      have hw := useW_some hu
      subst hw
      have m1 := meant_ok t (.use w) hg w gu p hx hpl k st
      cases e : lookE (envAt t p [] []) w with
      | none =>
        rw [e] at m1
        have e2 : frP t [] [] (p, .use w) = some w := by simp [frP, e]
        have g1 : OpH .add (.lst (acc.map .str)) (.lst [.str w]) (.lst ((acc ++ [w]).map .str)) := by
          rw [List.map_append]
          exact op_lst (by unfold sizeLine; simp only [List.length_map, List.length_singleton]; omega)
        obtain ⟨o2', o3', o4', o5', hf⟩ := frees_fm t hg hz k st l (acc ++ [w]) (some (pth p)) (some (enc (.use w))) (some .non) (some (.str w)) ht (by simp; omega)
        rw [List.filterMap_cons, e2]
        rw [show acc ++ [w] ++ l.filterMap (frP t [] []) = acc ++ w :: l.filterMap (frP t [] []) by simp] at hf
        refine ⟨o2', o3', o4', o5', ?_⟩
        apply fm_cons
        · walk_at "as"
        · walk_at "x"
        · exact hf
      | some q =>
        rw [e] at m1
        have e2 : frP t [] [] (p, .use w) = none := by simp [frP, e]
        have g1 : OpH .add (.lst (acc.map .str)) (.lst []) (.lst (acc.map .str)) := by
          have := op_lst (l := acc.map D.str) (m := []) (by unfold sizeLine; simp only [List.length_map, List.length_nil]; omega)
          rwa [List.append_nil] at this
        obtain ⟨o2', o3', o4', o5', hf⟩ := frees_fm t hg hz k st l acc (some (pth p)) (some (enc (.use w))) (some (pth q)) (some (.str w)) ht (by omega)
        rw [List.filterMap_cons, e2]
        refine ⟨o2', o3', o4', o5', ?_⟩
        apply fm_cons
        · walk_at "as"
        · walk_at "x"
        · exact hf
def srtW (l : List Wd) : List Wd := sortBy ltW (dedupW l)
abbrev lsW (l : List Wd) : D := .lst (l.map .str)
theorem frees_in_ok (t : Tr) (hg : t.good = true) (hz : t.size ≤ 100000) (hd : (dedupW (frb [] t)).length < 64) (k : Nat) (st : Cup) : Rn (k + 5) f_frees_in [wkD t] st (lsW (srtW (frb [] t))) st := by
  obtain ⟨o2, o3, o4, o5, hf⟩ := frees_fm t hg hz k st (prel t) [] none none none none (prel_at t) (by rw [prel_len]; simp; omega)
  rw [List.nil_append, frees_eq t [] []] at hf
  have h1 := outer_places_ok t hz (k + 2) st
  have h2 := it_lst (l := (prel t).map plD) (y := .lst [])
  have h3 := pr_sortS hd
  apply r_df df_frees_in rfl
  · walk_at "st"
  · walk_at "1"
    with_reducible apply x_cons
    · with_reducible apply x_for
      · walk_at "e"
      · walk_at "e"
      · exact h2
      · exact hf
    walk_at "x"
  · rfl
end N57
end
section
set_option maxRecDepth 100000
set_option maxHeartbeats 4000000
namespace N57
open PySem
local macro_rules | `(tactic| walk_at "b") => `(tactic| first | rfl | assumption)
local macro_rules | `(tactic| walk_at "cm") => `(tactic| first | assumption | (with_reducible exact ne_nil) | (with_reducible exact eq_nil) | exact ⟨(rfl : _ = some true)⟩ | exact ⟨(rfl : _ = some false)⟩ | exact ⟨rfl⟩)
local macro_rules | `(tactic| walk_at "o") => `(tactic| first | assumption | (with_reducible exact ix_last) | exact ⟨rfl⟩)
local macro_rules | `(tactic| walk_at "sl") => `(tactic| first | assumption | exact sl_init | exact sl_t1 | exact sl_t2 | exact ⟨rfl⟩)
local macro_rules | `(tactic| walk_at "c") => `(tactic| first | assumption | (with_reducible exact parts_in_ok _ _ _) | (with_reducible exact law_parts_ok _ _ _) | (with_reducible exact is_done_ok _ _ _))
local macro_rules | `(tactic| walk_at "as") => `(tactic| (repeat' (first | apply AsR.slot | apply AsR.tup | apply AsR.cons | apply AsR.nil | apply SetR.s | apply SetR.z)))
local macro_rules | `(tactic| walk_at "st") => `(tactic| (repeat' (first | apply StR.some | apply StR.none | apply StR.nil)))
local macro_rules | `(tactic| walk_at "e") => `(tactic| first
  | ((with_reducible apply e_var); rfl)
  | (with_reducible exact e_con)
  | ((with_reducible apply e_cons); walk_at "e"; walk_at "e")
  | (with_reducible exact e_nil)
  | ((with_reducible apply e_glb); rfl)
  | ((with_reducible apply e_tup); walk_at "e")
  | ((with_reducible apply e_lst); walk_at "e")
  | ((with_reducible apply e_ix); walk_at "e"; walk_at "e"; walk_at "o")
  | ((with_reducible apply e_cmp); walk_at "e"; walk_at "e"; walk_at "cm")
  | ((with_reducible apply e_op); walk_at "e"; walk_at "e"; walk_at "o")
  | ((with_reducible apply e_call); walk_at "e"; walk_at "c")
  | ((with_reducible apply e_pr); walk_at "e"; walk_at "o")
  | ((with_reducible apply e_and); walk_at "e"; first | ((with_reducible apply andK_t); walk_at "b"; walk_at "e") | ((with_reducible apply andK_f); walk_at "b"; walk_at "b") | ((with_reducible apply andK_both); walk_at "e"; walk_at "b"))
  | ((with_reducible apply e_or); walk_at "e"; first | ((with_reducible apply orK_t); walk_at "b"; walk_at "b") | ((with_reducible apply orK_f); walk_at "b"; walk_at "e") | ((with_reducible apply orK_both); walk_at "e"; walk_at "b"))
  | ((with_reducible apply e_ite); walk_at "e"; first | ((with_reducible apply ifK_t); walk_at "b"; walk_at "e") | ((with_reducible apply ifK_f); walk_at "b"; walk_at "e"))
  | ((with_reducible apply e_not); walk_at "e"; walk_at "b")
  | ((with_reducible apply e_isN); walk_at "e"; walk_at "b")
  | ((with_reducible apply e_notN); walk_at "e"; walk_at "b")
  | ((with_reducible apply e_neg); walk_at "e"; walk_at "b")
  | ((with_reducible apply e_chain); walk_at "e"; walk_at "e"; walk_at "cm"; walk_at "e"; walk_at "cm"; walk_at "b")
  | ((with_reducible apply e_sl); walk_at "e"; walk_at "e"; rfl; walk_at "e"; rfl; walk_at "sl")
  | (with_reducible exact e_dic0)
  | ((with_reducible apply e_dicS); walk_at "e")
  | ((with_reducible apply e_cg); walk_at "e")
  | assumption)
local macro_rules | `(tactic| walk_at "f") => `(tactic| first
  | exact fm_nil
  | (apply fm_cons; walk_at "as"; walk_at "x"; walk_at "f")
  | (with_reducible exact fmK_rt)
  | ((with_reducible apply fmK_nx); walk_at "f")
  | assumption)
local macro_rules | `(tactic| walk_at "x") => `(tactic| first
  | (with_reducible exact x_nil)
  | ((with_reducible apply x_cons); walk_at "x"; walk_at "x")
  | ((with_reducible apply x_asg); walk_at "e"; walk_at "as")
  | ((with_reducible apply x_iff); walk_at "e"; walk_at "x")
  | ((with_reducible apply x_ret); walk_at "e")
  | ((with_reducible apply x_exp); walk_at "e")
  | ((with_reducible apply ifX_t); walk_at "b"; walk_at "x")
  | ((with_reducible apply ifX_f); walk_at "b"; walk_at "x")
  | ((with_reducible apply x_for); walk_at "e"; walk_at "e"; walk_at "o"; walk_at "f")
  | (with_reducible exact sqX_rt)
  | ((with_reducible apply sqX_nx); walk_at "x")
  | assumption)
local macro_rules | `(tactic| walk_at "1") => `(tactic| ((with_reducible apply x_cons); walk_at "x"; (with_reducible apply sqX_nx)))
/-! plain names -/
def Tr.isBnd : Tr → Bool
  | .giv .. => true | .hol .. => true | _ => false
def rn (wd : List Nat → Wd) : PEnv → List Nat → Tr → Tr
  | _, _, .amt i => .amt i
  | e, _, .use w => match lookE e w with
    | none => .use w
    | some q => .use (wd q)
  | e, q, .giv w b => .giv (wd q) (rn wd ((w, q) :: e) (q ++ [0]) b)
  | e, q, .app a b => .app (rn wd e (q ++ [0]) a) (rn wd e (q ++ [1]) b)
  | e, q, .hol w a b => .hol (wd q) (rn wd e (q ++ [0]) a) (rn wd ((w, q) :: e) (q ++ [1]) b)
  | e, q, .rek o a b => .rek o (rn wd e (q ++ [0]) a) (rn wd e (q ++ [1]) b)
  | e, q, .tst a b c => .tst (rn wd e (q ++ [0]) a) (rn wd e (q ++ [1]) b) (rn wd e (q ++ [2]) c)
def bnds (t : Tr) : List (List Nat) := ((prel t).filter fun x => x.2.isBnd).map (·.1)
def wdL : List (List Nat) → List Wd → List Nat → Wd
  | b :: bs, w :: ws, q => if natsEq q b then w else wdL bs ws q
  | _, _, _ => []
def lets : List Nat := [97, 98, 99, 100, 101, 102, 103, 104, 105, 106, 107, 108, 109, 110, 111, 112, 113, 114, 115, 116, 117, 118, 119, 120, 121, 122]
def wfl (taken : List Wd) : List Wd := (lets.map fun c => [c]).filter fun w => !taken.any (fun x => natsEq x w)
def shW (t : Tr) : List Wd := (wfl (srtW (frb [] t))).take (bnds t).length
def shp (t : Tr) : Tr := rn (wdL (bnds t) (shW t)) [] [] t
theorem mem_bnds {t : Tr} {q : List Nat} : q ∈ bnds t ↔ ∃ x ∈ prel t, x.2.isBnd = true ∧ x.1 = q := by
  unfold bnds
  simp [List.mem_map, List.mem_filter]
  constructor
  · rintro ⟨b, h1, h2⟩; exact ⟨q, b, h1, h2, rfl⟩
  · rintro ⟨a, b, h1, h2, rfl⟩; exact ⟨b, h1, h2⟩
theorem at_prel : ∀ (p : List Nat) (t u : Tr), t.at p = some u → (p, u) ∈ prel t
  | [], t, u, h => by
    cases h
    cases t <;> simp [prel]
  | i :: p, t, u, h => by
    unfold Tr.at at h
    split at h
    · rename_i v hv
      have ih := at_prel p v u h
      have hm : ∀ j : Nat, j = i → ((i :: p, u) : Plc) ∈ psh j (prel v) := by
        rintro j rfl
        exact List.mem_map.mpr ⟨(p, u), ih, rfl⟩
      cases t with
      | amt _ => simp [Tr.parts] at hv
      | use _ => simp [Tr.parts] at hv
      | giv w b =>
        match i, hv with
        | 0, hv => cases hv; exact List.mem_cons_of_mem _ (hm 0 rfl)
        | n + 1, hv => simp [Tr.parts] at hv
      | app a b =>
        match i, hv with
        | 0, hv => cases hv; exact List.mem_cons_of_mem _ (List.mem_append_left _ (hm 0 rfl))
        | 1, hv => cases hv; exact List.mem_cons_of_mem _ (List.mem_append_right _ (hm 1 rfl))
        | n + 2, hv => simp [Tr.parts] at hv
      | hol w a b =>
        match i, hv with
        | 0, hv => cases hv; exact List.mem_cons_of_mem _ (List.mem_append_left _ (hm 0 rfl))
        | 1, hv => cases hv; exact List.mem_cons_of_mem _ (List.mem_append_right _ (hm 1 rfl))
        | n + 2, hv => simp [Tr.parts] at hv
      | rek o a b =>
        match i, hv with
        | 0, hv => cases hv; exact List.mem_cons_of_mem _ (List.mem_append_left _ (hm 0 rfl))
        | 1, hv => cases hv; exact List.mem_cons_of_mem _ (List.mem_append_right _ (hm 1 rfl))
        | n + 2, hv => simp [Tr.parts] at hv
      | tst a b c =>
        match i, hv with
        | 0, hv => cases hv; exact List.mem_cons_of_mem _ (List.mem_append_left _ (hm 0 rfl))
        | 1, hv => cases hv; exact List.mem_cons_of_mem _ (List.mem_append_right _ (List.mem_append_left _ (hm 1 rfl)))
        | 2, hv => cases hv; exact List.mem_cons_of_mem _ (List.mem_append_right _ (List.mem_append_right _ (hm 2 rfl)))
        | n + 3, hv => simp [Tr.parts] at hv
    · cases h
theorem bnds_at {t u : Tr} {q : List Nat} (h : t.at q = some u) (hb : u.isBnd = true) : q ∈ bnds t := mem_bnds.mpr ⟨_, at_prel q t u h, hb, rfl⟩
theorem lookE_mem {e : PEnv} {w : Wd} {q : List Nat} (h : lookE e w = some q) : ∃ x, (x, q) ∈ e := by
  induction e with
  | nil => cases h
  | cons p e ih =>
    simp only [lookE] at h
    split at h
    · cases h; exact ⟨p.1, List.mem_cons_self ..⟩
    · obtain ⟨x, hx⟩ := ih h
      exact ⟨x, List.mem_cons_of_mem _ hx⟩
theorem env_bnd (t : Tr) : ∀ (n : Nat) (p : List Nat) (z : Tr) (x : Wd) (q : List Nat), p.length = n → t.at p = some z → (x, q) ∈ envAt t p [] [] → q ∈ bnds t
  | 0, p, z, x, q, hn, hp, h => by
    rw [List.eq_nil_of_length_eq_zero hn] at h
    cases h
  | n + 1, p, z, x, q, hn, hp, h => by
    rcases List.eq_nil_or_concat p with rfl | ⟨p', i, rfl⟩
    · cases hn
    · rw [List.concat_eq_append] at *
      have hl : p'.length = n := by simpa using hn
      obtain ⟨v, hv⟩ : ∃ v, t.at p' = some v := by
        have := line_get _ _ _ hp p'.length (by simp)
        rw [List.take_left] at this
        rw [← this]
        exact ⟨(t.line (p' ++ [i]))[p'.length]'(by rw [line_len _ _ _ hp]; simp; omega), List.getElem?_eq_getElem (by rw [line_len _ _ _ hp]; simp; omega)⟩
      have hu : v.parts[i]? = some z := by
        rw [at_app _ _ _ _ hv] at hp
        simp only [Tr.at] at hp
        split at hp
        · rename_i z' hz; rw [hz, hp]
        · cases hp
      rw [env_snoc _ _ _ _ _ _ _ hv hu, List.nil_append] at h
      have ih := env_bnd t n p' v x q hl hv
      cases v with
      | giv w b =>
        simp only [Tr.ext, List.mem_cons] at h
        rcases h with h | h
        · cases h; exact bnds_at hv rfl
        · exact ih h
      | hol w a b =>
        simp only [Tr.ext] at h
        split at h
        · rcases List.mem_cons.mp h with h | h
          · cases h; exact bnds_at hv rfl
          · exact ih h
        · exact ih h
      | amt _ => exact ih h
      | use _ => exact ih h
      | app _ _ => exact ih h
      | rek _ _ _ => exact ih h
      | tst _ _ _ => exact ih h
theorem intsEq_ip : ∀ (a b : List Nat), intsEq (ip a) (ip b) = natsEq a b
  | [], [] => rfl
  | [], _ :: _ => rfl
  | _ :: _, [] => rfl
  | a :: l, b :: m => by
    show (decide ((a : Int) = (b : Int)) && intsEq (ip l) (ip m)) = (Nat.beq a b && natsEq l m)
    rw [intsEq_ip l m]
    congr 1
    rw [Bool.eq_iff_iff, decide_eq_true_eq, Nat.beq_eq]
    omega
abbrev wdsD (bs : List (List Nat)) (ws : List Wd) : D := .dP (bs.map ip) (ws.map .str)
theorem wds_ix {bs : List (List Nat)} {ws : List Wd} {q : List Nat} (h : q ∈ bs) (hl : bs.length ≤ ws.length) : IxH (wdsD bs ws) (pth q) (.str (wdL bs ws q)) := by
  constructor
  show (intsOf (pth q)).bind _ = _
  rw [ints_pth]
  show lookP (bs.map ip) (ws.map .str) (ip q) = _
  induction bs generalizing ws with
  | nil => cases h
  | cons b bs ih =>
    cases ws with
    | nil => simp at hl
    | cons w ws =>
      simp only [List.map_cons, lookP, wdL, intsEq_ip]
      split
      · rfl
      · rename_i hne
        rcases List.mem_cons.mp h with rfl | h
        · exact absurd (natsEq_iff.mpr rfl) hne
        · exact ih h (by simpa using hl)
theorem it_rng (n : Nat) (hn : n < 100) {y : D} : ItH .rng (.int (n : Int)) y ((List.range n).map fun (i : Nat) => .int (i : Int)) := by
  constructor
  simp only [itD]
  rw [if_pos (by simp only [Bool.and_eq_true, decide_eq_true_eq]; omega)]
  simp
theorem renamed_ok (t : Tr) (hg : t.good = true) (ws : List Wd) (hl : (bnds t).length ≤ ws.length) (hd : t.depth ≤ 1000) : ∀ (u : Tr) (p : List Nat) (k : Nat) (st : Cup), t.at p = some u → u.depth + 6 ≤ k →
    Rn k f_renamed [wkD t, pth p, wdsD (bnds t) ws] st (enc (rn (wdL (bnds t) ws) (envAt t p [] []) p u)) st
  | .amt i, p, k, st, hp, hk => by
    obtain ⟨k, rfl⟩ : ∃ k', k = k' + 6 := ⟨k - 6, by omega⟩
    have h1 := led_to_ok t _ p hp (k + 3) st
    have h2 := parts_in_ok (.amt i) (k + 4) st
    have i1 := it_rng 0 (by omega) (y := .lst [])
    apply r_df df_renamed rfl
    · walk_at "st"
    · walk_at "1"
      walk_at "1"
      walk_at "1"
      with_reducible apply x_cons
      · with_reducible apply x_asg
        · apply e_map (its := List.range 0) (f := fun i => .int (i : Int)) (g := fun i => .int (i : Int))
          · walk_at "e"
          · walk_at "e"
          · exact i1
          · simp
          · intro i hi; cases hi
        · walk_at "as"
      walk_at "x"
    · rfl
  | .use w, p, k, st, hp, hk => by
    obtain ⟨k, rfl⟩ : ∃ k', k = k' + 6 := ⟨k - 6, by omega⟩
    obtain ⟨f1, f2, f3, f4⟩ := at_facts _ _ _ hp
    have h1 := led_to_ok t _ p hp (k + 3) st
    have h2 := meant_ok t _ hg w (f4 hg) p hp (by omega) (k + 1) st
    cases e : lookE (envAt t p [] []) w with
    | none =>
      rw [e] at h2
      have er : rn (wdL (bnds t) ws) (envAt t p [] []) p (.use w) = .use w := by simp [rn, e]
      rw [er]
      apply r_df df_renamed rfl
      · walk_at "st"
      · walk_at "x"
      · rfl
    | some q =>
      rw [e] at h2
      have er : rn (wdL (bnds t) ws) (envAt t p [] []) p (.use w) = .use (wdL (bnds t) ws q) := by simp [rn, e]
      rw [er]
      obtain ⟨x, hx⟩ := lookE_mem e
      have hq := env_bnd t p.length p _ x q rfl hp hx
      have h3 := wds_ix hq hl
      apply r_df df_renamed rfl
      · walk_at "st"
      · walk_at "x"
      · rfl
  | .giv w b, p, k, st, hp, hk => by
    simp only [Tr.depth] at hk
    obtain ⟨k, rfl⟩ : ∃ k', k = k' + 7 := ⟨k - 7, by omega⟩
    obtain ⟨f1, f2, f3, f4⟩ := at_facts _ _ _ hp
    have h1 := led_to_ok t _ p hp (k + 4) st
    have h2 := parts_in_ok (.giv w b) (k + 5) st
    have hb := renamed_ok t hg ws hl hd b (p ++ [0]) (k + 6) st (by rw [at_app _ _ _ _ hp]; rfl) (by omega)
    rw [env_snoc _ _ _ b 0 _ _ hp rfl, List.nil_append] at hb
    have g1 := pth_snoc (i := 0) (p := p) (by omega)
    have h3 := wds_ix (bnds_at hp rfl) hl
    have h4 := wth_ok (.giv (wdL (bnds t) ws p) b) [rn (wdL (bnds t) ws) ((w, p) :: envAt t p [] []) (p ++ [0]) b] rfl (k + 5) st
    have h5 : SlH (enc (.giv w b)) (some 2) none (.tup [enc b]) := sl_t2
    have i1 := it_rng 1 (by omega) (y := .lst [])
    apply r_df df_renamed rfl
    · walk_at "st"
    · walk_at "1"
      walk_at "1"
      walk_at "1"
      with_reducible apply x_cons
      · with_reducible apply x_asg
        · apply e_map (its := List.range 1) (f := fun i => .int (i : Int)) (g := fun _ => enc (rn (wdL (bnds t) ws) ((w, p) :: envAt t p [] []) (p ++ [0]) b))
          · walk_at "e"
          · walk_at "e"
          · exact i1
          · simp; unfold sizeLine; omega
          · intro i hi
            have : i = 0 := by simpa using hi
            subst this
            exact ⟨_, rfl, by walk_at "e"⟩
        · walk_at "as"
      walk_at "x"
    · rfl
  | .app a b, p, k, st, hp, hk => by
    simp only [Tr.depth] at hk
    obtain ⟨k, rfl⟩ : ∃ k', k = k' + 7 := ⟨k - 7, by omega⟩
    obtain ⟨f1, f2, f3, f4⟩ := at_facts _ _ _ hp
    have h1 := led_to_ok t _ p hp (k + 4) st
    have h2 := parts_in_ok (.app a b) (k + 5) st
    have ha := renamed_ok t hg ws hl hd a (p ++ [0]) (k + 6) st (by rw [at_app _ _ _ _ hp]; rfl) (by omega)
    have hb := renamed_ok t hg ws hl hd b (p ++ [1]) (k + 6) st (by rw [at_app _ _ _ _ hp]; rfl) (by omega)
    rw [env_snoc _ _ _ a 0 _ _ hp rfl, List.nil_append] at ha
    rw [env_snoc _ _ _ b 1 _ _ hp rfl, List.nil_append] at hb
    have g1 := pth_snoc (i := 0) (p := p) (by omega)
    have g2 := pth_snoc (i := 1) (p := p) (by omega)
    have h4 := wth_ok (.app a b) [rn (wdL (bnds t) ws) (envAt t p [] []) (p ++ [0]) a, rn (wdL (bnds t) ws) (envAt t p [] []) (p ++ [1]) b] rfl (k + 5) st
    have i1 := it_rng 2 (by omega) (y := .lst [])
    apply r_df df_renamed rfl
    · walk_at "st"
    · walk_at "1"
      walk_at "1"
      walk_at "1"
      with_reducible apply x_cons
      · with_reducible apply x_asg
        · apply e_map (its := List.range 2) (f := fun i => .int (i : Int)) (g := fun i => if i = 0 then enc (rn (wdL (bnds t) ws) (envAt t p [] []) (p ++ [0]) a) else enc (rn (wdL (bnds t) ws) (envAt t p [] []) (p ++ [1]) b))
          · walk_at "e"
          · walk_at "e"
          · exact i1
          · simp; unfold sizeLine; omega
          · intro i hi
            have : i < 2 := by simpa using hi
            rcases (by omega : i = 0 ∨ i = 1) with rfl | rfl
            · exact ⟨_, rfl, by walk_at "e"⟩
            · exact ⟨_, rfl, by walk_at "e"⟩
        · walk_at "as"
      walk_at "x"
    · rfl
  | .hol w a b, p, k, st, hp, hk => by
    simp only [Tr.depth] at hk
    obtain ⟨k, rfl⟩ : ∃ k', k = k' + 7 := ⟨k - 7, by omega⟩
    obtain ⟨f1, f2, f3, f4⟩ := at_facts _ _ _ hp
    have h1 := led_to_ok t _ p hp (k + 4) st
    have h2 := parts_in_ok (.hol w a b) (k + 5) st
    have ha := renamed_ok t hg ws hl hd a (p ++ [0]) (k + 6) st (by rw [at_app _ _ _ _ hp]; rfl) (by omega)
    have hb := renamed_ok t hg ws hl hd b (p ++ [1]) (k + 6) st (by rw [at_app _ _ _ _ hp]; rfl) (by omega)
    rw [env_snoc _ _ _ a 0 _ _ hp rfl, List.nil_append] at ha
    rw [env_snoc _ _ _ b 1 _ _ hp rfl, List.nil_append] at hb
    have g1 := pth_snoc (i := 0) (p := p) (by omega)
    have g2 := pth_snoc (i := 1) (p := p) (by omega)
    have h3 := wds_ix (bnds_at hp rfl) hl
    have h5 : SlH (enc (.hol w a b)) (some 2) none (.tup [enc a, enc b]) := sl_t2
    have h4 := wth_ok (.hol (wdL (bnds t) ws p) a b) [rn (wdL (bnds t) ws) (envAt t p [] []) (p ++ [0]) a, rn (wdL (bnds t) ws) ((w, p) :: envAt t p [] []) (p ++ [1]) b] rfl (k + 5) st
    have i1 := it_rng 2 (by omega) (y := .lst [])
    apply r_df df_renamed rfl
    · walk_at "st"
    · walk_at "1"
      walk_at "1"
      walk_at "1"
      with_reducible apply x_cons
      · with_reducible apply x_asg
        · apply e_map (its := List.range 2) (f := fun i => .int (i : Int)) (g := fun i => if i = 0 then enc (rn (wdL (bnds t) ws) (envAt t p [] []) (p ++ [0]) a) else enc (rn (wdL (bnds t) ws) ((w, p) :: envAt t p [] []) (p ++ [1]) b))
          · walk_at "e"
          · walk_at "e"
          · exact i1
          · simp; unfold sizeLine; omega
          · intro i hi
            have : i < 2 := by simpa using hi
            rcases (by omega : i = 0 ∨ i = 1) with rfl | rfl
            · exact ⟨_, rfl, by walk_at "e"⟩
            · exact ⟨_, rfl, by walk_at "e"⟩
        · walk_at "as"
      walk_at "x"
    · rfl
  | .rek o a b, p, k, st, hp, hk => by
    simp only [Tr.depth] at hk
    obtain ⟨k, rfl⟩ : ∃ k', k = k' + 7 := ⟨k - 7, by omega⟩
    obtain ⟨f1, f2, f3, f4⟩ := at_facts _ _ _ hp
    have h1 := led_to_ok t _ p hp (k + 4) st
    have h2 := parts_in_ok (.rek o a b) (k + 5) st
    have ha := renamed_ok t hg ws hl hd a (p ++ [0]) (k + 6) st (by rw [at_app _ _ _ _ hp]; rfl) (by omega)
    have hb := renamed_ok t hg ws hl hd b (p ++ [1]) (k + 6) st (by rw [at_app _ _ _ _ hp]; rfl) (by omega)
    rw [env_snoc _ _ _ a 0 _ _ hp rfl, List.nil_append] at ha
    rw [env_snoc _ _ _ b 1 _ _ hp rfl, List.nil_append] at hb
    have g1 := pth_snoc (i := 0) (p := p) (by omega)
    have g2 := pth_snoc (i := 1) (p := p) (by omega)
    have h4 := wth_ok (.rek o a b) [rn (wdL (bnds t) ws) (envAt t p [] []) (p ++ [0]) a, rn (wdL (bnds t) ws) (envAt t p [] []) (p ++ [1]) b] rfl (k + 5) st
    have i1 := it_rng 2 (by omega) (y := .lst [])
    apply r_df df_renamed rfl
    · walk_at "st"
    · walk_at "1"
      walk_at "1"
      walk_at "1"
      with_reducible apply x_cons
      · with_reducible apply x_asg
        · apply e_map (its := List.range 2) (f := fun i => .int (i : Int)) (g := fun i => if i = 0 then enc (rn (wdL (bnds t) ws) (envAt t p [] []) (p ++ [0]) a) else enc (rn (wdL (bnds t) ws) (envAt t p [] []) (p ++ [1]) b))
          · walk_at "e"
          · walk_at "e"
          · exact i1
          · simp; unfold sizeLine; omega
          · intro i hi
            have : i < 2 := by simpa using hi
            rcases (by omega : i = 0 ∨ i = 1) with rfl | rfl
            · exact ⟨_, rfl, by walk_at "e"⟩
            · exact ⟨_, rfl, by walk_at "e"⟩
        · walk_at "as"
      walk_at "x"
    · rfl
  | .tst a b c, p, k, st, hp, hk => by
    simp only [Tr.depth] at hk
    obtain ⟨k, rfl⟩ : ∃ k', k = k' + 7 := ⟨k - 7, by omega⟩
    obtain ⟨f1, f2, f3, f4⟩ := at_facts _ _ _ hp
    have h1 := led_to_ok t _ p hp (k + 4) st
    have h2 := parts_in_ok (.tst a b c) (k + 5) st
    have ha := renamed_ok t hg ws hl hd a (p ++ [0]) (k + 6) st (by rw [at_app _ _ _ _ hp]; rfl) (by omega)
    have hb := renamed_ok t hg ws hl hd b (p ++ [1]) (k + 6) st (by rw [at_app _ _ _ _ hp]; rfl) (by omega)
    have hc := renamed_ok t hg ws hl hd c (p ++ [2]) (k + 6) st (by rw [at_app _ _ _ _ hp]; rfl) (by omega)
    rw [env_snoc _ _ _ a 0 _ _ hp rfl, List.nil_append] at ha
    rw [env_snoc _ _ _ b 1 _ _ hp rfl, List.nil_append] at hb
    rw [env_snoc _ _ _ c 2 _ _ hp rfl, List.nil_append] at hc
    have g1 := pth_snoc (i := 0) (p := p) (by omega)
    have g2 := pth_snoc (i := 1) (p := p) (by omega)
    have g3 := pth_snoc (i := 2) (p := p) (by omega)
    have h4 := wth_ok (.tst a b c) [rn (wdL (bnds t) ws) (envAt t p [] []) (p ++ [0]) a, rn (wdL (bnds t) ws) (envAt t p [] []) (p ++ [1]) b, rn (wdL (bnds t) ws) (envAt t p [] []) (p ++ [2]) c] rfl (k + 5) st
    have i1 := it_rng 3 (by omega) (y := .lst [])
    apply r_df df_renamed rfl
    · walk_at "st"
    · walk_at "1"
      walk_at "1"
      walk_at "1"
      with_reducible apply x_cons
      · with_reducible apply x_asg
        · apply e_map (its := List.range 3) (f := fun i => .int (i : Int)) (g := fun i => if i = 0 then enc (rn (wdL (bnds t) ws) (envAt t p [] []) (p ++ [0]) a) else if i = 1 then enc (rn (wdL (bnds t) ws) (envAt t p [] []) (p ++ [1]) b) else enc (rn (wdL (bnds t) ws) (envAt t p [] []) (p ++ [2]) c))
          · walk_at "e"
          · walk_at "e"
          · exact i1
          · simp; unfold sizeLine; omega
          · intro i hi
            have : i < 3 := by simpa using hi
            rcases (by omega : i = 0 ∨ i = 1 ∨ i = 2) with rfl | rfl | rfl
            · exact ⟨_, rfl, by walk_at "e"⟩
            · exact ⟨_, rfl, by walk_at "e"⟩
            · exact ⟨_, rfl, by walk_at "e"⟩
        · walk_at "as"
      walk_at "x"
    · rfl
end N57
end
section
set_option maxRecDepth 100000
set_option maxHeartbeats 4000000
namespace N57
open PySem
local macro_rules | `(tactic| walk_at "b") => `(tactic| first | rfl | assumption)
local macro_rules | `(tactic| walk_at "cm") => `(tactic| first | assumption | (with_reducible exact ne_nil) | (with_reducible exact eq_nil) | exact ⟨(rfl : _ = some true)⟩ | exact ⟨(rfl : _ = some false)⟩ | exact ⟨rfl⟩)
local macro_rules | `(tactic| walk_at "o") => `(tactic| first | assumption | (with_reducible exact ix_last) | exact ⟨rfl⟩)
local macro_rules | `(tactic| walk_at "sl") => `(tactic| first | assumption | exact sl_init | exact sl_t1 | exact sl_t2 | exact ⟨rfl⟩)
local macro_rules | `(tactic| walk_at "c") => `(tactic| first | assumption | (with_reducible exact parts_in_ok _ _ _) | (with_reducible exact law_parts_ok _ _ _) | (with_reducible exact is_done_ok _ _ _))
local macro_rules | `(tactic| walk_at "as") => `(tactic| (repeat' (first | apply AsR.slot | apply AsR.tup | apply AsR.cons | apply AsR.nil | apply SetR.s | apply SetR.z)))
local macro_rules | `(tactic| walk_at "st") => `(tactic| (repeat' (first | apply StR.some | apply StR.none | apply StR.nil)))
local macro_rules | `(tactic| walk_at "e") => `(tactic| first
  | ((with_reducible apply e_var); rfl)
  | (with_reducible exact e_con)
  | ((with_reducible apply e_cons); walk_at "e"; walk_at "e")
  | (with_reducible exact e_nil)
  | ((with_reducible apply e_glb); rfl)
  | ((with_reducible apply e_tup); walk_at "e")
  | ((with_reducible apply e_lst); walk_at "e")
  | ((with_reducible apply e_ix); walk_at "e"; walk_at "e"; walk_at "o")
  | ((with_reducible apply e_cmp); walk_at "e"; walk_at "e"; walk_at "cm")
  | ((with_reducible apply e_op); walk_at "e"; walk_at "e"; walk_at "o")
  | ((with_reducible apply e_call); walk_at "e"; walk_at "c")
  | ((with_reducible apply e_pr); walk_at "e"; walk_at "o")
  | ((with_reducible apply e_and); walk_at "e"; first | ((with_reducible apply andK_t); walk_at "b"; walk_at "e") | ((with_reducible apply andK_f); walk_at "b"; walk_at "b") | ((with_reducible apply andK_both); walk_at "e"; walk_at "b"))
  | ((with_reducible apply e_or); walk_at "e"; first | ((with_reducible apply orK_t); walk_at "b"; walk_at "b") | ((with_reducible apply orK_f); walk_at "b"; walk_at "e") | ((with_reducible apply orK_both); walk_at "e"; walk_at "b"))
  | ((with_reducible apply e_ite); walk_at "e"; first | ((with_reducible apply ifK_t); walk_at "b"; walk_at "e") | ((with_reducible apply ifK_f); walk_at "b"; walk_at "e"))
  | ((with_reducible apply e_not); walk_at "e"; walk_at "b")
  | ((with_reducible apply e_isN); walk_at "e"; walk_at "b")
  | ((with_reducible apply e_notN); walk_at "e"; walk_at "b")
  | ((with_reducible apply e_neg); walk_at "e"; walk_at "b")
  | ((with_reducible apply e_chain); walk_at "e"; walk_at "e"; walk_at "cm"; walk_at "e"; walk_at "cm"; walk_at "b")
  | ((with_reducible apply e_sl); walk_at "e"; walk_at "e"; rfl; walk_at "e"; rfl; walk_at "sl")
  | (with_reducible exact e_dic0)
  | ((with_reducible apply e_dicS); walk_at "e")
  | ((with_reducible apply e_cg); walk_at "e")
  | assumption)
local macro_rules | `(tactic| walk_at "f") => `(tactic| first
  | exact fm_nil
  | (apply fm_cons; walk_at "as"; walk_at "x"; walk_at "f")
  | (with_reducible exact fmK_rt)
  | ((with_reducible apply fmK_nx); walk_at "f")
  | assumption)
local macro_rules | `(tactic| walk_at "x") => `(tactic| first
  | (with_reducible exact x_nil)
  | ((with_reducible apply x_cons); walk_at "x"; walk_at "x")
  | ((with_reducible apply x_asg); walk_at "e"; walk_at "as")
  | ((with_reducible apply x_iff); walk_at "e"; walk_at "x")
  | ((with_reducible apply x_ret); walk_at "e")
  | ((with_reducible apply x_exp); walk_at "e")
  | ((with_reducible apply ifX_t); walk_at "b"; walk_at "x")
  | ((with_reducible apply ifX_f); walk_at "b"; walk_at "x")
  | ((with_reducible apply x_for); walk_at "e"; walk_at "e"; walk_at "o"; walk_at "f")
  | (with_reducible exact sqX_rt)
  | ((with_reducible apply sqX_nx); walk_at "x")
  | assumption)
local macro_rules | `(tactic| walk_at "1") => `(tactic| ((with_reducible apply x_cons); walk_at "x"; (with_reducible apply sqX_nx)))
/-! words that are not taken -/
theorem all_lets : ∀ c ∈ lets, fitsW [c] = true := by decide +kernel
theorem fm_last {k : Nat} {tg : Tg} {s : Sm} {l : List D} {x : D} {ρ ρ' : Ev} {st s1 s2 : Cup} {o : Out} (ht : AsR tg x ρ ρ') (h : XS k s ρ' st o s1) : FM k tg s [x] ρ st o s1 := by
  cases o with
  | nx ρ => exact fm_cons ht h (fmK_nx fm_nil)
  | rt d => exact fm_cons ht h fmK_rt
theorem sl_takeN {l : List D} {n : Nat} : SlH (.lst l) none (some (n : Int)) (.lst (l.take n)) := sl_take
theorem len_lst {l : List D} : PrH .len [.lst l] (.int (l.length : Int)) := ⟨rfl⟩
theorem nin_tk {taken : List Wd} {w : Wd} : CmH .ninQ (.str w) (lsW taken) (!taken.any fun x => natsEq x w) := by
  constructor
  show (inFlat (.str w) (taken.map D.str)).map (!·) = _
  have h1 : (taken.map D.str).all flatD = true := by
    rw [List.all_eq_true]
    intro x hx
    obtain ⟨y, _, rfl⟩ := List.mem_map.mp hx
    rfl
  unfold inFlat
  rw [h1]
  show (some ((taken.map D.str).any fun y => eqB 0 y (.str w))).map (!·) = _
  rw [List.any_map]
  rfl
theorem words_from_ok (n : Nat) (taken : List Wd) (hn : n ≤ (wfl taken).length) (k : Nat) (st : Cup) : Rn (k + 2) f_words_from [.int (n : Int), lsW taken] st (lsW ((wfl taken).take n)) st := by
  have hl26 : (wfl taken).length ≤ 26 := by
    have := List.length_filter_le (fun w => !taken.any (fun x => natsEq x w)) (lets.map fun c => [c])
    exact this
  have L1 : XS (k + 1) b_words_from_1 [some (.int (n : Int)), some (lsW taken), some (.lst []), some (.lst [.str []]), none, none, none, none] st (.nx (if n = 0 then [some (.int (n : Int)), some (lsW taken), some (.lst []), some (.lst [.str []]), none, none, none, none] else [some (.int (n : Int)), some (lsW taken), some (lsW (wfl taken)), some (lsW (lets.map fun c => [c])), some (lsW (lets.map fun c => [c])), some (.str []), none, none])) st := by
    by_cases h0 : n = 0
    · subst h0
      rw [if_pos rfl]
      apply x_whl
      apply wm_stop
      have c : CmH .lt (.int 0) (.int ((0 : Nat) : Int)) false := ⟨rfl⟩
      walk_at "e"
    · rw [if_neg h0]
      apply x_whl
      have c1 : CmH .lt (.int 0) (.int (n : Int)) true := ⟨congrArg some (decide_eq_true (by omega))⟩
      have c2 : CmH .lt (.int ((wfl taken).length : Int)) (.int (n : Int)) false := ⟨congrArg some (decide_eq_false (by omega))⟩
      have e1 : EV (k + 1) b_words_from_L0c [some (.int (n : Int)), some (lsW taken), some (.lst []), some (.lst [.str []]), none, none, none, none] st (.bl true) st := by
        have : PrH .len [.lst []] (.int 0) := ⟨rfl⟩
        walk_at "e"
      have e2 : EV (k + 1) b_words_from_L0c [some (.int (n : Int)), some (lsW taken), some (lsW (wfl taken)), some (lsW (lets.map fun c => [c])), some (lsW (lets.map fun c => [c])), some (.str []), none, none] st (.bl false) st := by
        have : PrH .len [lsW (wfl taken)] (.int ((wfl taken).length : Int)) := ⟨by
          show some (D.int (((wfl taken).map D.str).length : Nat)) = _
          rw [List.length_map]⟩
        walk_at "e"
      have F1 : FM (k + 1) (.slot 5) b_words_from_L1b [.str []] [some (.int (n : Int)), some (lsW taken), some (.lst []), some (.lst [.str []]), some (.lst []), none, none, none] st (.nx [some (.int (n : Int)), some (lsW taken), some (.lst []), some (.lst [.str []]), some (lsW (lets.map fun c => [c])), some (.str []), none, none]) st := by
        apply fm_last (l := [])
        · walk_at "as"
        · with_reducible apply x_cons
          · with_reducible apply x_asg
            · with_reducible apply e_op
              · walk_at "e"
              · apply e_map (its := lets) (f := fun c => .str [c]) (g := fun c => .str [c])
                · walk_at "e"
                · walk_at "e"
                · exact it_str (by unfold sizeLine; decide +kernel)
                · unfold sizeLine; decide +kernel
                · intro c hc
                  exact ⟨_, rfl, by walk_at "e"⟩
              · exact op_lst (l := []) (by unfold sizeLine; decide +kernel)
            · walk_at "as"
          · apply sqX_nx
            exact x_nil
        · exact st
      have S1 : XS (k + 1) b_words_from_L0b [some (.int (n : Int)), some (lsW taken), some (.lst []), some (.lst [.str []]), none, none, none, none] st (.nx [some (.int (n : Int)), some (lsW taken), some (lsW (wfl taken)), some (lsW (lets.map fun c => [c])), some (lsW (lets.map fun c => [c])), some (.str []), none, none]) st := by
        walk_at "1"
        with_reducible apply x_cons
        · with_reducible apply x_for
          · walk_at "e"
          · walk_at "e"
          · exact ⟨rfl⟩
          · exact F1
        with_reducible apply sqX_nx
        walk_at "1"
        with_reducible apply x_cons
        · with_reducible apply x_asg
          · with_reducible apply e_op
            · walk_at "e"
            · apply e_fil (its := lets) (f := fun c => .str [c]) (p := fun c => !taken.any (fun x => natsEq x [c])) (g := fun c => .str [c])
              · exact fun h => nomatch h
              · walk_at "e"
              · walk_at "e"
              · exact ⟨by show some ((lets.map fun c => [c]).map D.str) = _; rw [List.map_map]; rfl⟩
              · unfold sizeLine; decide +kernel
              · intro c hc
                have h1 := fits_word_ok [c] (all_lets c hc) k st
                have h2 := nin_tk (taken := taken) (w := [c])
                exact ⟨_, rfl, by walk_at "e", fun _ => by walk_at "e"⟩
            · refine op_lst (l := []) ?_
              have := List.length_filter_le (fun c => !taken.any (fun x => natsEq x [c])) lets
              have h26 : lets.length = 26 := rfl
              unfold sizeLine
              simp only [List.length_nil, List.length_map]
              omega
          · walk_at "as"
        · have e : lsW (wfl taken) = .lst ([] ++ (lets.filter fun c => !taken.any (fun x => natsEq x [c])).map fun c => D.str [c]) := by
            unfold lsW wfl
            rw [List.nil_append, List.filter_map, List.map_map]
            rfl
          rw [e]
          walk_at "x"
      constructor
      have cb : ∀ (b : Bool) (ρ : Ev), EV (k + 1) b_words_from_L0c ρ st (.bl b) st → M.bnd (ev (En (k + 1)) b_words_from_L0c ρ) (fun x => M.of (asBool x)) st = some (b, st) := fun b ρ e => by
        rw [bnd_eq e.h]; rfl
      show whlM _ _ (999998 + 1 + 1) _ st = _
      show M.bnd _ _ _ = _
      rw [bnd_eq (cb _ _ e1)]
      show M.bnd _ _ _ = _
      rw [bnd_eq S1.h]
      show M.bnd _ _ _ = _
      rw [bnd_eq (cb _ _ e2)]
      rfl
  by_cases h0 : n = 0
  · subst h0
    rw [if_pos rfl] at L1
    have s1 : SlH (.lst []) none (some ((0 : Nat) : Int)) (lsW ((wfl taken).take 0)) := ⟨rfl⟩
    apply r_df df_words_from rfl
    · walk_at "st"
    · walk_at "x"
    · rfl
  · rw [if_neg h0] at L1
    have s1 : SlH (lsW (wfl taken)) none (some (n : Int)) (lsW ((wfl taken).take n)) := by
      have := sl_take (l := (wfl taken).map D.str) (i := n)
      rw [← List.map_take] at this
      exact this
    apply r_df df_words_from rfl
    · walk_at "st"
    · walk_at "x"
    · rfl
theorem nodupI_ip {l : List (List Nat)} (h : l.Nodup) : nodupI (l.map ip) = true := by
  induction l with
  | nil => rfl
  | cons x l ih =>
    rw [List.nodup_cons] at h
    simp only [List.map_cons, nodupI, Bool.and_eq_true, Bool.not_eq_true', List.any_eq_false]
    refine ⟨fun y hy e => ?_, ih h.2⟩
    obtain ⟨z, hz, rfl⟩ := List.mem_map.mp hy
    rw [intsEq_ip, natsEq_iff] at e
    subst e
    exact h.1 hz
theorem prel_nodup (t : Tr) : ((prel t).map (·.1)).Nodup := by
  unfold List.Nodup
  rw [List.pairwise_map]
  refine (prel_srt t).imp fun {a b} h e => ?_
  have h : ltI (ip a.1) (ip b.1) = true := h
  rw [e] at h
  have := ltI_swo.refl (ip b.1)
  rw [this] at h
  cases h
theorem bnds_nodup (t : Tr) : (bnds t).Nodup := by
  unfold bnds
  exact List.Nodup.sublist (List.Sublist.map _ List.filter_sublist) (prel_nodup t)
theorem bnds_len (t : Tr) : (bnds t).length ≤ t.size := by
  unfold bnds
  rw [List.length_map, ← prel_len]
  exact List.length_filter_le _ _
theorem pr_dictZ {bs : List (List Nat)} {ws : List Wd} (h : bs.Nodup) (hl : bs.length = ws.length) : PrH .dictZ [.lst (bs.map fun p => pth p), lsW ws] (wdsD bs ws) := by
  constructor
  have e : (bs.map fun p => pth p).mapM intsOf = some (bs.map ip) := by
    clear h hl
    induction bs with
    | nil => rfl
    | cons x l ih => simp [List.mapM_cons, ih, ints_pth]
  show ((bs.map fun p => pth p).mapM intsOf).bind _ = _
  rw [e]
  show (if nodupI (bs.map ip) && Nat.beq _ _ then _ else _) = _
  rw [nodupI_ip h, if_pos (by simp [hl])]
theorem head_bnd (a : Tr) : ∃ h, IxH (enc a) (.int 0) (.str h) ∧ CmH .inQ (.str h) (.tup [.str sGiven, .str sHold]) a.isBnd := by
  cases a <;> exact ⟨_, ⟨rfl⟩, ⟨rfl⟩⟩
/-- what a tree must be to get plain names -/
structure Shp (t : Tr) : Prop where
  good : t.good = true
  fits : fitsT t
  free : (dedupW (frb [] t)).length < 64
  bnds : (bnds t).length ≤ (wfl (srtW (frb [] t))).length
theorem plainly_ok (t : Tr) (h : Shp t) (k : Nat) (st : Cup) : Rn (k + 70) f_plainly [wkD t] st (enc (shp t)) st := by
  obtain ⟨hg, hf, hd, hb⟩ := h
  have hf1 := hf.1
  have hf2 := hf.2
  have h1 := outer_places_ok t (by omega) (k + 67) st
  have h2 := frees_in_ok t hg (by omega) hd (k + 64) st
  have h3 := words_from_ok (bnds t).length _ hb (k + 67) st
  have hlw : (bnds t).length = (shW t).length := by
    unfold shW
    rw [List.length_take]
    omega
  have h4 := pr_dictZ (bnds_nodup t) hlw
  have h5 := renamed_ok t hg (shW t) (by omega) (by omega) t [] (k + 69) st rfl (by omega)
  have h6 : PrH .len [.lst ((bnds t).map fun p => pth p)] (.int ((bnds t).length : Int)) := ⟨by
    show some (D.int (((bnds t).map fun p => pth p).length : Nat)) = _
    rw [List.length_map]⟩
  have eb : ((prel t).filter fun x => x.2.isBnd).map (fun x => pth x.1) = (bnds t).map fun p => pth p := by
    unfold bnds
    rw [List.map_map]
    rfl
  apply r_df df_plainly rfl
  · walk_at "st"
  · with_reducible apply x_cons
    · with_reducible apply x_asg
      · apply e_fil (its := prel t) (f := plD) (p := fun x => x.2.isBnd) (g := fun x => pth x.1)
        · exact fun h => nomatch h
        · walk_at "e"
        · walk_at "e"
        · exact it_lst
        · rw [prel_len]; unfold sizeLine; omega
        · intro x hx
          obtain ⟨hh, i1, c1⟩ := head_bnd x.2
          exact ⟨_, rfl, by walk_at "e", fun _ => by walk_at "e"⟩
      · walk_at "as"
    · rw [eb]
      walk_at "x"
  · rfl
theorem shape_plain_ok (t : Tr) (h : Shp t) (k : Nat) (st : Cup) : Rn (k + 71) f_shape_plain [enc t] st (enc (shp t)) st := by
  have h1 := plainly_ok t h k st
  apply r_df df_shape_plain rfl
  · walk_at "st"
  · walk_at "x"
  · rfl
theorem need_bare_ok (t : Tr) (hg : t.good = true) (hf : fitsT t) (k : Nat) (st : Cup) : Rn (k + 6) f_need_bare [enc t] st .non st := by
  have h1 := measured_ok t hg k st
  have hf1 := hf.1
  unfold mesD at h1
  rw [if_pos hf] at h1
  have h2 := is_all_plain_ok t hg (by omega) (k + 2) st
  apply r_df df_need_bare rfl
  · walk_at "st"
  · walk_at "x"
  · rfl
theorem with_plain_ok (t : Tr) (h : Shp t) (k : Nat) (st : Cup) : Rn (k + 72) f_with_plain_names [enc t] st (enc (shp t)) st := by
  have h1 := need_bare_ok t h.good h.fits (k + 65) st
  have h2 := shape_plain_ok t h k st
  apply r_df df_with_plain_names rfl
  · walk_at "st"
  · walk_at "x"
  · rfl
end N57
end
section
set_option maxRecDepth 100000
set_option maxHeartbeats 4000000
namespace N57
open PySem
local macro_rules | `(tactic| walk_at "b") => `(tactic| first | rfl | assumption)
local macro_rules | `(tactic| walk_at "cm") => `(tactic| first | assumption | (with_reducible exact ne_nil) | (with_reducible exact eq_nil) | exact ⟨(rfl : _ = some true)⟩ | exact ⟨(rfl : _ = some false)⟩ | exact ⟨rfl⟩)
local macro_rules | `(tactic| walk_at "o") => `(tactic| first | assumption | (with_reducible exact ix_last) | exact ⟨rfl⟩)
local macro_rules | `(tactic| walk_at "sl") => `(tactic| first | assumption | exact sl_init | exact sl_t1 | exact sl_t2 | exact ⟨rfl⟩)
local macro_rules | `(tactic| walk_at "c") => `(tactic| first | assumption | (with_reducible exact parts_in_ok _ _ _) | (with_reducible exact law_parts_ok _ _ _) | (with_reducible exact is_done_ok _ _ _))
local macro_rules | `(tactic| walk_at "as") => `(tactic| (repeat' (first | apply AsR.slot | apply AsR.tup | apply AsR.cons | apply AsR.nil | apply SetR.s | apply SetR.z)))
local macro_rules | `(tactic| walk_at "st") => `(tactic| (repeat' (first | apply StR.some | apply StR.none | apply StR.nil)))
local macro_rules | `(tactic| walk_at "e") => `(tactic| first
  | ((with_reducible apply e_var); rfl)
  | (with_reducible exact e_con)
  | ((with_reducible apply e_cons); walk_at "e"; walk_at "e")
  | (with_reducible exact e_nil)
  | ((with_reducible apply e_glb); rfl)
  | ((with_reducible apply e_tup); walk_at "e")
  | ((with_reducible apply e_lst); walk_at "e")
  | ((with_reducible apply e_ix); walk_at "e"; walk_at "e"; walk_at "o")
  | ((with_reducible apply e_cmp); walk_at "e"; walk_at "e"; walk_at "cm")
  | ((with_reducible apply e_op); walk_at "e"; walk_at "e"; walk_at "o")
  | ((with_reducible apply e_call); walk_at "e"; walk_at "c")
  | ((with_reducible apply e_pr); walk_at "e"; walk_at "o")
  | ((with_reducible apply e_and); walk_at "e"; first | ((with_reducible apply andK_t); walk_at "b"; walk_at "e") | ((with_reducible apply andK_f); walk_at "b"; walk_at "b") | ((with_reducible apply andK_both); walk_at "e"; walk_at "b"))
  | ((with_reducible apply e_or); walk_at "e"; first | ((with_reducible apply orK_t); walk_at "b"; walk_at "b") | ((with_reducible apply orK_f); walk_at "b"; walk_at "e") | ((with_reducible apply orK_both); walk_at "e"; walk_at "b"))
  | ((with_reducible apply e_ite); walk_at "e"; first | ((with_reducible apply ifK_t); walk_at "b"; walk_at "e") | ((with_reducible apply ifK_f); walk_at "b"; walk_at "e"))
  | ((with_reducible apply e_not); walk_at "e"; walk_at "b")
  | ((with_reducible apply e_isN); walk_at "e"; walk_at "b")
  | ((with_reducible apply e_notN); walk_at "e"; walk_at "b")
  | ((with_reducible apply e_neg); walk_at "e"; walk_at "b")
  | ((with_reducible apply e_chain); walk_at "e"; walk_at "e"; walk_at "cm"; walk_at "e"; walk_at "cm"; walk_at "b")
  | ((with_reducible apply e_sl); walk_at "e"; walk_at "e"; rfl; walk_at "e"; rfl; walk_at "sl")
  | (with_reducible exact e_dic0)
  | ((with_reducible apply e_dicS); walk_at "e")
  | ((with_reducible apply e_cg); walk_at "e")
  | assumption)
local macro_rules | `(tactic| walk_at "f") => `(tactic| first
  | exact fm_nil
  | (apply fm_cons; walk_at "as"; walk_at "x"; walk_at "f")
  | (with_reducible exact fmK_rt)
  | ((with_reducible apply fmK_nx); walk_at "f")
  | assumption)
local macro_rules | `(tactic| walk_at "x") => `(tactic| first
  | (with_reducible exact x_nil)
  | ((with_reducible apply x_cons); walk_at "x"; walk_at "x")
  | ((with_reducible apply x_asg); walk_at "e"; walk_at "as")
  | ((with_reducible apply x_iff); walk_at "e"; walk_at "x")
  | ((with_reducible apply x_ret); walk_at "e")
  | ((with_reducible apply x_exp); walk_at "e")
  | ((with_reducible apply ifX_t); walk_at "b"; walk_at "x")
  | ((with_reducible apply ifX_f); walk_at "b"; walk_at "x")
  | ((with_reducible apply x_for); walk_at "e"; walk_at "e"; walk_at "o"; walk_at "f")
  | (with_reducible exact sqX_rt)
  | ((with_reducible apply sqX_nx); walk_at "x")
  | assumption)
local macro_rules | `(tactic| walk_at "1") => `(tactic| ((with_reducible apply x_cons); walk_at "x"; (with_reducible apply sqX_nx)))
/-! what plain names keep -/
theorem rn_size (wd : List Nat → Wd) : ∀ (u : Tr) (e : PEnv) (q : List Nat), (rn wd e q u).size = u.size
  | .amt i, e, q => rfl
  | .use w, e, q => by simp only [rn]; split <;> rfl
  | .giv w b, e, q => by simp only [rn, Tr.size]; rw [rn_size wd b]
  | .app a b, e, q => by simp only [rn, Tr.size]; rw [rn_size wd a, rn_size wd b]
  | .hol w a b, e, q => by simp only [rn, Tr.size]; rw [rn_size wd a, rn_size wd b]
  | .rek o a b, e, q => by simp only [rn, Tr.size]; rw [rn_size wd a, rn_size wd b]
  | .tst a b c, e, q => by simp only [rn, Tr.size]; rw [rn_size wd a, rn_size wd b, rn_size wd c]
theorem rn_depth (wd : List Nat → Wd) : ∀ (u : Tr) (e : PEnv) (q : List Nat), (rn wd e q u).depth = u.depth
  | .amt i, e, q => rfl
  | .use w, e, q => by simp only [rn]; split <;> rfl
  | .giv w b, e, q => by simp only [rn, Tr.depth]; rw [rn_depth wd b]
  | .app a b, e, q => by simp only [rn, Tr.depth]; rw [rn_depth wd a, rn_depth wd b]
  | .hol w a b, e, q => by simp only [rn, Tr.depth]; rw [rn_depth wd a, rn_depth wd b]
  | .rek o a b, e, q => by simp only [rn, Tr.depth]; rw [rn_depth wd a, rn_depth wd b]
  | .tst a b c, e, q => by simp only [rn, Tr.depth]; rw [rn_depth wd a, rn_depth wd b, rn_depth wd c]
def bd1 (l : List Plc) : List (List Nat) := (l.filter fun x => x.2.isBnd).map (·.1)
theorem bd1_psh (i : Nat) (l : List Plc) : bd1 (psh i l) = (bd1 l).map (i :: ·) := by
  unfold bd1 psh
  rw [List.filter_map, List.map_map, List.map_map]
  rfl
theorem bd1_app (a b : List Plc) : bd1 (a ++ b) = bd1 a ++ bd1 b := by
  unfold bd1
  rw [List.filter_append, List.map_append]
theorem bd1_cons (p : List Nat) (u : Tr) (l : List Plc) : bd1 ((p, u) :: l) = if u.isBnd then p :: bd1 l else bd1 l := by
  unfold bd1
  rw [List.filter_cons]
  cases u.isBnd <;> rfl
theorem rn_bnds (wd : List Nat → Wd) : ∀ (u : Tr) (e : PEnv) (q : List Nat), bd1 (prel (rn wd e q u)) = bd1 (prel u)
  | .amt i, e, q => rfl
  | .use w, e, q => by simp only [rn]; split <;> rfl
  | .giv w b, e, q => by simp only [rn, prel, bd1_cons, bd1_psh, Tr.isBnd]; rw [rn_bnds wd b]
  | .app a b, e, q => by simp only [rn, prel, bd1_cons, bd1_app, bd1_psh, Tr.isBnd]; rw [rn_bnds wd a, rn_bnds wd b]
  | .hol w a b, e, q => by simp only [rn, prel, bd1_cons, bd1_app, bd1_psh, Tr.isBnd]; rw [rn_bnds wd a, rn_bnds wd b]
  | .rek o a b, e, q => by simp only [rn, prel, bd1_cons, bd1_app, bd1_psh, Tr.isBnd]; rw [rn_bnds wd a, rn_bnds wd b]
  | .tst a b c, e, q => by simp only [rn, prel, bd1_cons, bd1_app, bd1_psh, Tr.isBnd]; rw [rn_bnds wd a, rn_bnds wd b, rn_bnds wd c]
/-- words of the binders of a part -/
structure RnOk (B : List (List Nat)) (wd : List Nat → Wd) : Prop where
  inj : ∀ b ∈ B, ∀ c ∈ B, wd b = wd c → b = c
  fit : ∀ b ∈ B, fitsW (wd b) = true
def envR (wd : List Nat → Wd) (e : PEnv) : PEnv := e.map fun p => (wd p.2, p.2)
theorem look_ren {B : List (List Nat)} {wd : List Nat → Wd} (h : RnOk B wd) : ∀ {e : PEnv} {w : Wd} {q : List Nat}, (∀ p ∈ e, p.2 ∈ B) → lookE e w = some q → lookE (envR wd e) (wd q) = some q
  | [], _, _, _, e1 => by cases e1
  | p :: e, w, q, hB, e1 => by
    have ht : ∀ p ∈ e, p.2 ∈ B := fun x hx => hB x (List.mem_cons_of_mem _ hx)
    have hq : q ∈ B := by
      obtain ⟨x, hx⟩ := lookE_mem e1
      exact hB _ hx
    simp only [lookE] at e1
    show (if natsEq (wd p.2) (wd q) then some p.2 else lookE (envR wd e) (wd q)) = some q
    split at e1
    · cases e1
      rw [natsEq_iff.mpr rfl]; rfl
    · split
      · rename_i hh
        rw [h.inj p.2 (hB p (List.mem_cons_self ..)) q hq (natsEq_iff.mp hh)]
      · exact look_ren h ht e1
theorem look_ren_none {B : List (List Nat)} {wd : List Nat → Wd} {w : Wd} (hw : ∀ b ∈ B, wd b ≠ w) : ∀ {e : PEnv}, (∀ p ∈ e, p.2 ∈ B) → lookE (envR wd e) w = none
  | [], _ => rfl
  | p :: e, hB => by
    show (if natsEq (wd p.2) w then some p.2 else lookE (envR wd e) w) = none
    rw [if_neg]
    · exact look_ren_none hw fun x hx => hB x (List.mem_cons_of_mem _ hx)
    · intro hh
      exact hw p.2 (hB p (List.mem_cons_self ..)) (natsEq_iff.mp hh)
theorem frb_use (e : PEnv) (w : Wd) : frb (e.map (·.1)) (.use w) = if (lookE e w).isNone then [w] else [] := by
  rw [look_any]
  simp only [frb]
  cases (e.map (·.1)).any (fun x => natsEq x w) <;> rfl
def CovB (B : List (List Nat)) (q : List Nat) (u : Tr) : Prop := ∀ p ∈ bd1 (prel u), q ++ p ∈ B
theorem CovB.sub {B : List (List Nat)} {q : List Nat} {u v : Tr} {i : Nat} (h : CovB B q u) (hs : ∀ p ∈ bd1 (prel v), i :: p ∈ bd1 (prel u)) : CovB B (q ++ [i]) v := fun p hp => by
  have := h _ (hs p hp)
  rwa [List.append_assoc]
theorem rn_keeps {B : List (List Nat)} {wd : List Nat → Wd} (h : RnOk B wd) : ∀ (u : Tr) (e : PEnv) (q : List Nat), CovB B q u → (∀ p ∈ e, p.2 ∈ B) → (∀ w ∈ frb (e.map (·.1)) u, ∀ b ∈ B, wd b ≠ w) →
    rn wd (envR wd e) q (rn wd e q u) = rn wd e q u ∧ frb ((envR wd e).map (·.1)) (rn wd e q u) = frb (e.map (·.1)) u
  | .amt i, e, q, hc, he, hf => ⟨rfl, rfl⟩
  | .use w, e, q, hc, he, hf => by
    rw [frb_use] at hf ⊢
    cases e1 : lookE e w with
    | none =>
      rw [e1] at hf
      have := look_ren_none (e := e) (hf w (by simp)) he
      have e2 : rn wd e q (.use w) = .use w := by simp only [rn, e1]
      rw [e2, frb_use, this]
      exact ⟨by simp only [rn, this], rfl⟩
    | some b =>
      have := look_ren h he e1
      have e2 : rn wd e q (.use w) = .use (wd b) := by simp only [rn, e1]
      rw [e2, frb_use, this]
      exact ⟨by simp only [rn, this], rfl⟩
  | .giv w b, e, q, hc, he, hf => by
    have hq : q ∈ B := by simpa using hc [] (by simp [prel, bd1_cons, Tr.isBnd])
    have ih := rn_keeps h b ((w, q) :: e) (q ++ [0]) (hc.sub fun p hp => by simp [prel, bd1_cons, bd1_psh, Tr.isBnd, hp]) (fun p hp => by
      rcases List.mem_cons.mp hp with rfl | hp
      · exact hq
      · exact he p hp) hf
    simp only [rn]
    exact ⟨by rw [show (wd q, q) :: envR wd e = envR wd ((w, q) :: e) from rfl, ih.1], ih.2⟩
  | .app a b, e, q, hc, he, hf => by
    simp only [frb] at hf
    have iha := rn_keeps h a e (q ++ [0]) (hc.sub fun p hp => by simp [prel, bd1_cons, bd1_app, bd1_psh, Tr.isBnd, hp]) he fun w hw => hf w (List.mem_append_left _ hw)
    have ihb := rn_keeps h b e (q ++ [1]) (hc.sub fun p hp => by simp [prel, bd1_cons, bd1_app, bd1_psh, Tr.isBnd, hp]) he fun w hw => hf w (List.mem_append_right _ hw)
    simp only [rn, frb]
    exact ⟨by rw [iha.1, ihb.1], by rw [iha.2, ihb.2]⟩
  | .hol w a b, e, q, hc, he, hf => by
    simp only [frb] at hf
    have hq : q ∈ B := by simpa using hc [] (by simp [prel, bd1_cons, Tr.isBnd])
    have iha := rn_keeps h a e (q ++ [0]) (hc.sub fun p hp => by simp [prel, bd1_cons, bd1_app, bd1_psh, Tr.isBnd, hp]) he fun w hw => hf w (List.mem_append_left _ hw)
    have ihb := rn_keeps h b ((w, q) :: e) (q ++ [1]) (hc.sub fun p hp => by simp [prel, bd1_cons, bd1_app, bd1_psh, Tr.isBnd, hp]) (fun p hp => by
      rcases List.mem_cons.mp hp with rfl | hp
      · exact hq
      · exact he p hp) fun w hw => hf w (List.mem_append_right _ hw)
    simp only [rn, frb]
    exact ⟨by rw [iha.1, show (wd q, q) :: envR wd e = envR wd ((w, q) :: e) from rfl, ihb.1], by
      rw [iha.2]
      congr 1
      exact ihb.2⟩
  | .rek o a b, e, q, hc, he, hf => by
    simp only [frb] at hf
    have iha := rn_keeps h a e (q ++ [0]) (hc.sub fun p hp => by simp [prel, bd1_cons, bd1_app, bd1_psh, Tr.isBnd, hp]) he fun w hw => hf w (List.mem_append_left _ hw)
    have ihb := rn_keeps h b e (q ++ [1]) (hc.sub fun p hp => by simp [prel, bd1_cons, bd1_app, bd1_psh, Tr.isBnd, hp]) he fun w hw => hf w (List.mem_append_right _ hw)
    simp only [rn, frb]
    exact ⟨by rw [iha.1, ihb.1], by rw [iha.2, ihb.2]⟩
  | .tst a b c, e, q, hc, he, hf => by
    simp only [frb] at hf
    have iha := rn_keeps h a e (q ++ [0]) (hc.sub fun p hp => by simp [prel, bd1_cons, bd1_app, bd1_psh, Tr.isBnd, hp]) he fun w hw => hf w (List.mem_append_left _ hw)
    have ihb := rn_keeps h b e (q ++ [1]) (hc.sub fun p hp => by simp [prel, bd1_cons, bd1_app, bd1_psh, Tr.isBnd, hp]) he fun w hw => hf w (List.mem_append_right _ (List.mem_append_left _ hw))
    have ihc := rn_keeps h c e (q ++ [2]) (hc.sub fun p hp => by simp [prel, bd1_cons, bd1_app, bd1_psh, Tr.isBnd, hp]) he fun w hw => hf w (List.mem_append_right _ (List.mem_append_right _ hw))
    simp only [rn, frb]
    exact ⟨by rw [iha.1, ihb.1, ihc.1], by rw [iha.2, ihb.2, ihc.2]⟩
theorem rn_good {B : List (List Nat)} {wd : List Nat → Wd} (h : RnOk B wd) : ∀ (u : Tr) (e : PEnv) (q : List Nat), CovB B q u → (∀ p ∈ e, p.2 ∈ B) → u.good = true → (rn wd e q u).good = true
  | .amt i, e, q, hc, he, hg => hg
  | .use w, e, q, hc, he, hg => by
    simp only [rn]
    split
    · exact hg
    · rename_i b hb
      obtain ⟨x, hx⟩ := lookE_mem hb
      exact h.fit b (he _ hx)
  | .giv w b, e, q, hc, he, hg => by
    have hq : q ∈ B := by simpa using hc [] (by simp [prel, bd1_cons, Tr.isBnd])
    have hg' := Bool.and_eq_true_iff.mp hg
    have ih := rn_good h b ((w, q) :: e) (q ++ [0]) (hc.sub fun p hp => by simp [prel, bd1_cons, bd1_psh, Tr.isBnd, hp]) (fun p hp => by
      rcases List.mem_cons.mp hp with rfl | hp
      · exact hq
      · exact he p hp) hg'.2
    simp only [rn, Tr.good, h.fit q hq, ih, Bool.and_self]
  | .app a b, e, q, hc, he, hg => by
    have hg' := Bool.and_eq_true_iff.mp hg
    have iha := rn_good h a e (q ++ [0]) (hc.sub fun p hp => by simp [prel, bd1_cons, bd1_app, bd1_psh, Tr.isBnd, hp]) he hg'.1
    have ihb := rn_good h b e (q ++ [1]) (hc.sub fun p hp => by simp [prel, bd1_cons, bd1_app, bd1_psh, Tr.isBnd, hp]) he hg'.2
    simp only [rn, Tr.good, iha, ihb, Bool.and_self]
  | .hol w a b, e, q, hc, he, hg => by
    have hq : q ∈ B := by simpa using hc [] (by simp [prel, bd1_cons, Tr.isBnd])
    have hg' := Bool.and_eq_true_iff.mp hg
    have hg2 := Bool.and_eq_true_iff.mp hg'.2
    have iha := rn_good h a e (q ++ [0]) (hc.sub fun p hp => by simp [prel, bd1_cons, bd1_app, bd1_psh, Tr.isBnd, hp]) he hg2.1
    have ihb := rn_good h b ((w, q) :: e) (q ++ [1]) (hc.sub fun p hp => by simp [prel, bd1_cons, bd1_app, bd1_psh, Tr.isBnd, hp]) (fun p hp => by
      rcases List.mem_cons.mp hp with rfl | hp
      · exact hq
      · exact he p hp) hg2.2
    simp only [rn, Tr.good, h.fit q hq, iha, ihb, Bool.and_self]
  | .rek o a b, e, q, hc, he, hg => by
    have hg' := Bool.and_eq_true_iff.mp hg
    have iha := rn_good h a e (q ++ [0]) (hc.sub fun p hp => by simp [prel, bd1_cons, bd1_app, bd1_psh, Tr.isBnd, hp]) he hg'.1
    have ihb := rn_good h b e (q ++ [1]) (hc.sub fun p hp => by simp [prel, bd1_cons, bd1_app, bd1_psh, Tr.isBnd, hp]) he hg'.2
    simp only [rn, Tr.good, iha, ihb, Bool.and_self]
  | .tst a b c, e, q, hc, he, hg => by
    have hg' := Bool.and_eq_true_iff.mp hg
    have hg2 := Bool.and_eq_true_iff.mp hg'.2
    have iha := rn_good h a e (q ++ [0]) (hc.sub fun p hp => by simp [prel, bd1_cons, bd1_app, bd1_psh, Tr.isBnd, hp]) he hg'.1
    have ihb := rn_good h b e (q ++ [1]) (hc.sub fun p hp => by simp [prel, bd1_cons, bd1_app, bd1_psh, Tr.isBnd, hp]) he hg2.1
    have ihc := rn_good h c e (q ++ [2]) (hc.sub fun p hp => by simp [prel, bd1_cons, bd1_app, bd1_psh, Tr.isBnd, hp]) he hg2.2
    simp only [rn, Tr.good, iha, ihb, ihc, Bool.and_self]
/-! the words that are given -/
theorem wdL_mem : ∀ {bs : List (List Nat)} {ws : List Wd} {q : List Nat}, q ∈ bs → bs.length ≤ ws.length → wdL bs ws q ∈ ws
  | [], _, _, h, _ => by cases h
  | b :: bs, [], q, h, hl => by simp at hl
  | b :: bs, w :: ws, q, h, hl => by
    simp only [wdL]
    split
    · exact List.mem_cons_self ..
    · rename_i hne
      rcases List.mem_cons.mp h with rfl | h
      · exact absurd (natsEq_iff.mpr rfl) hne
      · exact List.mem_cons_of_mem _ (wdL_mem h (by simpa using hl))
theorem wdL_inj : ∀ {bs : List (List Nat)} {ws : List Wd}, ws.Nodup → bs.length ≤ ws.length → ∀ b ∈ bs, ∀ c ∈ bs, wdL bs ws b = wdL bs ws c → b = c
  | [], _, _, _, b, hb, _, _, _ => by cases hb
  | x :: bs, [], _, hl, _, _, _, _, _ => by simp at hl
  | x :: bs, w :: ws, hn, hl, b, hb, c, hc, e => by
    rw [List.nodup_cons] at hn
    have hl' : bs.length ≤ ws.length := by simpa using hl
    simp only [wdL] at e
    split at e
    · rename_i h1
      split at e
      · rename_i h2
        rw [natsEq_iff.mp h1, natsEq_iff.mp h2]
      · rename_i h2
        rcases List.mem_cons.mp hc with rfl | hc
        · exact absurd (natsEq_iff.mpr rfl) h2
        · exact absurd (e ▸ wdL_mem hc hl') hn.1
    · rename_i h1
      split at e
      · rename_i h2
        rcases List.mem_cons.mp hb with rfl | hb
        · exact absurd (natsEq_iff.mpr rfl) h1
        · exact absurd (e ▸ wdL_mem hb hl') hn.1
      · rename_i h2
        rcases List.mem_cons.mp hb with rfl | hb
        · exact absurd (natsEq_iff.mpr rfl) h1
        · rcases List.mem_cons.mp hc with rfl | hc
          · exact absurd (natsEq_iff.mpr rfl) h2
          · exact wdL_inj hn.2 hl' b hb c hc e
theorem lets_nodup : (lets.map fun c => [c]).Nodup := by decide +kernel
theorem wfl_nodup (taken : List Wd) : (wfl taken).Nodup := List.Nodup.sublist List.filter_sublist lets_nodup
theorem wfl_fit {taken : List Wd} {w : Wd} (h : w ∈ wfl taken) : fitsW w = true := by
  obtain ⟨c, hc, rfl⟩ := List.mem_map.mp (List.mem_filter.mp h).1
  exact all_lets c hc
theorem wfl_not {taken : List Wd} {w : Wd} (h : w ∈ wfl taken) : w ∉ taken := by
  have := (List.mem_filter.mp h).2
  simp only [Bool.not_eq_true', List.any_eq_false] at this
  intro hw
  exact this w hw (natsEq_iff.mpr rfl)
theorem srtW_mem {l : List Wd} {w : Wd} : w ∈ srtW l ↔ w ∈ l := by
  unfold srtW
  rw [(sort_perm _).mem_iff, dedup_mem]
theorem srtW_len (l : List Wd) : (srtW l).length = (dedupW l).length := (sort_perm _).length_eq
theorem filter_len {α : Type} (f : α → Bool) (l : List α) : (l.filter f).length + (l.filter fun x => !f x).length = l.length := by
  induction l with
  | nil => rfl
  | cons x l ih =>
    simp only [List.filter_cons]
    cases f x <;> simp <;> omega
theorem wfl_len (taken : List Wd) : 26 ≤ (wfl taken).length + taken.length := by
  have h := filter_len (fun w : Wd => taken.any (fun x => natsEq x w)) (lets.map fun c => [c])
  have h2 := len_sub (l := (lets.map fun c => [c]).filter fun w : Wd => taken.any (fun x => natsEq x w)) (ks := taken) (List.Nodup.sublist List.filter_sublist lets_nodup) (fun x hx => by
    have := (List.mem_filter.mp hx).2
    obtain ⟨y, hy, e⟩ := List.any_eq_true.mp this
    rw [← natsEq_iff.mp e]; exact hy)
  have h3 : (lets.map fun c => [c]).length = 26 := rfl
  unfold wfl
  omega
theorem shp_rnok (t : Tr) (h : Shp t) : RnOk (bnds t) (wdL (bnds t) (shW t)) where
  inj := wdL_inj (List.Nodup.sublist (List.take_sublist _ _) (wfl_nodup _)) (by unfold shW; rw [List.length_take]; have := h.bnds; omega)
  fit := fun b hb => wfl_fit (List.mem_of_mem_take (wdL_mem hb (by have := h.bnds; show (bnds t).length ≤ (shW t).length; unfold shW; rw [List.length_take]; omega)))
theorem shp_cov (t : Tr) : CovB (bnds t) [] t := fun p hp => by
  rw [List.nil_append]
  exact hp
theorem shp_free (t : Tr) (h : Shp t) : ∀ w ∈ frb (([] : PEnv).map (·.1)) t, ∀ b ∈ bnds t, wdL (bnds t) (shW t) b ≠ w := fun w hw b hb e => by
  have h1 : wdL (bnds t) (shW t) b ∈ wfl (srtW (frb [] t)) := List.mem_of_mem_take (wdL_mem hb (by have := h.bnds; show (bnds t).length ≤ (shW t).length; unfold shW; rw [List.length_take]; omega))
  rw [e] at h1
  exact wfl_not h1 (srtW_mem.mpr hw)
theorem shp_frb (t : Tr) (h : Shp t) : frb [] (shp t) = frb [] t := (rn_keeps (shp_rnok t h) t [] [] (shp_cov t) (fun _ z => nomatch z) (shp_free t h)).2
theorem shp_bnds (t : Tr) : bnds (shp t) = bnds t := rn_bnds _ t [] []
theorem shp_size (t : Tr) : (shp t).size = t.size := rn_size _ t [] []
theorem shp_depth (t : Tr) : (shp t).depth = t.depth := rn_depth _ t [] []
theorem shp_good (t : Tr) (h : Shp t) : (shp t).good = true := rn_good (shp_rnok t h) t [] [] (shp_cov t) (fun _ z => nomatch z) h.good
theorem shp_shp (t : Tr) (h : Shp t) : shp (shp t) = shp t := by
  have e1 : shW (shp t) = shW t := by
    unfold shW
    rw [shp_frb t h, shp_bnds]
  show rn (wdL (bnds (shp t)) (shW (shp t))) [] [] (shp t) = shp t
  rw [shp_bnds, e1]
  exact (rn_keeps (shp_rnok t h) t [] [] (shp_cov t) (fun _ z => nomatch z) (shp_free t h)).1
theorem shp_Shp (t : Tr) (h : Shp t) : Shp (shp t) where
  good := shp_good t h
  fits := ⟨by rw [shp_size]; exact h.fits.1, by rw [shp_depth]; exact h.fits.2⟩
  free := by rw [shp_frb t h]; exact h.free
  bnds := by rw [shp_frb t h, shp_bnds]; exact h.bnds
end N57
end
section
set_option maxRecDepth 100000
set_option maxHeartbeats 4000000
namespace N57
open PySem
local macro_rules | `(tactic| walk_at "b") => `(tactic| first | rfl | assumption)
local macro_rules | `(tactic| walk_at "cm") => `(tactic| first | assumption | (with_reducible exact ne_nil) | (with_reducible exact eq_nil) | exact ⟨(rfl : _ = some true)⟩ | exact ⟨(rfl : _ = some false)⟩ | exact ⟨rfl⟩)
local macro_rules | `(tactic| walk_at "o") => `(tactic| first | assumption | (with_reducible exact ix_last) | exact ⟨rfl⟩)
local macro_rules | `(tactic| walk_at "sl") => `(tactic| first | assumption | exact sl_init | exact sl_t1 | exact sl_t2 | exact ⟨rfl⟩)
local macro_rules | `(tactic| walk_at "c") => `(tactic| first | assumption | (with_reducible exact parts_in_ok _ _ _) | (with_reducible exact law_parts_ok _ _ _) | (with_reducible exact is_done_ok _ _ _))
local macro_rules | `(tactic| walk_at "as") => `(tactic| (repeat' (first | apply AsR.slot | apply AsR.tup | apply AsR.cons | apply AsR.nil | apply SetR.s | apply SetR.z)))
local macro_rules | `(tactic| walk_at "st") => `(tactic| (repeat' (first | apply StR.some | apply StR.none | apply StR.nil)))
local macro_rules | `(tactic| walk_at "e") => `(tactic| first
  | ((with_reducible apply e_var); rfl)
  | (with_reducible exact e_con)
  | ((with_reducible apply e_cons); walk_at "e"; walk_at "e")
  | (with_reducible exact e_nil)
  | ((with_reducible apply e_glb); rfl)
  | ((with_reducible apply e_tup); walk_at "e")
  | ((with_reducible apply e_lst); walk_at "e")
  | ((with_reducible apply e_ix); walk_at "e"; walk_at "e"; walk_at "o")
  | ((with_reducible apply e_cmp); walk_at "e"; walk_at "e"; walk_at "cm")
  | ((with_reducible apply e_op); walk_at "e"; walk_at "e"; walk_at "o")
  | ((with_reducible apply e_call); walk_at "e"; walk_at "c")
  | ((with_reducible apply e_pr); walk_at "e"; walk_at "o")
  | ((with_reducible apply e_and); walk_at "e"; first | ((with_reducible apply andK_t); walk_at "b"; walk_at "e") | ((with_reducible apply andK_f); walk_at "b"; walk_at "b") | ((with_reducible apply andK_both); walk_at "e"; walk_at "b"))
  | ((with_reducible apply e_or); walk_at "e"; first | ((with_reducible apply orK_t); walk_at "b"; walk_at "b") | ((with_reducible apply orK_f); walk_at "b"; walk_at "e") | ((with_reducible apply orK_both); walk_at "e"; walk_at "b"))
  | ((with_reducible apply e_ite); walk_at "e"; first | ((with_reducible apply ifK_t); walk_at "b"; walk_at "e") | ((with_reducible apply ifK_f); walk_at "b"; walk_at "e"))
  | ((with_reducible apply e_not); walk_at "e"; walk_at "b")
  | ((with_reducible apply e_isN); walk_at "e"; walk_at "b")
  | ((with_reducible apply e_notN); walk_at "e"; walk_at "b")
  | ((with_reducible apply e_neg); walk_at "e"; walk_at "b")
  | ((with_reducible apply e_chain); walk_at "e"; walk_at "e"; walk_at "cm"; walk_at "e"; walk_at "cm"; walk_at "b")
  | ((with_reducible apply e_sl); walk_at "e"; walk_at "e"; rfl; walk_at "e"; rfl; walk_at "sl")
  | (with_reducible exact e_dic0)
  | ((with_reducible apply e_dicS); walk_at "e")
  | ((with_reducible apply e_cg); walk_at "e")
  | assumption)
local macro_rules | `(tactic| walk_at "f") => `(tactic| first
  | exact fm_nil
  | (apply fm_cons; walk_at "as"; walk_at "x"; walk_at "f")
  | (with_reducible exact fmK_rt)
  | ((with_reducible apply fmK_nx); walk_at "f")
  | assumption)
local macro_rules | `(tactic| walk_at "x") => `(tactic| first
  | (with_reducible exact x_nil)
  | ((with_reducible apply x_cons); walk_at "x"; walk_at "x")
  | ((with_reducible apply x_asg); walk_at "e"; walk_at "as")
  | ((with_reducible apply x_iff); walk_at "e"; walk_at "x")
  | ((with_reducible apply x_ret); walk_at "e")
  | ((with_reducible apply x_exp); walk_at "e")
  | ((with_reducible apply ifX_t); walk_at "b"; walk_at "x")
  | ((with_reducible apply ifX_f); walk_at "b"; walk_at "x")
  | ((with_reducible apply x_for); walk_at "e"; walk_at "e"; walk_at "o"; walk_at "f")
  | (with_reducible exact sqX_rt)
  | ((with_reducible apply sqX_nx); walk_at "x")
  | assumption)
local macro_rules | `(tactic| walk_at "1") => `(tactic| ((with_reducible apply x_cons); walk_at "x"; (with_reducible apply sqX_nx)))
open SrtO
/-! equality of plain data -/
theorem natsEq_refl (w : List Nat) : natsEq w w = true := natsEq_iff.mpr rfl
theorem eqB_refl : ∀ (n : Nat) (d : D), okB n d = true → eqB n d d = true
  | 0, d, h => by
    cases d <;> first | rfl | (cases h; done) | exact natsEq_refl _ | exact decide_eq_true rfl
  | n + 1, d, h => by
    have za : ∀ l : List D, l.all (okB n) = true → zipAll (eqB n) l l = true := by
      intro l
      induction l with
      | nil => intro _; rfl
      | cons x l ih =>
        intro h
        rw [List.all_cons, Bool.and_eq_true] at h
        show (eqB n x x && zipAll (eqB n) l l) = true
        rw [eqB_refl n x h.1, ih h.2]; rfl
    cases d with
    | tup l => exact za l h
    | lst l => exact za l h
    | _ => first | rfl | (cases h; done) | exact natsEq_refl _ | exact decide_eq_true rfl
theorem okB_le : ∀ {m n : Nat} {d : D}, n ≤ m → okB n d = true → okB m d = true
  | 0, n, d, h, ho => by
    have : n = 0 := by omega
    subst this; exact ho
  | m + 1, n, d, h, ho => by
    by_cases e : n = m + 1
    · subst e; exact ho
    · exact okB_mono _ _ (okB_le (by omega) ho)
theorem ok_nm {w : Wd} (h : fitsW w = true) (n : Nat) : okB (n + 2) (nm w) = true := by
  show ((w.all (Nat.blt · 256)) && (true && true)) = true
  rw [ascii_of h]; rfl
theorem okB_enc : ∀ (t : Tr), t.good = true → okB (t.depth + 2) (enc t) = true
  | .amt i, _ => rfl
  | .use w, h => by
    show (true && (okB 2 (nm w) && true)) = true
    rw [ok_nm h 0]; rfl
  | .giv w b, h => by
    have h' := Bool.and_eq_true_iff.mp h
    show (true && (okB (b.depth + 2) (nm w) && (okB (b.depth + 2) (enc b) && true))) = true
    rw [ok_nm h'.1, okB_enc b h'.2]; rfl
  | .app a b, h => by
    have h' := Bool.and_eq_true_iff.mp h
    show (true && (okB (max a.depth b.depth + 2) (enc a) && (okB (max a.depth b.depth + 2) (enc b) && true))) = true
    rw [okB_le (by omega) (okB_enc a h'.1), okB_le (by omega) (okB_enc b h'.2)]; rfl
  | .hol w a b, h => by
    have h' := Bool.and_eq_true_iff.mp h
    have h2 := Bool.and_eq_true_iff.mp h'.2
    show (true && (okB (max a.depth b.depth + 2) (nm w) && (okB (max a.depth b.depth + 2) (enc a) && (okB (max a.depth b.depth + 2) (enc b) && true)))) = true
    rw [ok_nm h'.1, okB_le (by omega) (okB_enc a h2.1), okB_le (by omega) (okB_enc b h2.2)]; rfl
  | .rek o a b, h => by
    have h' := Bool.and_eq_true_iff.mp h
    have ho : (o.w).all (Nat.blt · 256) = true := by cases o <;> rfl
    show (true && ((o.w).all (Nat.blt · 256) && (okB (max a.depth b.depth + 2) (enc a) && (okB (max a.depth b.depth + 2) (enc b) && true)))) = true
    rw [ho, okB_le (by omega) (okB_enc a h'.1), okB_le (by omega) (okB_enc b h'.2)]; rfl
  | .tst a b c, h => by
    have h' := Bool.and_eq_true_iff.mp h
    have h2 := Bool.and_eq_true_iff.mp h'.2
    show (true && (okB (max (max a.depth b.depth) c.depth + 2) (enc a) && (okB (max (max a.depth b.depth) c.depth + 2) (enc b) && (okB (max (max a.depth b.depth) c.depth + 2) (enc c) && true)))) = true
    rw [okB_le (by omega) (okB_enc a h'.1), okB_le (by omega) (okB_enc b h2.1), okB_le (by omega) (okB_enc c h2.2)]; rfl
theorem eq_enc (t : Tr) (h : t.good = true) (hd : t.depth ≤ 60) : CmH .eq (enc t) (enc t) true := by
  constructor
  have ok : okB 62 (enc t) = true := okB_le (by omega) (okB_enc t h)
  have e : eqO (enc t) (enc t) = if okB 62 (enc t) && okB 62 (enc t) then some (eqB 62 (enc t) (enc t)) else none := by
    cases t <;> rfl
  show eqO (enc t) (enc t) = some true
  rw [e, ok, eqB_refl 62 _ ok]; rfl
/-! deeds that are deeds -/
structure DedOk (d : Ded) : Prop where
  fit : fitsW d.1 = true
  shp : Shp d.2
  fix : N57.shp d.2 = d.2
theorem fits_open_ok (t : Tr) (h : Shp t) (e : shp t = t) (k : Nat) (st : Cup) : Rn (k + 72) f_fits_open [enc t] st (.bl true) st := by
  have h1 := measured_ok t h.good (k + 66) st
  have hf1 := h.fits.1
  unfold mesD at h1
  rw [if_pos h.fits] at h1
  have h2 := is_all_plain_ok t h.good (by omega) (k + 68) st
  have h3 := shape_plain_ok t h k st
  rw [e] at h3
  have c := eq_enc t h.good h.fits.2
  apply r_df df_fits_open rfl
  · walk_at "st"
  · walk_at "x"
  · rfl
theorem fits_deed_ok (d : Ded) (h : DedOk d) (k : Nat) (st : Cup) : Rn (k + 73) f_fits_cell_deed [dedD d] st (.bl true) st := by
  have h1 := is_row_ok [.str d.1, enc d.2] 2 2 (k + 71) st
  have h2 := fits_word_ok d.1 h.fit (k + 71) st
  have h3 := fits_open_ok d.2 h.shp h.fix k st
  apply r_df df_fits_cell_deed rfl
  · walk_at "st"
  · walk_at "x"
  · rfl
theorem need_deed_ok (d : Ded) (h : DedOk d) (k : Nat) (st : Cup) : Rn (k + 74) f_need_deed [dedD d] st .non st := by
  have h1 := fits_deed_ok d h k st
  apply r_df df_need_deed rfl
  · walk_at "st"
  · walk_at "x"
  · rfl
theorem need_amount_ok (m : Nat) (hm : m ≤ 100) (k : Nat) (st : Cup) : Rn (k + 2) f_need_amount [.int (m : Int)] st .non st := by
  have h1 := is_whole_ok m 0 100 k st
  rw [decide_eq_true (by omega), decide_eq_true (by omega)] at h1
  apply r_df df_need_amount rfl
  · walk_at "st"
  · walk_at "x"
  · rfl
theorem words_of_ok (d : Ded) (h : DedOk d) (k : Nat) (st : Cup) : Rn (k + 6) f_words_of_deed [dedD d] st (lsW (srtW (frb [] d.2))) st := by
  have hf1 := h.shp.fits.1
  have h1 := frees_in_ok d.2 h.shp.good (by omega) h.shp.free k st
  apply r_df df_words_of_deed rfl
  · walk_at "st"
  · walk_at "x"
  · rfl
/-! all stores -/
def storesF (w : Wd) (m : Nat) (l : List Sto) : List Sto := l.flatMap fun s => (List.range (m + 1)).map fun (a : Nat) => s ++ [(w, (a : Int))]
def stores (m : Nat) : List Wd → List Sto → List Sto
  | [], l => l
  | w :: ws, l => stores m ws (storesF w m l)
theorem storesF_len (w : Wd) (m : Nat) (l : List Sto) : (storesF w m l).length = l.length * (m + 1) := by
  unfold storesF
  induction l with
  | nil => simp
  | cons x l ih =>
    simp only [List.flatMap_cons, List.length_append, List.length_map, List.length_range, List.length_cons, ih]
    rw [Nat.add_mul, Nat.one_mul]
    omega
theorem stoD_snoc (s : Sto) (w : Wd) (a : Int) (h : s.length ≤ 1000) : OpH .add (stoD s) (.tup [.tup [.str w, .int a]]) (stoD (s ++ [(w, a)])) := by
  have := op_tup (l := s.map fun p => D.tup [.str p.1, .int p.2]) (m := [.tup [.str w, .int a]]) (by unfold sizeLine; simp; omega)
  unfold stoD
  rw [List.map_append]
  exact this
theorem stores_in (k : Nat) (st : Cup) (wsD : D) (w : Wd) (m : Nat) (hm : m ≤ 90) (f2 : Option D) : ∀ (l : List Sto) (acc : List Sto) (o5 o6 : Option D), (∀ s ∈ l, s.length ≤ 1000) → acc.length + l.length * (m + 1) ≤ 1000000 →
    ∃ o5' o6', FM k (.slot 5) b_stores_of_L1b (l.map stoD) [some wsD, some (.int (m : Int)), f2, some (.str w), some (.lst (acc.map stoD)), o5, o6] st (.nx [some wsD, some (.int (m : Int)), f2, some (.str w), some (.lst ((acc ++ storesF w m l).map stoD)), o5', o6']) st
  | [], acc, o5, o6, _, _ => ⟨_, _, by rw [show acc ++ storesF w m [] = acc by simp [storesF]]; exact fm_nil⟩
  | s :: l, acc, o5, o6, hs, hl => by
    rw [List.length_cons, Nat.add_mul, Nat.one_mul] at hl
    obtain ⟨o5', o6', hf⟩ := stores_in k st wsD w m hm f2 l (acc ++ (List.range (m + 1)).map fun (a : Nat) => s ++ [(w, (a : Int))]) (some (stoD s)) o6 (fun x hx => hs x (List.mem_cons_of_mem _ hx)) (by simp; omega)
    refine ⟨o5', o6', ?_⟩
    apply fm_cons
    · walk_at "as"
    · with_reducible apply x_cons
      · with_reducible apply x_asg
        · with_reducible apply e_op
          · walk_at "e"
          · apply e_map (its := List.range (m + 1)) (f := fun a => .int (a : Int)) (g := fun (a : Nat) => stoD (s ++ [(w, (a : Int))]))
            · have g : OpH .add (.int (m : Int)) (.int 1) (.int ((m + 1 : Nat) : Int)) := ⟨rfl⟩
              walk_at "e"
            · walk_at "e"
            · exact it_rng (m + 1) (by omega)
            · simp; unfold sizeLine; omega
            · intro a ha
              have g := stoD_snoc s w (a : Int) (hs s (List.mem_cons_self ..))
              exact ⟨_, rfl, by walk_at "e"⟩
          · exact op_lst (by unfold sizeLine; simp only [List.length_map, List.length_range]; omega)
        · walk_at "as"
      · apply sqX_nx
        exact x_nil
    · have e : (acc ++ (List.range (m + 1)).map fun (a : Nat) => s ++ [(w, (a : Int))]).map stoD = acc.map stoD ++ (List.range (m + 1)).map fun (a : Nat) => stoD (s ++ [(w, (a : Int))]) := by
        rw [List.map_append, List.map_map]; rfl
      rw [e] at hf
      have e2 : acc ++ storesF w m (s :: l) = acc ++ ((List.range (m + 1)).map fun (a : Nat) => s ++ [(w, (a : Int))]) ++ storesF w m l := by
        simp [storesF]
      rw [e2]
      exact hf
theorem stores_fm (k : Nat) (st : Cup) (wsD : D) (m : Nat) (hm : m ≤ 90) : ∀ (ws : List Wd) (l : List Sto) (o3 o4 o5 o6 : Option D) (n : Nat), (∀ s ∈ l, s.length ≤ n) → n + ws.length ≤ 1000 → l.length * (m + 1) ^ ws.length ≤ 1000000 →
    ∃ o3' o4' o5' o6', FM k (.slot 3) b_stores_of_L0b (ws.map .str) [some wsD, some (.int (m : Int)), some (.lst (l.map stoD)), o3, o4, o5, o6] st (.nx [some wsD, some (.int (m : Int)), some (.lst ((stores m ws l).map stoD)), o3', o4', o5', o6']) st
  | [], l, o3, o4, o5, o6, n, _, _, _ => ⟨_, _, _, _, fm_nil⟩
  | w :: ws, l, o3, o4, o5, o6, n, hn, hn2, hl => by
    rw [List.length_cons] at hl hn2
    have h1 : l.length * (m + 1) ≤ 1000000 := Nat.le_trans (Nat.mul_le_mul_left _ (Nat.le_self_pow (by omega) _)) hl
    obtain ⟨o5a, o6a, hf⟩ := stores_in k st wsD w m hm (some (.lst (l.map stoD))) l [] o5 o6 (fun s hs => by have := hn s hs; omega) (by simpa using h1)
    rw [List.nil_append] at hf
    obtain ⟨o3', o4', o5', o6', hf2⟩ := stores_fm k st wsD m hm ws (storesF w m l) (some (.str w)) (some (.lst ((storesF w m l).map stoD))) o5a o6a (n + 1) (fun s hs => by
      unfold storesF at hs
      rw [List.mem_flatMap] at hs
      obtain ⟨x, hx, hs⟩ := hs
      obtain ⟨a, _, rfl⟩ := List.mem_map.mp hs
      have := hn x hx
      simp; omega) (by omega) (by rw [storesF_len, Nat.mul_assoc, ← Nat.pow_succ']; exact hl)
    refine ⟨o3', o4', o5', o6', ?_⟩
    apply fm_cons
    · walk_at "as"
    · walk_at "1"
      with_reducible apply x_cons
      · with_reducible apply x_for
        · walk_at "e"
        · walk_at "e"
        · exact it_lst
        · exact hf
      walk_at "x"
    · exact hf2
theorem stores_of_ok (ws : List Wd) (m : Nat) (hw : ws.length ≤ 4) (hm : m ≤ 3) (k : Nat) (st : Cup) : Rn (k + 1) f_stores_of [lsW ws, .int (m : Int)] st (.lst ((stores m ws [[]]).map stoD)) st := by
  have hb : (m + 1) ^ ws.length ≤ 4 ^ 4 := Nat.le_trans (Nat.pow_le_pow_left (by omega : m + 1 ≤ 4) _) (Nat.pow_le_pow_right (by omega) hw)
  obtain ⟨o3, o4, o5, o6, hf⟩ := stores_fm k st (lsW ws) m (by omega) ws [[]] none none none none 0 (by simp) (by omega) (by
    have : (4 : Nat) ^ 4 = 256 := rfl
    simp only [List.length_singleton, Nat.one_mul]
    omega)
  have hi := it_lst (l := ws.map D.str) (y := .lst [])
  apply r_df df_stores_of rfl
  · walk_at "st"
  · walk_at "1"
    with_reducible apply x_cons
    · with_reducible apply x_for
      · walk_at "e"
      · walk_at "e"
      · exact hi
      · exact hf
    walk_at "x"
  · rfl
theorem law_stores_ok (ws : List Wd) (m : Nat) (hw : ws.length ≤ 4) (hm : m ≤ 3) (k : Nat) (st : Cup) : Rn (k + 1) f_law_stores [lsW ws, .int (m : Int)] st (.lst ((stores m ws [[]]).map stoD)) st := by
  have hb : (m + 1) ^ ws.length ≤ 4 ^ 4 := Nat.le_trans (Nat.pow_le_pow_left (by omega : m + 1 ≤ 4) _) (Nat.pow_le_pow_right (by omega) hw)
  obtain ⟨o3, o4, o5, o6, hf⟩ := stores_fm k st (lsW ws) m (by omega) ws [[]] none none none none 0 (by simp) (by omega) (by
    have : (4 : Nat) ^ 4 = 256 := rfl
    simp only [List.length_singleton, Nat.one_mul]
    omega)
  have hi := it_lst (l := ws.map D.str) (y := .lst [])
  apply r_df df_law_stores rfl
  · walk_at "st"
  · walk_at "1"
    with_reducible apply x_cons
    · with_reducible apply x_for
      · walk_at "e"
      · walk_at "e"
      · exact hi
      · exact hf
    walk_at "x"
  · rfl
theorem stores_mem (m : Nat) : ∀ (ws : List Wd) (l : List Sto) (s : Sto), s ∈ stores m ws l → ∃ s0 ∈ l, ∃ as : List Nat, as.length = ws.length ∧ (∀ a ∈ as, a ≤ m) ∧ s = s0 ++ (ws.zip (as.map fun (a : Nat) => (a : Int)))
  | [], l, s, h => ⟨s, h, [], rfl, by simp, by simp⟩
  | w :: ws, l, s, h => by
    obtain ⟨s1, h1, as, h2, h3, rfl⟩ := stores_mem m ws _ s h
    unfold storesF at h1
    rw [List.mem_flatMap] at h1
    obtain ⟨s0, h0, h1⟩ := h1
    obtain ⟨a, ha, rfl⟩ := List.mem_map.mp h1
    refine ⟨s0, h0, a :: as, by simp [h2], ?_, by simp⟩
    intro b hb
    rcases List.mem_cons.mp hb with rfl | hb
    · have := List.mem_range.mp ha; omega
    · exact h3 b hb
theorem stores_ok {ws : List Wd} {m : Nat} (hf : ∀ w ∈ ws, fitsW w = true) (hn : ws.Nodup) (hs : ws.Pairwise fun a b => ltW b a = false) (h0 : ws ≠ []) (hl : ws.length ≤ 4) (hm : m ≤ 3) {s : Sto} (h : s ∈ stores m ws [[]]) : StoOk s ∧ s.map (·.1) = ws := by
  obtain ⟨s0, hs0, as, h2, h3, rfl⟩ := stores_mem m ws _ s h
  rw [List.mem_singleton] at hs0
  subst hs0
  rw [List.nil_append]
  have ek : (ws.zip (as.map fun (a : Nat) => (a : Int))).map (·.1) = ws := by
    rw [← List.unzip_fst, List.unzip_zip_left (by simp [h2])]
  refine ⟨⟨?_, ?_, by rw [ek]; exact hn, by rw [ek]; exact hs, ?_, ?_⟩, ek⟩
  · intro p hp
    have := (List.of_mem_zip (a := p.1) (b := p.2) hp).2
    obtain ⟨a, ha, e⟩ := List.mem_map.mp this
    have h4 := h3 a ha
    unfold amtB
    rw [← e]
    rw [decide_eq_true (by omega), decide_eq_true (by omega)]
    rfl
  · intro p hp
    exact hf _ (List.of_mem_zip (a := p.1) (b := p.2) hp).1
  · intro e
    rw [e] at ek
    exact h0 ek.symm
  · rw [List.length_zip]
    omega
end N57
end
section
set_option maxRecDepth 100000
set_option maxHeartbeats 4000000
namespace N57
open PySem
local macro_rules | `(tactic| walk_at "b") => `(tactic| first | rfl | assumption)
local macro_rules | `(tactic| walk_at "cm") => `(tactic| first | assumption | (with_reducible exact ne_nil) | (with_reducible exact eq_nil) | exact ⟨(rfl : _ = some true)⟩ | exact ⟨(rfl : _ = some false)⟩ | exact ⟨rfl⟩)
local macro_rules | `(tactic| walk_at "o") => `(tactic| first | assumption | (with_reducible exact ix_last) | exact ⟨rfl⟩)
local macro_rules | `(tactic| walk_at "sl") => `(tactic| first | assumption | exact sl_init | exact sl_t1 | exact sl_t2 | exact ⟨rfl⟩)
local macro_rules | `(tactic| walk_at "c") => `(tactic| first | assumption | (with_reducible exact parts_in_ok _ _ _) | (with_reducible exact law_parts_ok _ _ _) | (with_reducible exact is_done_ok _ _ _))
local macro_rules | `(tactic| walk_at "as") => `(tactic| (repeat' (first | apply AsR.slot | apply AsR.tup | apply AsR.cons | apply AsR.nil | apply SetR.s | apply SetR.z)))
local macro_rules | `(tactic| walk_at "st") => `(tactic| (repeat' (first | apply StR.some | apply StR.none | apply StR.nil)))
local macro_rules | `(tactic| walk_at "e") => `(tactic| first
  | ((with_reducible apply e_var); rfl)
  | (with_reducible exact e_con)
  | ((with_reducible apply e_cons); walk_at "e"; walk_at "e")
  | (with_reducible exact e_nil)
  | ((with_reducible apply e_glb); rfl)
  | ((with_reducible apply e_tup); walk_at "e")
  | ((with_reducible apply e_lst); walk_at "e")
  | ((with_reducible apply e_ix); walk_at "e"; walk_at "e"; walk_at "o")
  | ((with_reducible apply e_cmp); walk_at "e"; walk_at "e"; walk_at "cm")
  | ((with_reducible apply e_op); walk_at "e"; walk_at "e"; walk_at "o")
  | ((with_reducible apply e_call); walk_at "e"; walk_at "c")
  | ((with_reducible apply e_pr); walk_at "e"; walk_at "o")
  | ((with_reducible apply e_and); walk_at "e"; first | ((with_reducible apply andK_t); walk_at "b"; walk_at "e") | ((with_reducible apply andK_f); walk_at "b"; walk_at "b") | ((with_reducible apply andK_both); walk_at "e"; walk_at "b"))
  | ((with_reducible apply e_or); walk_at "e"; first | ((with_reducible apply orK_t); walk_at "b"; walk_at "b") | ((with_reducible apply orK_f); walk_at "b"; walk_at "e") | ((with_reducible apply orK_both); walk_at "e"; walk_at "b"))
  | ((with_reducible apply e_ite); walk_at "e"; first | ((with_reducible apply ifK_t); walk_at "b"; walk_at "e") | ((with_reducible apply ifK_f); walk_at "b"; walk_at "e"))
  | ((with_reducible apply e_not); walk_at "e"; walk_at "b")
  | ((with_reducible apply e_isN); walk_at "e"; walk_at "b")
  | ((with_reducible apply e_notN); walk_at "e"; walk_at "b")
  | ((with_reducible apply e_neg); walk_at "e"; walk_at "b")
  | ((with_reducible apply e_chain); walk_at "e"; walk_at "e"; walk_at "cm"; walk_at "e"; walk_at "cm"; walk_at "b")
  | ((with_reducible apply e_sl); walk_at "e"; walk_at "e"; rfl; walk_at "e"; rfl; walk_at "sl")
  | (with_reducible exact e_dic0)
  | ((with_reducible apply e_dicS); walk_at "e")
  | ((with_reducible apply e_cg); walk_at "e")
  | assumption)
local macro_rules | `(tactic| walk_at "f") => `(tactic| first
  | exact fm_nil
  | (apply fm_cons; walk_at "as"; walk_at "x"; walk_at "f")
  | (with_reducible exact fmK_rt)
  | ((with_reducible apply fmK_nx); walk_at "f")
  | assumption)
local macro_rules | `(tactic| walk_at "x") => `(tactic| first
  | (with_reducible exact x_nil)
  | ((with_reducible apply x_cons); walk_at "x"; walk_at "x")
  | ((with_reducible apply x_asg); walk_at "e"; walk_at "as")
  | ((with_reducible apply x_iff); walk_at "e"; walk_at "x")
  | ((with_reducible apply x_ret); walk_at "e")
  | ((with_reducible apply x_exp); walk_at "e")
  | ((with_reducible apply ifX_t); walk_at "b"; walk_at "x")
  | ((with_reducible apply ifX_f); walk_at "b"; walk_at "x")
  | ((with_reducible apply x_for); walk_at "e"; walk_at "e"; walk_at "o"; walk_at "f")
  | (with_reducible exact sqX_rt)
  | ((with_reducible apply sqX_nx); walk_at "x")
  | assumption)
local macro_rules | `(tactic| walk_at "1") => `(tactic| ((with_reducible apply x_cons); walk_at "x"; (with_reducible apply sqX_nx)))
open SrtO
/-! the law's free words -/
theorem srtW_congr {l m : List Wd} (h : ∀ w, w ∈ l ↔ w ∈ m) : srtW l = srtW m := by
  have hl : (dedupW l).length = (dedupW m).length := Nat.le_antisymm (len_sub (dedupW_nodup l) fun x hx => dedup_mem.mpr ((h x).mp (dedup_mem.mp hx))) (len_sub (dedupW_nodup m) fun x hx => dedup_mem.mpr ((h x).mpr (dedup_mem.mp hx)))
  have p : (dedupW l).Perm (dedupW m) := perm_of_sub _ _ (dedupW_nodup m) (fun x hx => dedup_mem.mpr ((h x).mpr (dedup_mem.mp hx))) hl
  have s2 : (srtW m).Pairwise fun a b => ltW a b = true := by
    have h1 := sort_srtd ltW_swo (dedupW m)
    have h2 : (srtW m).Nodup := (sort_perm (lt := ltW) (dedupW m)).nodup_iff.mpr (dedupW_nodup m)
    have h3 : (srtW m).Pairwise fun a b => ltW b a = false ∧ a ≠ b := List.Pairwise.and h1 h2
    refine h3.imp fun {a b} hab => ?_
    cases e : ltW a b with
    | true => rfl
    | false =>
      have n1 : ¬ a < b := fun z => by rw [ltW_iff.mpr z] at e; cases e
      have n2 : ¬ b < a := fun z => by rw [ltW_iff.mpr z] at hab; cases hab.1
      exact absurd (List.le_antisymm (List.not_lt.mp n2) (List.not_lt.mp n1)) hab.2
  exact sort_eq ltW_swo (p.trans (sort_perm (lt := ltW) (dedupW m)).symm) s2
theorem frb_congr : ∀ (t : Tr) (a b : List Wd), (∀ w, a.any (fun x => natsEq x w) = b.any (fun x => natsEq x w)) → frb a t = frb b t
  | .amt i, a, b, h => rfl
  | .use w, a, b, h => by simp only [frb, h]
  | .giv w c, a, b, h => by
    simp only [frb]
    exact frb_congr c _ _ fun v => by simp only [List.any_cons, h]
  | .app c d, a, b, h => by simp only [frb]; rw [frb_congr c a b h, frb_congr d a b h]
  | .hol w c d, a, b, h => by
    simp only [frb]
    rw [frb_congr c a b h, frb_congr d (w :: a) (w :: b) fun v => by simp only [List.any_cons, h]]
  | .rek o c d, a, b, h => by simp only [frb]; rw [frb_congr c a b h, frb_congr d a b h]
  | .tst c d e, a, b, h => by simp only [frb]; rw [frb_congr c a b h, frb_congr d a b h, frb_congr e a b h]
theorem frb_snoc (t : Tr) (bd : List Wd) (w : Wd) : frb (bd ++ [w]) t = frb (w :: bd) t := frb_congr t _ _ fun v => by
  simp only [List.any_append, List.any_cons, List.any_nil, Bool.or_false]
  exact Bool.or_comm _ _
theorem frb_len : ∀ (t : Tr) (bd : List Wd), (frb bd t).length ≤ t.size
  | .amt i, bd => by simp [frb]
  | .use w, bd => by simp only [frb, Tr.size]; split <;> simp
  | .giv w b, bd => by simp only [frb, Tr.size]; have := frb_len b (w :: bd); omega
  | .app a b, bd => by simp only [frb, Tr.size, List.length_append]; have := frb_len a bd; have := frb_len b bd; omega
  | .hol w a b, bd => by simp only [frb, Tr.size, List.length_append]; have := frb_len a bd; have := frb_len b (w :: bd); omega
  | .rek o a b, bd => by simp only [frb, Tr.size, List.length_append]; have := frb_len a bd; have := frb_len b bd; omega
  | .tst a b c, bd => by simp only [frb, Tr.size, List.length_append]; have := frb_len a bd; have := frb_len b bd; have := frb_len c bd; omega
theorem in_bd {bd : List Wd} {w : Wd} : CmH .inQ (.str w) (lsW bd) (bd.any fun x => natsEq x w) := by
  constructor
  show inFlat (.str w) (bd.map D.str) = _
  have h1 : (bd.map D.str).all flatD = true := by
    rw [List.all_eq_true]
    intro x hx
    obtain ⟨y, _, rfl⟩ := List.mem_map.mp hx
    rfl
  unfold inFlat
  rw [h1]
  show some ((bd.map D.str).any fun y => eqB 0 y (.str w)) = _
  rw [List.any_map]
  rfl
theorem srtW_one (w : Wd) : srtW [w] = [w] := rfl
theorem pr_srt {l W : List Wd} (h : ∀ w ∈ l, w ∈ W) (hW : W.length < 64) : PrH .sortS [lsW l] (lsW (srtW l)) := pr_sortS (Nat.lt_of_le_of_lt (len_sub (dedupW_nodup l) fun x hx => h x (dedup_mem.mp hx)) hW)
theorem ls_app {l m : List Wd} (h : l.length + m.length ≤ 1000000) : OpH .add (lsW l) (lsW m) (lsW (l ++ m)) := by
  have := op_lst (l := l.map D.str) (m := m.map D.str) (by unfold sizeLine; simp; omega)
  unfold lsW
  rw [List.map_append]
  exact this
theorem srtW_le (l : List Wd) : (srtW l).length ≤ l.length := by
  rw [srtW_len]
  exact len_sub (dedupW_nodup l) fun x hx => dedup_mem.mp hx
theorem law_frees_ok (W : List Wd) (hW : W.length < 64) : ∀ (t : Tr) (bd : List Wd) (k : Nat) (st : Cup), t.size + bd.length ≤ 100000 → (∀ w ∈ frb bd t, w ∈ W) → t.depth + 1 ≤ k → Rn k f_law_frees [enc t, lsW bd] st (lsW (srtW (frb bd t))) st
  | .amt i, bd, k, st, hz, hf, hk => by
    obtain ⟨k, rfl⟩ : ∃ k', k = k' + 2 := ⟨k - 2, by simp only [Tr.depth] at hk; omega⟩
    exact ⟨rfl⟩
  | .use w, bd, k, st, hz, hf, hk => by
    obtain ⟨k, rfl⟩ : ∃ k', k = k' + 2 := ⟨k - 2, by simp only [Tr.depth] at hk; omega⟩
    have c := in_bd (bd := bd) (w := w)
    cases e : bd.any (fun x => natsEq x w) <;> rw [e] at c <;> simp only [frb, e] <;>
    · apply r_df df_law_frees rfl
      · walk_at "st"
      · walk_at "x"
      · rfl
  | .giv w b, bd, k, st, hz, hf, hk => by
    simp only [Tr.depth, Tr.size] at hk hz
    obtain ⟨k, rfl⟩ : ∃ k', k = k' + 2 := ⟨k - 2, by omega⟩
    have e1 : frb bd (.giv w b) = frb (bd ++ [w]) b := by rw [frb_snoc]; rfl
    rw [e1] at hf ⊢
    have hb := law_frees_ok W hW b (bd ++ [w]) (k + 1) st (by simp; omega) hf (by omega)
    have hp := law_parts_ok (.giv w b) k st
    have g1 : OpH .add (lsW bd) (.lst [.str w]) (lsW (bd ++ [w])) := ls_app (m := [w]) (by simp; omega)
    have l1 := frb_len b (bd ++ [w])
    have l2 := srtW_le (frb (bd ++ [w]) b)
    have g2 : OpH .add (.lst []) (lsW (srtW (frb (bd ++ [w]) b))) (lsW (srtW (frb (bd ++ [w]) b))) := ls_app (l := []) (by simp; omega)
    have s1 := pr_srt (l := srtW (frb (bd ++ [w]) b)) (fun x hx => hf x (srtW_mem.mp hx)) hW
    have e2 : srtW (srtW (frb (bd ++ [w]) b)) = srtW (frb (bd ++ [w]) b) := srtW_congr fun x => srtW_mem
    rw [e2] at s1
    apply r_df df_law_frees rfl
    · walk_at "st"
    · walk_at "x"
    · rfl
  | .app a b, bd, k, st, hz, hf, hk => by
    simp only [Tr.depth, Tr.size] at hk hz
    obtain ⟨k, rfl⟩ : ∃ k', k = k' + 2 := ⟨k - 2, by omega⟩
    simp only [frb] at hf ⊢
    have hfa : ∀ w ∈ frb bd a, w ∈ W := fun w hw => hf w (List.mem_append_left _ hw)
    have hfb : ∀ w ∈ frb bd b, w ∈ W := fun w hw => hf w (List.mem_append_right _ hw)
    have ha := law_frees_ok W hW a bd (k + 1) st (by omega) hfa (by omega)
    have hb := law_frees_ok W hW b bd (k + 1) st (by omega) hfb (by omega)
    have hp := law_parts_ok (.app a b) k st
    have g0 : OpH .add (lsW bd) (.lst []) (lsW bd) := by
      have := ls_app (l := bd) (m := []) (by simp; omega)
      rwa [List.append_nil] at this
    have la := frb_len a bd
    have lb := frb_len b bd
    have ma := srtW_le (frb bd a)
    have mb := srtW_le (frb bd b)
    have g1 : OpH .add (.lst []) (lsW (srtW (frb bd a))) (lsW (srtW (frb bd a))) := ls_app (l := []) (by simp; omega)
    have g2 : OpH .add (lsW (srtW (frb bd a))) (lsW (srtW (frb bd b))) (lsW (srtW (frb bd a) ++ srtW (frb bd b))) := ls_app (by omega)
    have s1 := pr_srt (l := srtW (frb bd a) ++ srtW (frb bd b)) (fun x hx => hf x (by
      rcases List.mem_append.mp hx with hx | hx
      · exact List.mem_append_left _ (srtW_mem.mp hx)
      · exact List.mem_append_right _ (srtW_mem.mp hx))) hW
    have e2 : srtW (srtW (frb bd a) ++ srtW (frb bd b)) = srtW (frb bd a ++ frb bd b) := srtW_congr fun x => by simp [List.mem_append, srtW_mem]
    rw [e2] at s1
    apply r_df df_law_frees rfl
    · walk_at "st"
    · walk_at "x"
    · rfl
  | .hol w a b, bd, k, st, hz, hf, hk => by
    simp only [Tr.depth, Tr.size] at hk hz
    obtain ⟨k, rfl⟩ : ∃ k', k = k' + 2 := ⟨k - 2, by omega⟩
    simp only [frb] at hf ⊢
    rw [← frb_snoc] at hf ⊢
    have hfa : ∀ x ∈ frb bd a, x ∈ W := fun x hx => hf x (List.mem_append_left _ hx)
    have hfb : ∀ x ∈ frb (bd ++ [w]) b, x ∈ W := fun x hx => hf x (List.mem_append_right _ hx)
    have ha := law_frees_ok W hW a bd (k + 1) st (by omega) hfa (by omega)
    have hb := law_frees_ok W hW b (bd ++ [w]) (k + 1) st (by simp; omega) hfb (by omega)
    have hp := law_parts_ok (.hol w a b) k st
    have g0 : OpH .add (lsW bd) (.lst []) (lsW bd) := by
      have := ls_app (l := bd) (m := []) (by simp; omega)
      rwa [List.append_nil] at this
    have g3 : OpH .add (lsW bd) (.lst [.str w]) (lsW (bd ++ [w])) := ls_app (m := [w]) (by simp; omega)
    have la := frb_len a bd
    have lb := frb_len b (bd ++ [w])
    have ma := srtW_le (frb bd a)
    have mb := srtW_le (frb (bd ++ [w]) b)
    have g1 : OpH .add (.lst []) (lsW (srtW (frb bd a))) (lsW (srtW (frb bd a))) := ls_app (l := []) (by simp; omega)
    have g2 : OpH .add (lsW (srtW (frb bd a))) (lsW (srtW (frb (bd ++ [w]) b))) (lsW (srtW (frb bd a) ++ srtW (frb (bd ++ [w]) b))) := ls_app (by omega)
    have s1 := pr_srt (l := srtW (frb bd a) ++ srtW (frb (bd ++ [w]) b)) (fun x hx => hf x (by
      rcases List.mem_append.mp hx with hx | hx
      · exact List.mem_append_left _ (srtW_mem.mp hx)
      · exact List.mem_append_right _ (srtW_mem.mp hx))) hW
    have e2 : srtW (srtW (frb bd a) ++ srtW (frb (bd ++ [w]) b)) = srtW (frb bd a ++ frb (bd ++ [w]) b) := srtW_congr fun x => by simp [List.mem_append, srtW_mem]
    rw [e2] at s1
    apply r_df df_law_frees rfl
    · walk_at "st"
    · walk_at "x"
    · rfl
  | .rek o a b, bd, k, st, hz, hf, hk => by
    simp only [Tr.depth, Tr.size] at hk hz
    obtain ⟨k, rfl⟩ : ∃ k', k = k' + 2 := ⟨k - 2, by omega⟩
    simp only [frb] at hf ⊢
    have hfa : ∀ w ∈ frb bd a, w ∈ W := fun w hw => hf w (List.mem_append_left _ hw)
    have hfb : ∀ w ∈ frb bd b, w ∈ W := fun w hw => hf w (List.mem_append_right _ hw)
    have ha := law_frees_ok W hW a bd (k + 1) st (by omega) hfa (by omega)
    have hb := law_frees_ok W hW b bd (k + 1) st (by omega) hfb (by omega)
    have hp := law_parts_ok (.rek o a b) k st
    have g0 : OpH .add (lsW bd) (.lst []) (lsW bd) := by
      have := ls_app (l := bd) (m := []) (by simp; omega)
      rwa [List.append_nil] at this
    have la := frb_len a bd
    have lb := frb_len b bd
    have ma := srtW_le (frb bd a)
    have mb := srtW_le (frb bd b)
    have g1 : OpH .add (.lst []) (lsW (srtW (frb bd a))) (lsW (srtW (frb bd a))) := ls_app (l := []) (by simp; omega)
    have g2 : OpH .add (lsW (srtW (frb bd a))) (lsW (srtW (frb bd b))) (lsW (srtW (frb bd a) ++ srtW (frb bd b))) := ls_app (by omega)
    have s1 := pr_srt (l := srtW (frb bd a) ++ srtW (frb bd b)) (fun x hx => hf x (by
      rcases List.mem_append.mp hx with hx | hx
      · exact List.mem_append_left _ (srtW_mem.mp hx)
      · exact List.mem_append_right _ (srtW_mem.mp hx))) hW
    have e2 : srtW (srtW (frb bd a) ++ srtW (frb bd b)) = srtW (frb bd a ++ frb bd b) := srtW_congr fun x => by simp [List.mem_append, srtW_mem]
    rw [e2] at s1
    apply r_df df_law_frees rfl
    · walk_at "st"
    · walk_at "x"
    · rfl
  | .tst a b c, bd, k, st, hz, hf, hk => by
    simp only [Tr.depth, Tr.size] at hk hz
    obtain ⟨k, rfl⟩ : ∃ k', k = k' + 2 := ⟨k - 2, by omega⟩
    simp only [frb] at hf ⊢
    have hfa : ∀ w ∈ frb bd a, w ∈ W := fun w hw => hf w (List.mem_append_left _ hw)
    have hfb : ∀ w ∈ frb bd b, w ∈ W := fun w hw => hf w (List.mem_append_right _ (List.mem_append_left _ hw))
    have hfc : ∀ w ∈ frb bd c, w ∈ W := fun w hw => hf w (List.mem_append_right _ (List.mem_append_right _ hw))
    have ha := law_frees_ok W hW a bd (k + 1) st (by omega) hfa (by omega)
    have hb := law_frees_ok W hW b bd (k + 1) st (by omega) hfb (by omega)
    have hc := law_frees_ok W hW c bd (k + 1) st (by omega) hfc (by omega)
    have hp := law_parts_ok (.tst a b c) k st
    have g0 : OpH .add (lsW bd) (.lst []) (lsW bd) := by
      have := ls_app (l := bd) (m := []) (by simp; omega)
      rwa [List.append_nil] at this
    have la := frb_len a bd
    have lb := frb_len b bd
    have lc := frb_len c bd
    have ma := srtW_le (frb bd a)
    have mb := srtW_le (frb bd b)
    have mc := srtW_le (frb bd c)
    have g1 : OpH .add (.lst []) (lsW (srtW (frb bd a))) (lsW (srtW (frb bd a))) := ls_app (l := []) (by simp; omega)
    have g2 : OpH .add (lsW (srtW (frb bd a))) (lsW (srtW (frb bd b))) (lsW (srtW (frb bd a) ++ srtW (frb bd b))) := ls_app (by omega)
    have g3 : OpH .add (lsW (srtW (frb bd a) ++ srtW (frb bd b))) (lsW (srtW (frb bd c))) (lsW (srtW (frb bd a) ++ srtW (frb bd b) ++ srtW (frb bd c))) := ls_app (by simp; omega)
    have s1 := pr_srt (l := srtW (frb bd a) ++ srtW (frb bd b) ++ srtW (frb bd c)) (fun x hx => hf x (by
      rcases List.mem_append.mp hx with hx | hx
      · rcases List.mem_append.mp hx with hx | hx
        · exact List.mem_append_left _ (srtW_mem.mp hx)
        · exact List.mem_append_right _ (List.mem_append_left _ (srtW_mem.mp hx))
      · exact List.mem_append_right _ (List.mem_append_right _ (srtW_mem.mp hx)))) hW
    have e2 : srtW (srtW (frb bd a) ++ srtW (frb bd b) ++ srtW (frb bd c)) = srtW (frb bd a ++ (frb bd b ++ frb bd c)) := srtW_congr fun x => by simp [List.mem_append, srtW_mem]
    rw [e2] at s1
    apply r_df df_law_frees rfl
    · walk_at "st"
    · walk_at "x"
    · rfl
end N57
end
section
set_option maxRecDepth 100000
set_option maxHeartbeats 4000000
namespace N57
open PySem
local macro_rules | `(tactic| walk_at "b") => `(tactic| first | rfl | assumption)
local macro_rules | `(tactic| walk_at "cm") => `(tactic| first | assumption | (with_reducible exact ne_nil) | (with_reducible exact eq_nil) | exact ⟨(rfl : _ = some true)⟩ | exact ⟨(rfl : _ = some false)⟩ | exact ⟨rfl⟩)
local macro_rules | `(tactic| walk_at "o") => `(tactic| first | assumption | (with_reducible exact ix_last) | exact ⟨rfl⟩)
local macro_rules | `(tactic| walk_at "sl") => `(tactic| first | assumption | exact sl_init | exact sl_t1 | exact sl_t2 | exact ⟨rfl⟩)
local macro_rules | `(tactic| walk_at "c") => `(tactic| first | assumption | (with_reducible exact parts_in_ok _ _ _) | (with_reducible exact law_parts_ok _ _ _) | (with_reducible exact is_done_ok _ _ _))
local macro_rules | `(tactic| walk_at "as") => `(tactic| (repeat' (first | apply AsR.slot | apply AsR.tup | apply AsR.cons | apply AsR.nil | apply SetR.s | apply SetR.z)))
local macro_rules | `(tactic| walk_at "st") => `(tactic| (repeat' (first | apply StR.some | apply StR.none | apply StR.nil)))
local macro_rules | `(tactic| walk_at "e") => `(tactic| first
  | ((with_reducible apply e_var); rfl)
  | (with_reducible exact e_con)
  | ((with_reducible apply e_cons); walk_at "e"; walk_at "e")
  | (with_reducible exact e_nil)
  | ((with_reducible apply e_glb); rfl)
  | ((with_reducible apply e_tup); walk_at "e")
  | ((with_reducible apply e_lst); walk_at "e")
  | ((with_reducible apply e_ix); walk_at "e"; walk_at "e"; walk_at "o")
  | ((with_reducible apply e_cmp); walk_at "e"; walk_at "e"; walk_at "cm")
  | ((with_reducible apply e_op); walk_at "e"; walk_at "e"; walk_at "o")
  | ((with_reducible apply e_call); walk_at "e"; walk_at "c")
  | ((with_reducible apply e_pr); walk_at "e"; walk_at "o")
  | ((with_reducible apply e_and); walk_at "e"; first | ((with_reducible apply andK_t); walk_at "b"; walk_at "e") | ((with_reducible apply andK_f); walk_at "b"; walk_at "b") | ((with_reducible apply andK_both); walk_at "e"; walk_at "b"))
  | ((with_reducible apply e_or); walk_at "e"; first | ((with_reducible apply orK_t); walk_at "b"; walk_at "b") | ((with_reducible apply orK_f); walk_at "b"; walk_at "e") | ((with_reducible apply orK_both); walk_at "e"; walk_at "b"))
  | ((with_reducible apply e_ite); walk_at "e"; first | ((with_reducible apply ifK_t); walk_at "b"; walk_at "e") | ((with_reducible apply ifK_f); walk_at "b"; walk_at "e"))
  | ((with_reducible apply e_not); walk_at "e"; walk_at "b")
  | ((with_reducible apply e_isN); walk_at "e"; walk_at "b")
  | ((with_reducible apply e_notN); walk_at "e"; walk_at "b")
  | ((with_reducible apply e_neg); walk_at "e"; walk_at "b")
  | ((with_reducible apply e_chain); walk_at "e"; walk_at "e"; walk_at "cm"; walk_at "e"; walk_at "cm"; walk_at "b")
  | ((with_reducible apply e_sl); walk_at "e"; walk_at "e"; rfl; walk_at "e"; rfl; walk_at "sl")
  | (with_reducible exact e_dic0)
  | ((with_reducible apply e_dicS); walk_at "e")
  | ((with_reducible apply e_cg); walk_at "e")
  | assumption)
local macro_rules | `(tactic| walk_at "f") => `(tactic| first
  | exact fm_nil
  | (apply fm_cons; walk_at "as"; walk_at "x"; walk_at "f")
  | (with_reducible exact fmK_rt)
  | ((with_reducible apply fmK_nx); walk_at "f")
  | assumption)
local macro_rules | `(tactic| walk_at "x") => `(tactic| first
  | (with_reducible exact x_nil)
  | ((with_reducible apply x_cons); walk_at "x"; walk_at "x")
  | ((with_reducible apply x_asg); walk_at "e"; walk_at "as")
  | ((with_reducible apply x_iff); walk_at "e"; walk_at "x")
  | ((with_reducible apply x_ret); walk_at "e")
  | ((with_reducible apply x_exp); walk_at "e")
  | ((with_reducible apply ifX_t); walk_at "b"; walk_at "x")
  | ((with_reducible apply ifX_f); walk_at "b"; walk_at "x")
  | ((with_reducible apply x_for); walk_at "e"; walk_at "e"; walk_at "o"; walk_at "f")
  | (with_reducible exact sqX_rt)
  | ((with_reducible apply sqX_nx); walk_at "x")
  | assumption)
local macro_rules | `(tactic| walk_at "1") => `(tactic| ((with_reducible apply x_cons); walk_at "x"; (with_reducible apply sqX_nx)))
open SrtO
/-! an unlike store, and whether it is told rightly -/
def wds (d e : Ded) : List Wd := srtW ([d.1, e.1] ++ srtW (frb [] d.2) ++ srtW (frb [] e.2))
def unl (m : Nat) (d e : Ded) : Option Sto := (stores m (wds d e) [[]]).find? fun s => tells s d e
def unlD : Option Sto → D
  | none => .non
  | some s => stoD s
theorem frb_fit : ∀ (t : Tr) (bd : List Wd), t.good = true → ∀ w ∈ frb bd t, fitsW w = true
  | .amt i, bd, _, w, h => by cases h
  | .use x, bd, hg, w, h => by
    simp only [frb] at h
    split at h
    · cases h
    · rw [List.mem_singleton] at h
      subst h
      exact hg
  | .giv x b, bd, hg, w, h => frb_fit b _ (Bool.and_eq_true_iff.mp hg).2 w h
  | .app a b, bd, hg, w, h => by
    have hg' := Bool.and_eq_true_iff.mp hg
    rcases List.mem_append.mp h with h | h
    · exact frb_fit a _ hg'.1 w h
    · exact frb_fit b _ hg'.2 w h
  | .hol x a b, bd, hg, w, h => by
    have hg' := Bool.and_eq_true_iff.mp (Bool.and_eq_true_iff.mp hg).2
    rcases List.mem_append.mp h with h | h
    · exact frb_fit a _ hg'.1 w h
    · exact frb_fit b _ hg'.2 w h
  | .rek o a b, bd, hg, w, h => by
    have hg' := Bool.and_eq_true_iff.mp hg
    rcases List.mem_append.mp h with h | h
    · exact frb_fit a _ hg'.1 w h
    · exact frb_fit b _ hg'.2 w h
  | .tst a b c, bd, hg, w, h => by
    have hg' := Bool.and_eq_true_iff.mp hg
    have hg2 := Bool.and_eq_true_iff.mp hg'.2
    rcases List.mem_append.mp h with h | h
    · exact frb_fit a _ hg'.1 w h
    · rcases List.mem_append.mp h with h | h
      · exact frb_fit b _ hg2.1 w h
      · exact frb_fit c _ hg2.2 w h
theorem srtW_nodup (l : List Wd) : (srtW l).Nodup := (sort_perm (lt := ltW) (dedupW l)).nodup_iff.mpr (dedupW_nodup l)
theorem wds_mem {d e : Ded} {w : Wd} : w ∈ wds d e ↔ w = d.1 ∨ w = e.1 ∨ w ∈ frb [] d.2 ∨ w ∈ frb [] e.2 := by
  unfold wds
  rw [srtW_mem]
  simp only [List.mem_append, List.mem_cons, List.not_mem_nil, or_false, srtW_mem]
  constructor
  · rintro ((h | h) | h)
    · rcases h with h | h
      · exact .inl h
      · exact .inr (.inl h)
    · exact .inr (.inr (.inl h))
    · exact .inr (.inr (.inr h))
  · rintro (h | h | h | h)
    · exact .inl (.inl (.inl h))
    · exact .inl (.inl (.inr h))
    · exact .inl (.inr h)
    · exact .inr h
theorem wds_sto {d e : Ded} (hd : DedOk d) (he : DedOk e) {m : Nat} (hl : (wds d e).length ≤ 4) (hm : m ≤ 3) {s : Sto} (h : s ∈ stores m (wds d e) [[]]) : StoOk s ∧ s.map (·.1) = wds d e :=
  stores_ok (fun w hw => by
    rcases wds_mem.mp hw with h | h | h | h
    · rw [h]; exact hd.fit
    · rw [h]; exact he.fit
    · exact frb_fit _ _ hd.shp.good w h
    · exact frb_fit _ _ he.shp.good w h) (srtW_nodup _) (sort_srtd ltW_swo _) (fun z => by
    have : d.1 ∈ wds d e := wds_mem.mpr (.inl rfl)
    have z : wds d e = [] := z
    rw [z] at this
    cases this) hl hm h
theorem pr_wds {d e : Ded} (hl : (wds d e).length ≤ 4) : PrH .sortS [lsW ([d.1, e.1] ++ srtW (frb [] d.2) ++ srtW (frb [] e.2))] (lsW (wds d e)) := by
  refine pr_sortS ?_
  have := srtW_len ([d.1, e.1] ++ srtW (frb [] d.2) ++ srtW (frb [] e.2))
  unfold wds at hl
  omega
def unlOut (r : Option Sto) (a b c d o4 : Option D) : Out := match r with
  | none => .nx [a, b, c, d, o4]
  | some s => .rt (stoD s)
theorem unl_fm {d e : Ded} (hd : DedOk d) (he : DedOk e) (k : Nat) (st : Cup) (o2 o3 : Option D) : ∀ (l : List Sto) (o4 : Option D), (∀ s ∈ l, StoOk s ∧ d.1 ∈ s.map (·.1) ∧ e.1 ∈ s.map (·.1)) →
    ∃ o4', FM (k + 67) (.slot 4) b_unlike_store_L0b (l.map stoD) [some (dedD d), some (dedD e), o2, o3, o4] st (unlOut (l.find? fun s => tells s d e) (some (dedD d)) (some (dedD e)) o2 o3 o4') st
  | [], o4, _ => ⟨o4, fm_nil⟩
  | s :: l, o4, h => by
    obtain ⟨ok, m1, m2⟩ := h s (List.mem_cons_self ..)
    obtain ⟨o4', hf⟩ := unl_fm hd he k st o2 o3 l (some (stoD s)) fun x hx => h x (List.mem_cons_of_mem _ hx)
    have h1 := done_all_ok s ok d e hd.shp.good hd.shp.fits m1 he.shp.good he.shp.fits m2 k st
    have h2 := done_all_ok s ok e d he.shp.good he.shp.fits m2 hd.shp.good hd.shp.fits m1 k st
    have c := ne_rs _ _ (doT_ok ok (e := e) hd.shp.good he.shp.good).2 (doT_ok ok (e := d) he.shp.good hd.shp.good).2
    have c : CmH .ne (doT s d e).d (doT s e d).d (tells s d e) := c
    rw [List.find?_cons]
    cases t : tells s d e
    · rw [t] at c
      refine ⟨o4', ?_⟩
      apply fm_cons
      · walk_at "as"
      · walk_at "x"
      · exact hf
    · rw [t] at c
      refine ⟨none, ?_⟩
      apply fm_cons
      · walk_at "as"
      · walk_at "x"
      · exact fmK_rt
theorem unlike_ok (d e : Ded) (hd : DedOk d) (he : DedOk e) (m : Nat) (hl : (wds d e).length ≤ 4) (hm : m ≤ 3) (k : Nat) (st : Cup) : Rn (k + 80) f_unlike_store [dedD d, dedD e, .int (m : Int)] st (unlD (unl m d e)) st := by
  have n1 := need_deed_ok d hd (k + 5) st
  have n2 := need_deed_ok e he (k + 5) st
  have n3 := need_amount_ok m (by omega) (k + 77) st
  have w1 := words_of_ok d hd (k + 73) st
  have w2 := words_of_ok e he (k + 73) st
  have z1 := frb_len d.2 []
  have z2 := frb_len e.2 []
  have y1 := srtW_le (frb [] d.2)
  have y2 := srtW_le (frb [] e.2)
  have f1 := hd.shp.fits.1
  have f2 := he.shp.fits.1
  have g1 : OpH .add (.lst [.str d.1, .str e.1]) (lsW (srtW (frb [] d.2))) (lsW ([d.1, e.1] ++ srtW (frb [] d.2))) := ls_app (l := [d.1, e.1]) (by simp; omega)
  have g2 : OpH .add (lsW ([d.1, e.1] ++ srtW (frb [] d.2))) (lsW (srtW (frb [] e.2))) (lsW ([d.1, e.1] ++ srtW (frb [] d.2) ++ srtW (frb [] e.2))) := ls_app (by simp; omega)
  have s1 := pr_wds hl
  have p1 : PrH .len [lsW (wds d e)] (.int ((wds d e).length : Int)) := ⟨by
    show some (D.int (((wds d e).map D.str).length : Nat)) = _
    rw [List.length_map]⟩
  have c1 : CmH .gt (.int ((wds d e).length : Int)) (.int 4) false := ⟨congrArg some (decide_eq_false (by omega))⟩
  have c2 : CmH .gt (.int (m : Int)) (.int 3) false := ⟨congrArg some (decide_eq_false (by omega))⟩
  have t1 := stores_of_ok (wds d e) m hl hm (k + 78) st
  have i1 := it_lst (l := (stores m (wds d e) [[]]).map stoD) (y := .lst [])
  obtain ⟨o4, hf⟩ := unl_fm hd he (k + 12) st (some (.int (m : Int))) (some (lsW (wds d e))) (stores m (wds d e) [[]]) none fun s hs => by
    obtain ⟨a, b⟩ := wds_sto hd he hl hm hs
    exact ⟨a, by rw [b]; exact wds_mem.mpr (.inl rfl), by rw [b]; exact wds_mem.mpr (.inr (.inl rfl))⟩
  unfold unl
  cases e1 : (stores m (wds d e) [[]]).find? fun s => tells s d e with
  | none =>
    rw [e1] at hf
    have hf : FM (k + 79) (.slot 4) b_unlike_store_L0b ((stores m (wds d e) [[]]).map stoD) [some (dedD d), some (dedD e), some (.int (m : Int)), some (lsW (wds d e)), none] st (.nx [some (dedD d), some (dedD e), some (.int (m : Int)), some (lsW (wds d e)), o4]) st := hf
    apply r_df df_unlike_store rfl
    · walk_at "st"
    · walk_at "1"
      walk_at "1"
      walk_at "1"
      walk_at "1"
      walk_at "1"
      walk_at "1"
      with_reducible apply x_cons
      · with_reducible apply x_for
        · walk_at "e"
        · walk_at "e"
        · exact i1
        · exact hf
      walk_at "x"
    · rfl
  | some s =>
    rw [e1] at hf
    have hf : FM (k + 79) (.slot 4) b_unlike_store_L0b ((stores m (wds d e) [[]]).map stoD) [some (dedD d), some (dedD e), some (.int (m : Int)), some (lsW (wds d e)), none] st (.rt (stoD s)) st := hf
    apply r_df df_unlike_store rfl
    · walk_at "st"
    · walk_at "1"
      walk_at "1"
      walk_at "1"
      walk_at "1"
      walk_at "1"
      walk_at "1"
      with_reducible apply x_cons
      · with_reducible apply x_for
        · walk_at "e"
        · walk_at "e"
        · exact i1
        · exact hf
      walk_at "x"
    · rfl
theorem in_every {s : Sto} {l : List Sto} (h : s ∈ l) (hk : ∀ x ∈ l, StoOk x) : CmH .inD (stoD s) (.lst (l.map stoD)) true := by
  constructor
  show (if okB 61 (stoD s) && (l.map stoD).all (okB 61) then some ((l.map stoD).any fun z => eqB 61 z (stoD s)) else none) = _
  have h1 : okB 61 (stoD s) = true := ok_sto (hk s h).fit
  have h2 : (l.map stoD).all (okB 61) = true := by
    rw [List.all_eq_true]
    intro x hx
    obtain ⟨y, hy, rfl⟩ := List.mem_map.mp hx
    exact ok_sto (hk y hy).fit
  have h3 : ((l.map stoD).any fun z => eqB 61 z (stoD s)) = true := List.any_eq_true.mpr ⟨stoD s, List.mem_map_of_mem h, eqB_refl 61 _ h1⟩
  rw [h1, h2, h3]
  rfl
theorem law_right_ok (d e : Ded) (hd : DedOk d) (he : DedOk e) (m : Nat) (hl : (wds d e).length ≤ 4) (hm : m ≤ 3) (k : Nat) (st : Cup) : Rn (k + 206) f_law_right [dedD d, dedD e, .int (m : Int)] st (.bl true) st := by
  have f1 := hd.shp.fits
  have f2 := he.shp.fits
  have w1 := law_frees_ok (dedupW (frb [] d.2)) hd.shp.free d.2 [] (k + 205) st (by simp; omega) (fun w hw => dedup_mem.mpr hw) (by omega)
  have w2 := law_frees_ok (dedupW (frb [] e.2)) he.shp.free e.2 [] (k + 205) st (by simp; omega) (fun w hw => dedup_mem.mpr hw) (by omega)
  have z1 := frb_len d.2 []
  have z2 := frb_len e.2 []
  have y1 := srtW_le (frb [] d.2)
  have y2 := srtW_le (frb [] e.2)
  have g1 : OpH .add (.lst [.str d.1, .str e.1]) (lsW (srtW (frb [] d.2))) (lsW ([d.1, e.1] ++ srtW (frb [] d.2))) := ls_app (l := [d.1, e.1]) (by simp; omega)
  have g2 : OpH .add (lsW ([d.1, e.1] ++ srtW (frb [] d.2))) (lsW (srtW (frb [] e.2))) (lsW ([d.1, e.1] ++ srtW (frb [] d.2) ++ srtW (frb [] e.2))) := ls_app (by simp; omega)
  have s1 := pr_wds hl
  have t1 := law_stores_ok (wds d e) m hl hm (k + 204) st
  have u1 := unlike_ok d e hd he m hl hm (k + 125) st
  have hk : ∀ s ∈ stores m (wds d e) [[]], StoOk s ∧ d.1 ∈ s.map (·.1) ∧ e.1 ∈ s.map (·.1) := fun s hs => by
    obtain ⟨a, b⟩ := wds_sto hd he hl hm hs
    exact ⟨a, by rw [b]; exact wds_mem.mpr (.inl rfl), by rw [b]; exact wds_mem.mpr (.inr (.inl rfl))⟩
  have tl : ∀ s ∈ stores m (wds d e) [[]], Rn (k + 205) f_law_tells [stoD s, dedD d, dedD e] st (.bl (tells s d e)) st := fun s hs => by
    obtain ⟨a, b, c⟩ := hk s hs
    exact law_tells_ok s a d e hd.shp.good f1 b he.shp.good f2 c (k + 1) st
  unfold unl at u1
  cases e1 : (stores m (wds d e) [[]]).find? fun s => tells s d e with
  | none =>
    rw [e1] at u1
    have u1 : Rn (k + 205) f_unlike_store [dedD d, dedD e, .int (m : Int)] st .non st := u1
    have e2 : (stores m (wds d e) [[]]).filter (fun s => tells s d e) = [] := by
      rw [List.filter_eq_nil_iff]
      exact fun s hs => List.find?_eq_none.mp e1 s hs
    have hlen : (stores m (wds d e) [[]]).length ≤ sizeLine := by
      have : ∀ (ws : List Wd) (l : List Sto), (stores m ws l).length = l.length * (m + 1) ^ ws.length := by
        intro ws
        induction ws with
        | nil => intro l; simp [stores]
        | cons w ws ih => intro l; simp only [stores, ih, storesF_len, List.length_cons]; rw [Nat.mul_assoc, ← Nat.pow_succ']
      rw [this]
      have hb : (m + 1) ^ (wds d e).length ≤ 4 ^ 4 := Nat.le_trans (Nat.pow_le_pow_left (by omega : m + 1 ≤ 4) _) (Nat.pow_le_pow_right (by omega) hl)
      have h4 : (4 : Nat) ^ 4 = 256 := rfl
      unfold sizeLine
      simp only [List.length_singleton, Nat.one_mul]
      omega
    apply r_df df_law_right rfl
    · walk_at "st"
    · walk_at "1"
      walk_at "1"
      with_reducible apply x_cons
      · with_reducible apply x_iff
        · walk_at "e"
        · with_reducible apply ifX_t
          · rfl
          with_reducible apply x_cons
          · with_reducible apply x_ret
            with_reducible apply e_cmp
            · apply e_fil (its := stores m (wds d e) [[]]) (f := stoD) (p := fun s => tells s d e) (g := stoD)
              · exact fun h => nomatch h
              · walk_at "e"
              · walk_at "e"
              · exact it_lst
              · exact hlen
              · intro s hs
                have := tl s hs
                exact ⟨_, rfl, by walk_at "e", fun _ => by walk_at "e"⟩
            · walk_at "e"
            · rw [e2]
              exact ⟨(rfl : _ = some true)⟩
          · walk_at "x"
      · walk_at "x"
    · rfl
  | some s =>
    rw [e1] at u1
    have u1 : Rn (k + 205) f_unlike_store [dedD d, dedD e, .int (m : Int)] st (stoD s) st := u1
    have hs := List.mem_of_find?_eq_some e1
    have ht : tells s d e = true := List.find?_some (p := fun s => tells s d e) e1
    have t2 := tl s hs
    rw [ht] at t2
    have c := in_every hs fun x hx => (hk x hx).1
    have hi : isNon (stoD s) = false := rfl
    apply r_df df_law_right rfl
    · walk_at "st"
    · walk_at "x"
    · rfl
end N57
end
section
set_option maxRecDepth 100000
set_option maxHeartbeats 4000000
namespace N57
open PySem
local macro_rules | `(tactic| walk_at "b") => `(tactic| first | rfl | assumption)
local macro_rules | `(tactic| walk_at "cm") => `(tactic| first | assumption | (with_reducible exact ne_nil) | (with_reducible exact eq_nil) | exact ⟨(rfl : _ = some true)⟩ | exact ⟨(rfl : _ = some false)⟩ | exact ⟨rfl⟩)
local macro_rules | `(tactic| walk_at "o") => `(tactic| first | assumption | (with_reducible exact ix_last) | exact ⟨rfl⟩)
local macro_rules | `(tactic| walk_at "sl") => `(tactic| first | assumption | exact sl_init | exact sl_t1 | exact sl_t2 | exact ⟨rfl⟩)
local macro_rules | `(tactic| walk_at "c") => `(tactic| first | assumption | (with_reducible exact parts_in_ok _ _ _) | (with_reducible exact law_parts_ok _ _ _) | (with_reducible exact is_done_ok _ _ _))
local macro_rules | `(tactic| walk_at "as") => `(tactic| (repeat' (first | apply AsR.slot | apply AsR.tup | apply AsR.cons | apply AsR.nil | apply SetR.s | apply SetR.z)))
local macro_rules | `(tactic| walk_at "st") => `(tactic| (repeat' (first | apply StR.some | apply StR.none | apply StR.nil)))
local macro_rules | `(tactic| walk_at "e") => `(tactic| first
  | ((with_reducible apply e_var); rfl)
  | (with_reducible exact e_con)
  | ((with_reducible apply e_cons); walk_at "e"; walk_at "e")
  | (with_reducible exact e_nil)
  | ((with_reducible apply e_glb); rfl)
  | ((with_reducible apply e_tup); walk_at "e")
  | ((with_reducible apply e_lst); walk_at "e")
  | ((with_reducible apply e_ix); walk_at "e"; walk_at "e"; walk_at "o")
  | ((with_reducible apply e_cmp); walk_at "e"; walk_at "e"; walk_at "cm")
  | ((with_reducible apply e_op); walk_at "e"; walk_at "e"; walk_at "o")
  | ((with_reducible apply e_call); walk_at "e"; walk_at "c")
  | ((with_reducible apply e_pr); walk_at "e"; walk_at "o")
  | ((with_reducible apply e_and); walk_at "e"; first | ((with_reducible apply andK_t); walk_at "b"; walk_at "e") | ((with_reducible apply andK_f); walk_at "b"; walk_at "b") | ((with_reducible apply andK_both); walk_at "e"; walk_at "b"))
  | ((with_reducible apply e_or); walk_at "e"; first | ((with_reducible apply orK_t); walk_at "b"; walk_at "b") | ((with_reducible apply orK_f); walk_at "b"; walk_at "e") | ((with_reducible apply orK_both); walk_at "e"; walk_at "b"))
  | ((with_reducible apply e_ite); walk_at "e"; first | ((with_reducible apply ifK_t); walk_at "b"; walk_at "e") | ((with_reducible apply ifK_f); walk_at "b"; walk_at "e"))
  | ((with_reducible apply e_not); walk_at "e"; walk_at "b")
  | ((with_reducible apply e_isN); walk_at "e"; walk_at "b")
  | ((with_reducible apply e_notN); walk_at "e"; walk_at "b")
  | ((with_reducible apply e_neg); walk_at "e"; walk_at "b")
  | ((with_reducible apply e_chain); walk_at "e"; walk_at "e"; walk_at "cm"; walk_at "e"; walk_at "cm"; walk_at "b")
  | ((with_reducible apply e_sl); walk_at "e"; walk_at "e"; rfl; walk_at "e"; rfl; walk_at "sl")
  | (with_reducible exact e_dic0)
  | ((with_reducible apply e_dicS); walk_at "e")
  | ((with_reducible apply e_cg); walk_at "e")
  | assumption)
local macro_rules | `(tactic| walk_at "f") => `(tactic| first
  | exact fm_nil
  | (apply fm_cons; walk_at "as"; walk_at "x"; walk_at "f")
  | (with_reducible exact fmK_rt)
  | ((with_reducible apply fmK_nx); walk_at "f")
  | assumption)
local macro_rules | `(tactic| walk_at "x") => `(tactic| first
  | (with_reducible exact x_nil)
  | ((with_reducible apply x_cons); walk_at "x"; walk_at "x")
  | ((with_reducible apply x_asg); walk_at "e"; walk_at "as")
  | ((with_reducible apply x_iff); walk_at "e"; walk_at "x")
  | ((with_reducible apply x_ret); walk_at "e")
  | ((with_reducible apply x_exp); walk_at "e")
  | ((with_reducible apply ifX_t); walk_at "b"; walk_at "x")
  | ((with_reducible apply ifX_f); walk_at "b"; walk_at "x")
  | ((with_reducible apply x_for); walk_at "e"; walk_at "e"; walk_at "o"; walk_at "f")
  | (with_reducible exact sqX_rt)
  | ((with_reducible apply sqX_nx); walk_at "x")
  | assumption)
local macro_rules | `(tactic| walk_at "1") => `(tactic| ((with_reducible apply x_cons); walk_at "x"; (with_reducible apply sqX_nx)))
open SrtO
/-! what is drawn -/
theorem op_mod {i j : Int} (h : 0 < j) : OpH .mod (.int i) (.int j) (.int (i % j)) := by
  constructor
  show (if decide (0 < j) then _ else _) = _
  rw [decide_eq_true h]; rfl
theorem op_div {i j : Int} (h : 0 < j) (h2 : j < 1073741824) : OpH .div (.int i) (.int j) (.int (i / j)) := by
  constructor
  show (if decide (0 < j) && decide (j < 1073741824) then _ else _) = _
  rw [decide_eq_true h, decide_eq_true h2]; rfl
theorem op_mulR {i j : Int} (h : -1000000000000 ≤ j ∧ j ≤ 1000000000000) : OpH .mul (.int i) (.int j) (.int (i * j)) := by
  constructor
  show (if small64 i || small64 j then _ else _) = _
  have : small64 j = true := by
    unfold small64
    rw [decide_eq_true (by omega), decide_eq_true (by omega)]
    rfl
  rw [this, Bool.or_true]
  rfl
theorem roll_ok (n : Nat) (h1 : 1 ≤ n) (h2 : n ≤ 1000) (k : Nat) (st : Cup) : ∃ r : Nat, ∃ s1 : Cup, r < n ∧ Rn (k + 1) f_law_roll [.cup, .int (n : Int)] st (.int (r : Int)) s1 := by
  obtain ⟨g, c⟩ := st
  have pI : ∀ i : Int, PrH .int [.int i] (.int i) := fun i => ⟨rfl⟩
  by_cases hg : 0 < g
  · have c1 : CmH .gt (.int g) (.int 0) true := ⟨congrArg some (decide_eq_true hg)⟩
    have m := op_mod (i := g) (j := (n : Int)) (by omega)
    have d := op_div (i := g) (j := (n : Int)) (by omega) (by omega)
    have p1 := pI g
    have hr : ((g % (n : Int)).toNat : Int) = g % (n : Int) := Int.toNat_of_nonneg (Int.emod_nonneg _ (by omega))
    refine ⟨(g % (n : Int)).toNat, (g / (n : Int), c), ?_, ?_⟩
    · have := Int.emod_lt_of_pos g (show (0 : Int) < n by omega)
      omega
    · rw [hr]
      apply r_df df_law_roll rfl
      · walk_at "st"
      · with_reducible apply x_cons
        · with_reducible apply x_iff
          · walk_at "e"
          · with_reducible apply ifX_t
            · rfl
            walk_at "1"
            with_reducible apply x_cons
            · apply x_cs
              · walk_at "e"
              · rfl
              · rfl
            walk_at "x"
        · walk_at "x"
      · rfl
  · have c1 : CmH .gt (.int g) (.int 0) false := ⟨congrArg some (decide_eq_false hg)⟩
    have m1 := op_mulR (i := c) (j := 30671) (by omega)
    have q1 := pI (c * 30671 + 7919)
    have e1 := op_mod (i := c * 30671 + 7919) (j := 2147483549) (by omega)
    generalize hv : (c * 30671 + 7919) % 2147483549 = v at e1
    have hv1 : 0 ≤ v := by rw [← hv]; exact Int.emod_nonneg _ (by omega)
    have hv2 : v < 2147483549 := by rw [← hv]; exact Int.emod_lt_of_pos _ (by omega)
    have m2 := op_mulR (i := v) (j := v + 131) (by omega)
    have q2 := pI (v * (v + 131))
    have e2 := op_mod (i := v * (v + 131)) (j := 2147483587) (by omega)
    generalize hu : (v * (v + 131)) % 2147483587 = u at e2
    have d1 := op_div (i := u) (j := 709) (by omega) (by omega)
    have q3 := pI (u / 709)
    have e3 := op_mod (i := u / 709) (j := (n : Int)) (by omega)
    have hr : ((u / 709 % (n : Int)).toNat : Int) = u / 709 % (n : Int) := Int.toNat_of_nonneg (Int.emod_nonneg _ (by omega))
    have hp : cupPut .cup true v (g, c) = some ((), (g, v)) := by
      show (if decide (0 ≤ v) && decide (v < 2 ^ 40) then some ((), (g, v)) else none) = _
      rw [decide_eq_true hv1, decide_eq_true (show v < 2 ^ 40 by omega)]
      rfl
    refine ⟨(u / 709 % (n : Int)).toNat, (g, v), ?_, ?_⟩
    · have := Int.emod_lt_of_pos (u / 709) (show (0 : Int) < n by omega)
      omega
    · rw [hr]
      apply r_df df_law_roll rfl
      · walk_at "st"
      · with_reducible apply x_cons
        · with_reducible apply x_iff
          · walk_at "e"
          · walk_at "x"
        with_reducible apply sqX_nx
        with_reducible apply x_cons
        · apply x_cs
          · walk_at "e"
          · rfl
          · exact hp
        with_reducible apply sqX_nx
        walk_at "x"
      · rfl
theorem some_ok (l : List D) (h1 : 1 ≤ l.length) (h2 : l.length ≤ 1000) (k : Nat) (st : Cup) : ∃ x ∈ l, ∃ s1 : Cup, Rn (k + 2) f_law_some [.cup, .lst l] st x s1 := by
  obtain ⟨r, s1, hr, h⟩ := roll_ok l.length h1 h2 k st
  have hx : l[r]? = some (l[r]'hr) := List.getElem?_eq_getElem hr
  refine ⟨l[r]'hr, List.getElem_mem hr, s1, ?_⟩
  have i1 := ix_lst hx
  have p1 := len_lst (l := l)
  apply r_df df_law_some rfl
  · walk_at "st"
  · walk_at "x"
  · rfl
theorem some_ints (l : List Nat) (h1 : 1 ≤ l.length) (h2 : l.length ≤ 1000) (k : Nat) (st : Cup) : ∃ x ∈ l, ∃ s1 : Cup, Rn (k + 2) f_law_some [.cup, .lst (l.map fun (n : Nat) => .int (n : Int))] st (.int (x : Int)) s1 := by
  obtain ⟨x, hx, s1, h⟩ := some_ok (l.map fun (n : Nat) => .int (n : Int)) (by simpa using h1) (by simpa using h2) k st
  obtain ⟨y, hy, rfl⟩ := List.mem_map.mp hx
  exact ⟨y, hy, s1, h⟩
theorem some_wds (l : List Wd) (h1 : 1 ≤ l.length) (h2 : l.length ≤ 1000) (k : Nat) (st : Cup) : ∃ x ∈ l, ∃ s1 : Cup, Rn (k + 2) f_law_some [.cup, lsW l] st (.str x) s1 := by
  obtain ⟨x, hx, s1, h⟩ := some_ok (l.map D.str) (by simpa using h1) (by simpa using h2) k st
  obtain ⟨y, hy, rfl⟩ := List.mem_map.mp hx
  exact ⟨y, hy, s1, h⟩
theorem some_trs (l : List Tr) (h1 : 1 ≤ l.length) (h2 : l.length ≤ 1000) (k : Nat) (st : Cup) : ∃ x ∈ l, ∃ s1 : Cup, Rn (k + 2) f_law_some [.cup, .lst (l.map enc)] st (enc x) s1 := by
  obtain ⟨x, hx, s1, h⟩ := some_ok (l.map enc) (by simpa using h1) (by simpa using h2) k st
  obtain ⟨y, hy, rfl⟩ := List.mem_map.mp hx
  exact ⟨y, hy, s1, h⟩
theorem some_sgs (l : List Sg) (h1 : 1 ≤ l.length) (h2 : l.length ≤ 1000) (k : Nat) (st : Cup) : ∃ x ∈ l, ∃ s1 : Cup, Rn (k + 2) f_law_some [.cup, .lst (l.map fun o : Sg => .str o.w)] st (.str x.w) s1 := by
  obtain ⟨x, hx, s1, h⟩ := some_ok (l.map fun o : Sg => .str o.w) (by simpa using h1) (by simpa using h2) k st
  obtain ⟨y, hy, rfl⟩ := List.mem_map.mp hx
  exact ⟨y, hy, s1, h⟩
def szB : Nat → Nat
  | 0 => 1
  | n + 1 => 3 * szB n + 5
def bnB : Nat → Nat
  | 0 => 0
  | n + 1 => 3 * bnB n + 2
def Tr.cnt : Tr → Nat
  | .amt _ => 0 | .use _ => 0 | .giv _ b => b.cnt + 1 | .app a b => a.cnt + b.cnt | .hol _ a b => a.cnt + b.cnt + 1 | .rek _ a b => a.cnt + b.cnt | .tst a b c => a.cnt + b.cnt + c.cnt
theorem cnt_eq (t : Tr) : (bd1 (prel t)).length = t.cnt := by
  induction t with
  | amt i => rfl
  | use w => rfl
  | giv w b ih => simp only [prel, bd1_cons, bd1_psh, Tr.isBnd, if_true, List.length_cons, List.length_map, ih, Tr.cnt]
  | app a b iha ihb => simp [prel, bd1_cons, bd1_psh, bd1_app, Tr.isBnd, iha, ihb, Tr.cnt]
  | hol w a b iha ihb => simp [prel, bd1_cons, bd1_psh, bd1_app, Tr.isBnd, iha, ihb, Tr.cnt]
  | rek o a b iha ihb => simp [prel, bd1_cons, bd1_psh, bd1_app, Tr.isBnd, iha, ihb, Tr.cnt]
  | tst a b c iha ihb ihc => simp [prel, bd1_cons, bd1_psh, bd1_app, Tr.isBnd, iha, ihb, ihc, Tr.cnt]; omega
structure Drw (n : Nat) (ws nms : List Wd) (t : Tr) : Prop where
  good : t.good = true
  size : t.size ≤ szB n
  depth : t.depth ≤ 3 * n + 1
  bn : t.cnt ≤ bnB n
  free : ∀ w ∈ frb nms t, w ∈ ws
theorem any_in {l : List Wd} {w : Wd} : l.any (fun x => natsEq x w) = true ↔ w ∈ l := by
  rw [List.any_eq_true]
  constructor
  · rintro ⟨x, hx, e⟩
    rw [← natsEq_iff.mp e]; exact hx
  · exact fun h => ⟨w, h, natsEq_refl w⟩
theorem drw_use {n : Nat} {ws nms : List Wd} {w : Wd} (hf : fitsW w = true) (h : w ∈ ws ++ nms) : Drw n ws nms (.use w) where
  good := hf
  size := by
    have : ∀ n, 1 ≤ szB n := fun n => by cases n <;> simp [szB]
    exact this n
  depth := by simp [Tr.depth]
  bn := by simp [Tr.cnt]
  free := by
    intro x hx
    simp only [frb] at hx
    split at hx
    · cases hx
    · rename_i hn
      rw [List.mem_singleton] at hx
      subst hx
      rcases List.mem_append.mp h with h | h
      · exact h
      · exact absurd (any_in.mpr h) hn
theorem drw_amt {n : Nat} {ws nms : List Wd} {i : Int} (hi : amtB i = true) : Drw n ws nms (.amt i) where
  good := hi
  size := by
    have : ∀ n, 1 ≤ szB n := fun n => by cases n <;> simp [szB]
    exact this n
  depth := by simp [Tr.depth]
  bn := by simp [Tr.cnt]
  free := by intro x hx; cases hx
theorem frb_mono : ∀ (t : Tr) (w : Wd) (a : List Wd), ∀ x ∈ frb (w :: a) t, x ∈ frb a t
  | .amt i, w, a, x, h => h
  | .use y, w, a, x, h => by
    simp only [frb, List.any_cons] at h ⊢
    cases e : a.any (fun x => natsEq x y) <;> cases e2 : natsEq w y <;> simp [e, e2] at h ⊢
    exact h
  | .giv y b, w, a, x, h => by
    simp only [frb] at h ⊢
    rw [frb_congr b (y :: w :: a) (w :: y :: a) fun v => by simp only [List.any_cons]; exact Bool.or_left_comm _ _ _] at h
    exact frb_mono b w (y :: a) x h
  | .app c d, w, a, x, h => by
    simp only [frb] at h ⊢
    rcases List.mem_append.mp h with h | h
    · exact List.mem_append_left _ (frb_mono c w a x h)
    · exact List.mem_append_right _ (frb_mono d w a x h)
  | .hol y c d, w, a, x, h => by
    simp only [frb] at h ⊢
    rw [frb_congr d (y :: w :: a) (w :: y :: a) fun v => by simp only [List.any_cons]; exact Bool.or_left_comm _ _ _] at h
    rcases List.mem_append.mp h with h | h
    · exact List.mem_append_left _ (frb_mono c w a x h)
    · exact List.mem_append_right _ (frb_mono d w (y :: a) x h)
  | .rek o c d, w, a, x, h => by
    simp only [frb] at h ⊢
    rcases List.mem_append.mp h with h | h
    · exact List.mem_append_left _ (frb_mono c w a x h)
    · exact List.mem_append_right _ (frb_mono d w a x h)
  | .tst c d e, w, a, x, h => by
    simp only [frb] at h ⊢
    rcases List.mem_append.mp h with h | h
    · exact List.mem_append_left _ (frb_mono c w a x h)
    · rcases List.mem_append.mp h with h | h
      · exact List.mem_append_right _ (List.mem_append_left _ (frb_mono d w a x h))
      · exact List.mem_append_right _ (List.mem_append_right _ (frb_mono e w a x h))
theorem bnB_le (n : Nat) : bnB n ≤ bnB (n + 1) := by simp only [bnB]; omega
theorem szB_le (n : Nat) : szB n ≤ szB (n + 1) := by simp only [szB]; omega
theorem drw_rek {n : Nat} {ws nms : List Wd} {o : Sg} {a b : Tr} (ha : Drw n ws nms a) (hb : Drw n ws nms b) : Drw (n + 1) ws nms (.rek o a b) where
  good := by simp only [Tr.good, ha.good, hb.good, Bool.and_self]
  size := by have := ha.size; have := hb.size; simp only [Tr.size, szB]; omega
  depth := by have := ha.depth; have := hb.depth; simp only [Tr.depth]; omega
  bn := by have := ha.bn; have := hb.bn; simp only [Tr.cnt, bnB] at *; omega
  free := fun w hw => by
    rcases List.mem_append.mp hw with h | h
    · exact ha.free w h
    · exact hb.free w h
theorem drw_app {n : Nat} {ws nms : List Wd} {a b : Tr} (ha : Drw n ws nms a) (hb : Drw n ws nms b) : Drw (n + 1) ws nms (.app a b) where
  good := by simp only [Tr.good, ha.good, hb.good, Bool.and_self]
  size := by have := ha.size; have := hb.size; simp only [Tr.size, szB]; omega
  depth := by have := ha.depth; have := hb.depth; simp only [Tr.depth]; omega
  bn := by have := ha.bn; have := hb.bn; simp only [Tr.cnt, bnB] at *; omega
  free := fun w hw => by
    rcases List.mem_append.mp hw with h | h
    · exact ha.free w h
    · exact hb.free w h
theorem drw_tst {n : Nat} {ws nms : List Wd} {a b c : Tr} (ha : Drw n ws nms a) (hb : Drw n ws nms b) (hc : Drw n ws nms c) : Drw (n + 1) ws nms (.tst a b c) where
  good := by simp only [Tr.good, ha.good, hb.good, hc.good, Bool.and_self]
  size := by have := ha.size; have := hb.size; have := hc.size; simp only [Tr.size, szB]; omega
  depth := by have := ha.depth; have := hb.depth; have := hc.depth; simp only [Tr.depth]; omega
  bn := by have := ha.bn; have := hb.bn; have := hc.bn; simp only [Tr.cnt, bnB] at *; omega
  free := fun w hw => by
    rcases List.mem_append.mp hw with h | h
    · exact ha.free w h
    · rcases List.mem_append.mp h with h | h
      · exact hb.free w h
      · exact hc.free w h
theorem drw_hol {n : Nat} {ws nms : List Wd} {x : Wd} {a b : Tr} (hx : fitsW x = true) (ha : Drw n ws nms a) (hb : Drw n ws (nms ++ [x]) b) : Drw (n + 1) ws nms (.hol x a b) where
  good := by simp only [Tr.good, hx, ha.good, hb.good, Bool.and_self]
  size := by have := ha.size; have := hb.size; simp only [Tr.size, szB]; omega
  depth := by have := ha.depth; have := hb.depth; simp only [Tr.depth]; omega
  bn := by have := ha.bn; have := hb.bn; simp only [Tr.cnt, bnB] at *; omega
  free := fun w hw => by
    rcases List.mem_append.mp hw with h | h
    · exact ha.free w h
    · exact hb.free w (by rw [frb_snoc]; exact h)
/-- given x body -/
theorem drw_giv {n : Nat} {ws nms : List Wd} {x : Wd} {b : Tr} (hx : fitsW x = true) (hb : Drw n ws (nms ++ [x]) b) : Drw (n + 1) ws nms (.giv x b) where
  good := by simp only [Tr.good, hx, hb.good, Bool.and_self]
  size := by have := hb.size; simp only [Tr.size, szB]; omega
  depth := by have := hb.depth; simp only [Tr.depth]; omega
  bn := by have := hb.bn; simp only [Tr.cnt, bnB] at *; omega
  free := fun w hw => hb.free w (by rw [frb_snoc]; exact hw)
theorem drw_giva {n : Nat} {ws nms : List Wd} {x : Wd} {b a : Tr} (hx : fitsW x = true) (hb : Drw n ws (nms ++ [x]) b) (ha : Drw n ws nms a) : Drw (n + 1) ws nms (.app (.giv x b) a) where
  good := by simp only [Tr.good, hx, ha.good, hb.good, Bool.and_self]
  size := by have := ha.size; have := hb.size; simp only [Tr.size, szB]; omega
  depth := by have := ha.depth; have := hb.depth; simp only [Tr.depth]; omega
  bn := by have := ha.bn; have := hb.bn; simp only [Tr.cnt, bnB] at *; omega
  free := fun w hw => by
    rcases List.mem_append.mp hw with h | h
    · exact hb.free w (by rw [frb_snoc]; exact h)
    · exact ha.free w h
theorem drw_ten {n : Nat} {ws nms : List Wd} {x y : Wd} {b a : Tr} (hx : fitsW x = true) (hy : fitsW y = true) (hb : Drw n ws (nms ++ [y]) b) (ha : Drw 0 ws nms a) : Drw (n + 1) ws nms (.hol x (.giv y b) (.app (.use x) a)) where
  good := by simp only [Tr.good, hx, hy, ha.good, hb.good, Bool.and_self]
  size := by have := ha.size; have := hb.size; simp only [Tr.size, szB] at *; omega
  depth := by have := ha.depth; have := hb.depth; simp only [Tr.depth] at *; omega
  bn := by have := ha.bn; have := hb.bn; simp only [Tr.cnt, bnB] at *; omega
  free := fun w hw => by
    rcases List.mem_append.mp hw with h | h
    · exact hb.free w (by rw [frb_snoc]; exact h)
    · rcases List.mem_append.mp h with h | h
      · simp only [frb, List.any_cons, natsEq_refl, Bool.true_or, if_true] at h
        cases h
      · exact ha.free w (frb_mono a x nms w h)
end N57
end
section
set_option maxRecDepth 100000
set_option maxHeartbeats 4000000
namespace N57
open PySem
local macro_rules | `(tactic| walk_at "b") => `(tactic| first | rfl | assumption)
local macro_rules | `(tactic| walk_at "cm") => `(tactic| first | assumption | (with_reducible exact ne_nil) | (with_reducible exact eq_nil) | exact ⟨(rfl : _ = some true)⟩ | exact ⟨(rfl : _ = some false)⟩ | exact ⟨rfl⟩)
local macro_rules | `(tactic| walk_at "o") => `(tactic| first | assumption | (with_reducible exact ix_last) | exact ⟨rfl⟩)
local macro_rules | `(tactic| walk_at "sl") => `(tactic| first | assumption | exact sl_init | exact sl_t1 | exact sl_t2 | exact ⟨rfl⟩)
local macro_rules | `(tactic| walk_at "c") => `(tactic| first | assumption | (with_reducible exact parts_in_ok _ _ _) | (with_reducible exact law_parts_ok _ _ _) | (with_reducible exact is_done_ok _ _ _))
local macro_rules | `(tactic| walk_at "as") => `(tactic| (repeat' (first | apply AsR.slot | apply AsR.tup | apply AsR.cons | apply AsR.nil | apply SetR.s | apply SetR.z)))
local macro_rules | `(tactic| walk_at "st") => `(tactic| (repeat' (first | apply StR.some | apply StR.none | apply StR.nil)))
local macro_rules | `(tactic| walk_at "e") => `(tactic| first
  | ((with_reducible apply e_var); rfl)
  | (with_reducible exact e_con)
  | ((with_reducible apply e_cons); walk_at "e"; walk_at "e")
  | (with_reducible exact e_nil)
  | ((with_reducible apply e_glb); rfl)
  | ((with_reducible apply e_tup); walk_at "e")
  | ((with_reducible apply e_lst); walk_at "e")
  | ((with_reducible apply e_ix); walk_at "e"; walk_at "e"; walk_at "o")
  | ((with_reducible apply e_cmp); walk_at "e"; walk_at "e"; walk_at "cm")
  | ((with_reducible apply e_op); walk_at "e"; walk_at "e"; walk_at "o")
  | ((with_reducible apply e_call); walk_at "e"; walk_at "c")
  | ((with_reducible apply e_pr); walk_at "e"; walk_at "o")
  | ((with_reducible apply e_and); walk_at "e"; first | ((with_reducible apply andK_t); walk_at "b"; walk_at "e") | ((with_reducible apply andK_f); walk_at "b"; walk_at "b") | ((with_reducible apply andK_both); walk_at "e"; walk_at "b"))
  | ((with_reducible apply e_or); walk_at "e"; first | ((with_reducible apply orK_t); walk_at "b"; walk_at "b") | ((with_reducible apply orK_f); walk_at "b"; walk_at "e") | ((with_reducible apply orK_both); walk_at "e"; walk_at "b"))
  | ((with_reducible apply e_ite); walk_at "e"; first | ((with_reducible apply ifK_t); walk_at "b"; walk_at "e") | ((with_reducible apply ifK_f); walk_at "b"; walk_at "e"))
  | ((with_reducible apply e_not); walk_at "e"; walk_at "b")
  | ((with_reducible apply e_isN); walk_at "e"; walk_at "b")
  | ((with_reducible apply e_notN); walk_at "e"; walk_at "b")
  | ((with_reducible apply e_neg); walk_at "e"; walk_at "b")
  | ((with_reducible apply e_chain); walk_at "e"; walk_at "e"; walk_at "cm"; walk_at "e"; walk_at "cm"; walk_at "b")
  | ((with_reducible apply e_sl); walk_at "e"; walk_at "e"; rfl; walk_at "e"; rfl; walk_at "sl")
  | (with_reducible exact e_dic0)
  | ((with_reducible apply e_dicS); walk_at "e")
  | ((with_reducible apply e_cg); walk_at "e")
  | assumption)
local macro_rules | `(tactic| walk_at "f") => `(tactic| first
  | exact fm_nil
  | (apply fm_cons; walk_at "as"; walk_at "x"; walk_at "f")
  | (with_reducible exact fmK_rt)
  | ((with_reducible apply fmK_nx); walk_at "f")
  | assumption)
local macro_rules | `(tactic| walk_at "x") => `(tactic| first
  | (with_reducible exact x_nil)
  | ((with_reducible apply x_cons); walk_at "x"; walk_at "x")
  | ((with_reducible apply x_asg); walk_at "e"; walk_at "as")
  | ((with_reducible apply x_iff); walk_at "e"; walk_at "x")
  | ((with_reducible apply x_ret); walk_at "e")
  | ((with_reducible apply x_exp); walk_at "e")
  | ((with_reducible apply ifX_t); walk_at "b"; walk_at "x")
  | ((with_reducible apply ifX_f); walk_at "b"; walk_at "x")
  | ((with_reducible apply x_for); walk_at "e"; walk_at "e"; walk_at "o"; walk_at "f")
  | (with_reducible exact sqX_rt)
  | ((with_reducible apply sqX_nx); walk_at "x")
  | assumption)
local macro_rules | `(tactic| walk_at "1") => `(tactic| ((with_reducible apply x_cons); walk_at "x"; (with_reducible apply sqX_nx)))
open SrtO
theorem fresh_ix (i : Nat) (h : i < 8) : IxH (.str [97, 98, 99, 100, 101, 102, 103, 104]) (.int (i : Int)) (.str [97 + i]) := by
  rcases (by omega : i = 0 ∨ i = 1 ∨ i = 2 ∨ i = 3 ∨ i = 4 ∨ i = 5 ∨ i = 6 ∨ i = 7) with rfl | rfl | rfl | rfl | rfl | rfl | rfl | rfl <;> exact ⟨rfl⟩
theorem fresh_fit (i : Nat) (h : i < 8) : fitsW [118, 97 + i] = true := by
  rcases (by omega : i = 0 ∨ i = 1 ∨ i = 2 ∨ i = 3 ∨ i = 4 ∨ i = 5 ∨ i = 6 ∨ i = 7) with rfl | rfl | rfl | rfl | rfl | rfl | rfl | rfl <;> decide +kernel
theorem amt5 {r : Nat} (h : r < 5) : amtB ((r : Int) - 1) = true := by
  unfold amtB
  rw [decide_eq_true (by omega), decide_eq_true (by omega)]
  rfl
theorem lt_cm {a b : Nat} : CmH .lt (.int (a : Int)) (.int (b : Int)) (decide (a < b)) := ⟨congrArg some (decide_eq_decide.mpr (by omega))⟩
structure WsOk (ws : List Wd) : Prop where
  pos : 1 ≤ ws.length
  le : ws.length ≤ 10
  fit : ∀ w ∈ ws, fitsW w = true
theorem drawn_ok : ∀ (n : Nat) (ws nms : List Wd) (k : Nat) (st : Cup), n ≤ 8 → n + 3 ≤ k → WsOk ws → nms.length + n ≤ 8 → (∀ w ∈ nms, fitsW w = true) → ∃ t : Tr, ∃ s1 : Cup, Drw n ws nms t ∧ Rn k f_law_drawn [.cup, lsW ws, lsW nms, .int (n : Int)] st (enc t) s1
  | 0, ws, nms, k, st, _, hk, hw, hn, hf => by
    obtain ⟨k, rfl⟩ : ∃ k', k = k' + 3 := ⟨k - 3, by omega⟩
    have hw1 := hw.pos
    have hw2 := hw.le
    obtain ⟨r, s1, hr, h1⟩ := roll_ok 5 (by omega) (by omega) (k + 1) st
    have h1 : Rn (k + 2) f_law_roll [.cup, .int 5] st (.int (r : Int)) s1 := h1
    obtain ⟨w, hwm, s2, h2⟩ := some_wds (ws ++ nms) (by simp; omega) (by simp; omega) k s1
    have g1 : OpH .add (lsW ws) (lsW nms) (lsW (ws ++ nms)) := ls_app (by omega)
    obtain ⟨t, ht, s3, h3⟩ := some_trs [.amt ((r : Int) - 1), .use w, .use w] (by simp) (by simp) k s2
    have h3 : Rn (k + 2) f_law_some [.cup, .lst [enc (.amt ((r : Int) - 1)), enc (.use w), enc (.use w)]] s2 (enc t) s3 := h3
    have hfw : fitsW w = true := by
      rcases List.mem_append.mp hwm with h | h
      · exact hw.fit w h
      · exact hf w h
    refine ⟨t, s3, ?_, ?_⟩
    · simp only [List.mem_cons, List.not_mem_nil, or_false] at ht
      rcases ht with rfl | rfl | rfl
      · exact drw_amt (amt5 hr)
      · exact drw_use hfw hwm
      · exact drw_use hfw hwm
    · have c0 : CmH .eq (.int ((0 : Nat) : Int)) (.int 0) true := ⟨rfl⟩
      apply r_df df_law_drawn rfl
      · walk_at "st"
      · walk_at "x"
      · rfl
  | n + 1, ws, nms, k, st, hn8, hk, hw, hn, hf => by
    obtain ⟨k, rfl⟩ : ∃ k', k = k' + 4 := ⟨k - 4, by omega⟩
    have hw1 := hw.pos
    have hw2 := hw.le
    obtain ⟨r, s1, hr, h1⟩ := roll_ok 5 (by omega) (by omega) (k + 2) st
    have h1 : Rn (k + 3) f_law_roll [.cup, .int 5] st (.int (r : Int)) s1 := h1
    obtain ⟨w, hwm, s2, h2⟩ := some_wds (ws ++ nms) (by simp; omega) (by simp; omega) (k + 1) s1
    have g1 : OpH .add (lsW ws) (lsW nms) (lsW (ws ++ nms)) := ls_app (by omega)
    have hfw : fitsW w = true := by
      rcases List.mem_append.mp hwm with h | h
      · exact hw.fit w h
      · exact hf w h
    have c0 : CmH .eq (.int ((n + 1 : Nat) : Int)) (.int 0) false := ⟨by
      show some (decide (((n + 1 : Nat) : Int) = 0)) = _
      rw [decide_eq_false (by omega)]⟩
    obtain ⟨y, s3, hy, h3⟩ := roll_ok 12 (by omega) (by omega) (k + 2) s2
    have h3 : Rn (k + 3) f_law_roll [.cup, .int 12] s2 (.int (y : Int)) s3 := h3
    have g2 : OpH .sub (.int ((n + 1 : Nat) : Int)) (.int 1) (.int (n : Int)) := ⟨by
      show some (D.int (((n + 1 : Nat) : Int) - 1)) = _
      congr 2
      omega⟩
    have g3 : PrH .len [lsW nms] (.int (nms.length : Int)) := ⟨by
      show some (D.int ((nms.map D.str).length : Nat)) = _
      rw [List.length_map]⟩
    have g4 := fresh_ix nms.length (by omega)
    have g5 : OpH .add (.str [118]) (.str [97 + nms.length]) (.str [118, 97 + nms.length]) := ⟨rfl⟩
    have hfr := fresh_fit nms.length (by omega)
    generalize hx : ([118, 97 + nms.length] : Wd) = x at g5 hfr
    have g6 : OpH .add (lsW nms) (.lst [.str x]) (lsW (nms ++ [x])) := ls_app (m := [x]) (by simp; omega)
    have hf2 : ∀ v ∈ nms ++ [x], fitsW v = true := fun v hv => by
      rcases List.mem_append.mp hv with h | h
      · exact hf v h
      · rw [List.mem_singleton] at h; rw [h]; exact hfr
    have rec1 := fun st => drawn_ok n ws nms (k + 3) st (by omega) (by omega) hw (by omega) hf
    have rec2 := fun st => drawn_ok n ws (nms ++ [x]) (k + 3) st (by omega) (by omega) hw (by simp; omega) hf2
    have c4 : CmH .lt (.int (y : Int)) (.int 4) (decide (y < 4)) := lt_cm (b := 4)
    have c6 : CmH .lt (.int (y : Int)) (.int 6) (decide (y < 6)) := lt_cm (b := 6)
    have c8 : CmH .lt (.int (y : Int)) (.int 8) (decide (y < 8)) := lt_cm (b := 8)
    have c10 : CmH .lt (.int (y : Int)) (.int 10) (decide (y < 10)) := lt_cm (b := 10)
    have ce : CmH .eq (.int (y : Int)) (.int 10) (decide (y = 10)) := ⟨by
      show some (decide ((y : Int) = 10)) = _
      congr 1
      rw [decide_eq_decide]
      omega⟩
    by_cases y4 : y < 4
    · rw [decide_eq_true y4] at c4
      obtain ⟨o, ho, s4, h4⟩ := some_sgs [.add, .sub, .mul] (by simp) (by simp) (k + 1) s3
      have h4 : Rn (k + 3) f_law_some [.cup, .lst [.str [43], .str [45], .str [42]]] s3 (.str o.w) s4 := h4
      obtain ⟨a, s5, da, h5⟩ := rec1 s4
      obtain ⟨b, s6, db, h6⟩ := rec1 s5
      refine ⟨.rek o a b, s6, drw_rek da db, ?_⟩
      apply r_df df_law_drawn rfl
      · walk_at "st"
      · walk_at "x"
      · rfl
    rw [decide_eq_false y4] at c4
    by_cases y6 : y < 6
    · rw [decide_eq_true y6] at c6
      obtain ⟨a, s4, da, h4⟩ := rec1 s3
      obtain ⟨b, s5, db, h5⟩ := rec1 s4
      obtain ⟨c, s6, dc, h6⟩ := rec1 s5
      refine ⟨.tst a b c, s6, drw_tst da db dc, ?_⟩
      apply r_df df_law_drawn rfl
      · walk_at "st"
      · walk_at "x"
      · rfl
    rw [decide_eq_false y6] at c6
    by_cases y8 : y < 8
    · rw [decide_eq_true y8] at c8
      obtain ⟨a, s4, da, h4⟩ := rec1 s3
      obtain ⟨b, s5, db, h5⟩ := rec2 s4
      refine ⟨.hol x a b, s5, drw_hol hfr da db, ?_⟩
      apply r_df df_law_drawn rfl
      · walk_at "st"
      · walk_at "x"
      · rfl
    rw [decide_eq_false y8] at c8
    by_cases y10 : y < 10
    · rw [decide_eq_true y10] at c10
      obtain ⟨b, s4, db, h4⟩ := rec2 s3
      obtain ⟨a, s5, da, h5⟩ := rec1 s4
      refine ⟨.app (.giv x b) a, s5, drw_giva hfr db da, ?_⟩
      apply r_df df_law_drawn rfl
      · walk_at "st"
      · walk_at "x"
      · rfl
    rw [decide_eq_false y10] at c10
    by_cases ye : y = 10
    · rw [decide_eq_true ye] at ce
      have fw : fitsW [119] = true := by decide +kernel
      obtain ⟨a, s4, da, h4⟩ := drawn_ok 0 ws nms (k + 3) s3 (by omega) (by omega) hw (by omega) hf
      have h4 : Rn (k + 3) f_law_drawn [.cup, lsW ws, lsW nms, .int 0] s3 (enc a) s4 := h4
      obtain ⟨b, s5, db, h5⟩ := drawn_ok n ws (nms ++ [[119]]) (k + 3) s4 (by omega) (by omega) hw (by simp; omega) fun v hv => by
        rcases List.mem_append.mp hv with h | h
        · exact hf v h
        · rw [List.mem_singleton] at h; rw [h]; exact fw
      have g7 : OpH .add (lsW nms) (.lst [.str [119]]) (lsW (nms ++ [[119]])) := ls_app (m := [[119]]) (by simp; omega)
      refine ⟨.hol x (.giv [119] b) (.app (.use x) a), s5, drw_ten hfr fw db da, ?_⟩
      apply r_df df_law_drawn rfl
      · walk_at "st"
      · walk_at "x"
      · rfl
    · rw [decide_eq_false ye] at ce
      obtain ⟨b, s4, db, h4⟩ := rec2 s3
      obtain ⟨t, ht, s5, h5⟩ := some_trs [.amt ((r : Int) - 1), .use w, .app (.amt ((r : Int) - 1)) (.use w), .giv x b] (by simp) (by simp) (k + 1) s4
      have h5 : Rn (k + 3) f_law_some [.cup, .lst [enc (.amt ((r : Int) - 1)), enc (.use w), enc (.app (.amt ((r : Int) - 1)) (.use w)), enc (.giv x b)]] s4 (enc t) s5 := h5
      refine ⟨t, s5, ?_, ?_⟩
      · simp only [List.mem_cons, List.not_mem_nil, or_false] at ht
        rcases ht with rfl | rfl | rfl | rfl
        · exact drw_amt (amt5 hr)
        · exact drw_use hfw hwm
        · exact drw_app (drw_amt (amt5 hr)) (drw_use hfw hwm)
        · exact drw_giv hfr db
      · apply r_df df_law_drawn rfl
        · walk_at "st"
        · walk_at "x"
        · rfl
termination_by n => n
/-! an open tree -/
theorem drw_shp {n : Nat} {ws : List Wd} {t : Tr} (hn : n ≤ 2) (hw : ws.length ≤ 3) (h : Drw n ws [] t) : Shp t := by
  have hs : szB n ≤ 29 := by
    rcases (by omega : n = 0 ∨ n = 1 ∨ n = 2) with rfl | rfl | rfl <;> decide
  have hb : bnB n ≤ 8 := by
    rcases (by omega : n = 0 ∨ n = 1 ∨ n = 2) with rfl | rfl | rfl <;> decide
  have h1 := h.size
  have h2 := h.depth
  have h3 := h.bn
  have hd : (dedupW (frb [] t)).length ≤ 3 := Nat.le_trans (len_sub (dedupW_nodup _) fun x hx => h.free x (dedup_mem.mp hx)) hw
  refine ⟨h.good, ⟨by omega, by omega⟩, by omega, ?_⟩
  have h4 := wfl_len (srtW (frb [] t))
  rw [srtW_len] at h4
  have h5 : (bnds t).length = t.cnt := cnt_eq t
  omega
theorem open_ok (n : Nat) (hn : n ≤ 2) (ws : List Wd) (hw : WsOk ws) (h3 : ws.length ≤ 3) (k : Nat) (st : Cup) : ∃ t : Tr, ∃ s1 : Cup, Shp t ∧ shp t = t ∧ (∀ w ∈ frb [] t, w ∈ ws) ∧ Rn (k + 73) f_law_open [.cup, lsW ws, .int (n : Int)] st (enc t) s1 := by
  obtain ⟨t, s1, hd, h1⟩ := drawn_ok n ws [] (k + 72) st (by omega) (by omega) hw (by simp; omega) (fun w hw => nomatch hw)
  have hs := drw_shp hn h3 hd
  have h2 := with_plain_ok t hs k s1
  refine ⟨shp t, s1, shp_Shp t hs, shp_shp t hs, fun w hw => hd.free w (by rw [shp_frb t hs] at hw; exact hw), ?_⟩
  have h1 : Rn (k + 72) f_law_drawn [.cup, lsW ws, .lst [], .int (n : Int)] st (enc t) s1 := h1
  apply r_df df_law_open rfl
  · walk_at "st"
  · walk_at "x"
  · rfl
end N57
end
section
set_option maxRecDepth 100000
set_option maxHeartbeats 4000000
namespace N57
open PySem
local macro_rules | `(tactic| walk_at "b") => `(tactic| first | rfl | assumption)
local macro_rules | `(tactic| walk_at "cm") => `(tactic| first | assumption | (with_reducible exact ne_nil) | (with_reducible exact eq_nil) | exact ⟨(rfl : _ = some true)⟩ | exact ⟨(rfl : _ = some false)⟩ | exact ⟨rfl⟩)
local macro_rules | `(tactic| walk_at "o") => `(tactic| first | assumption | (with_reducible exact ix_last) | exact ⟨rfl⟩)
local macro_rules | `(tactic| walk_at "sl") => `(tactic| first | assumption | exact sl_init | exact sl_t1 | exact sl_t2 | exact ⟨rfl⟩)
local macro_rules | `(tactic| walk_at "c") => `(tactic| first | assumption | (with_reducible exact parts_in_ok _ _ _) | (with_reducible exact law_parts_ok _ _ _) | (with_reducible exact is_done_ok _ _ _))
local macro_rules | `(tactic| walk_at "as") => `(tactic| (repeat' (first | apply AsR.slot | apply AsR.tup | apply AsR.cons | apply AsR.nil | apply SetR.s | apply SetR.z)))
local macro_rules | `(tactic| walk_at "st") => `(tactic| (repeat' (first | apply StR.some | apply StR.none | apply StR.nil)))
local macro_rules | `(tactic| walk_at "e") => `(tactic| first
  | ((with_reducible apply e_var); rfl)
  | (with_reducible exact e_con)
  | ((with_reducible apply e_cons); walk_at "e"; walk_at "e")
  | (with_reducible exact e_nil)
  | ((with_reducible apply e_glb); rfl)
  | ((with_reducible apply e_tup); walk_at "e")
  | ((with_reducible apply e_lst); walk_at "e")
  | ((with_reducible apply e_ix); walk_at "e"; walk_at "e"; walk_at "o")
  | ((with_reducible apply e_cmp); walk_at "e"; walk_at "e"; walk_at "cm")
  | ((with_reducible apply e_op); walk_at "e"; walk_at "e"; walk_at "o")
  | ((with_reducible apply e_call); walk_at "e"; walk_at "c")
  | ((with_reducible apply e_pr); walk_at "e"; walk_at "o")
  | ((with_reducible apply e_and); walk_at "e"; first | ((with_reducible apply andK_t); walk_at "b"; walk_at "e") | ((with_reducible apply andK_f); walk_at "b"; walk_at "b") | ((with_reducible apply andK_both); walk_at "e"; walk_at "b"))
  | ((with_reducible apply e_or); walk_at "e"; first | ((with_reducible apply orK_t); walk_at "b"; walk_at "b") | ((with_reducible apply orK_f); walk_at "b"; walk_at "e") | ((with_reducible apply orK_both); walk_at "e"; walk_at "b"))
  | ((with_reducible apply e_ite); walk_at "e"; first | ((with_reducible apply ifK_t); walk_at "b"; walk_at "e") | ((with_reducible apply ifK_f); walk_at "b"; walk_at "e"))
  | ((with_reducible apply e_not); walk_at "e"; walk_at "b")
  | ((with_reducible apply e_isN); walk_at "e"; walk_at "b")
  | ((with_reducible apply e_notN); walk_at "e"; walk_at "b")
  | ((with_reducible apply e_neg); walk_at "e"; walk_at "b")
  | ((with_reducible apply e_chain); walk_at "e"; walk_at "e"; walk_at "cm"; walk_at "e"; walk_at "cm"; walk_at "b")
  | ((with_reducible apply e_sl); walk_at "e"; walk_at "e"; rfl; walk_at "e"; rfl; walk_at "sl")
  | (with_reducible exact e_dic0)
  | ((with_reducible apply e_dicS); walk_at "e")
  | ((with_reducible apply e_cg); walk_at "e")
  | assumption)
local macro_rules | `(tactic| walk_at "f") => `(tactic| first
  | exact fm_nil
  | (apply fm_cons; walk_at "as"; walk_at "x"; walk_at "f")
  | (with_reducible exact fmK_rt)
  | ((with_reducible apply fmK_nx); walk_at "f")
  | assumption)
local macro_rules | `(tactic| walk_at "x") => `(tactic| first
  | (with_reducible exact x_nil)
  | ((with_reducible apply x_cons); walk_at "x"; walk_at "x")
  | ((with_reducible apply x_asg); walk_at "e"; walk_at "as")
  | ((with_reducible apply x_iff); walk_at "e"; walk_at "x")
  | ((with_reducible apply x_ret); walk_at "e")
  | ((with_reducible apply x_exp); walk_at "e")
  | ((with_reducible apply ifX_t); walk_at "b"; walk_at "x")
  | ((with_reducible apply ifX_f); walk_at "b"; walk_at "x")
  | ((with_reducible apply x_for); walk_at "e"; walk_at "e"; walk_at "o"; walk_at "f")
  | (with_reducible exact sqX_rt)
  | ((with_reducible apply sqX_nx); walk_at "x")
  | assumption)
local macro_rules | `(tactic| walk_at "1") => `(tactic| ((with_reducible apply x_cons); walk_at "x"; (with_reducible apply sqX_nx)))
open SrtO
/-! trees that are read -/
theorem intT1 {w : Wd} {i : Int} (h1 : Nat.ble w.length 640 = true) (h : intText? (toS w) = some i) : PrH .intT [.str w] (.int i) := by
  constructor
  show (if Nat.ble w.length 640 then (intText? (toS w)).map D.int else none) = _
  rw [h1, if_pos rfl, h]; rfl
theorem amt_by (c : Nat) (i : Int) (h : PrH .intT [.str [c]] (.int i)) (hm : ∀ k st, Rn (k + 2) f_is_made_of [.str [c], .str [48, 49, 50, 51, 52, 53, 54, 55, 56, 57]] st (.bl true) st) (hc : c = 48 ∨ c = 49 ∨ c = 50 ∨ c = 51) (k : Nat) (st : Cup) : Rn (k + 3) f_amount_by [.str [c]] st (.int i) st := by
  have h2 := hm k st
  rcases hc with rfl | rfl | rfl | rfl <;>
  · apply r_df df_amount_by rfl
    · walk_at "st"
    · walk_at "x"
    · rfl
theorem leaf_num (c : Nat) (i : Int) (h : ∀ k st, Rn (k + 3) f_amount_by [.str [c]] st (.int i) st) (k : Nat) (st : Cup) : Rn (k + 5) f_tree_by [.str [c]] st (enc (.amt i)) st := by
  have h1 := h k st
  have h2 : Rn (k + 4) f_leaf_by [.str [c]] st (enc (.amt i)) st := by
    apply r_df df_leaf_by rfl
    · walk_at "st"
    · walk_at "x"
    · rfl
  apply r_df df_tree_by rfl
  · walk_at "st"
  · walk_at "x"
  · rfl
theorem t0 (k : Nat) (st : Cup) : Rn (k + 5) f_tree_by [.str [48]] st (enc (.amt 0)) st := leaf_num 48 0 (amt_by 48 0 (intT1 rfl (by decide +kernel)) (fun _ _ => ⟨rfl⟩) (by omega)) k st
theorem t1 (k : Nat) (st : Cup) : Rn (k + 5) f_tree_by [.str [49]] st (enc (.amt 1)) st := leaf_num 49 1 (amt_by 49 1 (intT1 rfl (by decide +kernel)) (fun _ _ => ⟨rfl⟩) (by omega)) k st
theorem t2 (k : Nat) (st : Cup) : Rn (k + 5) f_tree_by [.str [50]] st (enc (.amt 2)) st := leaf_num 50 2 (amt_by 50 2 (intT1 rfl (by decide +kernel)) (fun _ _ => ⟨rfl⟩) (by omega)) k st
theorem t3 (k : Nat) (st : Cup) : Rn (k + 5) f_tree_by [.str [51]] st (enc (.amt 3)) st := leaf_num 51 3 (amt_by 51 3 (intT1 rfl (by decide +kernel)) (fun _ _ => ⟨rfl⟩) (by omega)) k st
theorem tx (k : Nat) (st : Cup) : Rn (k + 8) f_tree_by [.str [120]] st (enc (.use [120])) st := ⟨rfl⟩
theorem tz (k : Nat) (st : Cup) : Rn (k + 8) f_tree_by [.str [122]] st (enc (.use [122])) st := ⟨rfl⟩
theorem tree_op (o : Sg) (A B : D) (a b : Tr) (k : Nat) (st : Cup) (ha : Rn (k + 2) f_tree_by [A] st (enc a) st) (hb : Rn (k + 2) f_tree_by [B] st (enc b) st) : Rn (k + 4) f_tree_by [.tup [.str o.w, A, B]] st (enc (.rek o a b)) st := by
  have h1 : Rn (k + 3) f_made_by_head [.str o.w, .tup [.str o.w, A, B]] st (enc (.rek o a b)) st := by
    cases o <;>
    · apply r_df df_made_by_head rfl
      · walk_at "st"
      · walk_at "1"
        with_reducible apply x_cons
        · with_reducible apply x_asg
          · with_reducible apply e_pr
            · with_reducible apply e_cons
              · apply e_map (its := [(A, a), (B, b)]) (f := fun p => p.1) (g := fun p => enc p.2)
                · walk_at "e"
                · walk_at "e"
                · exact ⟨rfl⟩
                · unfold sizeLine; simp
                · intro p hp
                  simp only [List.mem_cons, List.not_mem_nil, or_false] at hp
                  rcases hp with rfl | rfl
                  · exact ⟨_, rfl, by walk_at "e"⟩
                  · exact ⟨_, rfl, by walk_at "e"⟩
              · walk_at "e"
            · exact ⟨rfl⟩
          · walk_at "as"
        walk_at "x"
      · rfl
  cases o <;>
  · apply r_df df_tree_by rfl
    · walk_at "st"
    · walk_at "x"
    · rfl
theorem tree_tst (A B C : D) (a b c : Tr) (k : Nat) (st : Cup) (ha : Rn (k + 2) f_tree_by [A] st (enc a) st) (hb : Rn (k + 2) f_tree_by [B] st (enc b) st) (hc : Rn (k + 2) f_tree_by [C] st (enc c) st) : Rn (k + 4) f_tree_by [.tup [.str sTest, A, B, C]] st (enc (.tst a b c)) st := by
  have c1 : CmH .inS (.str sTest) (.str [43, 45, 42]) false := ⟨by
    show some (oneIn _ _) = _
    decide +kernel⟩
  have h1 : Rn (k + 3) f_made_by_head [.str sTest, .tup [.str sTest, A, B, C]] st (enc (.tst a b c)) st := by
    apply r_df df_made_by_head rfl
    · walk_at "st"
    · walk_at "1"
      with_reducible apply x_cons
      · with_reducible apply x_asg
        · with_reducible apply e_pr
          · with_reducible apply e_cons
            · apply e_map (its := [(A, a), (B, b), (C, c)]) (f := fun p => p.1) (g := fun p => enc p.2)
              · walk_at "e"
              · walk_at "e"
              · exact ⟨rfl⟩
              · unfold sizeLine; simp
              · intro p hp
                simp only [List.mem_cons, List.not_mem_nil, or_false] at hp
                rcases hp with rfl | rfl | rfl
                · exact ⟨_, rfl, by walk_at "e"⟩
                · exact ⟨_, rfl, by walk_at "e"⟩
                · exact ⟨_, rfl, by walk_at "e"⟩
            · walk_at "e"
          · exact ⟨rfl⟩
        · walk_at "as"
      walk_at "x"
    · rfl
  apply r_df df_tree_by rfl
  · walk_at "st"
  · walk_at "x"
  · rfl
theorem read_ok (w : Wd) (its : List D) (d : D) (t : Tr) (hg : t.good = true) (hf : fitsT t) (k : Nat) (st : Cup) (h1 : Rn (k + 14) f_items_of [.str w] st (.lst its) st) (h2 : Rn (k + 14) f_need_shallow [.lst its] st .non st) (h3 : Rn (k + 14) f_nested [.lst its] st d st) (h4 : Rn (k + 14) f_tree_by [d] st (enc t) st) : Rn (k + 15) f_read_tree [.str w] st (enc t) st := by
  have h5 := measured_ok t hg (k + 9) st
  unfold mesD at h5
  rw [if_pos hf] at h5
  apply r_df df_read_tree rfl
  · walk_at "st"
  · walk_at "x"
  · rfl
abbrev wX : Wd := [120]
abbrev wY : Wd := [121]
abbrev wZ : Wd := [122]
theorem read_x1 (k : Nat) (st : Cup) : Rn (k + 15) f_read_tree [.str [40, 43, 32, 120, 32, 49, 41]] st (enc (.rek .add (.use wX) (.amt 1))) st :=
  read_ok _ [.str [40], .str [43], .str [120], .str [49], .str [41]] (.tup [.str [43], .str [120], .str [49]]) _ (by decide +kernel) (by decide +kernel) k st ⟨rfl⟩ ⟨rfl⟩ ⟨rfl⟩ (tree_op .add _ _ _ _ (k + 10) st (tx (k + 4) st) (t1 (k + 7) st))
theorem read_x2 (k : Nat) (st : Cup) : Rn (k + 15) f_read_tree [.str [40, 42, 32, 120, 32, 50, 41]] st (enc (.rek .mul (.use wX) (.amt 2))) st :=
  read_ok _ [.str [40], .str [42], .str [120], .str [50], .str [41]] (.tup [.str [42], .str [120], .str [50]]) _ (by decide +kernel) (by decide +kernel) k st ⟨rfl⟩ ⟨rfl⟩ ⟨rfl⟩ (tree_op .mul _ _ _ _ (k + 10) st (tx (k + 4) st) (t2 (k + 7) st))
theorem read_x3 (k : Nat) (st : Cup) : Rn (k + 15) f_read_tree [.str [40, 42, 32, 120, 32, 51, 41]] st (enc (.rek .mul (.use wX) (.amt 3))) st :=
  read_ok _ [.str [40], .str [42], .str [120], .str [51], .str [41]] (.tup [.str [42], .str [120], .str [51]]) _ (by decide +kernel) (by decide +kernel) k st ⟨rfl⟩ ⟨rfl⟩ ⟨rfl⟩ (tree_op .mul _ _ _ _ (k + 10) st (tx (k + 4) st) (t3 (k + 7) st))
theorem read_z (k : Nat) (st : Cup) : Rn (k + 15) f_read_tree [.str [122]] st (enc (.use wZ)) st :=
  read_ok _ [.str [122]] (.str [122]) _ (by decide +kernel) (by decide +kernel) k st ⟨rfl⟩ ⟨rfl⟩ ⟨rfl⟩ (tz (k + 6) st)
theorem read_r (k : Nat) (st : Cup) : Rn (k + 15) f_read_tree [.str [40, 116, 101, 115, 116, 32, 40, 45, 32, 120, 32, 50, 41, 32, 48, 32, 49, 41]] st (enc (.tst (.rek .sub (.use wX) (.amt 2)) (.amt 0) (.amt 1))) st :=
  read_ok _ [.str [40], .str sTest, .str [40], .str [45], .str [120], .str [50], .str [41], .str [48], .str [49], .str [41]] (.tup [.str sTest, .tup [.str [45], .str [120], .str [50]], .str [48], .str [49]]) _ (by decide +kernel) (by decide +kernel) k st ⟨rfl⟩ ⟨rfl⟩ ⟨rfl⟩
    (tree_tst _ _ _ _ _ _ (k + 10) st (tree_op .sub _ _ _ _ (k + 8) st (tx (k + 2) st) (t2 (k + 5) st)) (t0 (k + 7) st) (t1 (k + 7) st))
end N57
end
section
set_option maxRecDepth 100000
set_option maxHeartbeats 4000000
namespace N57
open PySem
local macro_rules | `(tactic| walk_at "b") => `(tactic| first | rfl | assumption)
local macro_rules | `(tactic| walk_at "cm") => `(tactic| first | assumption | (with_reducible exact ne_nil) | (with_reducible exact eq_nil) | exact ⟨(rfl : _ = some true)⟩ | exact ⟨(rfl : _ = some false)⟩ | exact ⟨rfl⟩)
local macro_rules | `(tactic| walk_at "o") => `(tactic| first | assumption | (with_reducible exact ix_last) | exact ⟨rfl⟩)
local macro_rules | `(tactic| walk_at "sl") => `(tactic| first | assumption | exact sl_init | exact sl_t1 | exact sl_t2 | exact ⟨rfl⟩)
local macro_rules | `(tactic| walk_at "c") => `(tactic| first | assumption | (with_reducible exact parts_in_ok _ _ _) | (with_reducible exact law_parts_ok _ _ _) | (with_reducible exact is_done_ok _ _ _))
local macro_rules | `(tactic| walk_at "as") => `(tactic| (repeat' (first | apply AsR.slot | apply AsR.tup | apply AsR.cons | apply AsR.nil | apply SetR.s | apply SetR.z)))
local macro_rules | `(tactic| walk_at "st") => `(tactic| (repeat' (first | apply StR.some | apply StR.none | apply StR.nil)))
local macro_rules | `(tactic| walk_at "e") => `(tactic| first
  | ((with_reducible apply e_var); rfl)
  | (with_reducible exact e_con)
  | ((with_reducible apply e_cons); walk_at "e"; walk_at "e")
  | (with_reducible exact e_nil)
  | ((with_reducible apply e_glb); rfl)
  | ((with_reducible apply e_tup); walk_at "e")
  | ((with_reducible apply e_lst); walk_at "e")
  | ((with_reducible apply e_ix); walk_at "e"; walk_at "e"; walk_at "o")
  | ((with_reducible apply e_cmp); walk_at "e"; walk_at "e"; walk_at "cm")
  | ((with_reducible apply e_op); walk_at "e"; walk_at "e"; walk_at "o")
  | ((with_reducible apply e_call); walk_at "e"; walk_at "c")
  | ((with_reducible apply e_pr); walk_at "e"; walk_at "o")
  | ((with_reducible apply e_and); walk_at "e"; first | ((with_reducible apply andK_t); walk_at "b"; walk_at "e") | ((with_reducible apply andK_f); walk_at "b"; walk_at "b") | ((with_reducible apply andK_both); walk_at "e"; walk_at "b"))
  | ((with_reducible apply e_or); walk_at "e"; first | ((with_reducible apply orK_t); walk_at "b"; walk_at "b") | ((with_reducible apply orK_f); walk_at "b"; walk_at "e") | ((with_reducible apply orK_both); walk_at "e"; walk_at "b"))
  | ((with_reducible apply e_ite); walk_at "e"; first | ((with_reducible apply ifK_t); walk_at "b"; walk_at "e") | ((with_reducible apply ifK_f); walk_at "b"; walk_at "e"))
  | ((with_reducible apply e_not); walk_at "e"; walk_at "b")
  | ((with_reducible apply e_isN); walk_at "e"; walk_at "b")
  | ((with_reducible apply e_notN); walk_at "e"; walk_at "b")
  | ((with_reducible apply e_neg); walk_at "e"; walk_at "b")
  | ((with_reducible apply e_chain); walk_at "e"; walk_at "e"; walk_at "cm"; walk_at "e"; walk_at "cm"; walk_at "b")
  | ((with_reducible apply e_sl); walk_at "e"; walk_at "e"; rfl; walk_at "e"; rfl; walk_at "sl")
  | (with_reducible exact e_dic0)
  | ((with_reducible apply e_dicS); walk_at "e")
  | ((with_reducible apply e_cg); walk_at "e")
  | assumption)
local macro_rules | `(tactic| walk_at "f") => `(tactic| first
  | exact fm_nil
  | (apply fm_cons; walk_at "as"; walk_at "x"; walk_at "f")
  | (with_reducible exact fmK_rt)
  | ((with_reducible apply fmK_nx); walk_at "f")
  | assumption)
local macro_rules | `(tactic| walk_at "x") => `(tactic| first
  | (with_reducible exact x_nil)
  | ((with_reducible apply x_cons); walk_at "x"; walk_at "x")
  | ((with_reducible apply x_asg); walk_at "e"; walk_at "as")
  | ((with_reducible apply x_iff); walk_at "e"; walk_at "x")
  | ((with_reducible apply x_ret); walk_at "e")
  | ((with_reducible apply x_exp); walk_at "e")
  | ((with_reducible apply ifX_t); walk_at "b"; walk_at "x")
  | ((with_reducible apply ifX_f); walk_at "b"; walk_at "x")
  | ((with_reducible apply x_for); walk_at "e"; walk_at "e"; walk_at "o"; walk_at "f")
  | (with_reducible exact sqX_rt)
  | ((with_reducible apply sqX_nx); walk_at "x")
  | assumption)
local macro_rules | `(tactic| walk_at "1") => `(tactic| ((with_reducible apply x_cons); walk_at "x"; (with_reducible apply sqX_nx)))
open SrtO
/-! the law's deeds -/
abbrev dX : Ded := (wX, .rek .add (.use wX) (.amt 1))
abbrev dY : Ded := (wY, .rek .mul (.use wX) (.amt 2))
abbrev dZ : Ded := (wZ, .use wZ)
abbrev dT : Ded := (wX, .rek .mul (.use wX) (.amt 2))
abbrev dM : Ded := (wX, .rek .mul (.use wX) (.amt 3))
abbrev dR : Ded := (wY, .tst (.rek .sub (.use wX) (.amt 2)) (.amt 0) (.amt 1))
abbrev dA : Ded := (wX, .amt 1)
abbrev dB : Ded := (wX, .amt 2)
theorem okX : DedOk dX := ⟨by decide +kernel, ⟨by decide +kernel, by decide +kernel, by decide +kernel, by decide +kernel⟩, by decide +kernel⟩
theorem okY : DedOk dY := ⟨by decide +kernel, ⟨by decide +kernel, by decide +kernel, by decide +kernel, by decide +kernel⟩, by decide +kernel⟩
theorem okZ : DedOk dZ := ⟨by decide +kernel, ⟨by decide +kernel, by decide +kernel, by decide +kernel, by decide +kernel⟩, by decide +kernel⟩
theorem okT : DedOk dT := ⟨by decide +kernel, ⟨by decide +kernel, by decide +kernel, by decide +kernel, by decide +kernel⟩, by decide +kernel⟩
theorem okM : DedOk dM := ⟨by decide +kernel, ⟨by decide +kernel, by decide +kernel, by decide +kernel, by decide +kernel⟩, by decide +kernel⟩
theorem okR : DedOk dR := ⟨by decide +kernel, ⟨by decide +kernel, by decide +kernel, by decide +kernel, by decide +kernel⟩, by decide +kernel⟩
theorem okA : DedOk dA := ⟨by decide +kernel, ⟨by decide +kernel, by decide +kernel, by decide +kernel, by decide +kernel⟩, by decide +kernel⟩
theorem okB' : DedOk dB := ⟨by decide +kernel, ⟨by decide +kernel, by decide +kernel, by decide +kernel, by decide +kernel⟩, by decide +kernel⟩
theorem uXZ : unl 3 dX dZ = none := by decide +kernel
theorem uXY : unl 0 dX dY = some [(wX, 0), (wY, 0)] := by decide +kernel
theorem uXX : unl 2 dX dX = none := by decide +kernel
theorem uTM : unl 3 dT dM = none := by decide +kernel
theorem uTX : (unl 3 dT dX).isSome = true := by decide +kernel
theorem uXR0 : unl 0 dX dR = none := by decide +kernel
theorem uXR1 : (unl 1 dX dR).isSome = true := by decide +kernel
theorem uAB : unl 0 dA dB = some [(wX, 0)] := by decide +kernel
theorem someD {r : Option Sto} (h : r.isSome = true) : isNon (unlD r) = false := by
  cases r with
  | none => cases h
  | some s => rfl
/-- one turn of the law's loop -/
theorem wds_le {d e : Ded} {ws : List Wd} (h3 : ws.length ≤ 3) (h1 : d.1 ∈ ws) (h2 : e.1 ∈ ws) (f1 : ∀ w ∈ frb [] d.2, w ∈ ws) (f2 : ∀ w ∈ frb [] e.2, w ∈ ws) : (wds d e).length ≤ 4 := by
  have : (wds d e).length ≤ ws.length := len_sub (srtW_nodup _) fun x hx => by
    rcases wds_mem.mp hx with h | h | h | h
    · rw [h]; exact h1
    · rw [h]; exact h2
    · exact f1 x h
    · exact f2 x h
  omega
theorem law_turn1 (k : Nat) (st : Cup) (o0 o2 o3 o4 o5 : Option D) (r : Ev) : ∃ o3' o4' o5' s1, XS (k + 206) b_law_L0b (o0 :: some .cup :: o2 :: o3 :: o4 :: o5 :: r) st (.nx (o0 :: some .cup :: o2 :: o3' :: o4' :: o5' :: r)) s1 := by
  obtain ⟨x, hx, s1, h1⟩ := some_ok [lsW [wX, wY], lsW [wX, wY], lsW [wX, wY, wZ]] (by simp) (by simp) (k + 204) st
  have h1 : Rn (k + 206) f_law_some [.cup, .lst [.lst [.str [120], .str [121]], .lst [.str [120], .str [121]], .lst [.str [120], .str [121], .str [122]]]] st x s1 := h1
  obtain ⟨ws, rfl, hw, h3⟩ : ∃ ws, x = lsW ws ∧ WsOk ws ∧ ws.length ≤ 3 := by
    simp only [List.mem_cons, List.not_mem_nil, or_false] at hx
    have a2 : WsOk [wX, wY] := ⟨by simp, by simp, by decide +kernel⟩
    have a3 : WsOk [wX, wY, wZ] := ⟨by simp, by simp, by decide +kernel⟩
    rcases hx with rfl | rfl | rfl
    · exact ⟨_, rfl, a2, by simp⟩
    · exact ⟨_, rfl, a2, by simp⟩
    · exact ⟨_, rfl, a3, by simp⟩
  obtain ⟨w1, m1, s2, h2⟩ := some_wds ws hw.pos (by have := hw.le; omega) (k + 204) s1
  obtain ⟨t1, s3, q1, e1, f1, h4⟩ := open_ok 1 (by omega) ws hw h3 (k + 133) s2
  have h4 : Rn (k + 206) f_law_open [.cup, lsW ws, .int 1] s2 (enc t1) s3 := h4
  obtain ⟨w2, m2, s4, h5⟩ := some_wds ws hw.pos (by have := hw.le; omega) (k + 204) s3
  obtain ⟨n, hn, s5, h6⟩ := some_ints [1, 1, 2] (by simp) (by simp) (k + 204) s4
  have h6 : Rn (k + 206) f_law_some [.cup, .lst [.int 1, .int 1, .int 2]] s4 (.int (n : Int)) s5 := h6
  have hn2 : n ≤ 2 := by
    simp only [List.mem_cons, List.not_mem_nil, or_false] at hn
    omega
  obtain ⟨t2, s6, q2, e2, f2, h7⟩ := open_ok n hn2 ws hw h3 (k + 133) s5
  obtain ⟨m, hm, s7, h8⟩ := some_ints [0, 1, 1, 2] (by simp) (by simp) (k + 204) s6
  have h8 : Rn (k + 206) f_law_some [.cup, .lst [.int 0, .int 1, .int 1, .int 2]] s6 (.int (m : Int)) s7 := h8
  have hm3 : m ≤ 3 := by
    simp only [List.mem_cons, List.not_mem_nil, or_false] at hm
    omega
  have d1 : DedOk (w1, t1) := ⟨hw.fit _ m1, q1, e1⟩
  have d2 : DedOk (w2, t2) := ⟨hw.fit _ m2, q2, e2⟩
  have h9 := law_right_ok (w1, t1) (w2, t2) d1 d2 m (wds_le h3 m1 m2 f1 f2) hm3 k s7
  refine ⟨some (lsW ws), some (dedD (w1, t1)), some (dedD (w2, t2)), s7, ?_⟩
  apply xs_to
  · walk_at "x"
  · rfl
/-- the law behind its first statement -/
theorem law_rest (k : Nat) (st : Cup) (o0 : Option D) : ∃ s1 : Cup, XS (k + 206) (.cons b_law_1 (.cons b_law_2 (.cons b_law_3 (.cons b_law_4 (.cons b_law_5 (.cons b_law_6 (.cons b_law_7 (.cons b_law_8 .nil))))))))
    [o0, some .cup, none, none, none, none, none, none, none, none, none, none] st (.rt (.bl true)) s1 := by
  obtain ⟨a3, a4, a5, s1, h1⟩ := law_turn1 k st o0 (some (.int (0 : Nat))) none none none [none, none, none, none, none, none]
  obtain ⟨b3, b4, b5, s2, h2⟩ := law_turn1 k s1 o0 (some (.int (1 : Nat))) a3 a4 a5 [none, none, none, none, none, none]
  obtain ⟨c3, c4, c5, s3, h3⟩ := law_turn1 k s2 o0 (some (.int (2 : Nat))) b3 b4 b5 [none, none, none, none, none, none]
  refine ⟨s3, ?_⟩
  have it := it_rng 3 (by omega) (y := .lst [])
  have L : FM (k + 206) (.slot 2) b_law_L0b ((List.range 3).map fun (i : Nat) => .int (i : Int)) [o0, some .cup, none, none, none, none, none, none, none, none, none, none] st (.nx [o0, some .cup, some (.int (2 : Nat)), c3, c4, c5, none, none, none, none, none, none]) s3 := by
    show FM _ _ _ [.int ((0 : Nat) : Int), .int ((1 : Nat) : Int), .int ((2 : Nat) : Int)] _ _ _ _
    apply fm_cons
    · walk_at "as"
    · exact h1
    apply fmK_nx
    apply fm_cons
    · walk_at "as"
    · exact h2
    apply fmK_nx
    apply fm_cons
    · walk_at "as"
    · exact h3
    apply fmK_nx
    exact fm_nil
  have r1 := read_x1 (k + 191) s3
  have r2 := read_x2 (k + 191) s3
  have r3 := read_x3 (k + 191) s3
  have r4 := read_z (k + 191) s3
  have r5 := read_r (k + 191) s3
  have u1 := unlike_ok dX dZ okX okZ 3 (by decide +kernel) (by omega) (k + 126) s3
  have u2 := unlike_ok dX dY okX okY 0 (by decide +kernel) (by omega) (k + 126) s3
  have u3 := unlike_ok dX dX okX okX 2 (by decide +kernel) (by omega) (k + 126) s3
  have u4 := unlike_ok dT dM okT okM 3 (by decide +kernel) (by omega) (k + 126) s3
  have u5 := unlike_ok dT dX okT okX 3 (by decide +kernel) (by omega) (k + 126) s3
  have u6 := unlike_ok dX dR okX okR 0 (by decide +kernel) (by omega) (k + 126) s3
  have u7 := unlike_ok dX dR okX okR 1 (by decide +kernel) (by omega) (k + 126) s3
  have u8 := unlike_ok dA dB okA okB' 0 (by decide +kernel) (by omega) (k + 126) s3
  rw [uXZ] at u1
  rw [uXY] at u2
  rw [uXX] at u3
  rw [uTM] at u4
  rw [uXR0] at u6
  rw [uAB] at u8
  have n5 := someD uTX
  have n7 := someD uXR1
  generalize unlD (unl 3 dT dX) = v5 at u5 n5
  generalize unlD (unl 1 dX dR) = v7 at u7 n7
  have u1 : Rn (k + 206) f_unlike_store [dedD dX, dedD dZ, .int 3] s3 .non s3 := u1
  have u2 : Rn (k + 206) f_unlike_store [dedD dX, dedD dY, .int 0] s3 (.tup [.tup [.str [120], .int 0], .tup [.str [121], .int 0]]) s3 := u2
  have u3 : Rn (k + 206) f_unlike_store [dedD dX, dedD dX, .int 2] s3 .non s3 := u3
  have u4 : Rn (k + 206) f_unlike_store [dedD dT, dedD dM, .int 3] s3 .non s3 := u4
  have u5 : Rn (k + 206) f_unlike_store [dedD dT, dedD dX, .int 3] s3 v5 s3 := u5
  have u6 : Rn (k + 206) f_unlike_store [dedD dX, dedD dR, .int 0] s3 .non s3 := u6
  have u7 : Rn (k + 206) f_unlike_store [dedD dX, dedD dR, .int 1] s3 v7 s3 := u7
  have u8 : Rn (k + 206) f_unlike_store [dedD dA, dedD dB, .int 0] s3 (.tup [.tup [.str [120], .int 0]]) s3 := u8
  have g1 := law_right_ok dX dR okX okR 3 (by decide +kernel) (by omega) k s3
  have g2 := law_right_ok dX dY okX okY 2 (by decide +kernel) (by omega) k s3
  have g1 : Rn (k + 206) f_law_right [dedD dX, dedD dR, .int 3] s3 (.bl true) s3 := g1
  have g2 : Rn (k + 206) f_law_right [dedD dX, dedD dY, .int 2] s3 (.bl true) s3 := g2
  with_reducible apply x_cons
  · with_reducible apply x_for
    · walk_at "e"
    · walk_at "e"
    · exact it
    · exact L
  with_reducible apply sqX_nx
  walk_at "1"
  walk_at "1"
  walk_at "1"
  walk_at "1"
  walk_at "1"
  walk_at "1"
  walk_at "x"
end N57
end
section
set_option maxRecDepth 100000
set_option maxHeartbeats 4000000
namespace N57
open PySem
local macro_rules | `(tactic| walk_at "b") => `(tactic| first | rfl | assumption)
local macro_rules | `(tactic| walk_at "cm") => `(tactic| first | assumption | (with_reducible exact ne_nil) | (with_reducible exact eq_nil) | exact ⟨(rfl : _ = some true)⟩ | exact ⟨(rfl : _ = some false)⟩ | exact ⟨rfl⟩)
local macro_rules | `(tactic| walk_at "o") => `(tactic| first | assumption | (with_reducible exact ix_last) | exact ⟨rfl⟩)
local macro_rules | `(tactic| walk_at "sl") => `(tactic| first | assumption | exact sl_init | exact sl_t1 | exact sl_t2 | exact ⟨rfl⟩)
local macro_rules | `(tactic| walk_at "c") => `(tactic| first | assumption | (with_reducible exact parts_in_ok _ _ _) | (with_reducible exact law_parts_ok _ _ _) | (with_reducible exact is_done_ok _ _ _))
local macro_rules | `(tactic| walk_at "as") => `(tactic| (repeat' (first | apply AsR.slot | apply AsR.tup | apply AsR.cons | apply AsR.nil | apply SetR.s | apply SetR.z)))
local macro_rules | `(tactic| walk_at "st") => `(tactic| (repeat' (first | apply StR.some | apply StR.none | apply StR.nil)))
local macro_rules | `(tactic| walk_at "e") => `(tactic| first
  | ((with_reducible apply e_var); rfl)
  | (with_reducible exact e_con)
  | ((with_reducible apply e_cons); walk_at "e"; walk_at "e")
  | (with_reducible exact e_nil)
  | ((with_reducible apply e_glb); rfl)
  | ((with_reducible apply e_tup); walk_at "e")
  | ((with_reducible apply e_lst); walk_at "e")
  | ((with_reducible apply e_ix); walk_at "e"; walk_at "e"; walk_at "o")
  | ((with_reducible apply e_cmp); walk_at "e"; walk_at "e"; walk_at "cm")
  | ((with_reducible apply e_op); walk_at "e"; walk_at "e"; walk_at "o")
  | ((with_reducible apply e_call); walk_at "e"; walk_at "c")
  | ((with_reducible apply e_pr); walk_at "e"; walk_at "o")
  | ((with_reducible apply e_and); walk_at "e"; first | ((with_reducible apply andK_t); walk_at "b"; walk_at "e") | ((with_reducible apply andK_f); walk_at "b"; walk_at "b") | ((with_reducible apply andK_both); walk_at "e"; walk_at "b"))
  | ((with_reducible apply e_or); walk_at "e"; first | ((with_reducible apply orK_t); walk_at "b"; walk_at "b") | ((with_reducible apply orK_f); walk_at "b"; walk_at "e") | ((with_reducible apply orK_both); walk_at "e"; walk_at "b"))
  | ((with_reducible apply e_ite); walk_at "e"; first | ((with_reducible apply ifK_t); walk_at "b"; walk_at "e") | ((with_reducible apply ifK_f); walk_at "b"; walk_at "e"))
  | ((with_reducible apply e_not); walk_at "e"; walk_at "b")
  | ((with_reducible apply e_isN); walk_at "e"; walk_at "b")
  | ((with_reducible apply e_notN); walk_at "e"; walk_at "b")
  | ((with_reducible apply e_neg); walk_at "e"; walk_at "b")
  | ((with_reducible apply e_chain); walk_at "e"; walk_at "e"; walk_at "cm"; walk_at "e"; walk_at "cm"; walk_at "b")
  | ((with_reducible apply e_sl); walk_at "e"; walk_at "e"; rfl; walk_at "e"; rfl; walk_at "sl")
  | (with_reducible exact e_dic0)
  | ((with_reducible apply e_dicS); walk_at "e")
  | ((with_reducible apply e_cg); walk_at "e")
  | assumption)
local macro_rules | `(tactic| walk_at "f") => `(tactic| first
  | exact fm_nil
  | (apply fm_cons; walk_at "as"; walk_at "x"; walk_at "f")
  | (with_reducible exact fmK_rt)
  | ((with_reducible apply fmK_nx); walk_at "f")
  | assumption)
local macro_rules | `(tactic| walk_at "x") => `(tactic| first
  | (with_reducible exact x_nil)
  | ((with_reducible apply x_cons); walk_at "x"; walk_at "x")
  | ((with_reducible apply x_asg); walk_at "e"; walk_at "as")
  | ((with_reducible apply x_iff); walk_at "e"; walk_at "x")
  | ((with_reducible apply x_ret); walk_at "e")
  | ((with_reducible apply x_exp); walk_at "e")
  | ((with_reducible apply ifX_t); walk_at "b"; walk_at "x")
  | ((with_reducible apply ifX_f); walk_at "b"; walk_at "x")
  | ((with_reducible apply x_for); walk_at "e"; walk_at "e"; walk_at "o"; walk_at "f")
  | (with_reducible exact sqX_rt)
  | ((with_reducible apply sqX_nx); walk_at "x")
  | assumption)
local macro_rules | `(tactic| walk_at "1") => `(tactic| ((with_reducible apply x_cons); walk_at "x"; (with_reducible apply sqX_nx)))
/-! the cup, behind its first statement -/
theorem cup_rest (cell : Int) (o0 : Option D) (k : Nat) (st : Cup) : ∃ g c : Int, 0 ≤ c ∧ c < 2 ^ 40 ∧ XS k (.cons b_law_cup_1 (.cons b_law_cup_2 .nil)) [o0, some (.int cell), none] st (.rt (.lst [.int g, .int c])) st := by
  have p : OpH .pow (.int 10) (.int 18) (.int 1000000000000000000) := ⟨rfl⟩
  have d := op_div (i := cell) (j := 11) (by omega) (by omega)
  have m1 := op_mulR (i := cell) (j := 193) (by omega)
  have q1 : PrH .int [.int (cell * 193 + 1201)] (.int (cell * 193 + 1201)) := ⟨rfl⟩
  have e1 := op_mod (i := cell * 193 + 1201) (j := 2077504273) (by omega)
  have h1 : 0 ≤ (cell * 193 + 1201) % 2077504273 := Int.emod_nonneg _ (by omega)
  have h2 : (cell * 193 + 1201) % 2077504273 < 2077504273 := Int.emod_lt_of_pos _ (by omega)
  by_cases hc : 1000000000000000000 ≤ cell
  · have c1 : CmH .ge (.int cell) (.int 1000000000000000000) true := ⟨congrArg some (decide_eq_true hc)⟩
    refine ⟨cell / 11, (cell * 193 + 1201) % 2077504273 + 89, by omega, by omega, ?_⟩
    apply xs_to
    · walk_at "x"
    · rfl
  · have c1 : CmH .ge (.int cell) (.int 1000000000000000000) false := ⟨congrArg some (decide_eq_false hc)⟩
    refine ⟨0, (cell * 193 + 1201) % 2077504273 + 89, by omega, by omega, ?_⟩
    apply xs_to
    · walk_at "x"
    · rfl
end N57
end
section
set_option maxRecDepth 100000
/-! How parameters are bound; printed by genbp.py. -/
namespace N57
open PySem PySem.Spec PyProof.Rows L2
def BP (ps : List Str) : Prop := ∀ (as : List Arg), as.map (·.arg) = ps → ∀ (name qual : Str) (body : List Stmt) (scope : Scope) (kV doc pm : Value) (an : Option Addr) (cdv ct : Value) (us : List Value), us.length = ps.length →
  bindArgs (PySem.W.fnOf name qual ⟨[], as, none, [], [], none, []⟩ body scope .none kV doc pm an cdv ct) ⟨us, []⟩ = pure (ps.zip us)
theorem bp_0 : BP [Str.ofString "value", Str.ofString "low", Str.ofString "high"] := fun as h name qual body scope kV doc pm an cdv ct us hl => match as, us, h, hl with
  | [⟨_, _, _⟩, ⟨_, _, _⟩, ⟨_, _, _⟩], [_, _, _], h, _ => by cases h; rfl
theorem bp_1 : BP [Str.ofString "value"] := fun as h name qual body scope kV doc pm an cdv ct us hl => match as, us, h, hl with
  | [⟨_, _, _⟩], [_], h, _ => by cases h; rfl
theorem bp_2 : BP [Str.ofString "kind", Str.ofString "item", Str.ofString "holes"] := fun as h name qual body scope kV doc pm an cdv ct us hl => match as, us, h, hl with
  | [⟨_, _, _⟩, ⟨_, _, _⟩, ⟨_, _, _⟩], [_, _, _], h, _ => by cases h; rfl
theorem bp_3 : BP [Str.ofString "value", Str.ofString "holes"] := fun as h name qual body scope kV doc pm an cdv ct us hl => match as, us, h, hl with
  | [⟨_, _, _⟩, ⟨_, _, _⟩], [_, _], h, _ => by cases h; rfl
theorem bp_4 : BP [Str.ofString "tree"] := fun as h name qual body scope kV doc pm an cdv ct us hl => match as, us, h, hl with
  | [⟨_, _, _⟩], [_], h, _ => by cases h; rfl
theorem bp_5 : BP [Str.ofString "tree", Str.ofString "parts"] := fun as h name qual body scope kV doc pm an cdv ct us hl => match as, us, h, hl with
  | [⟨_, _, _⟩, ⟨_, _, _⟩], [_, _], h, _ => by cases h; rfl
theorem bp_6 : BP [Str.ofString "tree", Str.ofString "path"] := fun as h name qual body scope kV doc pm an cdv ct us hl => match as, us, h, hl with
  | [⟨_, _, _⟩, ⟨_, _, _⟩], [_, _], h, _ => by cases h; rfl
theorem bp_7 : BP [Str.ofString "tree", Str.ofString "path", Str.ofString "other"] := fun as h name qual body scope kV doc pm an cdv ct us hl => match as, us, h, hl with
  | [⟨_, _, _⟩, ⟨_, _, _⟩, ⟨_, _, _⟩], [_, _, _], h, _ => by cases h; rfl
theorem bp_8 : BP [Str.ofString "tree", Str.ofString "at"] := fun as h name qual body scope kV doc pm an cdv ct us hl => match as, us, h, hl with
  | [⟨_, _, _⟩, ⟨_, _, _⟩], [_, _], h, _ => by cases h; rfl
theorem bp_9 : BP [Str.ofString "tree", Str.ofString "path", Str.ofString "name"] := fun as h name qual body scope kV doc pm an cdv ct us hl => match as, us, h, hl with
  | [⟨_, _, _⟩, ⟨_, _, _⟩, ⟨_, _, _⟩], [_, _, _], h, _ => by cases h; rfl
theorem bp_10 : BP [Str.ofString "work", Str.ofString "path", Str.ofString "name"] := fun as h name qual body scope kV doc pm an cdv ct us hl => match as, us, h, hl with
  | [⟨_, _, _⟩, ⟨_, _, _⟩, ⟨_, _, _⟩], [_, _, _], h, _ => by cases h; rfl
theorem bp_11 : BP [Str.ofString "work"] := fun as h name qual body scope kV doc pm an cdv ct us hl => match as, us, h, hl with
  | [⟨_, _, _⟩], [_], h, _ => by cases h; rfl
theorem bp_12 : BP [Str.ofString "many", Str.ofString "taken"] := fun as h name qual body scope kV doc pm an cdv ct us hl => match as, us, h, hl with
  | [⟨_, _, _⟩, ⟨_, _, _⟩], [_, _], h, _ => by cases h; rfl
theorem bp_13 : BP [Str.ofString "work", Str.ofString "path", Str.ofString "words"] := fun as h name qual body scope kV doc pm an cdv ct us hl => match as, us, h, hl with
  | [⟨_, _, _⟩, ⟨_, _, _⟩, ⟨_, _, _⟩], [_, _, _], h, _ => by cases h; rfl
theorem bp_14 : BP [Str.ofString "tree", Str.ofString "name", Str.ofString "value"] := fun as h name qual body scope kV doc pm an cdv ct us hl => match as, us, h, hl with
  | [⟨_, _, _⟩, ⟨_, _, _⟩, ⟨_, _, _⟩], [_, _, _], h, _ => by cases h; rfl
theorem bp_15 : BP [Str.ofString "store", Str.ofString "tree"] := fun as h name qual body scope kV doc pm an cdv ct us hl => match as, us, h, hl with
  | [⟨_, _, _⟩, ⟨_, _, _⟩], [_, _], h, _ => by cases h; rfl
theorem bp_16 : BP [Str.ofString "store", Str.ofString "deed"] := fun as h name qual body scope kV doc pm an cdv ct us hl => match as, us, h, hl with
  | [⟨_, _, _⟩, ⟨_, _, _⟩], [_, _], h, _ => by cases h; rfl
theorem bp_17 : BP [Str.ofString "store", Str.ofString "deeds"] := fun as h name qual body scope kV doc pm an cdv ct us hl => match as, us, h, hl with
  | [⟨_, _, _⟩, ⟨_, _, _⟩], [_, _], h, _ => by cases h; rfl
theorem bp_18 : BP [Str.ofString "deed"] := fun as h name qual body scope kV doc pm an cdv ct us hl => match as, us, h, hl with
  | [⟨_, _, _⟩], [_], h, _ => by cases h; rfl
theorem bp_19 : BP [Str.ofString "words", Str.ofString "most"] := fun as h name qual body scope kV doc pm an cdv ct us hl => match as, us, h, hl with
  | [⟨_, _, _⟩, ⟨_, _, _⟩], [_, _], h, _ => by cases h; rfl
theorem bp_20 : BP [Str.ofString "deed", Str.ofString "other_deed", Str.ofString "most"] := fun as h name qual body scope kV doc pm an cdv ct us hl => match as, us, h, hl with
  | [⟨_, _, _⟩, ⟨_, _, _⟩, ⟨_, _, _⟩], [_, _, _], h, _ => by cases h; rfl
theorem bp_21 : BP [Str.ofString "text"] := fun as h name qual body scope kV doc pm an cdv ct us hl => match as, us, h, hl with
  | [⟨_, _, _⟩], [_], h, _ => by cases h; rfl
theorem bp_22 : BP [Str.ofString "items"] := fun as h name qual body scope kV doc pm an cdv ct us hl => match as, us, h, hl with
  | [⟨_, _, _⟩], [_], h, _ => by cases h; rfl
theorem bp_23 : BP [Str.ofString "text", Str.ofString "signs"] := fun as h name qual body scope kV doc pm an cdv ct us hl => match as, us, h, hl with
  | [⟨_, _, _⟩, ⟨_, _, _⟩], [_, _], h, _ => by cases h; rfl
theorem bp_24 : BP [Str.ofString "item"] := fun as h name qual body scope kV doc pm an cdv ct us hl => match as, us, h, hl with
  | [⟨_, _, _⟩], [_], h, _ => by cases h; rfl
theorem bp_25 : BP [Str.ofString "head", Str.ofString "item"] := fun as h name qual body scope kV doc pm an cdv ct us hl => match as, us, h, hl with
  | [⟨_, _, _⟩, ⟨_, _, _⟩], [_, _], h, _ => by cases h; rfl
theorem bp_26 : BP [Str.ofString "_law_script"] := fun as h name qual body scope kV doc pm an cdv ct us hl => match as, us, h, hl with
  | [⟨_, _, _⟩], [_], h, _ => by cases h; rfl
theorem bp_27 : BP [Str.ofString "_law_cup_here", Str.ofString "_law_many"] := fun as h name qual body scope kV doc pm an cdv ct us hl => match as, us, h, hl with
  | [⟨_, _, _⟩, ⟨_, _, _⟩], [_, _], h, _ => by cases h; rfl
theorem bp_28 : BP [Str.ofString "_law_cup_here", Str.ofString "_law_things"] := fun as h name qual body scope kV doc pm an cdv ct us hl => match as, us, h, hl with
  | [⟨_, _, _⟩, ⟨_, _, _⟩], [_, _], h, _ => by cases h; rfl
theorem bp_29 : BP [Str.ofString "_law_tree"] := fun as h name qual body scope kV doc pm an cdv ct us hl => match as, us, h, hl with
  | [⟨_, _, _⟩], [_], h, _ => by cases h; rfl
theorem bp_30 : BP [Str.ofString "_law_tree", Str.ofString "_law_parts_here"] := fun as h name qual body scope kV doc pm an cdv ct us hl => match as, us, h, hl with
  | [⟨_, _, _⟩, ⟨_, _, _⟩], [_, _], h, _ => by cases h; rfl
theorem bp_31 : BP [Str.ofString "_law_tree", Str.ofString "_law_bound"] := fun as h name qual body scope kV doc pm an cdv ct us hl => match as, us, h, hl with
  | [⟨_, _, _⟩, ⟨_, _, _⟩], [_, _], h, _ => by cases h; rfl
theorem bp_32 : BP [Str.ofString "_law_tree", Str.ofString "_law_name", Str.ofString "_law_value"] := fun as h name qual body scope kV doc pm an cdv ct us hl => match as, us, h, hl with
  | [⟨_, _, _⟩, ⟨_, _, _⟩, ⟨_, _, _⟩], [_, _, _], h, _ => by cases h; rfl
theorem bp_33 : BP [Str.ofString "_law_tree", Str.ofString "_law_path"] := fun as h name qual body scope kV doc pm an cdv ct us hl => match as, us, h, hl with
  | [⟨_, _, _⟩, ⟨_, _, _⟩], [_, _], h, _ => by cases h; rfl
theorem bp_34 : BP [Str.ofString "_law_tree", Str.ofString "_law_path", Str.ofString "_law_other"] := fun as h name qual body scope kV doc pm an cdv ct us hl => match as, us, h, hl with
  | [⟨_, _, _⟩, ⟨_, _, _⟩, ⟨_, _, _⟩], [_, _, _], h, _ => by cases h; rfl
theorem bp_35 : BP [Str.ofString "_law_sign", Str.ofString "_law_one", Str.ofString "_law_two"] := fun as h name qual body scope kV doc pm an cdv ct us hl => match as, us, h, hl with
  | [⟨_, _, _⟩, ⟨_, _, _⟩, ⟨_, _, _⟩], [_, _, _], h, _ => by cases h; rfl
theorem bp_36 : BP [Str.ofString "_law_here"] := fun as h name qual body scope kV doc pm an cdv ct us hl => match as, us, h, hl with
  | [⟨_, _, _⟩], [_], h, _ => by cases h; rfl
theorem bp_37 : BP [Str.ofString "_law_cells", Str.ofString "_law_tree"] := fun as h name qual body scope kV doc pm an cdv ct us hl => match as, us, h, hl with
  | [⟨_, _, _⟩, ⟨_, _, _⟩], [_, _], h, _ => by cases h; rfl
theorem bp_38 : BP [Str.ofString "_law_cells", Str.ofString "_law_deed_here"] := fun as h name qual body scope kV doc pm an cdv ct us hl => match as, us, h, hl with
  | [⟨_, _, _⟩, ⟨_, _, _⟩], [_, _], h, _ => by cases h; rfl
theorem bp_39 : BP [Str.ofString "_law_cells", Str.ofString "_law_deeds"] := fun as h name qual body scope kV doc pm an cdv ct us hl => match as, us, h, hl with
  | [⟨_, _, _⟩, ⟨_, _, _⟩], [_, _], h, _ => by cases h; rfl
theorem bp_40 : BP [Str.ofString "_law_cells"] := fun as h name qual body scope kV doc pm an cdv ct us hl => match as, us, h, hl with
  | [⟨_, _, _⟩], [_], h, _ => by cases h; rfl
theorem bp_41 : BP [Str.ofString "_law_cup_here", Str.ofString "_law_words", Str.ofString "_law_names", Str.ofString "_law_deep_here"] := fun as h name qual body scope kV doc pm an cdv ct us hl => match as, us, h, hl with
  | [⟨_, _, _⟩, ⟨_, _, _⟩, ⟨_, _, _⟩, ⟨_, _, _⟩], [_, _, _, _], h, _ => by cases h; rfl
theorem bp_42 : BP [Str.ofString "_law_cup_here", Str.ofString "_law_words", Str.ofString "_law_deep_here"] := fun as h name qual body scope kV doc pm an cdv ct us hl => match as, us, h, hl with
  | [⟨_, _, _⟩, ⟨_, _, _⟩, ⟨_, _, _⟩], [_, _, _], h, _ => by cases h; rfl
theorem bp_43 : BP [Str.ofString "_law_words", Str.ofString "_law_most"] := fun as h name qual body scope kV doc pm an cdv ct us hl => match as, us, h, hl with
  | [⟨_, _, _⟩, ⟨_, _, _⟩], [_, _], h, _ => by cases h; rfl
theorem bp_44 : BP [Str.ofString "_law_store", Str.ofString "_law_one", Str.ofString "_law_other"] := fun as h name qual body scope kV doc pm an cdv ct us hl => match as, us, h, hl with
  | [⟨_, _, _⟩, ⟨_, _, _⟩, ⟨_, _, _⟩], [_, _, _], h, _ => by cases h; rfl
theorem bp_45 : BP [Str.ofString "_law_one", Str.ofString "_law_other", Str.ofString "_law_most"] := fun as h name qual body scope kV doc pm an cdv ct us hl => match as, us, h, hl with
  | [⟨_, _, _⟩, ⟨_, _, _⟩, ⟨_, _, _⟩], [_, _, _], h, _ => by cases h; rfl
theorem bp_all : ∀ f, f < 79 → BP (tab.ps f)
  | 0, _ => bp_0
  | 1, _ => bp_0
  | 2, _ => bp_1
  | 3, _ => bp_1
  | 4, _ => bp_2
  | 5, _ => bp_3
  | 6, _ => bp_4
  | 7, _ => bp_1
  | 8, _ => bp_4
  | 9, _ => bp_5
  | 10, _ => bp_6
  | 11, _ => bp_6
  | 12, _ => bp_7
  | 13, _ => bp_4
  | 14, _ => bp_4
  | 15, _ => bp_4
  | 16, _ => bp_8
  | 17, _ => bp_9
  | 18, _ => bp_10
  | 19, _ => bp_4
  | 20, _ => bp_11
  | 21, _ => bp_12
  | 22, _ => bp_13
  | 23, _ => bp_11
  | 24, _ => bp_4
  | 25, _ => bp_1
  | 26, _ => bp_4
  | 27, _ => bp_4
  | 28, _ => bp_4
  | 29, _ => bp_14
  | 30, _ => bp_4
  | 31, _ => bp_4
  | 32, _ => bp_1
  | 33, _ => bp_1
  | 34, _ => bp_1
  | 35, _ => bp_4
  | 36, _ => bp_15
  | 37, _ => bp_16
  | 38, _ => bp_17
  | 39, _ => bp_18
  | 40, _ => bp_19
  | 41, _ => bp_1
  | 42, _ => bp_20
  | 43, _ => bp_21
  | 44, _ => bp_22
  | 45, _ => bp_23
  | 46, _ => bp_21
  | 47, _ => bp_24
  | 48, _ => bp_21
  | 49, _ => bp_24
  | 50, _ => bp_24
  | 51, _ => bp_25
  | 52, _ => bp_24
  | 53, _ => bp_22
  | 54, _ => bp_21
  | 55, _ => bp_26
  | 56, _ => bp_27
  | 57, _ => bp_28
  | 58, _ => bp_29
  | 59, _ => bp_30
  | 60, _ => bp_29
  | 61, _ => bp_29
  | 62, _ => bp_29
  | 63, _ => bp_31
  | 64, _ => bp_32
  | 65, _ => bp_29
  | 66, _ => bp_33
  | 67, _ => bp_34
  | 68, _ => bp_35
  | 69, _ => bp_36
  | 70, _ => bp_37
  | 71, _ => bp_38
  | 72, _ => bp_39
  | 73, _ => bp_40
  | 74, _ => bp_41
  | 75, _ => bp_42
  | 76, _ => bp_43
  | 77, _ => bp_44
  | 78, _ => bp_45
  | n + 79, h => absurd h (by omega)
theorem bp_law : BP [Str.ofString "_law_script"] := bp_26
end N57
end
section
set_option maxRecDepth 100000
set_option maxHeartbeats 4000000
/-! What the head leaves, as the module that the trees ask. -/
namespace N57
open PySem PySem.Spec PyProof.Rows L2
theorem hDef_ok {f : Nat} (h : f < 79) : parB (C8.fnArgs (stOf (tab.fnm f))) (tab.ps f) = true ∧ defB tab f (C8.fnBody (stOf (tab.fnm f))) (C8.fnScope (stOf (tab.fnm f))) = true :=
  Bool.and_eq_true_iff.mp (List.all_eq_true.mp hDefs f (List.mem_range.mpr h))
theorem lam_only : ∀ f, f < 79 → tab.ns f = tab.lamN → tab.fnm f = Str.ofString "outer_places" := by
  have h : (List.range 79).all (fun f => !decide (tab.ns f = tab.lamN) || decide (tab.fnm f = Str.ofString "outer_places")) = true := by decide +kernel
  intro f hf e
  have h1 := List.all_eq_true.mp h f (List.mem_range.mpr hf)
  rw [decide_eq_true e] at h1
  exact of_decide_eq_true (by simpa using h1)
theorem fnm_mem : ∀ f, f < 79 → tab.fnm f ∈ fnms := fun f hf => by
  have hl : fnms.length = 79 := by decide +kernel
  show (fnms[f]?).getD _ ∈ fnms
  rw [List.getElem?_eq_getElem (by omega)]
  exact List.getElem_mem _
section
variable {w : World} {K : PySem.W.Frag} {h : Heap} {mg : Str → Option Value}
abbrev oP : He.Defn := (Str.ofString "outer_places", none)
abbrev lamQ : Str := Str.ofString "outer_places" ++ ".<locals>." ++ "<lambda>"
def gmOf (w : World) (K : PySem.W.Frag) : Gm := ⟨K, w, tab.tbl, [((He.cT K oP).2, lamQ)]⟩
theorem glo_mg (X : K.In h) (G : h.Ns mainGlobals mg) (c : He.SaysX hFa hFn hTs hTf hEx w h K) {x : Str} (hx : x ∈ allN) : mg x = some (.ref (He.ga K x)) :=
  He.glo_ok X G (c.t.d.facts (List.mem_append_left _ (List.mem_map_of_mem hx)))
theorem def_at (X : K.In h) (G : h.Ns mainGlobals mg) (c : He.SaysX hFa hFn hTs hTf hEx w h K) {base : Heap} (hT : ∀ p ∈ [He.cT K oP], LamX.TabB base mg p.1 p.2) (f : Nat) (hf : f < 79) : DefAt K mg base tab (gmOf w K) f := by
  have hm : tab.fnm f ∈ allN := List.mem_cons_of_mem _ (fnm_mem f hf)
  obtain ⟨fd, F⟩ := c.t.d.defs (d := dOf (tab.fnm f)) (List.mem_map_of_mem hm)
  obtain ⟨h1, h2⟩ := hDef_ok hf
  obtain ⟨as, e1, e2⟩ := parB_ok h1
  have B : L2.Binds K fd (tab.ps f) [] := FunD.bindsN (ps := tab.ps f) F fun kV doc pm an cdv ct us hl => by
    show bindArgs (PySem.W.fnOf _ _ (C8.fnArgs (stOf (tab.fnm f))) _ _ .none kV doc pm an cdv ct) ⟨us, []⟩ = _
    rw [e1]
    exact bp_all f hf as e2 _ _ _ _ kV doc pm an cdv ct us hl
  have kp := F.kp
  obtain ⟨oc, od, dV, kV, doc, pm, an, cdv, ct, osl, rfl, lk, hcd, _, _⟩ := F.ex
  refine ⟨_, _, _, _, _, _, oc, od, dV, kV, doc, pm, an, cdv, ct, osl, lk, hcd, kp, glo_mg X G c hm, B, h2, fun e => ?_⟩
  have ex := lam_only f hf e
  obtain ⟨cd, ec⟩ := He.codeIn_ref hcd
  subst ec
  have ecd : (He.cT K oP).1 = cd := by
    have eo : oP = (dOf (tab.fnm f)).at_ := by
      show oP = (tab.fnm f, none)
      rw [ex]
    show He.codeOf K oP = cd
    rw [eo]
    exact He.codeOf_eq lk rfl
  refine ⟨cd, (He.cT K oP).2, rfl, ?_, ?_, ?_⟩
  · rw [← ecd]
    exact hT _ (by simp)
  · show ((He.cT K oP).2, (dOf (tab.fnm f)).qual ++ ".<locals>." ++ "<lambda>") ∈ [((He.cT K oP).2, lamQ)]
    rw [show (dOf (tab.fnm f)).qual = Str.ofString "outer_places" from ex]
    exact List.mem_singleton.mpr rfl
  · intro p hp _
    have hp : p ∈ [((He.cT K oP).2, lamQ)] := hp
    rw [List.mem_singleton] at hp
    rw [hp]
    show lamQ = (dOf (tab.fnm f)).qual ++ ".<locals>." ++ "<lambda>"
    rw [show (dOf (tab.fnm f)).qual = Str.ofString "outer_places" from ex]
theorem wtB_ok {a : Addr} {l : List Wd} (e : wtB K a l = true) : WtAt K a l := by
  unfold wtB at e
  split at e
  · rename_i c od its n osl q
    simp only [Bool.and_eq_true, decide_eq_true_eq] at e
    exact ⟨_, its, n, q, congrArg Value.type e.1, rfl, e.2.1, He.relAll_ok e.2.2⟩
  · cases e
theorem tab_at (c : He.SaysX hFa hFn hTs hTf hEx w h K) (x : String) (n : Nat) (i : Nat) (hi : hTs[i]? = some (fun K => He.ga K (Str.ofString x), keysD (tbls n))) (hw : (tbls n).all (w0B K (He.ga K (Str.ofString x))) = true) : WdAt (gmOf w K) (He.ga K (Str.ofString x)) n := by
  obtain ⟨es, m, kd⟩ := c.t.tab i hi
  refine ⟨es, m, kd, fun p hp => ?_⟩
  have h1 := List.all_eq_true.mp hw p hp
  unfold w0B at h1
  split at h1
  · rename_i e1 e2
    rw [e1]
    exact e2
  · rename_i i' j t e1 e2
    rw [e1]
    have := of_decide_eq_true h1
    subst this
    exact ⟨_, e2, _, rfl⟩
  · rename_i l b e1 e2
    rw [e1]
    exact ⟨_, e2, b, rfl, wtB_ok h1⟩
  · cases h1
theorem gl_at (X : K.In h) (G : h.Ns mainGlobals mg) (c : He.SaysX hFa hFn hTs hTf hEx w h K) (g : Nat) (hg : g < 16) : ∃ u v, mg (tab.gnm g) = some u ∧ L2.RelV v u ∧ ∀ C H, Rep (gmOf w K) C H v (tab.gval g) := by
  have hB : gvB K (tab.gnm g) (tab.gval g) = true := by
    have h1 := c.more
    have hl1 : gnms.length = 16 := by decide +kernel
    have hl2 : gvals.length = 16 := rfl
    have hm : (tab.gnm g, tab.gval g) ∈ gnms.zip gvals := by
      have e : (gnms.zip gvals)[g]? = some (tab.gnm g, tab.gval g) := by
        rw [List.getElem?_zip_eq_some]
        refine ⟨?_, ?_⟩
        · show gnms[g]? = some ((gnms[g]?).getD _)
          rw [List.getElem?_eq_getElem (by omega)]; rfl
        · show gvals[g]? = some ((gvals[g]?).getD _)
          rw [List.getElem?_eq_getElem (by omega)]; rfl
      exact List.mem_of_getElem? e
    exact List.all_eq_true.mp h1 _ hm
  have hwd : ∀ n : Nat, tab.gval g = .wd n → ∃ (x : String) (i : Nat), tab.gnm g = Str.ofString x ∧ hTs[i]? = some (fun K => He.ga K (Str.ofString x), keysD (tbls n)) := by
    intro n e
    rcases (by omega : g = 0 ∨ g = 1 ∨ g = 2 ∨ g = 3 ∨ g = 4 ∨ g = 5 ∨ g = 6 ∨ g = 7 ∨ g = 8 ∨ g = 9 ∨ g = 10 ∨ g = 11 ∨ g = 12 ∨ g = 13 ∨ g = 14 ∨ g = 15) with rfl | rfl | rfl | rfl | rfl | rfl | rfl | rfl | rfl | rfl | rfl | rfl | rfl | rfl | rfl | rfl <;> first | (cases e; done) | skip
    · cases e
      exact ⟨"FORMS", 0, rfl, rfl⟩
    · cases e
      exact ⟨"WAITING", 1, rfl, rfl⟩
    · cases e
      exact ⟨"HEADS", 2, rfl, rfl⟩
  cases e : tab.gval g with
  | int i =>
    rw [e] at hB
    replace hB : (match PySem.W.nsIn K mainGlobals (tab.gnm g) with
      | some (some (.int j _)) => decide (j = i)
      | _ => false) = true := hB
    split at hB
    · rename_i j t q
      have := of_decide_eq_true hB
      subst this
      exact ⟨_, .int j, PySem.W.mg_of X G q, ⟨t, rfl⟩, fun C H => .int j⟩
    · cases hB
  | str s =>
    rw [e] at hB
    replace hB : (match PySem.W.nsIn K mainGlobals (tab.gnm g) with
      | some (some (.str y _)) => decide (y = toS s)
      | _ => false) = true := hB
    split at hB
    · rename_i y t q
      have := of_decide_eq_true hB
      subst this
      exact ⟨_, .str (toS s), PySem.W.mg_of X G q, ⟨t, rfl⟩, fun C H => .str s⟩
    · cases hB
  | wt l =>
    rw [e] at hB
    obtain ⟨b1, b2⟩ := Bool.and_eq_true_iff.mp (show ((He.Fa.glo (tab.gnm g)).ok K && wtB K (He.ga K (tab.gnm g)) l) = true from hB)
    exact ⟨_, .ref (He.ga K (tab.gnm g)), He.glo_ok X G b1, rfl, fun C H => .wt (wtB_ok b2)⟩
  | wd n =>
    obtain ⟨x, i, ex, hi⟩ := hwd n e
    rw [e] at hB
    obtain ⟨b1, b2⟩ := Bool.and_eq_true_iff.mp (show ((He.Fa.glo (tab.gnm g)).ok K && (tbls n).all (w0B K (He.ga K (tab.gnm g)))) = true from hB)
    rw [ex] at b1 b2 ⊢
    exact ⟨_, .ref (He.ga K (Str.ofString x)), He.glo_ok X G b1, rfl, fun C H => .wd (tab_at c x n i hi b2)⟩
  | _ => rw [e] at hB; cases hB
theorem blt_at (X : K.In h) (G : h.Ns mainGlobals mg) (c : He.SaysX hFa hFn hTs hTf hEx w h K) : ∀ n ∈ bltN, mg (Str.ofString n) = none := fun n hn =>
  He.free_ok X G (c.t.d.facts (List.mem_append_right _ (List.mem_map_of_mem hn)))
end
end N57
end
section
set_option maxRecDepth 100000
set_option maxHeartbeats 4000000
/-! The law's own text: its cup, its first statement; the end. -/
namespace N57
open PySem PySem.Spec PyProof.Rows L2
/-! ### two first statements -/
structure CupT where
  (p1 p2 p3 p4 p5 p6 p7 p8 p9 p10 p11 p12 : Pos)
  (k1 k2 : Nat)
  sts : List Stmt
def CupT.text (m : CupT) : List Stmt := .Assign [.Name "_law_cell" m.p1] (.Call (.Name "abs" m.p2) [.Subscript (.BinOp (.Call (.Name "list" m.p3) [.Name "_law_script" m.p4] [] m.p5) .Add (.List [.Constant (.int 0) m.k1 m.p6] m.p7) m.p8) (.Constant (.int 0) m.k2 m.p9) m.p10] [] m.p11) m.p12 :: m.sts
def cupArgs : List Stmt → Option CupT
  | .Assign [.Name y p1] (.Call (.Name ab p2) [.Subscript (.BinOp (.Call (.Name ls p3) [.Name sc p4] [] p5) .Add (.List [.Constant (.int i1) k1 p6] p7) p8) (.Constant (.int i2) k2 p9) p10] [] p11) p12 :: sts =>
    if y = "_law_cell" ∧ ab = "abs" ∧ ls = "list" ∧ sc = "_law_script" ∧ i1 = 0 ∧ i2 = 0 then some ⟨p1, p2, p3, p4, p5, p6, p7, p8, p9, p10, p11, p12, k1, k2, sts⟩ else none
  | _ => none
theorem cupArgs_ok {l : List Stmt} {m : CupT} (h : cupArgs l = some m) : l = m.text := by
  unfold cupArgs at h
  split at h
  · split at h
    · rename_i hy
      obtain ⟨rfl, rfl, rfl, rfl, rfl, rfl⟩ := hy
      cases h
      rfl
    · cases h
  · cases h
structure LawT where
  (p1 p2 p3 p4 p5 : Pos)
  sts : List Stmt
def LawT.text (m : LawT) : List Stmt := .Assign [.Name "_law_cup_here" m.p1] (.Call (.Name "_law_cup" m.p2) [.Name "_law_script" m.p3] [] m.p4) m.p5 :: m.sts
def lawArgs : List Stmt → Option LawT
  | .Assign [.Name y p1] (.Call (.Name f p2) [.Name sc p3] [] p4) p5 :: sts =>
    if y = "_law_cup_here" ∧ f = "_law_cup" ∧ sc = "_law_script" then some ⟨p1, p2, p3, p4, p5, sts⟩ else none
  | _ => none
theorem lawArgs_ok {l : List Stmt} {m : LawT} (h : lawArgs l = some m) : l = m.text := by
  unfold lawArgs at h
  split at h
  · split at h
    · rename_i hy
      obtain ⟨rfl, rfl, rfl⟩ := hy
      cases h
      rfl
    · cases h
  · cases h
abbrev cupN : List Str := [Str.ofString "_law_script", Str.ofString "_law_cell", Str.ofString "_law_great"]
abbrev cupSt : Stmt := stOf (Str.ofString "_law_cup")
abbrev lawSt : Stmt := stOf (Str.ofString "law")
abbrev restC : Sm := .cons b_law_cup_1 (.cons b_law_cup_2 .nil)
abbrev restL : Sm := .cons b_law_1 (.cons b_law_2 (.cons b_law_3 (.cons b_law_4 (.cons b_law_5 (.cons b_law_6 (.cons b_law_7 (.cons b_law_8 .nil)))))))
def cupB : Bool := C8.scC cupN [Str.ofString "_law_script"] (C8.fnScope cupSt) && glB (C8.fnScope cupSt) "abs" && glB (C8.fnScope cupSt) "list" && lclB (C8.fnScope cupSt) "_law_cell" && visB (C8.fnScope cupSt) "_law_script" && !decide (cupN = tab.lamN) && listS restC && (match cupArgs (C8.fnBody cupSt) with
  | some m => chkS tab cupN (C8.fnScope cupSt) (fnSt (C8.fnScope cupSt)) restC m.sts
  | none => false)
theorem cupB_ok : cupB = true := by decide +kernel
def lawB : Bool := C8.scC lawN [Str.ofString "_law_script"] (C8.fnScope lawSt) && glB (C8.fnScope lawSt) "_law_cup" && lclB (C8.fnScope lawSt) "_law_cup_here" && visB (C8.fnScope lawSt) "_law_script" && !decide (lawN = tab.lamN) && listS restL && (match lawArgs (C8.fnBody lawSt) with
  | some m => chkS tab lawN (C8.fnScope lawSt) (fnSt (C8.fnScope lawSt)) restL m.sts
  | none => false)
theorem lawB_ok : lawB = true := by decide +kernel
theorem parLaw : parB (C8.fnArgs lawSt) [Str.ofString "_law_script"] = true := by decide +kernel
end N57
end
section
set_option maxRecDepth 100000
set_option maxHeartbeats 4000000
namespace N57
open PySem PySem.Spec PyProof.Rows L2
section
variable {w : World} {K : PySem.W.Frag} {h : Heap} {mg : Str → Option Value} {base : Heap}
abbrev tabA (K : PySem.W.Frag) : Addr := (He.cT K oP).2
theorem mod_at (X : K.In h) (G : h.Ns mainGlobals mg) (c : He.SaysX hFa hFn hTs hTf hEx w h K) (hT : ∀ p ∈ [He.cT K oP], LamX.TabB base mg p.1 p.2) : Mod base K mg tab (gmOf w K) where
  tbl := rfl
  def_ f hf := def_at X G c hT f hf
  gls g hg := gl_at X G c g hg
  blt := blt_at X G c
  rk := rk_all _
  rk2 := rk2_all _
/-- nothing is held but the table -/
def cn0 (K : PySem.W.Frag) : Cn := ⟨fun a => a = tabA K, fun a => a = tabA K, none⟩
def cn1 (K : PySem.W.Frag) (p : Addr) : Cn := ⟨fun a => a = tabA K ∨ a = p, fun a => a = tabA K ∨ a = p, some p⟩
theorem held0 {H : Hp} (ht : H (tabA K) = some (.tbl #[])) (st : Cup) : Held (gmOf w K) (cn0 K) st H where
  trk a ha := .inr ⟨(tabA K, lamQ), List.mem_singleton.mpr rfl, (show a = tabA K from ha).symm⟩
  ms a ha := ha
  cup a ha := nomatch (show (none : Option Addr) = some a from ha)
  tabs p hp := by
    have hp : p ∈ [(tabA K, lamQ)] := hp
    rw [List.mem_singleton] at hp
    subst hp
    exact ⟨rfl, LamX.TabS.nil ht⟩
theorem held1 {H : Hp} {st st' : Cup} {p : Addr} (hl : Held (gmOf w K) (cn0 K) st H) (hp : H p = some (.lst [.int st'.1, .int st'.2])) (hc : CupOk st') : Held (gmOf w K) (cn1 K p) st' H where
  trk a ha := by
    rcases ha with ha | ha
    · exact hl.trk a ha
    · subst ha
      exact .inl ⟨_, hp, fun _ z => nomatch z⟩
  ms a ha := ha
  cup a ha := by
    cases (show some p = some a from ha)
    exact ⟨.inr rfl, hp, hc⟩
  tabs q hq := ⟨.inl (hl.tabs q hq).1, (hl.tabs q hq).2⟩
/-- the cup's promise -/
def spCup (w : World) (K : PySem.W.Frag) : Sp := fun vs H Q _ => ∃ (a : Addr) (ns : List Int), vs = [.ref a] ∧ ns.length ≤ 1000 ∧ SqL K H a (ns.map V.int) ∧ H (tabA K) = some (.tbl #[]) ∧
  ∀ p H' st st', Held (gmOf w K) (cn0 K) st H' → H' p = some (.lst [.int st'.1, .int st'.2]) → CupOk st' → Q (.ref p) H'
theorem cup_ok (X : K.In h) (G : h.Ns mainGlobals mg) (c : He.SaysX hFa hFn hTs hTf hEx w h K) (hT : ∀ p ∈ [He.cT K oP], LamX.TabB base mg p.1 p.2) :
    ∃ a fd, mg "_law_cup" = some (.ref a) ∧ PySem.W.keepIn K (.ref a) = true ∧ L2.Binds K fd [Str.ofString "_law_script"] [] ∧ FnOk theP w K mg base CX0 2 a fd [Str.ofString "_law_script"] (spCup w K) := by
  have M := mod_at (base := base) X G c hT
  have hf : 55 < 79 := by omega
  have hnm : tab.fnm 55 = Str.ofString "_law_cup" := rfl
  have hm : Str.ofString "_law_cup" ∈ allN := List.mem_cons_of_mem _ (fnm_mem 55 hf)
  obtain ⟨fd, F⟩ := c.t.d.defs (d := dOf (Str.ofString "_law_cup")) (List.mem_map_of_mem hm)
  obtain ⟨h1, h2⟩ := hDef_ok hf
  obtain ⟨as, e1, e2⟩ := parB_ok h1
  have B : L2.Binds K fd [Str.ofString "_law_script"] [] := FunD.bindsN (ps := [Str.ofString "_law_script"]) F fun kV doc pm an cdv ct us hl => by
    show bindArgs (PySem.W.fnOf _ _ (C8.fnArgs (stOf (tab.fnm 55))) _ _ .none kV doc pm an cdv ct) ⟨us, []⟩ = _
    rw [e1]
    exact bp_all 55 hf as e2 _ _ _ _ kV doc pm an cdv ct us hl
  have kp := F.kp
  obtain ⟨oc, od, dV, kV, doc, pm, an, cdv, ct, osl, rfl, lk, hcd, _, _⟩ := F.ex
  have hB := cupB_ok
  unfold cupB at hB
  simp only [Bool.and_eq_true, Bool.not_eq_true', decide_eq_false_iff_not] at hB
  obtain ⟨⟨⟨⟨⟨⟨⟨b1, b2⟩, b3⟩, b4⟩, b5⟩, b6⟩, b7⟩, b8⟩ := hB
  have S := C8.fnScope_by b1
  refine ⟨_, _, glo_mg X G c hm, kp, B, fn_of lk hcd S (fun vs H Q E ⟨a, ns, e, _⟩ => by rw [e]; rfl) ?_⟩
  rintro A outer s H vs Q E hr ⟨a, ns, rfl, hns, hS, ht, hQ⟩
  have ih := fns_ok (P := theP) (w := w) (base := base) M rfl rfl 0
  have x : XOk tab (gmOf w K) 0 cupN (cxOf CX0 theP w K mg base cupN (Str.ofString "_law_cup") (C8.fnScope cupSt) (He.fAd K (dOf (Str.ofString "_law_cup")).at_) cdv A outer s H E).nox (C8.fnScope cupSt) (fnSt (C8.fnScope cupSt)) :=
    xok_of M rfl rfl rfl rfl rfl rfl S.nd rfl S.kind rfl rfl (fun y hy => by
      unfold fnSt at hy
      split at hy
      · exact ⟨.inl (by assumption), .inl rfl⟩
      · exact ⟨.inr (by assumption), .inl rfl⟩
      · cases hy) hr (fun e => absurd e b6) ih
  split at b8
  · rename_i m hm2
    have et : C8.fnBody cupSt = m.text := cupArgs_ok hm2
    have hcat : CallR (cxOf CX0 theP w K mg base cupN (Str.ofString "_law_cup") (C8.fnScope cupSt) (He.fAd K (dOf (Str.ofString "_law_cup")).at_) cdv A outer s H E).nox (.type "list") (rPr K .list) := call_Pr rfl .list rfl
    have st1 := ps_set (X := (cxOf CX0 theP w K mg base cupN (Str.ofString "_law_cup") (C8.fnScope cupSt) (He.fAd K (dOf (Str.ofString "_law_cup")).at_) cdv A outer s H E).nox) (i := 1) (x := "_law_cell") (pos := m.p12) (pos' := m.p1) S.nd rfl (.inl (lclB_ok b4))
      (pe_callB (pos := m.p11) (p := m.p2) call_abs (x.gl b2) (x.blt "abs" (by decide)) (by decide +kernel) (pa_cons (pe_ix (pos := m.p10) ix_list (pe_op (pos := m.p8) op_cat (pe_callTy (pos := m.p5) (p := m.p3) hcat (x.gl b3) (x.blt "list" (by decide)) (by decide +kernel) (pa_cons (pe_var (i := 0) (pos := m.p4) rfl (visB_ok b5)) pa_nil))
        (pe_lst (pos := m.p7) (pa_cons (pe_int (i := 0) (j := m.k1) (pos := m.p6)) pa_nil))) (pe_int (i := 0) (j := m.k2) (pos := m.p9)) (ixs_ok rfl)) pa_nil))
    have rest := body_ok (P := theP) (w := w) (base := base) M rfl rfl ih x b7 b8
    have pp := (pss_cons st1 rest).nox
    replace pp := (show PSs _ m.text _ from pp)
    rw [← et] at pp
    refine ⟨_, pp, ?_⟩
    · obtain ⟨z, zs, ez⟩ : ∃ (z : Int) (zs : List Int), ns ++ [0] = z :: zs := by
        cases ns with
        | nil => exact ⟨0, [], rfl⟩
        | cons a l => exact ⟨a, l ++ [0], rfl⟩
      refine ⟨_, rfl, _, _, rfl, .inl hS, fun l1 hl1 => ?_⟩
      refine ⟨by unfold sizeLine; simp, fun l2 hl2 => ?_⟩
      have hne : l1 ≠ l2 := fun e => by
        subst e
        rw [upd_same] at hl2
        cases hl2
      refine ⟨l1, l2, _, _, rfl, rfl, (upd_ne hne).trans upd_same, upd_same, by simp; unfold sizeLine; omega, fun l3 hl3 => ?_⟩
      refine ⟨l3, _, 0, .int z, rfl, rfl, SqL.of upd_same, ?_, ?_⟩
      · have e : ns.map V.int ++ [V.int 0] = V.int z :: zs.map V.int := by
          have := congrArg (List.map V.int) ez
          simpa using this
        show L2.atI (ns.map V.int ++ [V.int 0]) 0 = some (.int z)
        rw [e]
        unfold L2.atI L2.ixN
        rw [if_pos (by omega), if_pos (by simp)]
        rfl
      refine ⟨z, rfl, ?_⟩
      have hh0 : upd (upd (upd H l1 (.lst (ns.map V.int))) l2 (.lst [.int 0])) l3 (.lst (ns.map V.int ++ [.int 0])) (tabA K) = some (.tbl #[]) := by
        have n1 : tabA K ≠ l1 := fun e => by rw [← e, ht] at hl1; cases hl1
        have k1 : upd H l1 (.lst (ns.map V.int)) (tabA K) = some (.tbl #[]) := (upd_ne n1).trans ht
        have n2 : tabA K ≠ l2 := fun e => by rw [← e, k1] at hl2; cases hl2
        have k2 := (upd_ne (H := upd H l1 (.lst (ns.map V.int))) (o := .lst [.int 0]) n2).trans k1
        have n3 : tabA K ≠ l3 := fun e => by rw [← e, k2] at hl3; cases hl3
        exact (upd_ne n3).trans k2
      obtain ⟨g, cc, c1, c2, hx⟩ := cup_rest (if z < 0 then -z else z) none 0 (0, 0)
      refine ⟨cn0 K, (0, 0), [none, some (.int (if z < 0 then -z else z)), none], _, (0, 0), held0 hh0 _, ?_, hx.h, ?_⟩
      · refine ⟨rfl, fun i d hi => ?_⟩
        match i, hi with
        | 1, hi => cases hi; exact ⟨_, rfl, .int _⟩
        | n + 3, hi => cases hi
      · intro v H' xe hl' rp
        cases rp with
        | lst r1 r2 r3 =>
        obtain ⟨v1, v2, rfl, q1, q2⟩ := r3.inv2
        cases q1
        cases q2
        exact hQ _ H' (0, 0) (g, cc) hl' r1 ⟨c1, c2⟩
  · cases b8
end
end N57
end
section
set_option maxRecDepth 100000
set_option maxHeartbeats 4000000
namespace N57
open PySem PySem.Spec PyProof.Rows L2
section
variable {w : World} {K : PySem.W.Frag} {h : Heap} {mg : Str → Option Value} {base : Heap}
def spLaw (K : PySem.W.Frag) : Sp := fun vs H Q _ => ∃ (a : Addr) (ns : List Int), vs = [.ref a] ∧ ns.length ≤ 1000 ∧ SqL K H a (ns.map V.int) ∧ H (tabA K) = some (.tbl #[]) ∧ ∀ H', Q (.bl true) H'
theorem law_ok (X : K.In h) (G : h.Ns mainGlobals mg) (c : He.SaysX hFa hFn hTs hTf hEx w h K) :
    ∃ a fd, mg "law" = some (.ref a) ∧ (∀ (s : Shared) (u : Value), BindsTo s fd ⟨[u], []⟩ [(Str.ofString "_law_script", u)]) ∧
      ∀ base : Heap, (∀ p ∈ [He.cT K oP], LamX.TabB base mg p.1 p.2) → FnOk theP w K mg base CX0 208 a fd [Str.ofString "_law_script"] (spLaw K) := by
  have hm : Str.ofString "law" ∈ allN := List.mem_cons_self ..
  obtain ⟨fd, F⟩ := c.t.d.defs (d := dOf (Str.ofString "law")) (List.mem_map_of_mem hm)
  obtain ⟨as, e1, e2⟩ := parB_ok parLaw
  have B : ∀ (s : Shared) (u : Value), BindsTo s fd ⟨[u], []⟩ [(Str.ofString "_law_script", u)] := fun s u => FunD.bindsA (ps := [Str.ofString "_law_script"]) F (fun kV doc pm an cdv ct us hl => by
    show bindArgs (PySem.W.fnOf _ _ (C8.fnArgs lawSt) _ _ .none kV doc pm an cdv ct) ⟨us, []⟩ = _
    rw [e1]
    exact bp_law as e2 _ _ _ _ kV doc pm an cdv ct us hl) s [u] rfl
  obtain ⟨oc, od, dV, kV, doc, pm, an, cdv, ct, osl, rfl, lk, hcd, _, _⟩ := F.ex
  have hB := lawB_ok
  unfold lawB at hB
  simp only [Bool.and_eq_true, Bool.not_eq_true', decide_eq_false_iff_not] at hB
  obtain ⟨⟨⟨⟨⟨⟨b1, b2⟩, b4⟩, b5⟩, b6⟩, b7⟩, b8⟩ := hB
  have S := C8.fnScope_by b1
  refine ⟨_, _, glo_mg X G c hm, B, fun base hT => fn_of lk hcd S (fun vs H Q E ⟨a, ns, e, _⟩ => by rw [e]; rfl) ?_⟩
  have M := mod_at (base := base) X G c hT
  rintro A outer s H vs Q E hr ⟨a, ns, rfl, hns, hS, ht, hQ⟩
  have ih := fns_ok (P := theP) (w := w) (base := base) M rfl rfl 206
  obtain ⟨ca, cfd, cm, ck, cb, cF⟩ := cup_ok (base := base) X G c hT
  have x : XOk tab (gmOf w K) 206 lawN (cxOf CX0 theP w K mg base lawN (Str.ofString "law") (C8.fnScope lawSt) (He.fAd K (dOf (Str.ofString "law")).at_) cdv A outer s H E).nox (C8.fnScope lawSt) (fnSt (C8.fnScope lawSt)) :=
    xok_of M rfl rfl rfl rfl rfl rfl S.nd rfl S.kind rfl rfl (fun y hy => by
      unfold fnSt at hy
      split at hy
      · exact ⟨.inl (by assumption), .inl rfl⟩
      · exact ⟨.inr (by assumption), .inl rfl⟩
      · cases hy) hr (fun e => absurd e b6) ih
  split at b8
  · rename_i m hm2
    have et : C8.fnBody lawSt = m.text := lawArgs_ok hm2
    have st1 := ps_set (X := (cxOf CX0 theP w K mg base lawN (Str.ofString "law") (C8.fnScope lawSt) (He.fAd K (dOf (Str.ofString "law")).at_) cdv A outer s H E).nox) (i := 1) (x := "_law_cup_here") (pos := m.p5) (pos' := m.p1) S.nd rfl (.inl (lclB_ok b4))
      (pe_call (E := C8.E0) (pos := m.p4) (p := m.p2) cF (hr.mono (by decide)) (x.gl b2) cm ck cb .nil C8.pass0 (pa_cons (pe_var (i := 0) (pos := m.p3) rfl (visB_ok b5)) pa_nil))
    have rest := body_ok (P := theP) (w := w) (base := base) M rfl rfl ih x b7 b8
    have pp := (pss_cons st1 rest).nox
    replace pp := (show PSs _ m.text _ from pp)
    rw [← et] at pp
    refine ⟨_, pp, ?_⟩
    refine ⟨_, rfl, a, ns, rfl, hns, hS, ht, fun p H' st st' hl hp hc => ?_⟩
    obtain ⟨s1, hx⟩ := law_rest 0 st' none
    refine ⟨cn1 K p, st', [none, some .cup, none, none, none, none, none, none, none, none, none, none], _, s1, held1 hl hp hc, ?_, hx.h, ?_⟩
    · refine ⟨rfl, fun i d hi => ?_⟩
      match i, hi with
      | 1, hi => cases hi; exact ⟨_, rfl, .cup rfl⟩
      | n + 12, hi => cases hi
    · intro v H2 _ _ rp
      cases rp
      exact hQ H2
  · cases b8
end
end N57
open PySem PySem.W PySem.Calls PyProof.Rows
theorem PySem.Challenge.cw_namesapart_k57_whole_stores_that_tell_or_holds : PySem.Challenge.rw_namesapart_k57_whole_stores_that_tell_or.Holds := by
  refine N57.top_done ?_
  refine LamX.walk_ofTsE (l := PySem.Challenge.rw_namesapart_k57_whole_stores_that_tell_or) (n := 63) (k := 208) (x := PySem.Str.ofString "_law_script") (CX := fun _ => L2.CX0) rfl (by decide) N57.top_plain ⟨rfl, by decide, by decide⟩ ?F (fun _ _ _ _ _ z => z)
  intro w mg fa h Y G hmg0
  obtain ⟨K, KX, c⟩ := Y
  have hmg : mg (PySem.Str.ofString "law") = some (.ref fa) := by
    have e := N57.top_name
    rw [← e]
    exact hmg0
  obtain ⟨a, fd, ha, hb, hF⟩ := N57.law_ok KX G c
  have ea : a = fa := by
    have := ha.symm.trans hmg
    cases this
    rfl
  subst ea
  refine ⟨K, KX, fd, [He.cT K N57.oP], N57.spLaw K, ?_, ?_, ?_, hb, ?_, fun base _ _ hT => hF base hT⟩
  · intro p hp
    rw [List.mem_singleton] at hp
    subst hp
    exact c.empty _ (List.mem_singleton.mpr rfl)
  · intro p hp
    rw [List.mem_singleton] at hp
    subst hp
    exact c.out _ (List.mem_singleton.mpr rfl)
  · intro p hp
    rw [List.mem_singleton] at hp
    subst hp
    exact PySem.W.codeHd_of_K KX (c.hd _ (List.mem_singleton.mpr rfl))
  · intro H a ns hlen _ hT hS
    exact ⟨a, ns, rfl, by omega, hS, hT _ (List.mem_singleton.mpr rfl), fun _ => rfl⟩
end
