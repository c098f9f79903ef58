import PyProof.Rows.All
import Wide.All
import OpenK.AllK
import Wide.FinOn
import HandS.ForMost
import HandS.Exc
import HandS.ExcOwn
import HandS.Flow
import HandS.TupAny
import HandS.IsInst
import HandS.Conv
import HandS.Zip
import HandS.Strs
import HandS.SetFor
import HandS.Style
import PyProof.Rows.SortShell
import HandS.Dict
import HandS.Words
import HandS.WordsExc
import HandS.OwnEq
import HandS.More
import HandS.SlotsOwn
import HandS.DictComp
import PySem.Challenge.RW_anytaste_k82_axes_threes_fours_judged
set_option Elab.async false
set_option linter.all false
set_option maxRecDepth 100000
set_option maxHeartbeats 4000000
/-! Tuples that are known to have no dict of their own (a method of theirs can be called). -/
namespace Dl
open PySem PySem.Spec PyProof.Rows L2
def TupN (K : PySem.W.Frag) (G : Hp) (a : Addr) (vs : List V) : Prop :=
  (∃ o, G a = some (.frz o (.tup vs)) ∧ o.dict = none) ∨ ∃ (o : Obj) (its : Array Value) (n : Nat), K.lookup a = some o ∧ o.cls = .type "tuple" ∧ o.dict = none ∧ o.data = .seq its n ∧ its.size ≤ sizeLine ∧ Vals vs its.toList
theorem TupN.sq {K : PySem.W.Frag} {G : Hp} {a : Addr} {vs : List V} (h : TupN K G a vs) : SqT K G a vs := by
  rcases h with ⟨o, h, _⟩ | ⟨o, its, n, h1, h2, _, h3⟩
  · exact .inl (.inr ⟨o, h⟩)
  · exact .inr ⟨o, its, n, h1, h2, h3⟩
theorem TupN.of {K : PySem.W.Frag} {G : Hp} {a : Addr} {o : Obj} {vs : List V} (h : G a = some (.frz o (.tup vs))) (hd : o.dict = none) : TupN K G a vs := .inl ⟨o, h, hd⟩
/-- a new tuple -/
def NewT (H : Hp) (Q : VK) (xs : List V) : Prop := ∀ p o, H p = none → o.dict = none → Q (.ref p) (upd H p (.frz o (.tup xs)))
section
variable {X : Cx} {pos : Pos} {e : Expr} {es : List Expr} {te : TE} {t : TA}
theorem laidT {pins : List (Addr × Obj)} {σ : L2.St} {H : Hp} {s : Shared} {Q : VK} {xs : List V} {us : List Value} (I : Inv X pins σ H s) (z : xs.length ≤ sizeLine) (r : Vals xs us) (q : NewT H Q xs) :
    EP X pins σ Q (.ref s.heap.objs.size) { s with heap := s.heap.push { cls := .type "tuple", data := .seq us.toArray } } := by
  refine ⟨.ref s.heap.objs.size, upd H s.heap.objs.size (.frz { cls := .type "tuple", data := .seq us.toArray } (.tup xs)), I.laid (t' := s.toks) (fun b u e => Heap.get?_push_of_some _ e) (Nat.le_refl _) ?_, rfl, q _ _ (I.hok.fresh (Nat.le_refl _)) rfl⟩
  exact ⟨Heap.get?_push_size _ rfl, z, us, r, ⟨_, Heap.get?_push_size _ rfl, rfl, _, rfl⟩⟩
theorem pe_tupF {x1} (h : PA X es t) : PE X (.Tuple es x1 pos) (fun σ H Q => t σ H fun xs H1 => xs.length ≤ sizeLine ∧ NewT H1 Q xs) := by
  refine ⟨fun pins s σ H Q I hq => ?_⟩
  refine wpAny_Tuple_spliced (thn (h.run pos pins s σ H _ I hq) fun us s1 ⟨xs, H1, I1, r, z, q⟩ => ⟨by rw [← r.length]; exact z, ?_⟩)
  exact laidT I1 z r q
theorem call_tupF : CallR X (.type "tuple") (fun xs H Q => ∃ p ys, xs = [.ref p] ∧ ((SqL X.K H p ys ∧ NewT H Q ys) ∨ (SqT X.K H p ys ∧ Q (.ref p) H))) := by
  intro pins s σ H xs us Q I r h
  obtain ⟨p, ys, rfl, h⟩ := h
  obtain ⟨u, rfl, rx⟩ := vals1 r
  cases rx
  rcases h with ⟨hq, q⟩ | ⟨hq, q⟩
  · obtain ⟨its, r', pl, hz⟩ := I.list hq
    have hlen := r'.length
    refine call_tuple_list pl.isList (fun h' kp => ?_) (by simp only [List.size_toArray] <;> omega)
    have I1 : Inv X pins σ H { s with heap := h' } := I.kept (t' := s.toks) kp
    exact laidT I1 hz r' q
  · obtain ⟨its, r', pl, hz⟩ := I.tuple hq
    exact call_tuple_same pl ⟨.ref p, H, I, rfl, q⟩
theorem pe_tupRgF {te : L2.St → Hp → (Int → Int → Hp → Prop) → Prop} {p pos : Pos} (hc : X.calm = true) (hg : Gl X "tuple") (hm : X.mg "tuple" = none) (he : PRg X e te) (na : starEach [e] X.env = (false, eval e X.env) :: starEach [] X.env := by rfl) :
    PE X (.Call (.Name "tuple" p) [e] [] pos) (fun σ H Q => te σ H fun a b H1 => RgOk a b ∧ NewT H1 Q (rgV a b)) := by
  refine ⟨fun pins s σ H Q I h => ?_⟩
  refine Call_ (ld_blt I hg hm boot_tuple (PyProof.Rows.callWith_type1 (args_cons (thn (he pins s σ H _ I h) fun x s1 ⟨r, a, b, t, u, v, H1, ex, hr, I1, ok, q⟩ => args_nil ?_) na) na))
  subst ex
  obtain ⟨b1, b2, b3, b4, b5⟩ := ok
  refine call_tuple_range (n := (b - a).toNat) (I1.ok.hd hc) hr (small_one b1 b2 b3 b4) (rangeSize_nat a b) b5 fun h' tk acc hk hi => ?_
  have I2 : Inv X pins σ H1 { s1 with heap := h', toks := tk } := I1.kept hk
  have := laidT (us := acc.toList) I2 (by rw [rgV_length, sizeLine_eq]; omega) (vals_rg hi) q
  rw [Array.toArray_toList] at this
  exact this
def rCatF (K : PySem.W.Frag) : R2 := fun x y H Q => ∃ a b xs ys, x = .ref a ∧ y = .ref b ∧ SqT K H a xs ∧ SqT K H b ys ∧ xs.length + ys.length ≤ sizeLine ∧
  (xs = [] → Q (.ref b) H) ∧ (xs ≠ [] → ys = [] → Q (.ref a) H) ∧ (xs ≠ [] → ys ≠ [] → NewT H Q (xs ++ ys))
theorem op_catF : OpR X (binaryOp .Add) (rCatF X.K) := by
  intro pins s σ H x y v u Q I rx ry h
  obtain ⟨a, b, xs, ys, rfl, rfl, ha, hb, hz, q0, q1, q2⟩ := h
  cases rx
  cases ry
  obtain ⟨its, r1, p1, _⟩ := I.tuple ha
  obtain ⟨its2, r2, p2, _⟩ := I.tuple hb
  by_cases hx : xs = []
  · subst hx
    cases r1
    exact cat_tup0 p1 p2 ⟨.ref b, H, I, rfl, q0 rfl⟩
  · refine HT.cat_tup p1 p2 (fun z => hx (r1.nil_iff.mp z)) (fun z => ⟨.ref a, H, I, rfl, q1 hx (r2.nil_iff.mp z)⟩) (fun z => ?_) (by rw [← r1.length, ← r2.length]; exact hz)
    exact laidT I (by rw [List.length_append]; exact hz) (r1.append r2) (q2 hx fun w => z (r2.nil_iff.mpr w))
def rSlF (K : PySem.W.Frag) : V → Option Int → Option Int → Hp → VK → Prop := fun x lo hi H Q => ∃ a xs, x = .ref a ∧ SqT K H a xs ∧
  (HT.sIx xs.length 0 lo = 0 ∧ HT.sIx xs.length xs.length hi = xs.length → Q (.ref a) H) ∧ (¬ (HT.sIx xs.length 0 lo = 0 ∧ HT.sIx xs.length xs.length hi = xs.length) → NewT H Q (cutV xs lo hi))
theorem sl_tupF : SlR X (rSlF X.K) := by
  intro pins s σ H x v vl vu lo hi sl Q I rx hs pl pu h
  obtain ⟨a, xs, rfl, hx, q1, q2⟩ := h
  cases rx
  obtain ⟨its, r, ht, hz⟩ := I.tuple hx
  have hlen : its.toArray.size = xs.length := by rw [List.size_toArray]; exact r.length.symm
  refine ⟨"tuple", _, PyProof.Rows.slot_tuple_getitem.lookup, ht.typeIs, ?_⟩
  by_cases hw : HT.sIx xs.length 0 lo = 0 ∧ HT.sIx xs.length xs.length hi = xs.length
  · exact getItem_tuple_whole ht hs pl pu (by rw [hlen]; exact hw) ⟨.ref a, H, I, rfl, q1 hw⟩
  · refine HT.getItem_tuple_cut ht hs pl pu (by rw [hlen]; exact hw) ?_ (by rw [hlen]; exact hz)
    rw [hlen]
    exact laidT I (Nat.le_trans (cutV_length xs lo hi) hz) ((r.drop (HT.sIx xs.length 0 lo)).take (HT.sIx xs.length xs.length hi - HT.sIx xs.length 0 lo)) (q2 hw)
/-- a method of a tuple -/
theorem pe_bmT {o e : Expr} {es : List Expr} {to : TE} {t : TA} {name : Str} {apos cpos : Pos} {id : String} {r : V → List V → Hp → VK → Prop} (slot : Slot "tuple" name id) (hty : typeOf (.builtin id) = pure (.type "method_descriptor")) (hm : MtR X id r) (ho : PE X o to) (ha : PA X (e :: es) t)
    (hbase : attributeBase o name X.env (eval o X.env) = eval o X.env := by rfl)
    (hfew : ((backTo cpos (starEach (e :: es) X.env)).all (fun x => !x.1) && (backToKw cpos (keywordEach [] X.env)).all (fun x => x.1.isSome)
      && decide ((e :: es).length + ([] : List Keyword).length + (if ([] : List Keyword).isEmpty then 0 else 1) < 30)) = true := by rfl)
    (hline : (apos.endLine == cpos.line) = true := by rfl) (hs : starEach (e :: es) X.env = (false, eval e X.env) :: starEach es X.env := by rfl) (hplain : (backTo cpos (starEach es X.env)).any (·.1) = false := by rfl) :
    PE X (.Call (.Attribute o name apos) (e :: es) [] cpos) (fun σ H Q => to σ H fun x H1 => (∃ a vs, x = .ref a ∧ ((∃ o, H1 a = some (.frz o (.tup vs)) ∧ o.dict = none) ∨ TupN X.K (fun _ => none) a vs)) ∧ t σ H1 fun xs H2 => r x xs H2 Q) := by
  refine ⟨fun pins s σ H Q I h => ?_⟩
  refine wpAny_Call_method_late hbase hfew hline rfl (thn (ho.run pins s σ H _ I h) fun v s1 ⟨x, H1, I1, r1, ty, q1⟩ => ?_)
  have h12 : s1.TypeIs v "tuple" ∧ ∀ a, v = .ref a → ∃ ob, s1.heap.get? a = some ob ∧ ob.dict = none := by
    obtain ⟨a, vs, rfl, ty⟩ := ty
    cases r1
    rcases ty with ⟨o, h1, h2⟩ | ty
    · obtain ⟨e1, _, _, _, o', e2, e3, _⟩ := (show ObjOk X.prog X.w H1 s1.heap a (.frz o (.tup vs)) from I1.hok a _ h1)
      rw [e1] at e2
      cases e2
      exact ⟨⟨o, e1, e3⟩, fun b e => by cases e; exact ⟨o, e1, h2⟩⟩
    · rcases ty with ⟨_, h, _⟩ | ⟨o, its, n, h1, h2, h3, _⟩
      · cases h
      · exact ⟨⟨o, I1.kIn _ _ h1, h2⟩, fun b e => by cases e; exact ⟨o, I1.kIn _ _ h1, h3⟩⟩
  refine ⟨"tuple", id, PySem.F.plainAttrs_tuple, slot, hty, h12.1, h12.2, ?_⟩
  have hA := ha.run cpos pins s1 σ H1 _ I1 q1
  rw [hs] at hA ⊢
  refine Calls.callWith_builtin (by show (false || (backTo cpos (starEach es X.env)).any (·.1)) = false; rw [hplain] <;> rfl) (Calls.evalArgs_plain ?_)
  exact thn hA fun us s2 ⟨vs, H2, I2, r2, q2⟩ => hm pins s2 σ H2 x vs v us Q I2 r1 r2 q2
end
end Dl

set_option Elab.async false
set_option linter.all false
set_option maxRecDepth 100000
set_option maxHeartbeats 4000000
/-! The data layer: Python's values as plain trees, what stands for them in the heap, and a def's body as a plain function of names and a store. -/
namespace Dl
open PySem PySem.Spec PyProof.Rows L2

/-- a value as a tree; ref n: the n-th thing of the store -/
inductive D where
  | non
  | bl (b : Bool)
  | int (i : Int)
  | str (s : Str)
  | tup (xs : List D)
  | lst (xs : List D)
  | obj (c : Nat) (fs : List (Str × D))
  | dct (kvs : List (Key × D))
  | fn (f : Nat)
  | ref (n : Nat)
  | tp (xs : List D)
  | sq (xs : List D)
instance : Inhabited D := ⟨.non⟩

/-- where classes and defs stand -/
structure Tb where
  K : PySem.W.Frag
  cl : Nat → Addr
  fa : Nat → Addr
  nc : Nat
  fl : List Str

mutual
/-- v is d, by the heap G of what never changes -/
def rep (T : Tb) (as : List Addr) (G : Hp) : D → V → Prop
  | .non, v => v = .non
  | .bl b, v => v = .bl b
  | .int i, v => v = .int i
  | .str s, v => v = .str s
  | .tup xs, v => ∃ a vs, v = .ref a ∧ TupN T.K G a vs ∧ reps T as G xs vs
  | .lst xs, v => ∃ a vs, v = .ref a ∧ Rd G a (.lst vs) ∧ reps T as G xs vs
  | .obj c fs, v => ∃ a dx vs, v = .ref a ∧ G a = some (.ins (T.cl c) dx vs) ∧ c < T.nc ∧ repf T as G fs vs
  | .dct kvs, v => ∃ a vs, v = .ref a ∧ G a = some (.dK vs) ∧ repk T as G kvs vs
  | .fn f, v => v = .ref (T.fa f)
  | .ref n, v => ∃ a, v = .ref a ∧ as[n]? = some a
  | .tp xs, v => ∃ a vs, v = .ref a ∧ SqT T.K G a vs ∧ reps T as G xs vs
  | .sq xs, v => ∃ a vs, v = .ref a ∧ SqL T.K G a vs ∧ reps T as G xs vs
def reps (T : Tb) (as : List Addr) (G : Hp) : List D → List V → Prop
  | [], vs => vs = []
  | d :: ds, vs => ∃ v vr, vs = v :: vr ∧ rep T as G d v ∧ reps T as G ds vr
def repf (T : Tb) (as : List Addr) (G : Hp) : List (Str × D) → List (Str × V) → Prop
  | [], vs => vs = []
  | (x, d) :: ds, vs => ∃ v vr, vs = (x, v) :: vr ∧ rep T as G d v ∧ repf T as G ds vr
def repk (T : Tb) (as : List Addr) (G : Hp) : List (Key × D) → List (Key × V) → Prop
  | [], vs => vs = []
  | (x, d) :: ds, vs => ∃ v vr, vs = (x, v) :: vr ∧ rep T as G d v ∧ repk T as G ds vr
end

def Ex (H H' : Hp) : Prop := ∀ a o, H a = some o → H' a = some o
theorem Ex.refl (H : Hp) : Ex H H := fun _ _ h => h
theorem Ex.trans {H H1 H2 : Hp} (a : Ex H H1) (b : Ex H1 H2) : Ex H H2 := fun x o h => b x o (a x o h)
theorem Ex.upd {H : Hp} {p : Addr} {o : HO} (h : H p = none) : Ex H (upd H p o) := fun a u e => by rw [upd_ne (ne_of_none e h)]; exact e
theorem Ex.free {H H' : Hp} (e : Ex H H') {p : Addr} (h : H' p = none) : H p = none := by
  cases q : H p with
  | none => rfl
  | some o => rw [e p o q] at h; cases h
theorem ex_rd {H H' : Hp} {a : Addr} {u : HO} (e : Ex H H') (h : Rd H a u) : Rd H' a u := by
  rcases h with h | ⟨o, h⟩
  · exact .inl (e a _ h)
  · exact .inr ⟨o, e a _ h⟩
theorem ex_l {K : PySem.W.Frag} {H H' : Hp} {a : Addr} {xs : List V} (e : Ex H H') (h : SqL K H a xs) : SqL K H' a xs := by
  rcases h with h | h
  · exact .inl (ex_rd e h)
  · exact .inr h
theorem ex_t {K : PySem.W.Frag} {H H' : Hp} {a : Addr} {xs : List V} (e : Ex H H') (h : SqT K H a xs) : SqT K H' a xs := by
  rcases h with h | h
  · exact .inl (ex_rd e h)
  · exact .inr h

theorem ex_n {K : PySem.W.Frag} {H H' : Hp} {a : Addr} {xs : List V} (e : Ex H H') (h : TupN K H a xs) : TupN K H' a xs := by
  rcases h with ⟨o, h, d⟩ | h
  · exact .inl ⟨o, e _ _ h, d⟩
  · exact .inr h
theorem ex_ns {K : PySem.W.Frag} {H H' : Hp} {a : Addr} {xs : List V} (e : Ex H H') (h : TupN K H a xs) : SqT K H' a xs := ex_t e h.sq
/-- the store and the never changing heap have grown -/
structure Mono (as : List Addr) (G : Hp) (as' : List Addr) (G' : Hp) : Prop where
  as : as <+: as'
  ex : Ex G G'
theorem Mono.refl (as : List Addr) (G : Hp) : Mono as G as G := ⟨List.prefix_refl _, Ex.refl _⟩
theorem Mono.trans {a b c : List Addr} {G H I : Hp} (x : Mono a G b H) (y : Mono b H c I) : Mono a G c I := ⟨x.as.trans y.as, x.ex.trans y.ex⟩
theorem Mono.of {as : List Addr} {G G' : Hp} (x : Ex G G') : Mono as G as G' := ⟨List.prefix_refl _, x⟩
theorem pre_get {α : Type} {l l' : List α} {n : Nat} {a : α} (p : l <+: l') (h : l[n]? = some a) : l'[n]? = some a := by
  obtain ⟨t, rfl⟩ := p
  have := (List.getElem?_eq_some_iff.mp h).1
  rw [List.getElem?_append_left this]; exact h

section
variable {T : Tb} {as as' : List Addr} {G G' : Hp}
mutual
theorem rep.mono (m : Mono as G as' G') : ∀ (d : D) (v : V), rep T as G d v → rep T as' G' d v
  | .non, v, h => h
  | .bl b, v, h => h
  | .int i, v, h => h
  | .str s, v, h => h
  | .tup xs, v, h => by
    simp only [rep] at h ⊢
    obtain ⟨a, vs, e, s, r⟩ := h
    exact ⟨a, vs, e, ex_n m.ex s, reps.mono m xs vs r⟩
  | .lst xs, v, h => by
    simp only [rep] at h ⊢
    obtain ⟨a, vs, e, s, r⟩ := h
    exact ⟨a, vs, e, ex_rd m.ex s, reps.mono m xs vs r⟩
  | .obj c fs, v, h => by
    simp only [rep] at h ⊢
    obtain ⟨a, dx, vs, e, s, hc, r⟩ := h
    exact ⟨a, dx, vs, e, m.ex _ _ s, hc, repf.mono m fs vs r⟩
  | .dct kvs, v, h => by
    simp only [rep] at h ⊢
    obtain ⟨a, vs, e, s, r⟩ := h
    exact ⟨a, vs, e, m.ex _ _ s, repk.mono m kvs vs r⟩
  | .fn f, v, h => h
  | .ref n, v, h => by
    simp only [rep] at h ⊢
    obtain ⟨a, e, s⟩ := h
    exact ⟨a, e, pre_get m.as s⟩
  | .tp xs, v, h => by
    simp only [rep] at h ⊢
    obtain ⟨a, vs, e, s, r⟩ := h
    exact ⟨a, vs, e, ex_t m.ex s, reps.mono m xs vs r⟩
  | .sq xs, v, h => by
    simp only [rep] at h ⊢
    obtain ⟨a, vs, e, s, r⟩ := h
    exact ⟨a, vs, e, ex_l m.ex s, reps.mono m xs vs r⟩
theorem reps.mono (m : Mono as G as' G') : ∀ (ds : List D) (vs : List V), reps T as G ds vs → reps T as' G' ds vs
  | [], vs, h => h
  | d :: ds, vs, h => by
    simp only [reps] at h ⊢
    obtain ⟨v, vr, e, r, q⟩ := h
    exact ⟨v, vr, e, rep.mono m d v r, reps.mono m ds vr q⟩
theorem repf.mono (m : Mono as G as' G') : ∀ (ds : List (Str × D)) (vs : List (Str × V)), repf T as G ds vs → repf T as' G' ds vs
  | [], vs, h => h
  | (x, d) :: ds, vs, h => by
    simp only [repf] at h ⊢
    obtain ⟨v, vr, e, r, q⟩ := h
    exact ⟨v, vr, e, rep.mono m d v r, repf.mono m ds vr q⟩
theorem repk.mono (m : Mono as G as' G') : ∀ (ds : List (Key × D)) (vs : List (Key × V)), repk T as G ds vs → repk T as' G' ds vs
  | [], vs, h => h
  | (x, d) :: ds, vs, h => by
    simp only [repk] at h ⊢
    obtain ⟨v, vr, e, r, q⟩ := h
    exact ⟨v, vr, e, rep.mono m d v r, repk.mono m ds vr q⟩
end

theorem reps_nil : reps T as G [] [] := by simp only [reps]
theorem reps_cons {d : D} {ds : List D} {v : V} {vs : List V} (h : rep T as G d v) (r : reps T as G ds vs) : reps T as G (d :: ds) (v :: vs) := by
  simp only [reps]; exact ⟨v, vs, rfl, h, r⟩
theorem reps.length : ∀ {ds : List D} {vs : List V}, reps T as G ds vs → vs.length = ds.length
  | [], vs, h => by simp only [reps] at h; subst h; rfl
  | d :: ds, vs, h => by
    simp only [reps] at h
    obtain ⟨v, vr, rfl, _, q⟩ := h
    simp only [List.length_cons, reps.length q]
theorem reps.append : ∀ {ds es : List D} {vs ws : List V}, reps T as G ds vs → reps T as G es ws → reps T as G (ds ++ es) (vs ++ ws)
  | [], es, vs, ws, h, q => by simp only [reps] at h; subst h; exact q
  | d :: ds, es, vs, ws, h, q => by
    simp only [reps] at h
    obtain ⟨v, vr, rfl, r, s⟩ := h
    exact reps_cons r (reps.append s q)
theorem reps.get : ∀ {ds : List D} {vs : List V} {i : Nat} {v : V}, reps T as G ds vs → vs[i]? = some v → ∃ d, ds[i]? = some d ∧ rep T as G d v
  | [], vs, i, v, h, e => by simp only [reps] at h; subst h; simp at e
  | d :: ds, vs, i, v, h, e => by
    simp only [reps] at h
    obtain ⟨w, vr, rfl, r, s⟩ := h
    cases i with
    | zero => simp at e; subst e; exact ⟨d, rfl, r⟩
    | succ i => simp at e; simpa using reps.get s e
theorem reps.get' : ∀ {ds : List D} {vs : List V} {i : Nat} {d : D}, reps T as G ds vs → ds[i]? = some d → ∃ v, vs[i]? = some v ∧ rep T as G d v
  | [], vs, i, d, h, e => by simp at e
  | d' :: ds, vs, i, d, h, e => by
    simp only [reps] at h
    obtain ⟨w, vr, rfl, r, s⟩ := h
    cases i with
    | zero => simp at e; subst e; exact ⟨w, rfl, r⟩
    | succ i => simp at e; simpa using reps.get' s e
theorem reps.drop : ∀ {ds : List D} {vs : List V} (n : Nat), reps T as G ds vs → reps T as G (ds.drop n) (vs.drop n)
  | ds, vs, 0, h => h
  | [], vs, n + 1, h => by simp only [reps] at h; subst h; simp only [List.drop_nil, reps]
  | d :: ds, vs, n + 1, h => by
    simp only [reps] at h
    obtain ⟨v, vr, rfl, _, q⟩ := h
    exact reps.drop n q
theorem reps.take : ∀ {ds : List D} {vs : List V} (n : Nat), reps T as G ds vs → reps T as G (ds.take n) (vs.take n)
  | ds, vs, 0, h => by simp only [List.take_zero, reps]
  | [], vs, n + 1, h => by simp only [reps] at h; subst h; simp only [List.take_nil, reps]
  | d :: ds, vs, n + 1, h => by
    simp only [reps] at h
    obtain ⟨v, vr, rfl, r, q⟩ := h
    exact reps_cons r (reps.take n q)
theorem reps.set {d : D} {v : V} (r : rep T as G d v) : ∀ {ds : List D} {vs : List V} (n : Nat), reps T as G ds vs → reps T as G (ds.set n d) (vs.set n v)
  | [], vs, n, h => by simp only [reps] at h; subst h; simp only [List.set_nil, reps]
  | d :: ds, vs, 0, h => by
    simp only [reps] at h
    obtain ⟨w, vr, rfl, _, q⟩ := h
    exact reps_cons r q
  | d :: ds, vs, n + 1, h => by
    simp only [reps] at h
    obtain ⟨w, vr, rfl, s, q⟩ := h
    exact reps_cons s (reps.set r n q)
theorem repf_nil : repf T as G [] [] := by simp only [repf]
theorem repf_cons {x : Str} {d : D} {ds : List (Str × D)} {v : V} {vs : List (Str × V)} (h : rep T as G d v) (r : repf T as G ds vs) : repf T as G ((x, d) :: ds) ((x, v) :: vs) := by
  simp only [repf]; exact ⟨v, vs, rfl, h, r⟩
theorem repf.length : ∀ {ds : List (Str × D)} {vs : List (Str × V)}, repf T as G ds vs → vs.length = ds.length
  | [], vs, h => by simp only [repf] at h; subst h; rfl
  | (x, d) :: ds, vs, h => by
    simp only [repf] at h
    obtain ⟨v, vr, rfl, _, q⟩ := h
    simp only [List.length_cons, repf.length q]
theorem repf.look : ∀ {ds : List (Str × D)} {vs : List (Str × V)} {x : Str} {d : D}, repf T as G ds vs → ds.lookup x = some d → ∃ v, vs.lookup x = some v ∧ rep T as G d v
  | [], vs, x, d, h, e => by simp at e
  | (y, c) :: ds, vs, x, d, h, e => by
    simp only [repf] at h
    obtain ⟨v, vr, rfl, r, q⟩ := h
    simp only [List.lookup_cons] at e ⊢
    cases hb : x == y with
    | true => rw [hb] at e; simp only [Option.some.injEq] at e; subst e; exact ⟨v, rfl, r⟩
    | false => rw [hb] at e; exact repf.look q e
theorem repk_nil : repk T as G [] [] := by simp only [repk]
theorem repk_cons {x : Key} {d : D} {ds : List (Key × D)} {v : V} {vs : List (Key × V)} (h : rep T as G d v) (r : repk T as G ds vs) : repk T as G ((x, d) :: ds) ((x, v) :: vs) := by
  simp only [repk]; exact ⟨v, vs, rfl, h, r⟩
theorem repk.length : ∀ {ds : List (Key × D)} {vs : List (Key × V)}, repk T as G ds vs → vs.length = ds.length
  | [], vs, h => by simp only [repk] at h; subst h; rfl
  | (x, d) :: ds, vs, h => by
    simp only [repk] at h
    obtain ⟨v, vr, rfl, _, q⟩ := h
    simp only [List.length_cons, repk.length q]
theorem repk.look : ∀ {ds : List (Key × D)} {vs : List (Key × V)} {x : Key} {d : D}, repk T as G ds vs → ds.lookup x = some d → ∃ v, vs.lookup x = some v ∧ rep T as G d v
  | [], vs, x, d, h, e => by simp at e
  | (y, c) :: ds, vs, x, d, h, e => by
    simp only [repk] at h
    obtain ⟨v, vr, rfl, r, q⟩ := h
    simp only [List.lookup_cons] at e ⊢
    cases hb : x == y with
    | true => rw [hb] at e; simp only [Option.some.injEq] at e; subst e; exact ⟨v, rfl, r⟩
    | false => rw [hb] at e; exact repk.look q e
end
end Dl

set_option Elab.async false
set_option linter.all false
set_option maxRecDepth 100000
set_option maxHeartbeats 4000000
namespace Dl
open PySem PySem.Spec PyProof.Rows L2

/-- a thing of the store: it may change -/
inductive MO where
  | dct (kvs : List (Key × D))
  | ins (c : Nat) (fs : List (Str × D))
  | dtt (kvs : List (List Key × D))
instance : Inhabited MO := ⟨.dct []⟩
/-- what a name holds: nothing told, a value, a list that this name alone holds, an instance that this name alone holds -/
inductive Slot where
  | no
  | sh (d : D)
  | owl (xs : List D)
  | owi (a : Addr) (c : Nat) (fs : List (Str × D))
instance : Inhabited Slot := ⟨.no⟩
def Slot.isOw : Slot → Bool
  | .owl _ => true
  | .owi _ _ _ => true
  | _ => false
abbrev Env := List Slot
abbrev Sto := List MO

def reptt (T : Tb) (as : List Addr) (G : Hp) : List (List Key × D) → List (List Key × V) → Prop
  | [], vs => vs = []
  | (x, d) :: ds, vs => ∃ v vr, vs = (x, v) :: vr ∧ rep T as G d v ∧ reptt T as G ds vr
theorem reptt.mono {T : Tb} {as as' : List Addr} {G G' : Hp} (m : Mono as G as' G') : ∀ (ds : List (List Key × D)) (vs : List (List Key × V)), reptt T as G ds vs → reptt T as' G' ds vs
  | [], vs, h => h
  | (x, d) :: ds, vs, h => by
    simp only [reptt] at h ⊢
    obtain ⟨v, vr, e, r, q⟩ := h
    exact ⟨v, vr, e, rep.mono m d v r, reptt.mono m ds vr q⟩

def MOR (T : Tb) (as : List Addr) (G H : Hp) (a : Addr) : MO → Prop
  | .dct kvs => ∃ vs, H a = some (.dK vs) ∧ repk T as G kvs vs
  | .ins c fs => ∃ dx vs, H a = some (.ins (T.cl c) dx vs) ∧ c < T.nc ∧ repf T as G fs vs
  | .dtt kvs => ∃ vs, H a = some (.dT vs) ∧ reptt T as G kvs vs
theorem MOR.some {T : Tb} {as : List Addr} {G H : Hp} {a : Addr} {m : MO} (h : MOR T as G H a m) : ∃ o, H a = some o := by
  cases m with
  | dct kvs => obtain ⟨vs, h, _⟩ := h; exact ⟨_, h⟩
  | ins c fs => obtain ⟨dx, vs, h, _⟩ := h; exact ⟨_, h⟩
  | dtt kvs => obtain ⟨vs, h, _⟩ := h; exact ⟨_, h⟩
theorem MOR.mono {T : Tb} {as as' : List Addr} {G G' H H' : Hp} {a : Addr} {m : MO} (x : Mono as G as' G') (e : H' a = H a) (h : MOR T as G H a m) : MOR T as' G' H' a m := by
  cases m with
  | dct kvs => obtain ⟨vs, h, r⟩ := h; exact ⟨vs, e.trans h, repk.mono x _ _ r⟩
  | ins c fs => obtain ⟨dx, vs, h, hc, r⟩ := h; exact ⟨dx, vs, e.trans h, hc, repf.mono x _ _ r⟩
  | dtt kvs => obtain ⟨vs, h, r⟩ := h; exact ⟨vs, e.trans h, reptt.mono x _ _ r⟩

def SlotR (T : Tb) (as : List Addr) (G H : Hp) (v : Option (Option V)) : Slot → Prop
  | .no => True
  | .sh d => ∃ x, v = some (some x) ∧ rep T as G d x
  | .owl xs => ∃ a vs, v = some (some (.ref a)) ∧ H a = some (.lst vs) ∧ G a = none ∧ reps T as G xs vs
  | .owi a c fs => ∃ dx vs, v = some (some (.ref a)) ∧ H a = some (.ins (T.cl c) dx vs) ∧ G a = none ∧ c < T.nc ∧ repf T as G fs vs
theorem SlotR.mono {T : Tb} {as as' : List Addr} {G G' H H' : Hp} {v : Option (Option V)} {sl : Slot} (x : Mono as G as' G')
    (e : ∀ a o, v = some (some (.ref a)) → sl.isOw = true → H a = some o → G a = none → H' a = some o ∧ G' a = none) (h : SlotR T as G H v sl) : SlotR T as' G' H' v sl := by
  cases sl with
  | no => trivial
  | sh d => obtain ⟨y, h, r⟩ := h; exact ⟨y, h, rep.mono x _ _ r⟩
  | owl xs =>
    obtain ⟨a, vs, h, h1, h2, r⟩ := h
    obtain ⟨q1, q2⟩ := e a _ h rfl h1 h2
    exact ⟨a, vs, h, q1, q2, reps.mono x _ _ r⟩
  | owi a c fs =>
    obtain ⟨dx, vs, h, h1, h2, hc, r⟩ := h
    obtain ⟨q1, q2⟩ := e a _ h rfl h1 h2
    exact ⟨dx, vs, h, q1, q2, hc, repf.mono x _ _ r⟩
theorem SlotR.ow {T : Tb} {as : List Addr} {G H : Hp} {v : Option (Option V)} {sl : Slot} (h : SlotR T as G H v sl) (o : sl.isOw = true) : ∃ a u, v = some (some (.ref a)) ∧ H a = some u ∧ G a = none := by
  cases sl with
  | no => cases o
  | sh d => cases o
  | owl xs => obtain ⟨a, vs, h, h1, h2, r⟩ := h; exact ⟨a, _, h, h1, h2⟩
  | owi a c fs => obtain ⟨dx, vs, h, h1, h2, r⟩ := h; exact ⟨a, _, h, h1, h2⟩

/-- the name's own thing -/
def Own (ρ : Env) (σ : L2.St) (i : Nat) (a : Addr) : Prop := (∃ sl, ρ[i]? = some sl ∧ sl.isOw = true) ∧ σ[i]? = some (some (.ref a))

/-- the entry of a def (or of a comprehension) -/
structure Bs where
  H0 : Hp
  G0 : Hp
  as0 : List Addr

structure StR (T : Tb) (Z : Bs) (ρ : Env) (W : Sto) (σ : L2.St) (H : Hp) (as : List Addr) (G : Hp) : Prop where
  sub : Ex G H
  slot : ∀ (i : Nat) sl, ρ[i]? = some sl → SlotR T as G H σ[i]? sl
  own : ∀ i j a, Own ρ σ i a → Own ρ σ j a → i = j
  len : as.length = W.length
  nd : as.Nodup
  sto : ∀ (n : Nat) m a, W[n]? = some m → as[n]? = some a → G a = none ∧ MOR T as G H a m
  ownas : ∀ i a, Own ρ σ i a → a ∉ as
  fr : ∀ a o, Z.H0 a = some o → a ∉ Z.as0 → H a = some o
  ownfr : ∀ i a, Own ρ σ i a → Z.H0 a = none
  new : ∀ a o, G a = some o → Z.G0 a = some o ∨ Z.H0 a = none
  pre : Z.as0 <+: as
  asnew : ∀ a, a ∈ as → a ∈ Z.as0 ∨ Z.H0 a = none
  exG : Ex Z.G0 G
  ln : ρ.length ≤ σ.length

section
variable {T : Tb} {Z : Bs} {ρ : Env} {W : Sto} {σ : L2.St} {H H' : Hp} {as as' : List Addr} {G G' : Hp}

theorem StR.asget (r : StR T Z ρ W σ H as G) {a : Addr} (h : a ∈ as) : ∃ (n : Nat) (m : MO), W[n]? = some m ∧ as[n]? = some a := by
  obtain ⟨n, hn, e⟩ := List.mem_iff_getElem.mp h
  have h2 : n < W.length := by rw [← r.len]; exact hn
  exact ⟨n, W[n], List.getElem?_eq_getElem h2, by rw [List.getElem?_eq_getElem hn, e]⟩
theorem StR.asH (r : StR T Z ρ W σ H as G) {a : Addr} (h : a ∈ as) : (∃ o, H a = some o) ∧ G a = none := by
  obtain ⟨n, m, h1, h2⟩ := r.asget h
  obtain ⟨g, q⟩ := r.sto n m a h1 h2
  exact ⟨q.some, g⟩
theorem StR.pre_mem (r : StR T Z ρ W σ H as G) {a : Addr} (h : a ∈ Z.as0) : a ∈ as := r.pre.subset h
theorem StR.h0 (r : StR T Z ρ W σ H as G) {a : Addr} (h : H a = none) : Z.H0 a = none := by
  cases q : Z.H0 a with
  | none => rfl
  | some o =>
    by_cases ha : a ∈ Z.as0
    · obtain ⟨⟨o, e⟩, _⟩ := r.asH (r.pre_mem ha)
      rw [h] at e; cases e
    · have := r.fr a o q ha
      rw [h] at this; cases this
theorem StR.mono0 (r : StR T Z ρ W σ H as G) : Mono Z.as0 Z.G0 as G := ⟨r.pre, r.exG⟩
theorem StR.owna (r : StR T Z ρ W σ H as G) {i : Nat} {a : Addr} (o : Own ρ σ i a) : (∃ u, H a = some u) ∧ G a = none := by
  obtain ⟨⟨sl, h1, h2⟩, h3⟩ := o
  obtain ⟨b, u, e, e1, e2⟩ := (r.slot i sl h1).ow h2
  rw [h3] at e
  cases e
  exact ⟨⟨u, e1⟩, e2⟩

/-- something new and never changing has come -/
structure Alloc (G H G' H' : Hp) : Prop where
  g : Ex G G'
  h : Ex H H'
  n : ∀ a o, G' a = some o → G a = some o ∨ (H a = none ∧ H' a = some o)
theorem Alloc.refl (G H : Hp) : Alloc G H G H := ⟨Ex.refl G, Ex.refl H, fun _ _ h => .inl h⟩
theorem Alloc.new {G H : Hp} {p : Addr} {o : HO} (e : Ex G H) (h : H p = none) : Alloc G H (upd G p o) (upd H p o) :=
  ⟨Ex.upd (e.free h), Ex.upd h, fun a u q => by
    by_cases hb : a = p
    · subst hb; rw [upd_same] at q; cases q; exact .inr ⟨h, upd_same⟩
    · rw [upd_ne hb] at q; exact .inl q⟩
/-- a thing that nothing tells of -/
theorem Alloc.hid {G H : Hp} {p : Addr} {o : HO} (h : H p = none) : Alloc G H G (upd H p o) := ⟨Ex.refl G, Ex.upd h, fun _ _ q => .inl q⟩
theorem Alloc.grow {G H H' : Hp} (e : Ex H H') : Alloc G H G H' := ⟨Ex.refl G, e, fun _ _ q => .inl q⟩
theorem Alloc.trans {G H G1 H1 G2 H2 : Hp} (a : Alloc G H G1 H1) (b : Alloc G1 H1 G2 H2) : Alloc G H G2 H2 :=
  ⟨a.g.trans b.g, a.h.trans b.h, fun x o h => by
    rcases b.n x o h with h | ⟨h1, h2⟩
    · rcases a.n x o h with h | ⟨h1, h2⟩
      · exact .inl h
      · exact .inr ⟨h1, b.h _ _ h2⟩
    · exact .inr ⟨a.h.free h1, h2⟩⟩
theorem Alloc.sub {G H G' H' : Hp} (x : Alloc G H G' H') (e : Ex G H) : Ex G' H' := fun a o h => by
  rcases x.n a o h with h | ⟨_, h⟩
  · exact x.h _ _ (e _ _ h)
  · exact h
theorem StR.alloc (r : StR T Z ρ W σ H as G) (x : Alloc G H G' H') : StR T Z ρ W σ H' as G' := by
  have nG : ∀ a u, H a = some u → G a = none → G' a = none := fun a u h g => by
    cases q : G' a with
    | none => rfl
    | some o =>
      rcases x.n a o q with q | ⟨q, _⟩
      · rw [g] at q; cases q
      · rw [h] at q; cases q
  refine ⟨x.sub r.sub, fun i sl h => (r.slot i sl h).mono (Mono.of x.g) (fun a o _ _ h1 h2 => ⟨x.h _ _ h1, nG a o h1 h2⟩), r.own, r.len, r.nd, fun n m a h1 h2 => ?_, r.ownas, fun a o h n => x.h _ _ (r.fr a o h n), r.ownfr, fun a o h => ?_, r.pre, r.asnew, r.exG.trans x.g, r.ln⟩
  · obtain ⟨g, q⟩ := r.sto n m a h1 h2
    obtain ⟨u, hu⟩ := q.some
    exact ⟨nG a u hu g, q.mono (Mono.of x.g) (by rw [x.h _ _ hu, hu])⟩
  · rcases x.n a o h with h | ⟨h, _⟩
    · exact r.new a o h
    · exact .inr (r.h0 h)

/-- another entry: the frame of what is known now -/
def bs (H : Hp) (G : Hp) (as : List Addr) : Bs := ⟨H, G, as⟩
/-- names that own nothing, at a new entry -/
theorem StR.enter (r : StR T Z ρ W σ H as G) {ρ' : Env} {σ' : L2.St} (h : ∀ (i : Nat) sl, ρ'[i]? = some sl → sl.isOw = false ∧ SlotR T as G H σ'[i]? sl) (hl : ρ'.length ≤ σ'.length) : StR T (bs H G as) ρ' W σ' H as G where
  sub := r.sub
  slot := fun i sl e => (h i sl e).2
  own := fun i j a o _ => by
    obtain ⟨⟨sl, h1, h2⟩, _⟩ := o
    rw [(h i sl h1).1] at h2; cases h2
  len := r.len
  nd := r.nd
  sto := r.sto
  ownas := fun i a o => by
    obtain ⟨⟨sl, h1, h2⟩, _⟩ := o
    rw [(h i sl h1).1] at h2; cases h2
  fr := fun a o h _ => h
  ownfr := fun i a o => by
    obtain ⟨⟨sl, h1, h2⟩, _⟩ := o
    rw [(h i sl h1).1] at h2; cases h2
  new := fun a o h => .inl h
  pre := List.prefix_refl _
  asnew := fun a h => .inl h
  exG := Ex.refl _
  ln := hl
/-- back from another entry -/
theorem StR.back (r : StR T Z ρ W σ H as G) {ρ' : Env} {W' : Sto} {σ' : L2.St} (q : StR T (bs H G as) ρ' W' σ' H' as' G') : StR T Z ρ W' σ H' as' G' where
  sub := q.sub
  slot := fun i sl e => (r.slot i sl e).mono q.mono0 fun a o h1 h2 h3 h4 => by
    have ow : Own ρ σ i a := ⟨⟨sl, e, h2⟩, h1⟩
    refine ⟨q.fr a o h3 (r.ownas i a ow), ?_⟩
    cases z : G' a with
    | none => rfl
    | some u =>
      rcases q.new a u z with z | z
      · have z : G a = some u := z
        have h4 : G a = none := h4
        rw [h4] at z; cases z
      · have z : H a = none := z
        rw [h3] at z; cases z
  own := r.own
  len := q.len
  nd := q.nd
  sto := q.sto
  ownas := fun i a o h => by
    rcases q.asnew a h with z | z
    · exact r.ownas i a o z
    · obtain ⟨⟨u, hu⟩, _⟩ := r.owna o
      have z : H a = none := z
      rw [hu] at z; cases z
  fr := fun a o h n => q.fr a o (r.fr a o h n) fun z => by
    rcases r.asnew a z with z | z
    · exact n z
    · rw [h] at z; cases z
  ownfr := r.ownfr
  new := fun a o h => by
    rcases q.new a o h with z | z
    · exact r.new a o z
    · exact .inr (r.h0 z)
  pre := r.pre.trans q.pre
  asnew := fun a h => by
    rcases q.asnew a h with z | z
    · exact r.asnew a z
    · exact .inr (r.h0 z)
  exG := r.exG.trans q.exG
  ln := r.ln
end

/-! ### what comes of running -/
inductive Res where
  | val (d : D) (ρ : Env) (W : Sto)
  | exc (c : Nat) (fs : List (Str × D)) (ρ : Env) (W : Sto)
  | stk
instance : Inhabited Res := ⟨.stk⟩
abbrev Dn := Env → Sto → Res
inductive ResA where
  | val (ds : List D) (ρ : Env) (W : Sto)
  | exc (c : Nat) (fs : List (Str × D)) (ρ : Env) (W : Sto)
  | stk
instance : Inhabited ResA := ⟨.stk⟩
abbrev DnA := Env → Sto → ResA
inductive SRes where
  | nx (ρ : Env) (W : Sto)
  | rt (d : D) (ρ : Env) (W : Sto)
  | bk (ρ : Env) (W : Sto)
  | ct (ρ : Env) (W : Sto)
  | exc (c : Nat) (fs : List (Str × D)) (ρ : Env) (W : Sto)
  | stk
instance : Inhabited SRes := ⟨.stk⟩
abbrev Ds := Env → Sto → SRes

def Res.bind (r : Res) (k : D → Dn) : Res := match r with
  | .val d ρ W => k d ρ W
  | .exc c fs ρ W => .exc c fs ρ W
  | .stk => .stk
def Res.bindS (r : Res) (k : D → Ds) : SRes := match r with
  | .val d ρ W => k d ρ W
  | .exc c fs ρ W => .exc c fs ρ W
  | .stk => .stk
def ResA.bind (r : ResA) (k : List D → Dn) : Res := match r with
  | .val ds ρ W => k ds ρ W
  | .exc c fs ρ W => .exc c fs ρ W
  | .stk => .stk
@[simp] theorem Res.bind_val (d : D) (ρ W k) : Res.bind (.val d ρ W) k = k d ρ W := (Eq.refl _).trans (Eq.refl _)
@[simp] theorem Res.bindS_val (d : D) (ρ W k) : Res.bindS (.val d ρ W) k = k d ρ W := (Eq.refl _).trans (Eq.refl _)
@[simp] theorem ResA.bind_val (d : List D) (ρ W k) : ResA.bind (.val d ρ W) k = k d ρ W := (Eq.refl _).trans (Eq.refl _)
@[simp] theorem Res.bind_stk (k) : Res.bind .stk k = .stk := (Eq.refl _).trans (Eq.refl _)
@[simp] theorem Res.bindS_stk (k) : Res.bindS .stk k = .stk := (Eq.refl _).trans (Eq.refl _)
@[simp] theorem ResA.bind_stk (k) : ResA.bind .stk k = .stk := (Eq.refl _).trans (Eq.refl _)
@[simp] theorem Res.bind_exc (c fs ρ W k) : Res.bind (.exc c fs ρ W) k = .exc c fs ρ W := (Eq.refl _).trans (Eq.refl _)
@[simp] theorem Res.bindS_exc (c fs ρ W k) : Res.bindS (.exc c fs ρ W) k = .exc c fs ρ W := (Eq.refl _).trans (Eq.refl _)
@[simp] theorem ResA.bind_exc (c fs ρ W k) : ResA.bind (.exc c fs ρ W) k = .exc c fs ρ W := (Eq.refl _).trans (Eq.refl _)

/-- an exception's wish at the end of a run -/
def PostX (T : Tb) (Wx : WX) (Z : Bs) (σ : L2.St) (as : List Addr) (G : Hp) (c : Nat) (fs : List (Str × D)) (ρ : Env) (W : Sto) : Prop :=
  ∀ dx vs H' as' G', StR T Z ρ W σ H' as' G' → Mono as G as' G' → repf T as' G' fs vs → H' dx = some (.xd vs) → Wx (.ref (T.cl c)) (some dx) σ H'
def PostE (T : Tb) (Wx : WX) (Z : Bs) (σ : L2.St) (as : List Addr) (G : Hp) (Q : VK) : Res → Prop
  | .val d ρ W => ∀ v H' as' G', StR T Z ρ W σ H' as' G' → Mono as G as' G' → rep T as' G' d v → Q v H'
  | .exc c fs ρ W => PostX T Wx Z σ as G c fs ρ W
  | .stk => False
def PostA (T : Tb) (Wx : WX) (Z : Bs) (σ : L2.St) (as : List Addr) (G : Hp) (Q : List V → Hp → Prop) : ResA → Prop
  | .val ds ρ W => ∀ vs H' as' G', StR T Z ρ W σ H' as' G' → Mono as G as' G' → reps T as' G' ds vs → Q vs H'
  | .exc c fs ρ W => PostX T Wx Z σ as G c fs ρ W
  | .stk => False

/-- a value's truth -/
def tru (W : Sto) : D → Option Bool
  | .non => some false
  | .bl b => some b
  | .int i => some (i != 0)
  | .str s => if s.length ≤ 16777216 then some ((s.length : Int) != 0) else none
  | .tup xs => some (!xs.isEmpty)
  | .lst xs => some (!xs.isEmpty)
  | .dct kvs => some (!kvs.isEmpty)
  | .ref n => match W[n]? with
    | some (.dct kvs) => some (!kvs.isEmpty)
    | _ => none
  | _ => none
def PostT (T : Tb) (Wx : WX) (Z : Bs) (σ : L2.St) (as : List Addr) (G : Hp) (Q : Bool → Hp → Prop) : Res → Prop
  | .val d ρ W => ∃ k, tru W d = some k ∧ ∀ H' as' G', StR T Z ρ W σ H' as' G' → Mono as G as' G' → Q k H'
  | .exc c fs ρ W => PostX T Wx Z σ as G c fs ρ W
  | .stk => False
def PostS (T : Tb) (Wx : WX) (Z : Bs) (as : List Addr) (G : Hp) (D : Ends) : SRes → Prop
  | .nx ρ W => ∀ σ H' as' G', StR T Z ρ W σ H' as' G' → Mono as G as' G' → D.nx σ H'
  | .rt d ρ W => ∀ v σ H' as' G', StR T Z ρ W σ H' as' G' → Mono as G as' G' → rep T as' G' d v → D.rt v H'
  | .bk ρ W => ∀ σ H' as' G', StR T Z ρ W σ H' as' G' → Mono as G as' G' → D.bk σ H'
  | .ct ρ W => ∀ σ H' as' G', StR T Z ρ W σ H' as' G' → Mono as G as' G' → D.ct σ H'
  | .exc c fs ρ W => ∀ σ, PostX T Wx Z σ as G c fs ρ W
  | .stk => False

section
variable {T : Tb} {Wx : WX} {Z : Bs} {ρ : Env} {W : Sto} {σ : L2.St} {H H' : Hp} {as as' : List Addr} {G G' : Hp}
theorem PostX.mono {c fs} (m : Mono as G as' G') (h : PostX T Wx Z σ as G c fs ρ W) : PostX T Wx Z σ as' G' c fs ρ W :=
  fun dx vs H' as1 G1 s m1 r e => h dx vs H' as1 G1 s (m.trans m1) r e
theorem PostE.mono {Q : VK} {r : Res} (m : Mono as G as' G') (h : PostE T Wx Z σ as G Q r) : PostE T Wx Z σ as' G' Q r := by
  cases r with
  | val d ρ W => exact fun v H' as1 G1 s m1 q => h v H' as1 G1 s (m.trans m1) q
  | exc c fs ρ W => exact PostX.mono m h
  | stk => exact h
theorem PostS.mono {E : Ends} {r : SRes} (m : Mono as G as' G') (h : PostS T Wx Z as G E r) : PostS T Wx Z as' G' E r := by
  cases r with
  | nx ρ W => exact fun σ H' as1 G1 s m1 => h σ H' as1 G1 s (m.trans m1)
  | rt d ρ W => exact fun v σ H' as1 G1 s m1 q => h v σ H' as1 G1 s (m.trans m1) q
  | bk ρ W => exact fun σ H' as1 G1 s m1 => h σ H' as1 G1 s (m.trans m1)
  | ct ρ W => exact fun σ H' as1 G1 s m1 => h σ H' as1 G1 s (m.trans m1)
  | exc c fs ρ W => exact fun σ => PostX.mono m (h σ)
  | stk => exact h
end

/-! ### readings -/
def rd (T : Tb) (Wx : WX) (f : Dn) : TE := fun σ H Q => ∃ Z ρ W as G, StR T Z ρ W σ H as G ∧ PostE T Wx Z σ as G Q (f ρ W)
def rdA (T : Tb) (Wx : WX) (f : DnA) : TA := fun σ H Q => ∃ Z ρ W as G, StR T Z ρ W σ H as G ∧ PostA T Wx Z σ as G Q (f ρ W)
def rdT (T : Tb) (Wx : WX) (f : Dn) : TT := fun σ H Q => ∃ Z ρ W as G, StR T Z ρ W σ H as G ∧ PostT T Wx Z σ as G Q (f ρ W)
def rdS (T : Tb) (Wx : WX) (f : Ds) : TS := fun D σ H => ∃ Z ρ W as G, StR T Z ρ W σ H as G ∧ PostS T Wx Z as G D (f ρ W)

abbrev SE (X : Cx) (T : Tb) (Wx : WX) (e : Expr) (f : Dn) : Prop := PE X e (rd T Wx f)
abbrev SA (X : Cx) (T : Tb) (Wx : WX) (es : List Expr) (f : DnA) : Prop := PA X es (rdA T Wx f)
abbrev ST (X : Cx) (T : Tb) (Wx : WX) (e : Expr) (f : Dn) : Prop := PT X e (rdT T Wx f)
abbrev SS (X : Cx) (T : Tb) (Wx : WX) (st : Stmt) (f : Ds) : Prop := PS X st (rdS T Wx f)
abbrev SSs (X : Cx) (T : Tb) (Wx : WX) (st : List Stmt) (f : Ds) : Prop := PSs X st (rdS T Wx f)

theorem PE.imp {X : Cx} {e : Expr} {t u : TE} (h : PE X e t) (k : ∀ σ H Q, u σ H Q → t σ H Q) : PE X e u := ⟨fun pins s σ H Q I q => h.run pins s σ H Q I (k σ H Q q)⟩
theorem PT.imp {X : Cx} {e : Expr} {t u : TT} (h : PT X e t) (k : ∀ σ H Q, u σ H Q → t σ H Q) : PT X e u := ⟨fun pins s σ H Q I q => h.run pins s σ H Q I (k σ H Q q)⟩
theorem PW.imp {X : Cx} {e : Expr} {t u : TT} (h : PW X e t) (k : ∀ σ H Q, u σ H Q → t σ H Q) : PW X e u := ⟨fun wh pins s σ H Q I q => h.run wh pins s σ H Q I (k σ H Q q)⟩
theorem PA.imp {X : Cx} {es : List Expr} {t u : TA} (h : PA X es t) (k : ∀ σ H Q, u σ H Q → t σ H Q) : PA X es u := ⟨fun pos pins s σ H Q I q => h.run pos pins s σ H Q I (k σ H Q q)⟩
theorem PS.imp {X : Cx} {st : Stmt} {t u : TS} (h : PS X st t) (k : ∀ D σ H, u D σ H → t D σ H) : PS X st u := ⟨fun pins s σ H D I q => h.run pins s σ H D I (k D σ H q)⟩
theorem PSs.imp {X : Cx} {st : List Stmt} {t u : TS} (h : PSs X st t) (k : ∀ D σ H, u D σ H → t D σ H) : PSs X st u := ⟨fun pins s σ H D I q => h.run pins s σ H D I (k D σ H q)⟩

/-- an own class, as the top left it -/
structure ClsOk (K : PySem.W.Frag) (C : Addr) : Prop where
  cls : Cls K C
  mro : (PySem.W.clsIn K C).map (·.mro) = some [.ref C, .type "object"]
  ty : PySem.W.typeIn K (.ref C) = some (.type "type")
  cl : PySem.W.findIn K (.ref C) "__class__" = some (some (.builtin "object.__class__"))
structure TbOk (T : Tb) : Prop where
  co : ∀ c, c < T.nc → ClsOk T.K (T.cl c)
  na : ∀ c, c < T.nc → ∀ f ∈ T.fl, NoAttr T.K (T.cl c) f
  inj : ∀ c d, c < T.nc → d < T.nc → T.cl c = T.cl d → c = d
  sp : PySem.W.specialIn T.K (.builtin "object.__class__") "__get__" = some (some (.builtin "getset_descriptor.__get__"))
  tk : PySem.W.takesIn T.K (.builtin "object.__class__") = some true
/-- what a context offers -/
structure Cok (X : Cx) (T : Tb) (Wx : WX) (k : Nat) : Prop where
  calm : X.calm = true
  nd : X.N.Nodup
  room : Room k X.A
  tk : Takes X Wx
  K : T.K = X.K
  ps : PassesOwn (model X.prog X.w) X.A X.env X.xe
  ok : TbOk T
theorem takesF {X : Cx} : Takes X (fun _ _ _ _ => False) := fun _ _ x => by
  obtain ⟨_, _, _, _, _, _, _, _, _, _, _, _, _, _, _, _, z⟩ := x
  exact z.elim
abbrev W0 : WX := fun _ _ _ _ => False
theorem Cok.blk {X : Cx} {T : Tb} {Wx : WX} {k : Nat} (h : Cok X T Wx k) (s : Shared) (H : Hp) (scope : Scope) (cenv : PySem.Env) (fp : List Addr) : Cok (X.blk s H scope cenv fp) T W0 k :=
  ⟨h.calm, h.nd, h.room, takesF, h.K, PassesOwn.never, h.ok⟩

/-! ### evaluating one thing, then going on -/
section
variable {T : Tb} {Wx : WX}
/-- the reading of f, wanted with what the run behind asks -/
theorem rd_then {f : Dn} {k : D → Dn} {σ : L2.St} {H : Hp} {Q : VK} (h : rd T Wx (fun ρ W => (f ρ W).bind k) σ H Q) :
    rd T Wx f σ H (fun v H1 => ∃ Z ρ W as G d, StR T Z ρ W σ H1 as G ∧ rep T as G d v ∧ PostE T Wx Z σ as G Q (k d ρ W)) := by
  obtain ⟨Z, ρ, W, as, G, s, p⟩ := h
  refine ⟨Z, ρ, W, as, G, s, ?_⟩
  dsimp only at p
  cases e : f ρ W with
  | val d ρ1 W1 =>
    rw [e] at p
    exact fun v H1 as1 G1 s1 m1 r1 => ⟨Z, ρ1, W1, as1, G1, d, s1, r1, PostE.mono m1 p⟩
  | exc c fs ρ1 W1 => rw [e] at p; exact p
  | stk => rw [e] at p; exact p
theorem rdA_then {f : DnA} {k : List D → Dn} {σ : L2.St} {H : Hp} {Q : VK} (h : rd T Wx (fun ρ W => (f ρ W).bind k) σ H Q) :
    rdA T Wx f σ H (fun vs H1 => ∃ Z ρ W as G ds, StR T Z ρ W σ H1 as G ∧ reps T as G ds vs ∧ PostE T Wx Z σ as G Q (k ds ρ W)) := by
  obtain ⟨Z, ρ, W, as, G, s, p⟩ := h
  refine ⟨Z, ρ, W, as, G, s, ?_⟩
  dsimp only at p
  cases e : f ρ W with
  | val d ρ1 W1 =>
    rw [e] at p
    exact fun v H1 as1 G1 s1 m1 r1 => ⟨Z, ρ1, W1, as1, G1, d, s1, r1, PostE.mono m1 p⟩
  | exc c fs ρ1 W1 => rw [e] at p; exact p
  | stk => rw [e] at p; exact p
/-- two things in a row -/
theorem rd_two {f g : Dn} {k : D → D → Dn} {σ : L2.St} {H : Hp} {Q : VK} (h : rd T Wx (fun ρ W => (f ρ W).bind fun d ρ1 W1 => (g ρ1 W1).bind fun e => k d e) σ H Q) :
    rd T Wx f σ H (fun v H1 => rd T Wx g σ H1 fun u H2 => ∃ Z ρ W as G d e, StR T Z ρ W σ H2 as G ∧ rep T as G d v ∧ rep T as G e u ∧ PostE T Wx Z σ as G Q (k d e ρ W)) := by
  obtain ⟨Z, ρ, W, as, G, s, p⟩ := h
  refine ⟨Z, ρ, W, as, G, s, ?_⟩
  dsimp only at p
  cases e : f ρ W with
  | val d ρ1 W1 =>
    rw [e] at p
    refine fun v H1 as1 G1 s1 m1 r1 => ⟨Z, ρ1, W1, as1, G1, s1, ?_⟩
    simp only [Res.bind_val] at p
    cases e2 : g ρ1 W1 with
    | val d2 ρ2 W2 =>
      rw [e2] at p
      exact fun u H2 as2 G2 s2 m2 r2 => ⟨Z, ρ2, W2, as2, G2, d, d2, s2, rep.mono m2 _ _ r1, r2, PostE.mono (m1.trans m2) p⟩
    | exc c fs ρ2 W2 => rw [e2] at p; exact PostX.mono m1 p
    | stk => rw [e2] at p; exact p
  | exc c fs ρ1 W1 => rw [e] at p; exact p
  | stk => rw [e] at p; exact p
end
end Dl

set_option Elab.async false
set_option linter.all false
set_option maxRecDepth 100000
set_option maxHeartbeats 4000000
namespace Dl
open PySem PySem.Spec PyProof.Rows L2

section
variable {X : Cx} {T : Tb} {Wx : WX} {kk : Nat} {a b c : Expr} {fa fb fc : Dn} {pos : Pos}

/-! ### names and constants -/
def dVar (i : Nat) : Dn := fun ρ W => match ρ[i]? with
  | some (.sh d) => .val d ρ W
  | _ => .stk
theorem se_var (i : Nat) {x : Str} (hN : X.N[i]? = some x := by rfl) (hv : Vis X.env.scope x := by first | exact Or.inl rfl | exact Or.inr (Or.inl rfl) | exact Or.inr (Or.inr rfl)) (hd : (x == ("__debug__" : Str)) = false := by decide)
    (hcd : (x == ("__classdict__" : Str)) = false := by decide) : SE X T Wx (.Name x pos) (dVar i) := by
  refine PE.imp (pe_var hN hv hd hcd) fun σ H Q ⟨Z, ρ, W, as, G, s, p⟩ => ?_
  unfold dVar at p
  split at p
  · rename_i d e
    obtain ⟨v, h1, h2⟩ := s.slot i _ e
    exact ⟨v, h1, p v H as G s (Mono.refl _ _) h2⟩
  · exact p.elim
def dC (d : D) : Dn := fun ρ W => .val d ρ W
theorem rd_c {d : D} {v : V} (h : ∀ as G, rep T as G d v) : ∀ σ H Q, rd T Wx (dC d) σ H Q → tC v σ H Q := fun σ H Q ⟨Z, ρ, W, as, G, s, p⟩ => p v H as G s (Mono.refl _ _) (h as G)
theorem se_int {i j} : SE X T Wx (.Constant (.int i) j pos) (dC (.int i)) := PE.imp pe_int (rd_c fun _ _ => by simp only [rep])
theorem se_bl {i j} : SE X T Wx (.Constant (.bool i) j pos) (dC (.bl i)) := PE.imp pe_bl (rd_c fun _ _ => by simp only [rep])
theorem se_non {j} : SE X T Wx (.Constant .none j pos) (dC .non) := PE.imp pe_non (rd_c fun _ _ => by simp only [rep])
theorem se_str {i j} : SE X T Wx (.Constant (.str i) j pos) (dC (.str i)) := PE.imp pe_str (rd_c fun _ _ => by simp only [rep])
theorem se_fn (f : Nat) {x : Str} (hg : Gl X x) (hm : X.mg x = some (.ref (T.fa f))) (hd : (x == ("__debug__" : Str)) = false := by decide) : SE X T Wx (.Name x pos) (dC (.fn f)) :=
  PE.imp (pe_glob (v := .ref (T.fa f)) hg hm rfl hd) (rd_c fun _ _ => by simp only [rep])
theorem se_gc {x : Str} {d : D} {v : V} {u : Value} (hg : Gl X x) (hm : X.mg x = some u) (r : RelV v u) (h : ∀ as G, rep T as G d v) (hd : (x == ("__debug__" : Str)) = false := by decide) : SE X T Wx (.Name x pos) (dC d) :=
  PE.imp (pe_glob hg hm r hd) (rd_c h)

/-! ### operators on values -/
/-- r gives g's answer -/
def POp0 (T : Tb) (r : R2) (g : D → D → Option D) : Prop := ∀ as G H x y d e z (Q : VK), Ex G H → rep T as G d x → rep T as G e y → g d e = some z →
  (∀ v H' G', Alloc G H G' H' → rep T as G' z v → Q v H') → r x y H Q
def POp (T : Tb) (r : R2) (g : Sto → D → D → Option D) : Prop := ∀ Z ρ W σ as G H x y d e z (Q : VK), StR T Z ρ W σ H as G → rep T as G d x → rep T as G e y → g W d e = some z →
  (∀ v H' G', Alloc G H G' H' → rep T as G' z v → Q v H') → r x y H Q
theorem POp0.w {T : Tb} {r : R2} {g : D → D → Option D} (h : POp0 T r g) : POp T r (fun _ => g) := fun Z ρ W σ as G H x y d e z Q s rx ry hz k => h as G H x y d e z Q s.sub rx ry hz k
def dOp2 (g : Sto → D → D → Option D) (fa fb : Dn) : Dn := fun ρ W => (fa ρ W).bind fun d ρ W => (fb ρ W).bind fun e ρ W => match g W d e with
  | some z => .val z ρ W
  | none => .stk
theorem rd_op2 {r : R2} {g : Sto → D → D → Option D} (hr : POp T r g) : ∀ σ H Q, rd T Wx (dOp2 g fa fb) σ H Q → tOp r (rd T Wx fa) (rd T Wx fb) σ H Q := fun σ H Q h => by
  have h2 := rd_two (k := fun d e ρ W => match g W d e with | some z => .val z ρ W | none => .stk) h
  have key : ∀ v u H2, (∃ Z ρ W as G d e, StR T Z ρ W σ H2 as G ∧ rep T as G d v ∧ rep T as G e u ∧ PostE T Wx Z σ as G Q (match g W d e with | some z => .val z ρ W | none => .stk)) → r v u H2 Q := by
    rintro v u H2 ⟨Z, ρ, W, as, G, d, e, s, r1, r2, p⟩
    split at p
    · rename_i z hz
      exact hr Z ρ W σ as G H2 v u d e z Q s r1 r2 hz fun v' H' G' al rz => p v' H' as G' (s.alloc al) (Mono.of al.g) rz
    · exact p.elim
  -- tOp is tOf; weaken under the two readings
  obtain ⟨Z, ρ, W, as, G, s, p⟩ := h2
  refine ⟨Z, ρ, W, as, G, s, ?_⟩
  revert p
  cases fa ρ W with
  | val d ρ1 W1 =>
    intro p v H1 as1 G1 s1 m1 r1
    obtain ⟨Z', ρ', W', as', G', s', p'⟩ := p v H1 as1 G1 s1 m1 r1
    refine ⟨Z', ρ', W', as', G', s', ?_⟩
    revert p'
    cases fb ρ' W' with
    | val e ρ2 W2 => exact fun p' u H2 as2 G2 s2 m2 r2 => key v u H2 (p' u H2 as2 G2 s2 m2 r2)
    | exc c fs ρ2 W2 => exact fun p' => p'
    | stk => exact fun p' => p'
  | exc c fs ρ1 W1 => exact fun p => p
  | stk => exact fun p => p
theorem se_op {op : Operator} {r : R2} {g} (ho : OpR X (binaryOp op) r) (hr : POp T r g) (ha : SE X T Wx a fa) (hb : SE X T Wx b fb) : SE X T Wx (.BinOp a op b pos) (dOp2 g fa fb) :=
  PE.imp (pe_op ho ha hb) (rd_op2 hr)
theorem se_cmp {op : CmpOp} {r : R2} {g} (ho : OpR X (compareOp op) r) (hr : POp T r g) (ha : SE X T Wx a fa) (hb : SE X T Wx b fb) (hm : behindInMarks op b = false) : SE X T Wx (.Compare a [op] [b] pos) (dOp2 g fa fb) :=
  PE.imp (pe_cmpR ho ha hb hm) (rd_op2 hr)
/-- g's answers are bools -/
def GB (g : Sto → D → D → Option D) : Prop := ∀ W d e z, g W d e = some z → ∃ k, z = .bl k
theorem rdT_op2 {r : R2} {g : Sto → D → D → Option D} (hr : POp T r g) (gb : GB g) : ∀ σ H Q, rdT T Wx (dOp2 g fa fb) σ H Q → tTest (tOp r (rd T Wx fa) (rd T Wx fb)) σ H Q := fun σ H Q h => by
  refine rd_op2 hr σ H _ ?_
  obtain ⟨Z, ρ, W, as, G, s, p⟩ := h
  refine ⟨Z, ρ, W, as, G, s, ?_⟩
  have hbl : ∀ d ρ' W', dOp2 g fa fb ρ W = .val d ρ' W' → ∃ k, d = .bl k := by
    intro d ρ' W' e
    unfold dOp2 at e
    cases h1 : fa ρ W with
    | val d1 ρ1 W1 =>
      rw [h1] at e
      simp only [Res.bind_val] at e
      cases h2 : fb ρ1 W1 with
      | val d2 ρ2 W2 =>
        rw [h2] at e
        simp only [Res.bind_val] at e
        split at e
        · rename_i z hz
          cases e
          exact gb _ _ _ _ hz
        · cases e
      | exc => rw [h2] at e; cases e
      | stk => rw [h2] at e; cases e
    | exc => rw [h1] at e; cases e
    | stk => rw [h1] at e; cases e
  revert p hbl
  cases dOp2 g fa fb ρ W with
  | val d ρ1 W1 =>
    intro p hbl v H1 as1 G1 s1 m1 r1
    obtain ⟨k, rfl⟩ := hbl d ρ1 W1 rfl
    obtain ⟨k', e, p⟩ := p
    cases e
    simp only [rep] at r1
    exact ⟨k, r1, p H1 as1 G1 s1 m1⟩
  | exc c fs ρ1 W1 => exact fun p _ => p
  | stk => exact fun p _ => p
theorem st_cmp {op : CmpOp} {r : R2} {g} (ho : OpR X (compareOp op) r) (hr : POp T r g) (gb : GB g) (ha : SE X T Wx a fa) (hb : SE X T Wx b fb) (hm : behindInMarks op b = false) : ST X T Wx (.Compare a [op] [b] pos) (dOp2 g fa fb) :=
  PT.imp (pt_cmpR ho ha hb hm) (rdT_op2 hr gb)

/-- ints in, anything out -/
def g2 (C : Int → Int → Bool) (f : Int → Int → D) : D → D → Option D
  | .int i, .int j => if C i j = true then some (f i j) else none
  | _, _ => none
theorem pop_I {C : Int → Int → Prop} {Cb : Int → Int → Bool} {g : Int → Int → V} {f : Int → Int → D} (hC : ∀ i j, Cb i j = true → C i j) (hf : ∀ as G i j, rep T as G (f i j) (g i j)) : POp0 T (rI C g) (g2 Cb f) := by
  intro as G H x y d e z Q ex rx ry hz k
  cases d <;> cases e <;> simp only [g2] at hz <;> try cases hz
  rename_i i j
  split at hz
  · rename_i h
    cases hz
    simp only [rep] at rx ry
    exact ⟨i, j, rx, ry, hC i j h, k _ H G (Alloc.refl G H) (hf as G i j)⟩
  · cases hz
theorem pop_I0 {g : Int → Int → V} {f : Int → Int → D} (hf : ∀ as G i j, rep T as G (f i j) (g i j)) : POp0 T (rI0 g) (g2 (fun _ _ => true) f) := by
  intro as G H x y d e z Q ex rx ry hz k
  cases d <;> cases e <;> simp only [g2] at hz <;> try cases hz
  rename_i i j
  simp only [rep] at rx ry
  exact ⟨i, j, rx, ry, k _ H G (Alloc.refl G H) (hf as G i j)⟩
def gSub : D → D → Option D := g2 (fun _ _ => true) fun i j => .int (i - j)
def cMul (i j : Int) : Bool := (decide (-(2 ^ 64) < i) && decide (i < 2 ^ 64)) || (decide (-(2 ^ 64) < j) && decide (j < 2 ^ 64))
def gMulI : D → D → Option D := g2 cMul fun i j => .int (i * j)
def cDiv (i j : Int) : Bool := decide (0 < j) && decide (j < 1073741824)
def gFdiv : D → D → Option D := g2 cDiv fun i j => .int (i / j)
def gMod : D → D → Option D := g2 (fun _ j => decide (0 < j)) fun i j => .int (i % j)
def cPow (i j : Int) : Bool := decide (0 ≤ j) && decide (j ≤ 1000000) && decide (i.natAbs < 2 ^ 64)
def gPow : D → D → Option D := g2 cPow fun i j => .int (i ^ j.toNat)
def gShl : D → D → Option D := g2 cPow fun i j => .int (i * 2 ^ j.toNat)
def gShr : D → D → Option D := g2 (fun _ j => decide (0 ≤ j)) fun i j => .int (i / 2 ^ j.toNat)
def gAnd : D → D → Option D := g2 (fun _ _ => true) fun i j => .int (Builtin.bitAnd i j)
def gOr : D → D → Option D := g2 (fun _ _ => true) fun i j => .int (Builtin.bitOr i j)
def gXor : D → D → Option D := g2 (fun _ _ => true) fun i j => .int (Builtin.bitXor i j)
theorem pop_sub : POp0 T (rI0 fun i j => .int (i - j)) gSub := pop_I0 fun _ _ _ _ => by simp only [rep]
theorem pop_mul : POp0 T (rI CMul fun i j => .int (i * j)) gMulI := pop_I (fun i j h => by
  simp only [cMul, Bool.or_eq_true, Bool.and_eq_true, decide_eq_true_eq] at h
  exact h) fun _ _ _ _ => by simp only [rep]
theorem pop_fdiv : POp0 T (rI CDiv fun i j => .int (i / j)) gFdiv := pop_I (fun i j h => by
  simp only [cDiv, Bool.and_eq_true, decide_eq_true_eq] at h
  exact h) fun _ _ _ _ => by simp only [rep]
theorem pop_mod : POp0 T (rI (fun _ j => 0 < j) fun i j => .int (i % j)) gMod := pop_I (fun i j h => by
  simp only [decide_eq_true_eq] at h
  exact h) fun _ _ _ _ => by simp only [rep]
theorem cPow_ok (i j : Int) (h : cPow i j = true) : CPow i j := by
  simp only [cPow, Bool.and_eq_true, decide_eq_true_eq] at h
  exact ⟨h.1.1, h.1.2, h.2⟩
theorem pop_pow : POp0 T (rI CPow fun i j => .int (i ^ j.toNat)) gPow := pop_I cPow_ok fun _ _ _ _ => by simp only [rep]
theorem pop_shl : POp0 T (rI CPow fun i j => .int (i * 2 ^ j.toNat)) gShl := pop_I cPow_ok fun _ _ _ _ => by simp only [rep]
theorem pop_shr : POp0 T (rI (fun _ j => 0 ≤ j) fun i j => .int (i / 2 ^ j.toNat)) gShr := pop_I (fun i j h => by
  simp only [decide_eq_true_eq] at h
  exact h) fun _ _ _ _ => by simp only [rep]
theorem pop_and : POp0 T (rI0 fun i j => .int (Builtin.bitAnd i j)) gAnd := pop_I0 fun _ _ _ _ => by simp only [rep]
theorem pop_or : POp0 T (rI0 fun i j => .int (Builtin.bitOr i j)) gOr := pop_I0 fun _ _ _ _ => by simp only [rep]
theorem pop_xor : POp0 T (rI0 fun i j => .int (Builtin.bitXor i j)) gXor := pop_I0 fun _ _ _ _ => by simp only [rep]
/-- comparisons of ints -/
def gLt : D → D → Option D := g2 (fun _ _ => true) fun i j => .bl (decide (i < j))
def gLe : D → D → Option D := g2 (fun _ _ => true) fun i j => .bl (decide (i ≤ j))
def gGt : D → D → Option D := g2 (fun _ _ => true) fun i j => .bl (decide (j < i))
def gGe : D → D → Option D := g2 (fun _ _ => true) fun i j => .bl (decide (j ≤ i))
theorem pop_lt : POp0 T (rI0 fun i j => .bl (decide (i < j))) gLt := pop_I0 fun _ _ _ _ => by simp only [rep]
theorem pop_le : POp0 T (rI0 fun i j => .bl (decide (i ≤ j))) gLe := pop_I0 fun _ _ _ _ => by simp only [rep]
theorem pop_gt : POp0 T (rI0 fun i j => .bl (decide (j < i))) gGt := pop_I0 fun _ _ _ _ => by simp only [rep]
theorem pop_ge : POp0 T (rI0 fun i j => .bl (decide (j ≤ i))) gGe := pop_I0 fun _ _ _ _ => by simp only [rep]
theorem gb_I {C : Int → Int → Bool} {f : Int → Int → Bool} : GB (fun _ => g2 C fun i j => .bl (f i j)) := by
  intro _ d e z h
  dsimp only at h
  cases d <;> cases e <;> simp only [g2] at h <;> try cases h
  split at h
  · cases h; exact ⟨_, rfl⟩
  · cases h

theorem POp0.or1 {r r' : R2} {g g' : D → D → Option D} (h : POp0 T r g) (h' : POp0 T r' g') : POp0 T (fun x y H Q => r x y H Q ∨ r' x y H Q) (fun d e => (g d e).or (g' d e)) := by
  intro as G H x y d e z Q ex rx ry hz k
  dsimp only at hz
  cases q : g d e with
  | some z' =>
    rw [q] at hz
    cases hz
    exact .inl (h as G H x y d e _ Q ex rx ry q k)
  | none =>
    rw [q] at hz
    exact .inr (h' as G H x y d e _ Q ex rx ry hz k)
theorem POp.or1 {r r' : R2} {g g' : Sto → D → D → Option D} (h : POp T r g) (h' : POp T r' g') : POp T (fun x y H Q => r x y H Q ∨ r' x y H Q) (fun W d e => (g W d e).or (g' W d e)) := by
  intro Z ρ W σ as G H x y d e z Q ex rx ry hz k
  dsimp only at hz
  cases q : g W d e with
  | some z' =>
    rw [q] at hz
    cases hz
    exact .inl (h Z ρ W σ as G H x y d e _ Q ex rx ry q k)
  | none =>
    rw [q] at hz
    exact .inr (h' Z ρ W σ as G H x y d e _ Q ex rx ry hz k)
theorem GB.or1 {g g' : Sto → D → D → Option D} (h : GB g) (h' : GB g') : GB (fun W d e => (g W d e).or (g' W d e)) := by
  intro W d e z q
  dsimp only at q
  cases q1 : g W d e with
  | some z' => rw [q1] at q; cases q; exact h _ _ _ _ q1
  | none => rw [q1] at q; exact h' _ _ _ _ q

theorem szl {n : Nat} (h : n ≤ 16777216) : n ≤ sizeLine := by rw [sizeLine_eq]; exact h

/-! ### + -/
def gAddI : D → D → Option D := g2 (fun _ _ => true) fun i j => .int (i + j)
theorem pop_addI : POp0 T (rI0 fun i j => .int (i + j)) gAddI := pop_I0 fun _ _ _ _ => by simp only [rep]
def gAddS : D → D → Option D
  | .str i, .str j => if i.length + j.length ≤ 16777216 then some (.str (i ++ j)) else none
  | _, _ => none
theorem pop_addS : POp0 T (fun x y H Q => ∃ i j, x = .str i ∧ y = .str j ∧ i.length + j.length ≤ sizeLine ∧ Q (.str (i ++ j)) H) gAddS := by
  intro as G H x y d e z Q ex rx ry hz k
  cases d <;> cases e <;> simp only [gAddS] at hz <;> try cases hz
  rename_i i j
  split at hz
  · rename_i h
    cases hz
    simp only [rep] at rx ry
    exact ⟨i, j, rx, ry, szl h, k _ H G (Alloc.refl G H) (by simp only [rep])⟩
  · cases hz
def gAddT : D → D → Option D
  | .tup i, .tup j => if i.length + j.length ≤ 16777216 then some (.tup (i ++ j)) else none
  | _, _ => none
theorem pop_addT (hK : T.K = X.K) : POp0 T (rCatF X.K) gAddT := by
  intro as G H x y d e z Q ex rx ry hz k
  cases d <;> cases e <;> simp only [gAddT] at hz <;> try cases hz
  rename_i i j
  split at hz
  · rename_i h
    cases hz
    have rx0 := rx
    have ry0 := ry
    simp only [rep] at rx ry
    obtain ⟨p, vs, rfl, h1, h2⟩ := rx
    obtain ⟨q, ws, rfl, h3, h4⟩ := ry
    rw [← hK]
    have l1 := h2.length
    have l2 := h4.length
    refine ⟨p, q, vs, ws, rfl, rfl, ex_ns ex h1, ex_ns ex h3, by rw [l1, l2]; exact szl h, fun e => ?_, fun e e2 => ?_, fun e e2 r o hr hd => ?_⟩
    · subst e
      have : i = [] := List.length_eq_zero_iff.mp (by rw [← l1]; rfl)
      subst this
      exact k _ H G (Alloc.refl G H) (by simpa using ry0)
    · subst e2
      have : j = [] := List.length_eq_zero_iff.mp (by rw [← l2]; rfl)
      subst this
      exact k _ H G (Alloc.refl G H) (by simpa using rx0)
    · refine k _ _ _ (Alloc.new ex hr) ?_
      simp only [rep]
      exact ⟨r, vs ++ ws, rfl, TupN.of upd_same hd, (h2.append h4).mono (Mono.of (Ex.upd (ex.free hr))) _ _⟩
  · cases hz
/-- a list's object as it lies -/
theorem rd_list {pins : List (Addr × Obj)} {σ : L2.St} {H : Hp} {s : Shared} {a : Addr} {xs : List V} (I : Inv X pins σ H s) (h : Rd H a (.lst xs)) : xs.length ≤ sizeLine ∧ ∃ (its : List Value) (n : Nat), Vals xs its ∧ s.heap.get? a = some { cls := .type "list", data := .seq its.toArray n } :=
  h.ok I.hok
def rCatR : R2 := fun x y H Q => ∃ l b xs zs, x = .ref l ∧ y = .ref b ∧ Rd H l (.lst xs) ∧ Rd H b (.lst zs) ∧ xs.length + zs.length ≤ sizeLine ∧ ∀ p, H p = none → Q (.ref p) (upd H p (.lst (xs ++ zs)))
theorem op_catR : OpR X (binaryOp .Add) rCatR := by
  intro pins s σ H x y v u Q I rx ry h
  obtain ⟨l, b, xs, zs, rfl, rfl, hH, hB, hz, q⟩ := h
  cases rx
  cases ry
  obtain ⟨z, its, n, r, e⟩ := rd_list I hH
  obtain ⟨z2, its2, n2, r2, e2⟩ := rd_list I hB
  have l1 := r.length
  have l2 := r2.length
  refine PySem.P.add_list e e2 ?_ (by rw [List.size_toArray, List.size_toArray]; omega)
  have ea : its.toArray ++ its2.toArray = (its ++ its2).toArray := by simp
  rw [ea]
  exact ⟨.ref _, _, I.lnew (t' := s.toks) (r.append r2) (by rw [List.length_append]; omega), rfl, q _ I.fresh⟩
def gAddL : D → D → Option D
  | .lst i, .lst j => if i.length + j.length ≤ 16777216 then some (.lst (i ++ j)) else none
  | _, _ => none
theorem pop_addL : POp0 T rCatR gAddL := by
  intro as G H x y d e z Q ex rx ry hz k
  cases d <;> cases e <;> simp only [gAddL] at hz <;> try cases hz
  rename_i i j
  split at hz
  · rename_i h
    cases hz
    simp only [rep] at rx ry
    obtain ⟨p, vs, rfl, h1, h2⟩ := rx
    obtain ⟨q, ws, rfl, h3, h4⟩ := ry
    have l1 := h2.length
    have l2 := h4.length
    refine ⟨p, q, vs, ws, rfl, rfl, ex_rd ex h1, ex_rd ex h3, by rw [l1, l2]; exact szl h, fun r hr => ?_⟩
    refine k _ _ _ (Alloc.new ex hr) ?_
    simp only [rep]
    exact ⟨r, vs ++ ws, rfl, Rd.of upd_same, (h2.append h4).mono (Mono.of (Ex.upd (ex.free hr))) _ _⟩
  · cases hz
/-- + of anything -/
def gAdd : D → D → Option D := fun d e => (gAddI d e).or ((gAddT d e).or ((gAddL d e).or (gAddS d e)))
theorem op_add4 : OpR X (binaryOp .Add) (fun x y H Q => rI0 (fun i j => .int (i + j)) x y H Q ∨ (rCatF X.K x y H Q ∨ (rCatR x y H Q ∨ (∃ i j, x = .str i ∧ y = .str j ∧ i.length + j.length ≤ sizeLine ∧ Q (.str (i ++ j)) H)))) :=
  op_add.or (op_catF.or (op_catR.or op_add_str))
theorem pop_add (hK : T.K = X.K) : POp0 T (fun x y H Q => rI0 (fun i j => .int (i + j)) x y H Q ∨ (rCatF X.K x y H Q ∨ (rCatR x y H Q ∨ (∃ i j, x = .str i ∧ y = .str j ∧ i.length + j.length ≤ sizeLine ∧ Q (.str (i ++ j)) H)))) gAdd :=
  pop_addI.or1 ((pop_addT hK).or1 (pop_addL.or1 pop_addS))
theorem se_add (h : Cok X T Wx kk) (ha : SE X T Wx a fa) (hb : SE X T Wx b fb) : SE X T Wx (.BinOp a .Add b pos) (dOp2 (fun _ => gAdd) fa fb) := se_op op_add4 (pop_add h.K).w ha hb
end
end Dl

set_option Elab.async false
set_option linter.all false
set_option maxRecDepth 100000
set_option maxHeartbeats 4000000
namespace Dl
open PySem PySem.Spec PyProof.Rows L2

/-! ### == of data -/
mutual
def eqd : D → D → Bool
  | .non, e => match e with | .non => true | _ => false
  | .bl a, e => match e with | .bl b => a == b | .int j => (if a then 1 else 0) == j | _ => false
  | .int i, e => match e with | .bl b => i == (if b then 1 else 0) | .int j => i == j | _ => false
  | .str x, e => match e with | .str y => x == y | _ => false
  | .lst xs, e => match e with | .lst ys => eqds xs ys | _ => false
  | .tup xs, e => match e with | .tup ys => eqds xs ys | _ => false
  | _, _ => false
def eqds : List D → List D → Bool
  | [], ys => match ys with | [] => true | _ :: _ => false
  | x :: xs, ys => match ys with | [] => false | y :: ys => eqd x y && eqds xs ys
end
mutual
def toPy : D → PyData
  | .non => .none
  | .bl b => .bool b
  | .int i => .int i
  | .str s => .str s
  | .tup xs => .tuple (toPys xs)
  | .lst xs => .list (toPys xs)
  | _ => .none
def toPys : List D → List PyData
  | [] => []
  | x :: xs => toPy x :: toPys xs
end
/-- plain data, nested at most n deep -/
def plain : Nat → D → Bool
  | _, .non => true
  | _, .bl _ => true
  | _, .int _ => true
  | _, .str s => PySem.PyData.strOk s
  | n + 1, .tup xs => xs.all (plain n)
  | n + 1, .lst xs => xs.all (plain n)
  | _, _ => false
@[simp] theorem plain_tup (n : Nat) (xs : List D) : plain (n + 1) (.tup xs) = xs.all (plain n) := by simp only [plain]
@[simp] theorem plain_lst (n : Nat) (xs : List D) : plain (n + 1) (.lst xs) = xs.all (plain n) := by simp only [plain]
@[simp] theorem plain_non (n : Nat) : plain n .non = true := by cases n <;> simp only [plain]
@[simp] theorem plain_bl (n : Nat) (b : Bool) : plain n (.bl b) = true := by cases n <;> simp only [plain]
@[simp] theorem plain_int (n : Nat) (i : Int) : plain n (.int i) = true := by cases n <;> simp only [plain]
@[simp] theorem plain_str (n : Nat) (s : Str) : plain n (.str s) = PySem.PyData.strOk s := by cases n <;> simp only [plain]

section
variable {T : Tb} {as : List Addr} {G : Hp}
mutual
theorem dp_of {K : PySem.W.Frag} (hK : T.K = K) {H : Hp} (ex : Ex G H) : ∀ (n : Nat) (d : D) (v : V), plain n d = true → rep T as G d v → Dp K H v (toPy d)
  | n, .non, v, h, r => by simp only [rep] at r; subst r; simp only [toPy]; exact .non
  | n, .bl b, v, h, r => by simp only [rep] at r; subst r; simp only [toPy]; exact .bl b
  | n, .int b, v, h, r => by simp only [rep] at r; subst r; simp only [toPy]; exact .int b
  | n, .str b, v, h, r => by simp only [rep] at r; subst r; simp only [toPy]; exact .str b
  | 0, .tup xs, v, h, r => by simp only [plain] at h; cases h
  | n + 1, .tup xs, v, h, r => by
    simp only [plain_tup] at h
    simp only [rep] at r
    obtain ⟨a, vs, rfl, h1, h2⟩ := r
    simp only [toPy]
    exact .tup (by rw [← hK]; exact ex_ns ex h1) (dps_of hK ex n xs vs h h2)
  | 0, .lst xs, v, h, r => by simp only [plain] at h; cases h
  | n + 1, .lst xs, v, h, r => by
    simp only [plain_lst] at h
    simp only [rep] at r
    obtain ⟨a, vs, rfl, h1, h2⟩ := r
    simp only [toPy]
    exact .lst (.inl (ex_rd ex h1)) (dps_of hK ex n xs vs h h2)
  | n, .obj c fs, v, h, r => by cases n <;> simp only [plain] at h <;> cases h
  | n, .dct kvs, v, h, r => by cases n <;> simp only [plain] at h <;> cases h
  | n, .fn f, v, h, r => by cases n <;> simp only [plain] at h <;> cases h
  | n, .ref f, v, h, r => by cases n <;> simp only [plain] at h <;> cases h
  | n, .tp f, v, h, r => by cases n <;> simp only [plain] at h <;> cases h
  | n, .sq f, v, h, r => by cases n <;> simp only [plain] at h <;> cases h
theorem dps_of {K : PySem.W.Frag} (hK : T.K = K) {H : Hp} (ex : Ex G H) : ∀ (n : Nat) (ds : List D) (vs : List V), ds.all (plain n) = true → reps T as G ds vs → DpAll K H vs (toPys ds)
  | n, [], vs, h, r => by simp only [reps] at r; subst r; simp only [toPys]; exact .nil
  | n, d :: ds, vs, h, r => by
    simp only [reps] at r
    obtain ⟨v, vr, rfl, h1, h2⟩ := r
    simp only [List.all_cons, Bool.and_eq_true] at h
    simp only [toPys]
    exact .cons (dp_of hK ex n d v h.1 h1) (dps_of hK ex n ds vr h.2 h2)
end
end
mutual
theorem lay_of : ∀ (n : Nat) (d : D), plain n d = true → (toPy d).canLay0 = true ∧ (toPy d).depth ≤ n
  | n, .non, h => by simp only [toPy, PyData.canLay0, PyData.depth, Nat.zero_le, and_self]
  | n, .bl b, h => by simp only [toPy, PyData.canLay0, PyData.depth, Nat.zero_le, and_self]
  | n, .int b, h => by simp only [toPy, PyData.canLay0, PyData.depth, Nat.zero_le, and_self]
  | n, .str b, h => by
    rw [plain_str] at h
    simp only [toPy, PyData.canLay0, PyData.depth, Nat.zero_le, and_true]
    exact h
  | 0, .tup xs, h => by simp only [plain] at h; cases h
  | n + 1, .tup xs, h => by
    simp only [plain_tup] at h
    have := lays_of n xs h
    simp only [toPy, PyData.canLay0, PyData.depth]
    exact ⟨this.1, Nat.succ_le_succ this.2⟩
  | 0, .lst xs, h => by simp only [plain] at h; cases h
  | n + 1, .lst xs, h => by
    simp only [plain_lst] at h
    have := lays_of n xs h
    simp only [toPy, PyData.canLay0, PyData.depth]
    exact ⟨this.1, Nat.succ_le_succ this.2⟩
  | n, .obj c fs, h => by cases n <;> simp only [plain] at h <;> cases h
  | n, .dct kvs, h => by cases n <;> simp only [plain] at h <;> cases h
  | n, .fn f, h => by cases n <;> simp only [plain] at h <;> cases h
  | n, .ref f, h => by cases n <;> simp only [plain] at h <;> cases h
  | n, .tp f, h => by cases n <;> simp only [plain] at h <;> cases h
  | n, .sq f, h => by cases n <;> simp only [plain] at h <;> cases h
theorem lays_of : ∀ (n : Nat) (ds : List D), ds.all (plain n) = true → PyData.canLayAll0 (toPys ds) = true ∧ PyData.depthAll (toPys ds) ≤ n
  | n, [], h => by simp only [toPys, PyData.canLayAll0, PyData.depthAll, Nat.zero_le, and_self]
  | n, d :: ds, h => by
    simp only [List.all_cons, Bool.and_eq_true] at h
    have h1 := lay_of n d h.1
    have h2 := lays_of n ds h.2
    simp only [toPys, PyData.canLayAll0, PyData.depthAll, h1.1, h2.1, Bool.and_self, true_and]
    exact Nat.max_le.mpr ⟨h1.2, h2.2⟩
end
theorem shaped_of {n : Nat} {d : D} (h : plain n d = true) (hn : n ≤ 64) : SeqAt.shaped (toPy d) = true := by
  have := lay_of n d h
  unfold SeqAt.shaped
  rw [this.1, decide_eq_true (Nat.le_trans this.2 hn)] <;> rfl
mutual
theorem eqd_py : ∀ (n : Nat) (d e : D), plain n d = true → plain n e = true → PyData.eqv (toPy d) (toPy e) = eqd d e
  | n, .obj c fs, e, h, q => by cases n <;> simp only [plain] at h <;> cases h
  | n, .dct kvs, e, h, q => by cases n <;> simp only [plain] at h <;> cases h
  | n, .fn f, e, h, q => by cases n <;> simp only [plain] at h <;> cases h
  | n, .ref f, e, h, q => by cases n <;> simp only [plain] at h <;> cases h
  | n, .tp f, e, h, q => by cases n <;> simp only [plain] at h <;> cases h
  | n, .sq f, e, h, q => by cases n <;> simp only [plain] at h <;> cases h
  | n, .non, e, h, q => by cases e <;> first | (cases n <;> simp only [plain] at q <;> cases q; done) | simp only [toPy, PyData.eqv, eqd]
  | n, .bl b, e, h, q => by cases e <;> first | (cases n <;> simp only [plain] at q <;> cases q; done) | simp only [toPy, PyData.eqv, eqd]
  | n, .int b, e, h, q => by cases e <;> first | (cases n <;> simp only [plain] at q <;> cases q; done) | simp only [toPy, PyData.eqv, eqd]
  | n, .str b, e, h, q => by cases e <;> first | (cases n <;> simp only [plain] at q <;> cases q; done) | simp only [toPy, PyData.eqv, eqd]
  | 0, .tup xs, e, h, q => by simp only [plain] at h; cases h
  | n + 1, .tup xs, .tup ys, h, q => by
    simp only [plain_tup] at h q
    simp only [toPy, PyData.eqv, eqd]
    exact eqds_py n xs ys h q
  | n + 1, .tup xs, .non, h, q => by simp only [toPy, PyData.eqv, eqd]
  | n + 1, .tup xs, .bl _, h, q => by simp only [toPy, PyData.eqv, eqd]
  | n + 1, .tup xs, .int _, h, q => by simp only [toPy, PyData.eqv, eqd]
  | n + 1, .tup xs, .str _, h, q => by simp only [toPy, PyData.eqv, eqd]
  | n + 1, .tup xs, .lst _, h, q => by simp only [toPy, PyData.eqv, eqd]
  | n + 1, .tup xs, .obj _ _, h, q => by simp only [plain] at q; cases q
  | n + 1, .tup xs, .dct _, h, q => by simp only [plain] at q; cases q
  | n + 1, .tup xs, .fn _, h, q => by simp only [plain] at q; cases q
  | n + 1, .tup xs, .ref _, h, q => by simp only [plain] at q; cases q
  | n + 1, .tup xs, .tp _, h, q => by simp only [plain] at q; cases q
  | n + 1, .tup xs, .sq _, h, q => by simp only [plain] at q; cases q
  | 0, .lst xs, e, h, q => by simp only [plain] at h; cases h
  | n + 1, .lst xs, .lst ys, h, q => by
    simp only [plain_lst] at h q
    simp only [toPy, PyData.eqv, eqd]
    exact eqds_py n xs ys h q
  | n + 1, .lst xs, .non, h, q => by simp only [toPy, PyData.eqv, eqd]
  | n + 1, .lst xs, .bl _, h, q => by simp only [toPy, PyData.eqv, eqd]
  | n + 1, .lst xs, .int _, h, q => by simp only [toPy, PyData.eqv, eqd]
  | n + 1, .lst xs, .str _, h, q => by simp only [toPy, PyData.eqv, eqd]
  | n + 1, .lst xs, .tup _, h, q => by simp only [toPy, PyData.eqv, eqd]
  | n + 1, .lst xs, .obj _ _, h, q => by simp only [plain] at q; cases q
  | n + 1, .lst xs, .dct _, h, q => by simp only [plain] at q; cases q
  | n + 1, .lst xs, .fn _, h, q => by simp only [plain] at q; cases q
  | n + 1, .lst xs, .ref _, h, q => by simp only [plain] at q; cases q
  | n + 1, .lst xs, .tp _, h, q => by simp only [plain] at q; cases q
  | n + 1, .lst xs, .sq _, h, q => by simp only [plain] at q; cases q
theorem eqds_py : ∀ (n : Nat) (ds es : List D), ds.all (plain n) = true → es.all (plain n) = true → PyData.eqvAll (toPys ds) (toPys es) = eqds ds es
  | n, [], [], h, q => by simp only [toPys, PyData.eqvAll, eqds]
  | n, [], _ :: _, h, q => by simp only [toPys, PyData.eqvAll, eqds]
  | n, _ :: _, [], h, q => by simp only [toPys, PyData.eqvAll, eqds]
  | n, d :: ds, e :: es, h, q => by
    simp only [List.all_cons, Bool.and_eq_true] at h q
    simp only [toPys, PyData.eqvAll, eqds]
    rw [eqd_py n d e h.1 q.1, eqds_py n ds es h.2 q.2]
end

/-- == of plain data -/
def gEq : D → D → Option D := fun d e => if (plain 16 d && plain 16 e) = true then some (.bl (eqd d e)) else none
def gNe : D → D → Option D := fun d e => if (plain 16 d && plain 16 e) = true then some (.bl (!eqd d e)) else none
section
variable {X : Cx} {T : Tb} {Wx : WX} {kk : Nat} {a b c : Expr} {fa fb fc : Dn} {pos : Pos}
theorem pop_eq (hK : T.K = X.K) : POp0 T (rEqD X.K) gEq := by
  intro as G H x y d e z Q ex rx ry hz k
  unfold gEq at hz
  split at hz
  · rename_i h
    simp only [Bool.and_eq_true] at h
    cases hz
    refine ⟨toPy d, toPy e, dp_of hK ex 16 d x h.1 rx, dp_of hK ex 16 e y h.2 ry, shaped_of h.1 (by decide), shaped_of h.2 (by decide), ?_⟩
    rw [eqd_py 16 d e h.1 h.2]
    exact k _ H G (Alloc.refl G H) (by simp only [rep])
  · cases hz
theorem pop_ne (hK : T.K = X.K) : POp0 T (rNeD X.K) gNe := by
  intro as G H x y d e z Q ex rx ry hz k
  unfold gNe at hz
  split at hz
  · rename_i h
    simp only [Bool.and_eq_true] at h
    cases hz
    refine ⟨toPy d, toPy e, dp_of hK ex 16 d x h.1 rx, dp_of hK ex 16 e y h.2 ry, shaped_of h.1 (by decide), shaped_of h.2 (by decide), ?_⟩
    rw [eqd_py 16 d e h.1 h.2]
    exact k _ H G (Alloc.refl G H) (by simp only [rep])
  · cases hz
theorem gb_eq : GB (fun _ => gEq) := by
  intro _ d e z h
  dsimp only at h
  unfold gEq at h
  split at h
  · cases h; exact ⟨_, rfl⟩
  · cases h
theorem gb_ne : GB (fun _ => gNe) := by
  intro _ d e z h
  dsimp only at h
  unfold gNe at h
  split at h
  · cases h; exact ⟨_, rfl⟩
  · cases h
/-- is None -/
def isNon : D → Bool
  | .non => true
  | _ => false
def gIsN : D → D → Option D
  | d, .non => some (.bl (isNon d))
  | _, _ => none
def gNotN : D → D → Option D
  | d, .non => some (.bl (!isNon d))
  | _, _ => none
theorem rep_non {as : List Addr} {G : Hp} {d : D} {v : V} (r : rep T as G d v) : decide (v = .non) = isNon d := by
  unfold isNon
  cases d <;> simp only [rep] at r
  case non => subst r; rfl
  case bl => subst r; rfl
  case int => subst r; rfl
  case str => subst r; rfl
  case tup => obtain ⟨a, vs, rfl, _⟩ := r; rfl
  case lst => obtain ⟨a, vs, rfl, _⟩ := r; rfl
  case obj => obtain ⟨a, dx, vs, rfl, _⟩ := r; rfl
  case dct => obtain ⟨a, vs, rfl, _⟩ := r; rfl
  case fn => subst r; rfl
  case ref => obtain ⟨a, rfl, _⟩ := r; rfl
  case tp => obtain ⟨a, vs, rfl, _⟩ := r; rfl
  case sq => obtain ⟨a, vs, rfl, _⟩ := r; rfl
theorem pop_isN : POp0 T (fun x y H Q => y = .non ∧ Q (.bl (decide (x = .non))) H) gIsN := by
  intro as G H x y d e z Q ex rx ry hz k
  cases e <;> simp only [gIsN] at hz <;> try cases hz
  simp only [rep] at ry
  refine ⟨ry, ?_⟩
  rw [rep_non rx]
  exact k _ H G (Alloc.refl G H) (by simp only [rep])
theorem pop_notN : POp0 T (fun x y H Q => y = .non ∧ Q (.bl (!decide (x = .non))) H) gNotN := by
  intro as G H x y d e z Q ex rx ry hz k
  cases e <;> simp only [gNotN] at hz <;> try cases hz
  simp only [rep] at ry
  refine ⟨ry, ?_⟩
  rw [rep_non rx]
  exact k _ H G (Alloc.refl G H) (by simp only [rep])
theorem gb_isN : GB (fun _ => gIsN) := by
  intro _ d e z h
  dsimp only at h
  cases e <;> simp only [gIsN] at h <;> try cases h
  exact ⟨_, rfl⟩
theorem gb_notN : GB (fun _ => gNotN) := by
  intro _ d e z h
  dsimp only at h
  cases e <;> simp only [gNotN] at h <;> try cases h
  exact ⟨_, rfl⟩

/-! ### in -/
def flat : D → Bool
  | .non => true
  | .bl _ => true
  | .int _ => true
  | .str _ => true
  | _ => false
theorem flat_V {as : List Addr} {G : Hp} {d : D} {v : V} (r : rep T as G d v) (h : flat d = true) : flatV v = true := by
  cases d <;> simp only [flat] at h <;> first | cases h; done | (simp only [rep] at r; subst r; rfl)
theorem eqV_eqd {as : List Addr} {G : Hp} {d e : D} {v u : V} (r : rep T as G d v) (q : rep T as G e u) (h : flat d = true) (h2 : flat e = true) : eqV v u = eqd d e := by
  cases d <;> simp only [flat] at h <;> first | cases h; done | skip
  all_goals (simp only [rep] at r; subst r; cases e <;> simp only [flat] at h2 <;> first | cases h2; done | (simp only [rep] at q; subst q; simp only [eqV, eqd]))
theorem flats_V {as : List Addr} {G : Hp} : ∀ {ds : List D} {vs : List V}, reps T as G ds vs → ds.all flat = true → vs.all flatV = true
  | [], vs, r, _ => by simp only [reps] at r; subst r; rfl
  | d :: ds, vs, r, h => by
    simp only [reps] at r
    obtain ⟨v, vr, rfl, h1, h2⟩ := r
    simp only [List.all_cons, Bool.and_eq_true] at h ⊢
    exact ⟨flat_V h1 h.1, flats_V h2 h.2⟩
theorem inV_in {as : List Addr} {G : Hp} {d : D} {v : V} (r : rep T as G d v) (h : flat d = true) : ∀ {ds : List D} {vs : List V}, reps T as G ds vs → ds.all flat = true → inV v vs = ds.any fun e => eqd e d
  | [], vs, q, _ => by simp only [reps] at q; subst q; rfl
  | e :: ds, vs, q, hh => by
    simp only [reps] at q
    obtain ⟨u, vr, rfl, h1, h2⟩ := q
    simp only [List.all_cons, Bool.and_eq_true] at hh
    have ih := inV_in r h h2 hh.2
    unfold inV at ih ⊢
    simp only [List.any_cons]
    rw [eqV_eqd h1 r hh.1 h, ih]
def gInS (neg : Bool) : D → D → Option D
  | d, .lst xs => if (flat d && xs.all flat) = true then some (.bl (if neg then !(xs.any fun e => eqd e d) else xs.any fun e => eqd e d)) else none
  | d, .tup xs => if (flat d && xs.all flat) = true then some (.bl (if neg then !(xs.any fun e => eqd e d) else xs.any fun e => eqd e d)) else none
  | _, _ => none
theorem pop_inS (hK : T.K = X.K) (neg : Bool) : POp0 T (rIn X.K neg) (gInS neg) := by
  intro as G H x y d e z Q ex rx ry hz k
  cases e <;> simp only [gInS] at hz <;> first | cases hz; done | skip
  all_goals
    split at hz
    · rename_i h
      simp only [Bool.and_eq_true] at h
      cases hz
      simp only [rep] at ry
      obtain ⟨p, vs, rfl, h1, h2⟩ := ry
      refine ⟨p, vs, rfl, ?_, flat_V rx h.1, flats_V h2 h.2, ?_⟩
      · first
          | exact .inl (.inl (ex_rd ex h1))
          | (rw [← hK]; exact .inr (ex_ns ex h1))
      · rw [inV_in rx h.1 h2 h.2]
        exact k _ H G (Alloc.refl G H) (by simp only [rep])
    · cases hz
theorem gb_inS (neg : Bool) : GB (fun _ => gInS neg) := by
  intro _ d e z h
  dsimp only at h
  cases e <;> simp only [gInS] at h <;> first | cases h; done | skip
  all_goals
    split at h
    · cases h; exact ⟨_, rfl⟩
    · cases h

/-! ### xs[i] -/
def gIx : D → D → Option D
  | .lst xs, .int i => atI xs i
  | .tup xs, .int i => atI xs i
  | .str z, .int i => if z.length ≤ 16777216 then (atI z.cps.toList i).map fun c => .str ⟨#[c]⟩ else none
  | _, _ => none
theorem atI_rep {as : List Addr} {G : Hp} {ds : List D} {vs : List V} {i : Int} {d : D} (r : reps T as G ds vs) (h : atI ds i = some d) : ∃ v, atI vs i = some v ∧ rep T as G d v := by
  unfold atI at h ⊢
  rw [r.length]
  cases q : ixN ds.length i with
  | none => rw [q] at h; cases h
  | some j =>
    rw [q] at h
    simp only [Option.bind_some] at h ⊢
    exact r.get' h
theorem pop_ix (hK : T.K = X.K) : POp0 T (rIx X.K) gIx := by
  intro as G H x y d e z Q ex rx ry hz k
  cases d <;> cases e <;> simp only [gIx] at hz <;> first | cases hz; done | skip
  · simp only [rep] at rx ry
    rename_i w i
    split at hz
    · rename_i hl
      cases q : atI w.cps.toList i with
      | none => rw [q] at hz; cases hz
      | some c =>
        rw [q] at hz
        cases hz
        exact .inr (.inr ⟨w, i, c, rx, ry, szl hl, q, k _ H G (Alloc.refl G H) (by simp only [rep])⟩)
    · cases hz
  · simp only [rep] at rx ry
    obtain ⟨p, vs, rfl, h1, h2⟩ := rx
    obtain ⟨v, h3, h4⟩ := atI_rep h2 hz
    rw [← hK]
    exact .inr (.inl ⟨p, vs, _, v, rfl, ry, ex_ns ex h1, h3, k _ H G (Alloc.refl G H) h4⟩)
  · simp only [rep] at rx ry
    obtain ⟨p, vs, rfl, h1, h2⟩ := rx
    obtain ⟨v, h3, h4⟩ := atI_rep h2 hz
    exact .inl ⟨p, vs, _, v, rfl, ry, .inl (ex_rd ex h1), h3, k _ H G (Alloc.refl G H) h4⟩
theorem se_ix (h : Cok X T Wx kk) (ha : SE X T Wx a fa) (hb : SE X T Wx b fb) (hs : PlainIx b := by exact fun _ _ => rfl) : SE X T Wx (.Subscript a b pos) (dOp2 (fun _ => gIx) fa fb) :=
  PE.imp (pe_ix ix_seq ha hb hs) (rd_op2 (pop_ix h.K).w)
end
end Dl

set_option Elab.async false
set_option linter.all false
set_option maxRecDepth 100000
set_option maxHeartbeats 4000000
namespace Dl
open PySem PySem.Spec PyProof.Rows L2

section
variable {X : Cx} {T : Tb} {Wx : WX} {kk : Nat} {a b c e : Expr} {es rest : List Expr} {fa fb fc : Dn} {fA fr : DnA} {pos : Pos}

/-! ### arguments, displays -/
def dNil : DnA := fun ρ W => .val [] ρ W
def dCons (f : Dn) (r : DnA) : DnA := fun ρ W => match f ρ W with
  | .val d ρ W => match r ρ W with
    | .val ds ρ W => .val (d :: ds) ρ W
    | .exc c fs ρ W => .exc c fs ρ W
    | .stk => .stk
  | .exc c fs ρ W => .exc c fs ρ W
  | .stk => .stk
theorem sa_nil : SA X T Wx [] dNil := PA.imp pa_nil fun σ H Q ⟨Z, ρ, W, as, G, s, p⟩ => p [] H as G s (Mono.refl _ _) reps_nil
theorem sa_cons (ha : SE X T Wx e fa) (hr : SA X T Wx es fr) (hs : starEach (e :: es) X.env = (false, eval e X.env) :: starEach es X.env := by rfl) : SA X T Wx (e :: es) (dCons fa fr) := by
  refine PA.imp (pa_cons ha hr hs) fun σ H Q ⟨Z, ρ, W, as, G, s, p⟩ => ?_
  refine ⟨Z, ρ, W, as, G, s, ?_⟩
  unfold dCons at p
  cases e1 : fa ρ W with
  | val d ρ1 W1 =>
    rw [e1] at p
    refine fun v H1 as1 G1 s1 m1 r1 => ⟨Z, ρ1, W1, as1, G1, s1, ?_⟩
    dsimp only at p
    cases e2 : fr ρ1 W1 with
    | val ds ρ2 W2 =>
      rw [e2] at p
      exact fun vs H2 as2 G2 s2 m2 r2 => p (v :: vs) H2 as2 G2 s2 (m1.trans m2) (reps_cons (rep.mono m2 _ _ r1) r2)
    | exc c fs ρ2 W2 => rw [e2] at p; exact PostX.mono m1 p
    | stk => rw [e2] at p; exact p
  | exc c fs ρ1 W1 => rw [e1] at p; exact p
  | stk => rw [e1] at p; exact p

/-- a call of a known value -/
def POpN (T : Tb) (r : List V → Hp → VK → Prop) (g : Sto → List D → Option D) : Prop := ∀ Z ρ W σ as G H xs ds z (Q : VK), StR T Z ρ W σ H as G → reps T as G ds xs → g W ds = some z →
  (∀ v H' G', Alloc G H G' H' → rep T as G' z v → Q v H') → r xs H Q
def dBi (g : Sto → List D → Option D) (fA : DnA) : Dn := fun ρ W => (fA ρ W).bind fun ds ρ W => match g W ds with
  | some z => .val z ρ W
  | none => .stk
theorem rd_bi {r : List V → Hp → VK → Prop} {g} (hr : POpN T r g) : ∀ σ H Q, rd T Wx (dBi g fA) σ H Q → rdA T Wx fA σ H (fun vs H1 => r vs H1 Q) := fun σ H Q h => by
  obtain ⟨Z, ρ, W, as, G, s, p⟩ := h
  refine ⟨Z, ρ, W, as, G, s, ?_⟩
  unfold dBi at p
  cases e1 : fA ρ W with
  | val ds ρ1 W1 =>
    rw [e1] at p
    simp only [ResA.bind_val] at p
    intro vs H1 as1 G1 s1 m1 r1
    split at p
    · rename_i z hz
      exact hr Z ρ1 W1 σ as1 G1 H1 vs ds z Q s1 r1 hz fun v H' G' al rz => p v H' as1 G' (s1.alloc al) (m1.trans (Mono.of al.g)) rz
    · exact p.elim
  | exc c fs ρ1 W1 => rw [e1] at p; exact p
  | stk => rw [e1] at p; exact p
theorem se_bi {x : Str} {id : String} {p : Pos} {r : List V → Hp → VK → Prop} {g} (hr : POpN T r g) (hc : CallR X (.builtin id) r) (hg : Gl X x) (hm : X.mg x = none) (hv : bootBuiltins x = some (.builtin id)) (ha : SA X T Wx (e :: es) fA) (hn : x ≠ "__name__" := by decide) (hdb : (x == ("__debug__" : Str)) = false := by decide)
    (he : starEach (e :: es) X.env = (false, eval e X.env) :: starEach es X.env := by rfl) (hpl : (backTo pos (starEach es X.env)).any (·.1) = false := by rfl) : SE X T Wx (.Call (.Name x p) (e :: es) [] pos) (dBi g fA) :=
  PE.imp (pe_callB hc hg hm hv ha hn hdb he hpl) (rd_bi hr)
theorem se_ty {x : Str} {id : String} {p : Pos} {r : List V → Hp → VK → Prop} {g} (hr : POpN T r g) (hc : CallR X (.type id) r) (hg : Gl X x) (hm : X.mg x = none) (hv : bootBuiltins x = some (.type id)) (ha : SA X T Wx (e :: es) fA) (hn : x ≠ "__name__" := by decide) (hdb : (x == ("__debug__" : Str)) = false := by decide)
    (he : starEach (e :: es) X.env = (false, eval e X.env) :: starEach es X.env := by rfl) (hpl : (backTo pos (starEach es X.env)).any (·.1) = false := by rfl) : SE X T Wx (.Call (.Name x p) (e :: es) [] pos) (dBi g fA) :=
  PE.imp (pe_callTy hc hg hm hv ha hn hdb he hpl) (rd_bi hr)
def gTup : Sto → List D → Option D := fun _ ds => if ds.length ≤ 16777216 then some (.tup ds) else none
def gLst : Sto → List D → Option D := fun _ ds => if ds.length ≤ 16777216 then some (.lst ds) else none
theorem popn_tup : POpN T (fun xs H Q => xs.length ≤ sizeLine ∧ NewT H Q xs) gTup := by
  intro Z ρ W σ as G H xs ds z Q s rx hz k
  unfold gTup at hz
  split at hz
  · rename_i h
    cases hz
    refine ⟨by rw [rx.length]; exact szl h, fun p o hp hd => k _ _ _ (Alloc.new s.sub hp) ?_⟩
    simp only [rep]
    exact ⟨p, xs, rfl, TupN.of upd_same hd, reps.mono (Mono.of (Ex.upd (s.sub.free hp))) _ _ rx⟩
  · cases hz
theorem popn_lst : POpN T (fun xs H Q => xs.length ≤ sizeLine ∧ ∀ p, H p = none → Q (.ref p) (upd H p (.lst xs))) gLst := by
  intro Z ρ W σ as G H xs ds z Q s rx hz k
  unfold gLst at hz
  split at hz
  · rename_i h
    cases hz
    refine ⟨by rw [rx.length]; exact szl h, fun p hp => k _ _ _ (Alloc.new s.sub hp) ?_⟩
    simp only [rep]
    exact ⟨p, xs, rfl, Rd.of upd_same, reps.mono (Mono.of (Ex.upd (s.sub.free hp))) _ _ rx⟩
  · cases hz
theorem se_tup {x1} (h : SA X T Wx es fA) : SE X T Wx (.Tuple es x1 pos) (dBi gTup fA) := PE.imp (pe_tupF h) (rd_bi popn_tup)
theorem se_lst (h : SA X T Wx es fA) : SE X T Wx (.List es pos) (dBi gLst fA) := PE.imp (pe_lst h) (rd_bi popn_lst)

/-! ### tests -/
theorem TruV_of {as : List Addr} {G H : Hp} {Z ρ W} {σ : L2.St} {d : D} {v : V} {k : Bool} (s : StR T Z ρ W σ H as G) (r : rep T as G d v) (h : tru W d = some k) : TruV T.K v H k := by
  cases d <;> simp only [tru] at h <;> simp only [rep] at r
  case non => subst r; cases h; rfl
  case bl => subst r; cases h; rfl
  case int => subst r; cases h; rfl
  case str x =>
    subst r
    split at h
    · rename_i hl; cases h; exact ⟨szl hl, rfl⟩
    · cases h
  case tup xs =>
    obtain ⟨p, vs, rfl, h1, h2⟩ := r
    cases h
    have l := h2.length
    refine .inr (.inl ⟨vs, ex_ns s.sub h1, ?_⟩)
    cases xs <;> cases vs <;> first | rfl | cases l
  case lst xs =>
    obtain ⟨p, vs, rfl, h1, h2⟩ := r
    cases h
    have l := h2.length
    refine .inl ⟨vs, .inl (ex_rd s.sub h1), ?_⟩
    cases xs <;> cases vs <;> first | rfl | cases l
  case obj => cases h
  case dct kvs =>
    obtain ⟨p, vs, rfl, h1, h2⟩ := r
    cases h
    have l := h2.length
    refine .inr (.inr ⟨vs, s.sub _ _ h1, ?_⟩)
    cases kvs <;> cases vs <;> first | rfl | cases l
  case fn => cases h
  case tp => cases h
  case sq => cases h
  case ref n =>
    obtain ⟨p, rfl, h1⟩ := r
    split at h
    · rename_i kvs hw
      cases h
      obtain ⟨_, vs, h2, h3⟩ := s.sto n _ p hw h1
      have l := h3.length
      refine .inr (.inr ⟨vs, h2, ?_⟩)
      cases kvs <;> cases vs <;> first | rfl | cases l
    · cases h
theorem st_val (hK : Cok X T Wx kk) (h : SE X T Wx a fa) (he : ∀ whole, isTrue a X.env whole = (do let v ← whole; standAt a.pos; holding [v] (PySem.truthy v)) := by intro _; rfl) : ST X T Wx a fa := by
  refine PT.imp (pt_truth h he) fun σ H Q ⟨Z, ρ, W, as, G, s, p⟩ => ?_
  refine ⟨Z, ρ, W, as, G, s, ?_⟩
  cases e1 : fa ρ W with
  | val d ρ1 W1 =>
    rw [e1] at p
    obtain ⟨k, h1, p⟩ := p
    intro v H1 as1 G1 s1 m1 r1
    exact ⟨k, by rw [← hK.K]; exact TruV_of s1 r1 h1, p H1 as1 G1 s1 m1⟩
  | exc c fs ρ1 W1 => rw [e1] at p; exact p
  | stk => rw [e1] at p; exact p
/-- and, or, not -/
def dAnd (fa fb : Dn) : Dn := fun ρ W => (fa ρ W).bind fun d ρ W => match tru W d with
  | some true => fb ρ W
  | some false => .val d ρ W
  | none => .stk
def dOr (fa fb : Dn) : Dn := fun ρ W => (fa ρ W).bind fun d ρ W => match tru W d with
  | some true => .val d ρ W
  | some false => fb ρ W
  | none => .stk
def dNot (fa : Dn) : Dn := fun ρ W => (fa ρ W).bind fun d ρ W => match tru W d with
  | some k => .val (.bl (!k)) ρ W
  | none => .stk
theorem se_one {op} (h : SE X T Wx a fa) : SE X T Wx (.BoolOp op [a] pos) fa := pe_one h
theorem se_and (hK : Cok X T Wx kk) (ha : SE X T Wx a fa) (hb : SE X T Wx (.BoolOp .And (b :: rest) pos) fb) : SE X T Wx (.BoolOp .And (a :: b :: rest) pos) (dAnd fa fb) := by
  refine PE.imp (pe_andT ha hb) fun σ H Q ⟨Z, ρ, W, as, G, s, p⟩ => ?_
  refine ⟨Z, ρ, W, as, G, s, ?_⟩
  unfold dAnd at p
  cases e1 : fa ρ W with
  | val d ρ1 W1 =>
    rw [e1] at p
    simp only [Res.bind_val] at p
    intro v H1 as1 G1 s1 m1 r1
    split at p
    · rename_i h1
      refine ⟨true, by rw [← hK.K]; exact TruV_of s1 r1 h1, ?_⟩
      rw [if_pos rfl]
      exact ⟨Z, ρ1, W1, as1, G1, s1, PostE.mono m1 p⟩
    · rename_i h1
      refine ⟨false, by rw [← hK.K]; exact TruV_of s1 r1 h1, ?_⟩
      rw [if_neg Bool.false_ne_true]
      exact p v H1 as1 G1 s1 m1 r1
    · exact p.elim
  | exc c fs ρ1 W1 => rw [e1] at p; exact p
  | stk => rw [e1] at p; exact p
theorem se_or (hK : Cok X T Wx kk) (ha : SE X T Wx a fa) (hb : SE X T Wx (.BoolOp .Or (b :: rest) pos) fb) : SE X T Wx (.BoolOp .Or (a :: b :: rest) pos) (dOr fa fb) := by
  refine PE.imp (pe_orT ha hb) fun σ H Q ⟨Z, ρ, W, as, G, s, p⟩ => ?_
  refine ⟨Z, ρ, W, as, G, s, ?_⟩
  unfold dOr at p
  cases e1 : fa ρ W with
  | val d ρ1 W1 =>
    rw [e1] at p
    simp only [Res.bind_val] at p
    intro v H1 as1 G1 s1 m1 r1
    split at p
    · rename_i h1
      refine ⟨true, by rw [← hK.K]; exact TruV_of s1 r1 h1, ?_⟩
      rw [if_pos rfl]
      exact p v H1 as1 G1 s1 m1 r1
    · rename_i h1
      refine ⟨false, by rw [← hK.K]; exact TruV_of s1 r1 h1, ?_⟩
      rw [if_neg Bool.false_ne_true]
      exact ⟨Z, ρ1, W1, as1, G1, s1, PostE.mono m1 p⟩
    · exact p.elim
  | exc c fs ρ1 W1 => rw [e1] at p; exact p
  | stk => rw [e1] at p; exact p
theorem se_not (hK : Cok X T Wx kk) (ha : SE X T Wx a fa) : SE X T Wx (.UnaryOp .Not a pos) (dNot fa) := by
  refine PE.imp (pe_notT ha) fun σ H Q ⟨Z, ρ, W, as, G, s, p⟩ => ?_
  refine ⟨Z, ρ, W, as, G, s, ?_⟩
  unfold dNot at p
  cases e1 : fa ρ W with
  | val d ρ1 W1 =>
    rw [e1] at p
    simp only [Res.bind_val] at p
    intro v H1 as1 G1 s1 m1 r1
    split at p
    · rename_i k h1
      exact ⟨k, by rw [← hK.K]; exact TruV_of s1 r1 h1, p _ H1 as1 G1 s1 m1 (by simp only [rep])⟩
    · exact p.elim
  | exc c fs ρ1 W1 => rw [e1] at p; exact p
  | stk => rw [e1] at p; exact p
/-- the same as tests -/
abbrev SW (X : Cx) (T : Tb) (Wx : WX) (e : Expr) (f : Dn) : Prop := PW X e (rdT T Wx f)
theorem st_w (h : SW X T Wx a fa) : ST X T Wx a fa := PW.pt h
theorem sw_and1 (ha : ST X T Wx a fa) : SW X T Wx (.BoolOp .And [a] pos) fa := pw_and1 ha
theorem sw_or1 (ha : ST X T Wx a fa) : SW X T Wx (.BoolOp .Or [a] pos) fa := pw_or1 ha
theorem sw_and (ha : ST X T Wx a fa) (hb : SW X T Wx (.BoolOp .And (b :: rest) pos) fb) : SW X T Wx (.BoolOp .And (a :: b :: rest) pos) (dAnd fa fb) := by
  refine PW.imp (pw_and ha hb) fun σ H Q ⟨Z, ρ, W, as, G, s, p⟩ => ?_
  refine ⟨Z, ρ, W, as, G, s, ?_⟩
  unfold dAnd at p
  cases e1 : fa ρ W with
  | val d ρ1 W1 =>
    rw [e1] at p
    simp only [Res.bind_val] at p
    split at p
    · rename_i h1
      refine ⟨true, h1, fun H1 as1 G1 s1 m1 => ?_⟩
      dsimp only
      rw [if_pos rfl]
      refine ⟨Z, ρ1, W1, as1, G1, s1, ?_⟩
      cases e2 : fb ρ1 W1 with
      | val d2 ρ2 W2 =>
        rw [e2] at p
        obtain ⟨k, h2, p⟩ := p
        exact ⟨k, h2, fun H2 as2 G2 s2 m2 => p H2 as2 G2 s2 (m1.trans m2)⟩
      | exc c fs ρ2 W2 => rw [e2] at p; exact PostX.mono m1 p
      | stk => rw [e2] at p; exact p
    · rename_i h1
      refine ⟨false, h1, fun H1 as1 G1 s1 m1 => ?_⟩
      dsimp only
      rw [if_neg Bool.false_ne_true]
      obtain ⟨k, h2, p⟩ := p
      rw [h1] at h2
      cases h2
      exact p H1 as1 G1 s1 m1
    · exact p.elim
  | exc c fs ρ1 W1 => rw [e1] at p; exact p
  | stk => rw [e1] at p; exact p
theorem sw_or (ha : ST X T Wx a fa) (hb : SW X T Wx (.BoolOp .Or (b :: rest) pos) fb) : SW X T Wx (.BoolOp .Or (a :: b :: rest) pos) (dOr fa fb) := by
  refine PW.imp (pw_or ha hb) fun σ H Q ⟨Z, ρ, W, as, G, s, p⟩ => ?_
  refine ⟨Z, ρ, W, as, G, s, ?_⟩
  unfold dOr at p
  cases e1 : fa ρ W with
  | val d ρ1 W1 =>
    rw [e1] at p
    simp only [Res.bind_val] at p
    split at p
    · rename_i h1
      refine ⟨true, h1, fun H1 as1 G1 s1 m1 => ?_⟩
      dsimp only
      rw [if_pos rfl]
      obtain ⟨k, h2, p⟩ := p
      rw [h1] at h2
      cases h2
      exact p H1 as1 G1 s1 m1
    · rename_i h1
      refine ⟨false, h1, fun H1 as1 G1 s1 m1 => ?_⟩
      dsimp only
      rw [if_neg Bool.false_ne_true]
      refine ⟨Z, ρ1, W1, as1, G1, s1, ?_⟩
      cases e2 : fb ρ1 W1 with
      | val d2 ρ2 W2 =>
        rw [e2] at p
        obtain ⟨k, h2, p⟩ := p
        exact ⟨k, h2, fun H2 as2 G2 s2 m2 => p H2 as2 G2 s2 (m1.trans m2)⟩
      | exc c fs ρ2 W2 => rw [e2] at p; exact PostX.mono m1 p
      | stk => rw [e2] at p; exact p
    · exact p.elim
  | exc c fs ρ1 W1 => rw [e1] at p; exact p
  | stk => rw [e1] at p; exact p
theorem st_not (ha : ST X T Wx a fa) : ST X T Wx (.UnaryOp .Not a pos) (dNot fa) := by
  refine PT.imp (pt_not ha) fun σ H Q ⟨Z, ρ, W, as, G, s, p⟩ => ?_
  refine ⟨Z, ρ, W, as, G, s, ?_⟩
  unfold dNot at p
  cases e1 : fa ρ W with
  | val d ρ1 W1 =>
    rw [e1] at p
    simp only [Res.bind_val] at p
    split at p
    · rename_i k h1
      refine ⟨k, h1, fun H1 as1 G1 s1 m1 => ?_⟩
      obtain ⟨k2, h2, p⟩ := p
      cases h2
      exact p H1 as1 G1 s1 m1
    · exact p.elim
  | exc c fs ρ1 W1 => rw [e1] at p; exact p
  | stk => rw [e1] at p; exact p
def dIf (fc fa fb : Dn) : Dn := fun ρ W => (fc ρ W).bind fun d ρ W => match tru W d with
  | some true => fa ρ W
  | some false => fb ρ W
  | none => .stk
theorem se_if (hc : ST X T Wx c fc) (ha : SE X T Wx a fa) (hb : SE X T Wx b fb) : SE X T Wx (.IfExp c a b pos) (dIf fc fa fb) := by
  refine PE.imp (pe_ifExp hc ha hb) fun σ H Q ⟨Z, ρ, W, as, G, s, p⟩ => ?_
  refine ⟨Z, ρ, W, as, G, s, ?_⟩
  unfold dIf at p
  cases e1 : fc ρ W with
  | val d ρ1 W1 =>
    rw [e1] at p
    simp only [Res.bind_val] at p
    split at p
    · rename_i h1
      refine ⟨true, h1, fun H1 as1 G1 s1 m1 => ?_⟩
      dsimp only
      rw [if_pos rfl]
      exact ⟨Z, ρ1, W1, as1, G1, s1, PostE.mono m1 p⟩
    · rename_i h1
      refine ⟨false, h1, fun H1 as1 G1 s1 m1 => ?_⟩
      dsimp only
      rw [if_neg Bool.false_ne_true]
      exact ⟨Z, ρ1, W1, as1, G1, s1, PostE.mono m1 p⟩
    · exact p.elim
  | exc c fs ρ1 W1 => rw [e1] at p; exact p
  | stk => rw [e1] at p; exact p
/-- a < b < c -/
def dChain (g g' : Sto → D → D → Option D) (fa fb fc : Dn) : Dn := fun ρ W => (fa ρ W).bind fun d ρ W => (fb ρ W).bind fun e ρ W => match g W d e with
  | some (.bl true) => (fc ρ W).bind fun f ρ W => match g' W e f with
    | some z => .val z ρ W
    | none => .stk
  | some (.bl false) => .val (.bl false) ρ W
  | _ => .stk
theorem rd_chain {r r' : R2} {g g' : Sto → D → D → Option D} (hr : POp T r g) (hr' : POp T r' g') : ∀ σ H Q, rd T Wx (dChain g g' fa fb fc) σ H Q → tChain r r' (rd T Wx fa) (rd T Wx fb) (rd T Wx fc) σ H Q := fun σ H Q ⟨Z, ρ, W, as, G, s, p⟩ => by
  refine ⟨Z, ρ, W, as, G, s, ?_⟩
  unfold dChain at p
  cases e1 : fa ρ W with
  | val d ρ1 W1 =>
    rw [e1] at p
    simp only [Res.bind_val] at p
    intro v H1 as1 G1 s1 m1 r1
    refine ⟨Z, ρ1, W1, as1, G1, s1, ?_⟩
    cases e2 : fb ρ1 W1 with
    | val e ρ2 W2 =>
      rw [e2] at p
      simp only [Res.bind_val] at p
      intro u H2 as2 G2 s2 m2 r2
      split at p
      · rename_i h1
        refine hr Z ρ2 W2 σ as2 G2 H2 v u d e _ _ s2 (rep.mono m2 _ _ r1) r2 h1 fun z H3 G3 al rz => ?_
        simp only [rep] at rz
        refine ⟨true, rz, ?_⟩
        rw [if_pos rfl]
        have s3 := s2.alloc al
        have m3 : Mono as2 G2 as2 G3 := Mono.of al.g
        refine ⟨Z, ρ2, W2, as2, G3, s3, ?_⟩
        cases e3 : fc ρ2 W2 with
        | val f ρ3 W3 =>
          rw [e3] at p
          simp only [Res.bind_val] at p
          intro w' H4 as4 G4 s4 m4 r4
          split at p
          · rename_i z' hz'
            exact hr' Z ρ3 W3 σ as4 G4 H4 u w' e f z' _ s4 (rep.mono (m3.trans m4) _ _ r2) r4 hz' fun v' H5 G5 al5 rz5 => p v' H5 as4 G5 (s4.alloc al5) ((m1.trans (m2.trans (m3.trans m4))).trans (Mono.of al5.g)) rz5
          · exact p.elim
        | exc c fs ρ3 W3 => rw [e3] at p; exact PostX.mono (m1.trans (m2.trans m3)) p
        | stk => rw [e3] at p; exact p
      · rename_i h1
        refine hr Z ρ2 W2 σ as2 G2 H2 v u d e _ _ s2 (rep.mono m2 _ _ r1) r2 h1 fun z H3 G3 al rz => ?_
        simp only [rep] at rz
        refine ⟨false, rz, ?_⟩
        rw [if_neg Bool.false_ne_true]
        exact p _ H3 as2 G3 (s2.alloc al) ((m1.trans m2).trans (Mono.of al.g)) (by simp only [rep])
      · exact p.elim
    | exc c fs ρ2 W2 => rw [e2] at p; exact PostX.mono m1 p
    | stk => rw [e2] at p; exact p
  | exc c fs ρ1 W1 => rw [e1] at p; exact p
  | stk => rw [e1] at p; exact p
theorem se_chain {op op' : CmpOp} {r r' : R2} {g g'} (ho : OpR X (compareOp op) r) (ho' : OpR X (compareOp op') r') (hr : POp T r g) (hr' : POp T r' g') (ha : SE X T Wx a fa) (hb : SE X T Wx b fb) (hc : SE X T Wx c fc)
    (hm : lastMarks [op, op'] [b, c] = false := by with_unfolding_all rfl) : SE X T Wx (.Compare a [op, op'] [b, c] pos) (dChain g g' fa fb fc) := PE.imp (pe_chain ho ho' ha hb hc hm) (rd_chain hr hr')
theorem rdT_bl {f : Dn} (hb : ∀ ρ W d ρ' W', f ρ W = .val d ρ' W' → ∃ k, d = .bl k) : ∀ σ H Q, rdT T Wx f σ H Q → rd T Wx f σ H (fun x H' => ∃ k, x = .bl k ∧ Q k H') := fun σ H Q ⟨Z, ρ, W, as, G, s, p⟩ => by
  refine ⟨Z, ρ, W, as, G, s, ?_⟩
  cases e1 : f ρ W with
  | val d ρ1 W1 =>
    rw [e1] at p
    obtain ⟨k, rfl⟩ := hb _ _ _ _ _ e1
    obtain ⟨k2, h2, p⟩ := p
    cases h2
    intro v H1 as1 G1 s1 m1 r1
    simp only [rep] at r1
    exact ⟨_, r1, p H1 as1 G1 s1 m1⟩
  | exc c fs ρ1 W1 => rw [e1] at p; exact p
  | stk => rw [e1] at p; exact p
theorem chain_bl {g g' : Sto → D → D → Option D} (gb' : GB g') : ∀ ρ W d ρ' W', dChain g g' fa fb fc ρ W = .val d ρ' W' → ∃ k, d = .bl k := by
  intro ρ W d ρ' W' e
  unfold dChain at e
  cases h1 : fa ρ W with
  | val d1 ρ1 W1 =>
    rw [h1] at e
    simp only [Res.bind_val] at e
    cases h2 : fb ρ1 W1 with
    | val d2 ρ2 W2 =>
      rw [h2] at e
      simp only [Res.bind_val] at e
      split at e
      · cases h3 : fc ρ2 W2 with
        | val d3 ρ3 W3 =>
          rw [h3] at e
          simp only [Res.bind_val] at e
          split at e
          · rename_i z hz
            cases e
            exact gb' _ _ _ _ hz
          · cases e
        | exc => rw [h3] at e; cases e
        | stk => rw [h3] at e; cases e
      · cases e; exact ⟨_, rfl⟩
      · cases e
    | exc => rw [h2] at e; cases e
    | stk => rw [h2] at e; cases e
  | exc => rw [h1] at e; cases e
  | stk => rw [h1] at e; cases e
theorem st_chain {op op' : CmpOp} {r r' : R2} {g g'} (ho : OpR X (compareOp op) r) (ho' : OpR X (compareOp op') r') (hr : POp T r g) (hr' : POp T r' g') (gb' : GB g') (ha : SE X T Wx a fa) (hb : SE X T Wx b fb) (hc : SE X T Wx c fc)
    (hm : lastMarks [op, op'] [b, c] = false := by with_unfolding_all rfl) : ST X T Wx (.Compare a [op, op'] [b, c] pos) (dChain g g' fa fb fc) :=
  PT.imp (pt_chain ho ho' ha hb hc hm) fun σ H Q h => rd_chain hr hr' σ H _ (rdT_bl (chain_bl gb') σ H Q h)
end
end Dl

set_option Elab.async false
set_option linter.all false
set_option maxRecDepth 100000
set_option maxHeartbeats 4000000
namespace Dl
open PySem PySem.Spec PyProof.Rows L2

/-! ### what a def promises -/
inductive CRes where
  | val (d : D) (W : Sto)
  | exc (c : Nat) (fs : List (Str × D)) (W : Sto)
  | stk
instance : Inhabited CRes := ⟨.stk⟩
abbrev Con := List D → Sto → CRes
def PostC (T : Tb) (H : Hp) (as : List Addr) (G : Hp) (Q : VK) (E : XK) : CRes → Prop
  | .val d W => ∀ v H' as' G', StR T (bs H G as) [] W [] H' as' G' → rep T as' G' d v → Q v H'
  | .exc c fs W => ∀ dx vs H' as' G', StR T (bs H G as) [] W [] H' as' G' → repf T as' G' fs vs → H' dx = some (.xd vs) → E (.ref (T.cl c)) (some dx) H'
  | .stk => False
def spD (T : Tb) (n : Nat) (Φ : Con) : Sp := fun vs H Q E => ∃ as G W ds, StR T (bs H G as) [] W [] H as G ∧ reps T as G ds vs ∧ ds.length = n ∧ PostC T H as G Q E (Φ ds W)
/-- a def, by its name -/
structure FnD (T : Tb) (P : Program) (w : World) (mg : Str → Option Value) (base : Heap) (k : Nat) (x : Str) (i n : Nat) (Φ : Con) : Prop where
  ex : ∃ (fd : FuncData) (ps : List Str), ps.length = n ∧ Binds T.K fd ps [] ∧ FnOk P w T.K mg base (L2.CX P w) k (T.fa i) fd ps (spD T n Φ)
  mg : mg x = some (.ref (T.fa i))
  kp : PySem.W.keepIn T.K (.ref (T.fa i)) = true
theorem FnD.mono {T : Tb} {P : Program} {w : World} {mg : Str → Option Value} {base : Heap} {k k' : Nat} {x : Str} {i n : Nat} {Φ : Con} (F : FnD T P w mg base k x i n Φ) (h : k ≤ k') : FnD T P w mg base k' x i n Φ := by
  obtain ⟨⟨fd, ps, h1, h2, h3⟩, m, q⟩ := F
  exact ⟨⟨fd, ps, h1, h2, h3.mono h⟩, m, q⟩
/-- another promise that says no more -/
theorem FnD.imp {T : Tb} {P : Program} {w : World} {mg : Str → Option Value} {base : Heap} {k : Nat} {x : Str} {i n : Nat} {Φ Ψ : Con} (F : FnD T P w mg base k x i n Φ) (h : ∀ ds W, ds.length = n → Ψ ds W ≠ .stk → Φ ds W = Ψ ds W) : FnD T P w mg base k x i n Ψ := by
  obtain ⟨⟨fd, ps, h1, h2, h3⟩, m, q⟩ := F
  refine ⟨⟨fd, ps, h1, h2, h3.imp fun vs H Q E ⟨as, G, W, ds, s, r, l, p⟩ => ⟨as, G, W, ds, s, r, l, ?_⟩⟩, m, q⟩
  rw [h ds W l fun z => by rw [z] at p; exact p]
  exact p

def dCall (n : Nat) (Φ : Con) (fA : DnA) : Dn := fun ρ W => (fA ρ W).bind fun ds ρ W => if ds.length = n then (match Φ ds W with
  | .val d W' => .val d ρ W'
  | .exc c fs W' => .exc c fs ρ W'
  | .stk => .stk) else .stk
section
variable {X : Cx} {T : Tb} {Wx : WX} {kk : Nat} {a b c e : Expr} {es rest : List Expr} {fa fb fc : Dn} {fA fr : DnA} {pos : Pos}
theorem rd_call {n : Nat} {Φ : Con} : ∀ σ H Q, rd T Wx (dCall n Φ fA) σ H Q → tCallS (spD T n Φ) (WE Wx) (rdA T Wx fA) σ H Q := fun σ H Q ⟨Z, ρ, W, as, G, s, p⟩ => by
  refine ⟨Z, ρ, W, as, G, s, ?_⟩
  unfold dCall at p
  cases e1 : fA ρ W with
  | val ds ρ1 W1 =>
    rw [e1] at p
    simp only [ResA.bind_val] at p
    intro vs H1 as1 G1 s1 m1 r1
    split at p
    · rename_i hl
      refine ⟨as1, G1, W1, ds, s1.enter (fun i sl h => by simp at h) (Nat.le_refl _), r1, hl, ?_⟩
      cases e2 : Φ ds W1 with
      | val d W2 =>
        rw [e2] at p
        exact fun v H2 as2 G2 s2 r2 => p v H2 as2 G2 (s1.back s2) (m1.trans s2.mono0) r2
      | exc c fs W2 =>
        rw [e2] at p
        exact fun dx us H2 as2 G2 s2 r2 h2 => p dx us H2 as2 G2 (s1.back s2) (m1.trans s2.mono0) r2 h2
      | stk => rw [e2] at p; exact p
    · exact p.elim
  | exc c fs ρ1 W1 => rw [e1] at p; exact p
  | stk => rw [e1] at p; exact p
theorem se_call {x : Str} {i n : Nat} {Φ : Con} {p : Pos} (h : Cok X T Wx kk) (F : FnD T X.prog X.w X.mg X.base kk x i n Φ) (ha : SA X T Wx (e :: es) fA) (hg : Gl X x := by rfl) (hdb : (x == ("__debug__" : Str)) = false := by decide)
    (he : starEach (e :: es) X.env = (false, eval e X.env) :: starEach es X.env := by rfl) (hpl : (backTo pos (starEach es X.env)).any (·.1) = false := by rfl) : SE X T Wx (.Call (.Name x p) (e :: es) [] pos) (dCall n Φ fA) := by
  obtain ⟨⟨fd, ps, h1, h2, h3⟩, m, q⟩ := F
  rw [h.K] at h2 h3 q
  exact PE.imp (pe_callS h3 h.room hg m q h2 (fun σ => passAt h.tk σ) ha hdb he hpl) rd_call

/-! ### statements -/
variable {st : Stmt} {sts : List Stmt} {fs gs hs' : Ds}
def sNil : Ds := fun ρ W => .nx ρ W
def sSeq (f g : Ds) : Ds := fun ρ W => match f ρ W with
  | .nx ρ W => g ρ W
  | r => r
theorem ss_nil : SSs X T Wx [] sNil := PSs.imp pss_nil fun D σ H ⟨Z, ρ, W, as, G, s, p⟩ => p σ H as G s (Mono.refl _ _)
theorem ss_cons (h1 : SS X T Wx st fs) (h2 : SSs X T Wx sts gs) : SSs X T Wx (st :: sts) (sSeq fs gs) := by
  refine PSs.imp (pss_cons h1 h2) fun D σ H ⟨Z, ρ, W, as, G, s, p⟩ => ?_
  refine ⟨Z, ρ, W, as, G, s, ?_⟩
  unfold sSeq at p
  cases e1 : fs ρ W with
  | nx ρ1 W1 =>
    rw [e1] at p
    exact fun σ1 H1 as1 G1 s1 m1 => ⟨Z, ρ1, W1, as1, G1, s1, PostS.mono m1 p⟩
  | rt d ρ1 W1 => rw [e1] at p; exact p
  | bk ρ1 W1 => rw [e1] at p; exact p
  | ct ρ1 W1 => rw [e1] at p; exact p
  | exc c fs ρ1 W1 => rw [e1] at p; exact p
  | stk => rw [e1] at p; exact p
theorem ss_one (h1 : SS X T Wx st fs) : SSs X T Wx [st] fs := pss_one h1
def sPass : Ds := fun ρ W => .nx ρ W
def sBrk : Ds := fun ρ W => .bk ρ W
def sCont : Ds := fun ρ W => .ct ρ W
theorem ss_pass : SS X T Wx (.Pass pos) sPass := PS.imp ps_pass fun D σ H ⟨Z, ρ, W, as, G, s, p⟩ => p σ H as G s (Mono.refl _ _)
theorem ss_break : SS X T Wx (.Break pos) sBrk := PS.imp ps_break fun D σ H ⟨Z, ρ, W, as, G, s, p⟩ => p σ H as G s (Mono.refl _ _)
theorem ss_continue : SS X T Wx (.Continue pos) sCont := PS.imp ps_continue fun D σ H ⟨Z, ρ, W, as, G, s, p⟩ => p σ H as G s (Mono.refl _ _)
/-- a statement that is never come to -/
def sStk : Ds := fun _ _ => .stk
theorem ss_never : SS X T Wx st sStk := PS.imp ps_never fun D σ H ⟨Z, ρ, W, as, G, s, p⟩ => p
theorem sss_never : SSs X T Wx sts sStk := PSs.imp pss_never fun D σ H ⟨Z, ρ, W, as, G, s, p⟩ => p
def sRet (f : Dn) : Ds := fun ρ W => (f ρ W).bindS fun d ρ W => .rt d ρ W
theorem ss_ret (h : SE X T Wx e fa) : SS X T Wx (.Return (some e) pos) (sRet fa) := by
  refine PS.imp (ps_ret h) fun D σ H ⟨Z, ρ, W, as, G, s, p⟩ => ?_
  refine ⟨Z, ρ, W, as, G, s, ?_⟩
  unfold sRet at p
  cases e1 : fa ρ W with
  | val d ρ1 W1 => rw [e1] at p; exact fun v H1 as1 G1 s1 m1 r1 => p v σ H1 as1 G1 s1 m1 r1
  | exc c fs ρ1 W1 => rw [e1] at p; exact p σ
  | stk => rw [e1] at p; exact p
def sRetN : Ds := fun ρ W => .rt .non ρ W
theorem ss_retN : SS X T Wx (.Return none pos) sRetN := PS.imp ps_retN fun D σ H ⟨Z, ρ, W, as, G, s, p⟩ => p .non σ H as G s (Mono.refl _ _) (by simp only [rep])
def sExpr (f : Dn) : Ds := fun ρ W => (f ρ W).bindS fun _ ρ W => .nx ρ W
theorem ss_expr (h : SE X T Wx e fa) (hs : swapsWith e none pos.line X.env = pure false := by rfl) : SS X T Wx (.Expr e pos) (sExpr fa) := by
  refine PS.imp (ps_expr h hs) fun D σ H ⟨Z, ρ, W, as, G, s, p⟩ => ?_
  refine ⟨Z, ρ, W, as, G, s, ?_⟩
  unfold sExpr at p
  cases e1 : fa ρ W with
  | val d ρ1 W1 => rw [e1] at p; exact fun v H1 as1 G1 s1 m1 r1 => p σ H1 as1 G1 s1 m1
  | exc c fs ρ1 W1 => rw [e1] at p; exact p σ
  | stk => rw [e1] at p; exact p
def sIf (fc : Dn) (f g : Ds) : Ds := fun ρ W => (fc ρ W).bindS fun d ρ W => match tru W d with
  | some true => f ρ W
  | some false => g ρ W
  | none => .stk
theorem ss_if {sa sb : List Stmt} (hc : ST X T Wx c fc) (ha : SSs X T Wx sa fs) (hb : SSs X T Wx sb gs) : SS X T Wx (.If c sa sb pos) (sIf fc fs gs) := by
  refine PS.imp (ps_if hc ha hb) fun D σ H ⟨Z, ρ, W, as, G, s, p⟩ => ?_
  refine ⟨Z, ρ, W, as, G, s, ?_⟩
  unfold sIf at p
  cases e1 : fc ρ W with
  | val d ρ1 W1 =>
    rw [e1] at p
    simp only [Res.bindS_val] at p
    split at p
    · rename_i h1
      refine ⟨true, h1, fun H1 as1 G1 s1 m1 => ?_⟩
      dsimp only
      rw [if_pos rfl]
      exact ⟨Z, ρ1, W1, as1, G1, s1, PostS.mono m1 p⟩
    · rename_i h1
      refine ⟨false, h1, fun H1 as1 G1 s1 m1 => ?_⟩
      dsimp only
      rw [if_neg Bool.false_ne_true]
      exact ⟨Z, ρ1, W1, as1, G1, s1, PostS.mono m1 p⟩
    · exact p.elim
  | exc c fs ρ1 W1 => rw [e1] at p; exact p σ
  | stk => rw [e1] at p; exact p

/-! ### stores to names -/
end
section
variable {T : Tb} {Z : Bs} {ρ : Env} {W : Sto} {σ : L2.St} {H H' : Hp} {as as' : List Addr} {G G' : Hp}
theorem own_set {i j : Nat} {a : Addr} {sl : Slot} {v : V} (hs : sl.isOw = false) (o : Own (ρ.set i sl) (σ.set i (some v)) j a) : Own ρ σ j a ∧ i ≠ j := by
  obtain ⟨⟨sl', h1, h2⟩, h3⟩ := o
  by_cases hj : i = j
  · subst hj
    rw [List.getElem?_set] at h1
    simp only [if_true] at h1
    split at h1
    · cases h1; rw [hs] at h2; cases h2
    · cases h1
  · rw [List.getElem?_set_ne hj] at h1 h3
    exact ⟨⟨⟨sl', h1, h2⟩, h3⟩, hj⟩
/-- a name gets a value -/
theorem StR.setSh (r : StR T Z ρ W σ H as G) {i : Nat} {sl : Slot} {v : V} (hs : sl.isOw = false) (hv : SlotR T as G H (some (some v)) sl) : StR T Z (ρ.set i sl) W (σ.set i (some v)) H as G := by
  refine ⟨r.sub, fun j sl' h => ?_, fun j l a o1 o2 => r.own j l a (own_set hs o1).1 (own_set hs o2).1, r.len, r.nd, r.sto, fun j a o => r.ownas j a (own_set hs o).1, r.fr, fun j a o => r.ownfr j a (own_set hs o).1, r.new, r.pre, r.asnew, r.exG, by rw [List.length_set, List.length_set]; exact r.ln⟩
  by_cases hj : i = j
  · subst hj
    rw [List.getElem?_set] at h
    simp only [if_true] at h
    split at h
    · rename_i hi
      cases h
      rw [List.getElem?_set_self (Nat.lt_of_lt_of_le hi r.ln)]
      exact hv
    · cases h
  · rw [List.getElem?_set_ne hj] at h ⊢
    exact r.slot j sl' h
/-- a name gets a new list of its own -/
theorem StR.setOwl (r : StR T Z ρ W σ H as G) {i : Nat} {xs : List D} {vs : List V} {p : Addr} (hp : H p = some (.lst vs)) (hg : G p = none) (hz : Z.H0 p = none) (has : p ∉ as) (hno : ∀ j, ¬ Own ρ σ j p) (hv : reps T as G xs vs) :
    StR T Z (ρ.set i (.owl xs)) W (σ.set i (some (.ref p))) H as G := by
  have back : ∀ j a, Own (ρ.set i (.owl xs)) (σ.set i (some (.ref p))) j a → (i = j ∧ a = p) ∨ (i ≠ j ∧ Own ρ σ j a) := by
    rintro j a ⟨⟨sl', h1, h2⟩, h3⟩
    by_cases hj : i = j
    · subst hj
      rw [List.getElem?_set] at h3
      simp only [if_true] at h3
      split at h3
      · cases h3; exact .inl ⟨rfl, rfl⟩
      · cases h3
    · rw [List.getElem?_set_ne hj] at h1 h3
      exact .inr ⟨hj, ⟨sl', h1, h2⟩, h3⟩
  refine ⟨r.sub, fun j sl' h => ?_, fun j l a o1 o2 => ?_, r.len, r.nd, r.sto, fun j a o => ?_, r.fr, fun j a o => ?_, r.new, r.pre, r.asnew, r.exG, by rw [List.length_set, List.length_set]; exact r.ln⟩
  · by_cases hj : i = j
    · subst hj
      rw [List.getElem?_set] at h
      simp only [if_true] at h
      split at h
      · rename_i hi
        cases h
        rw [List.getElem?_set_self (Nat.lt_of_lt_of_le hi r.ln)]
        exact ⟨p, vs, rfl, hp, hg, hv⟩
      · cases h
    · rw [List.getElem?_set_ne hj] at h ⊢
      exact r.slot j sl' h
  · rcases back j a o1 with ⟨e1, e2⟩ | ⟨e1, q1⟩ <;> rcases back l a o2 with ⟨e3, e4⟩ | ⟨e3, q3⟩
    · exact e1.symm.trans e3
    · rw [e2] at q3; exact (hno _ q3).elim
    · rw [e4] at q1; exact (hno _ q1).elim
    · exact r.own j l a q1 q3
  · rcases back j a o with ⟨_, e⟩ | ⟨_, q⟩
    · rw [e]; exact has
    · exact r.ownas j a q
  · rcases back j a o with ⟨_, e⟩ | ⟨_, q⟩
    · rw [e]; exact hz
    · exact r.ownfr j a q
/-- an own thing has changed -/
theorem StR.chOw (r : StR T Z ρ W σ H as G) {i : Nat} {sl sl' : Slot} {p : Addr} {o : HO} (hi : ρ[i]? = some sl) (hw : sl.isOw = true) (hσ : σ[i]? = some (some (.ref p))) (hw' : sl'.isOw = true)
    (hv : SlotR T as G (upd H p o) (some (some (.ref p))) sl') : StR T Z (ρ.set i sl') W σ (upd H p o) as G := by
  have ow : Own ρ σ i p := ⟨⟨sl, hi, hw⟩, hσ⟩
  obtain ⟨⟨u, hu⟩, hg⟩ := r.owna ow
  have hil : i < ρ.length := (List.getElem?_eq_some_iff.mp hi).1
  have back : ∀ j a, Own (ρ.set i sl') σ j a → Own ρ σ j a := by
    rintro j a ⟨⟨s2, h1, h2⟩, h3⟩
    by_cases hj : i = j
    · subst hj
      rw [hσ] at h3; cases h3
      exact ow
    · rw [List.getElem?_set_ne hj] at h1
      exact ⟨⟨s2, h1, h2⟩, h3⟩
  have nG : ∀ a, G a ≠ none → a ≠ p := fun a h e => h (by rw [e]; exact hg)
  refine ⟨fun a u h => ?_, fun j s2 h => ?_, fun j l a o1 o2 => r.own j l a (back j a o1) (back l a o2), r.len, r.nd, fun n m a h1 h2 => ?_, fun j a o => r.ownas j a (back j a o), fun a u h n => ?_, fun j a o => r.ownfr j a (back j a o), r.new, r.pre, r.asnew, r.exG, by rw [List.length_set]; exact r.ln⟩
  · rw [upd_ne (nG a (by rw [h]; simp))]; exact r.sub a u h
  · by_cases hj : i = j
    · subst hj
      rw [List.getElem?_set_self hil] at h
      cases h
      rw [hσ]; exact hv
    · rw [List.getElem?_set_ne hj] at h
      refine (r.slot j s2 h).mono (Mono.refl _ _) fun a u e1 e2 e3 e4 => ⟨?_, e4⟩
      rw [upd_ne fun z => hj (r.own i j a (by rw [z]; exact ow) ⟨⟨s2, h, e2⟩, e1⟩)]
      exact e3
  · obtain ⟨g, q⟩ := r.sto n m a h1 h2
    refine ⟨g, q.mono (Mono.refl _ _) ?_⟩
    rw [upd_ne fun z => r.ownas i p ow (by rw [← z]; exact List.mem_of_getElem? h2)]
  · rw [upd_ne fun z => by rw [z, r.ownfr i p ow] at h; cases h]
    exact r.fr a u h n
/-- an own list becomes a value -/
theorem StR.freeze (r : StR T Z ρ W σ H as G) {i : Nat} {xs : List D} (hi : ρ[i]? = some (.owl xs)) : ∃ G', StR T Z (ρ.set i (.sh (.lst xs))) W σ H as G' ∧ Mono as G as G' := by
  obtain ⟨p, vs, h1, h2, h3, h4⟩ := r.slot i _ hi
  have ow : Own ρ σ i p := ⟨⟨_, hi, rfl⟩, h1⟩
  have hil : i < ρ.length := (List.getElem?_eq_some_iff.mp hi).1
  have m : Mono as G as (upd G p (.lst vs)) := Mono.of (Ex.upd h3)
  have back : ∀ j a, Own (ρ.set i (.sh (.lst xs))) σ j a → Own ρ σ j a ∧ i ≠ j := by
    rintro j a ⟨⟨s2, h1, h2⟩, h3⟩
    by_cases hj : i = j
    · subst hj
      rw [List.getElem?_set_self hil] at h1; cases h1; cases h2
    · rw [List.getElem?_set_ne hj] at h1
      exact ⟨⟨⟨s2, h1, h2⟩, h3⟩, hj⟩
  have nG : ∀ a, a ≠ p → G a = none → (upd G p (.lst vs)) a = none := fun a h e => by rw [upd_ne h]; exact e
  refine ⟨upd G p (.lst vs), ⟨fun a u h => ?_, fun j s2 h => ?_, fun j l a o1 o2 => r.own j l a (back j a o1).1 (back l a o2).1, r.len, r.nd, fun n mm a e1 e2 => ?_, fun j a o => r.ownas j a (back j a o).1, r.fr, fun j a o => r.ownfr j a (back j a o).1, fun a u h => ?_, r.pre, r.asnew, r.exG.trans m.ex, by rw [List.length_set]; exact r.ln⟩, m⟩
  · by_cases ha : a = p
    · subst ha; rw [upd_same] at h; cases h; exact h2
    · rw [upd_ne ha] at h; exact r.sub a u h
  · by_cases hj : i = j
    · subst hj
      rw [List.getElem?_set_self hil] at h
      cases h
      refine ⟨.ref p, h1, ?_⟩
      simp only [rep]
      exact ⟨p, vs, rfl, Rd.of upd_same, reps.mono m _ _ h4⟩
    · rw [List.getElem?_set_ne hj] at h
      refine (r.slot j s2 h).mono m fun a u e1 e2 e3 e4 => ⟨e3, nG a (fun z => hj (r.own i j a (by rw [z]; exact ow) ⟨⟨s2, h, e2⟩, e1⟩)) e4⟩
  · obtain ⟨g, q⟩ := r.sto n mm a e1 e2
    exact ⟨nG a (fun z => r.ownas i p ow (by rw [← z]; exact List.mem_of_getElem? e2)) g, q.mono m rfl⟩
  · by_cases ha : a = p
    · rw [ha]; exact .inr (r.ownfr i p ow)
    · rw [upd_ne ha] at h; exact r.new a u h
end
end Dl

set_option Elab.async false
set_option linter.all false
set_option maxRecDepth 100000
set_option maxHeartbeats 4000000
namespace Dl
open PySem PySem.Spec PyProof.Rows L2

/-! ### a thing of the run that nothing tells of -/
structure Hid (Z : Bs) (ρ : Env) (σ : L2.St) (as : List Addr) (G : Hp) (p : Addr) : Prop where
  g : G p = none
  a : p ∉ as
  z : Z.H0 p = none
  o : ∀ j, ¬ Own ρ σ j p
section
variable {T : Tb} {Z : Bs} {ρ : Env} {W : Sto} {σ : L2.St} {H H' : Hp} {as as' : List Addr} {G G' : Hp} {p : Addr} {o : HO}
theorem StR.hid (r : StR T Z ρ W σ H as G) (h : H p = none) : Hid Z ρ σ as G p where
  g := r.sub.free h
  a := fun m => by obtain ⟨⟨u, e⟩, _⟩ := r.asH m; rw [h] at e; cases e
  z := r.h0 h
  o := fun j q => by obtain ⟨⟨u, e⟩, _⟩ := r.owna q; rw [h] at e; cases e
theorem StR.hidUpd (r : StR T Z ρ W σ H as G) (h : Hid Z ρ σ as G p) : StR T Z ρ W σ (upd H p o) as G where
  sub := fun a u e => by rw [upd_ne fun z => by rw [z, h.g] at e; cases e]; exact r.sub a u e
  slot := fun i sl e => (r.slot i sl e).mono (Mono.refl _ _) fun a u h1 h2 h3 h4 => ⟨by rw [upd_ne fun z => h.o i (by rw [← z]; exact ⟨⟨sl, e, h2⟩, h1⟩)]; exact h3, h4⟩
  own := r.own
  len := r.len
  nd := r.nd
  sto := fun n m a h1 h2 => by
    obtain ⟨g, q⟩ := r.sto n m a h1 h2
    exact ⟨g, q.mono (Mono.refl _ _) (by rw [upd_ne fun z => h.a (by rw [← z]; exact List.mem_of_getElem? h2)])⟩
  ownas := r.ownas
  fr := fun a u e n => by rw [upd_ne fun z => by rw [z, h.z] at e; cases e]; exact r.fr a u e n
  ownfr := r.ownfr
  new := r.new
  pre := r.pre
  asnew := r.asnew
  exG := r.exG
  ln := r.ln
/-- it becomes a value -/
theorem StR.adopt (r : StR T Z ρ W σ H as G) (h : Hid Z ρ σ as G p) (e : H p = some o) : StR T Z ρ W σ H as (upd G p o) where
  sub := fun a u q => by
    by_cases ha : a = p
    · subst ha; rw [upd_same] at q; cases q; exact e
    · rw [upd_ne ha] at q; exact r.sub a u q
  slot := fun i sl q => (r.slot i sl q).mono (Mono.of (Ex.upd h.g)) fun a u h1 h2 h3 h4 => ⟨h3, by rw [upd_ne fun z => h.o i (by rw [← z]; exact ⟨⟨sl, q, h2⟩, h1⟩)]; exact h4⟩
  own := r.own
  len := r.len
  nd := r.nd
  sto := fun n m a h1 h2 => by
    obtain ⟨g, q⟩ := r.sto n m a h1 h2
    exact ⟨by rw [upd_ne fun z => h.a (by rw [← z]; exact List.mem_of_getElem? h2)]; exact g, q.mono (Mono.of (Ex.upd h.g)) rfl⟩
  ownas := r.ownas
  fr := r.fr
  ownfr := r.ownfr
  new := fun a u q => by
    by_cases ha : a = p
    · rw [ha]; exact .inr h.z
    · rw [upd_ne ha] at q; exact r.new a u q
  pre := r.pre
  asnew := r.asnew
  exG := r.exG.trans (Ex.upd h.g)
  ln := r.ln
/-- hidden here, hidden behind another entry's run -/
theorem Hid.back (h : Hid Z ρ σ as G p) (e : H p = some o) {ρ' : Env} {W' : Sto} {σ' : L2.St} (q : StR T (bs H G as) ρ' W' σ' H' as' G') : H' p = some o ∧ Hid Z ρ σ as' G' p := by
  refine ⟨q.fr p o e h.a, ?_, fun m => ?_, h.z, h.o⟩
  · cases z : G' p with
    | none => rfl
    | some u =>
      rcases q.new p u z with z | z
      · have z : G p = some u := z
        have := h.g
        rw [z] at this; cases this
      · have z : H p = none := z
        rw [e] at z; cases z
  · rcases q.asnew p m with z | z
    · exact h.a z
    · have z : H p = none := z
      rw [e] at z; cases z
theorem Hid.alloc (h : Hid Z ρ σ as G p) (e : H p = some o) (x : Alloc G H G' H') : H' p = some o ∧ Hid Z ρ σ as G' p := by
  refine ⟨x.h _ _ e, ?_, h.a, h.z, h.o⟩
  cases z : G' p with
  | none => rfl
  | some u =>
    rcases x.n p u z with z | ⟨z, _⟩
    · have := h.g; rw [z] at this; cases this
    · rw [e] at z; cases z
end

/-! ### fresh lists -/
def PostL (T : Tb) (Wx : WX) (Z : Bs) (σ : L2.St) (as : List Addr) (G : Hp) (Q : VK) : Res → Prop
  | .val d ρ W => ∃ xs, d = .lst xs ∧ ∀ p vs H' as' G', StR T Z ρ W σ H' as' G' → Mono as G as' G' → Hid Z ρ σ as' G' p → H' p = some (.lst vs) → reps T as' G' xs vs → Q (.ref p) H'
  | .exc c fs ρ W => PostX T Wx Z σ as G c fs ρ W
  | .stk => False
def rdL (T : Tb) (Wx : WX) (f : Dn) : TE := fun σ H Q => ∃ Z ρ W as G, StR T Z ρ W σ H as G ∧ PostL T Wx Z σ as G Q (f ρ W)
abbrev SEL (X : Cx) (T : Tb) (Wx : WX) (e : Expr) (f : Dn) : Prop := PE X e (rdL T Wx f)

section
variable {X : Cx} {T : Tb} {Wx : WX} {kk : Nat} {a b c e : Expr} {es rest : List Expr} {fa fb fc : Dn} {fA fr : DnA} {pos : Pos}
/-- a fresh list as any value -/
theorem se_fresh (h : SEL X T Wx e fa) (hl : ∀ ρ W d ρ' W', fa ρ W = .val d ρ' W' → ∃ xs, d = .lst xs) : SE X T Wx e fa := by
  refine PE.imp h fun σ H Q ⟨Z, ρ, W, as, G, s, p⟩ => ⟨Z, ρ, W, as, G, s, ?_⟩
  cases e1 : fa ρ W with
  | val d ρ1 W1 =>
    rw [e1] at p
    obtain ⟨xs, rfl⟩ := hl _ _ _ _ _ e1
    refine ⟨xs, rfl, fun q vs H1 as1 G1 s1 m1 hid hq r1 => ?_⟩
    refine p (.ref q) H1 as1 (upd G1 q (.lst vs)) (s1.adopt hid hq) (m1.trans (Mono.of (Ex.upd hid.g))) ?_
    simp only [rep]
    exact ⟨q, vs, rfl, Rd.of upd_same, reps.mono (Mono.of (Ex.upd hid.g)) _ _ r1⟩
  | exc c fs ρ1 W1 => rw [e1] at p; exact p
  | stk => rw [e1] at p; exact p
theorem sel_lst (h : SA X T Wx es fA) : SEL X T Wx (.List es pos) (dBi gLst fA) := by
  refine PE.imp (pe_lst h) fun σ H Q ⟨Z, ρ, W, as, G, s, p⟩ => ⟨Z, ρ, W, as, G, s, ?_⟩
  unfold dBi at p
  cases e1 : fA ρ W with
  | val ds ρ1 W1 =>
    rw [e1] at p
    simp only [ResA.bind_val] at p
    intro vs H1 as1 G1 s1 m1 r1
    unfold gLst at p
    split at p
    · rename_i z hz
      split at hz
      · rename_i hl
        cases hz
        obtain ⟨xs, e, p⟩ := p
        cases e
        exact ⟨by rw [r1.length]; exact szl hl, fun q hq => p q vs _ as1 G1 (s1.alloc (Alloc.hid hq)) m1 (s1.hid hq) upd_same r1⟩
      · cases hz
    · exact p.elim
  | exc c fs ρ1 W1 => rw [e1] at p; exact p
  | stk => rw [e1] at p; exact p

/-! ### what is walked -/
structure WalkD (T : Tb) (J : It) (as : List Addr) (G : Hp) (ds : List D) : Prop where
  stop : ∀ H, Ex G H → J.stop ds.length H
  go : ∀ i H, Ex G H → i < ds.length → J.go i H
  yld : ∀ (i : Nat) x H H' as' G', Mono as G as' G' → Ex G' H → i < ds.length → J.yld i H x H' → ∃ G2 d, Alloc G' H G2 H' ∧ ds[i]? = some d ∧ rep T as' G2 d x
def PostI (T : Tb) (Wx : WX) (Z : Bs) (σ : L2.St) (as : List Addr) (G : Hp) (R : It → Hp → Prop) : ResA → Prop
  | .val ds ρ W => ∀ J H' as' G', StR T Z ρ W σ H' as' G' → Mono as G as' G' → WalkD T J as' G' ds → R J H'
  | .exc c fs ρ W => PostX T Wx Z σ as G c fs ρ W
  | .stk => False
def rdI (T : Tb) (Wx : WX) (f : DnA) : TI := fun σ H R => ∃ Z ρ W as G, StR T Z ρ W σ H as G ∧ PostI T Wx Z σ as G R (f ρ W)
abbrev SI (X : Cx) (T : Tb) (Wx : WX) (tg iter : Expr) (f : DnA) : Prop := PI X tg iter (rdI T Wx f)
theorem PI.imp {tg iter : Expr} {t u : TI} (h : PI X tg iter t) (k : ∀ σ H R, u σ H R → t σ H R) : PI X tg iter u := ⟨fun pins s σ H R I q => h.run pins s σ H R I (k σ H R q)⟩
theorem walk_l {K : PySem.W.Frag} {as : List Addr} {G : Hp} {p : Addr} {vs : List V} {ds : List D} (h : SqL K G p vs) (r : reps T as G ds vs) : WalkD T (Itl K p) as G ds where
  stop := fun H e => ⟨vs, ex_l e h, by rw [r.length]; exact Nat.le_refl _⟩
  go := fun i H e hi => ⟨vs, vs[i]'(by rw [r.length]; exact hi), ex_l e h, List.getElem?_eq_getElem _⟩
  yld := fun i x H H' as' G' m e hi y => by
    obtain ⟨rfl, y⟩ := y
    obtain ⟨d, h1, h2⟩ := r.get (y vs (ex_l (m.ex.trans e) h))
    exact ⟨G', d, Alloc.refl _ _, h1, rep.mono m _ _ h2⟩
theorem walk_t {K : PySem.W.Frag} {as : List Addr} {G : Hp} {p : Addr} {vs : List V} {ds : List D} (h : SqT K G p vs) (r : reps T as G ds vs) : WalkD T (Itt K p) as G ds where
  stop := fun H e => ⟨vs, ex_t e h, by rw [r.length]; exact Nat.le_refl _⟩
  go := fun i H e hi => ⟨vs, vs[i]'(by rw [r.length]; exact hi), ex_t e h, List.getElem?_eq_getElem _⟩
  yld := fun i x H H' as' G' m e hi y => by
    obtain ⟨rfl, y⟩ := y
    obtain ⟨d, h1, h2⟩ := r.get (y vs (ex_t (m.ex.trans e) h))
    exact ⟨G', d, Alloc.refl _ _, h1, rep.mono m _ _ h2⟩
/-- a list or a tuple -/
def iSeq (K : PySem.W.Frag) (tl : TE) : TI := fun σ H R => tl σ H fun x H1 => (∃ a, x = .ref a ∧ (∃ xs, SqL K H1 a xs) ∧ R (Itl K a) H1) ∨ (∃ a, x = .ref a ∧ (∃ xs, SqT K H1 a xs) ∧ R (Itt K a) H1)
theorem pi_seq {tg l : Expr} {tl : TE} (hl : PE X l tl) : PI X tg l (iSeq X.K tl) := by
  refine ⟨fun pins s σ H R I h => ?_⟩
  refine thn (hl.run pins s σ H _ I h) fun v s1 ⟨x, H1, I1, r1, q1⟩ => ?_
  rcases q1 with ⟨a, e, ⟨xs, hq⟩, q⟩ | ⟨a, e, ⟨xs, hq⟩, q⟩
  · subst e
    cases r1
    obtain ⟨its, rv, p, hz⟩ := I1.list hq
    refine wpAny_pyIter_list p.isList ?_
    refine ⟨s1.heap.objs.size, [s1.heap.objs.size], _, _, H1, rfl, I1.kept (t' := s1.toks) fun b o e => Heap.get?_push_of_some _ e, turn_list a _, ⟨_, Heap.get?_push_size _ rfl, rfl, rfl⟩, fun b hb => ?_, q⟩
    have e : b = s1.heap.objs.size := by simpa using hb
    subst e
    exact I1.fpOk (Nat.le_refl _) (I1.hok.fresh (Nat.le_refl _))
  · subst e
    cases r1
    obtain ⟨its, rv, p, hz⟩ := I1.tuple hq
    refine wpAny_pyIter_tuple (show s1.heap.IsTuple a its.toArray from p) ?_
    refine ⟨s1.heap.objs.size, [s1.heap.objs.size], _, _, H1, rfl, I1.kept (t' := s1.toks) fun b o e => Heap.get?_push_of_some _ e, turn_tuple a _, ⟨_, Heap.get?_push_size _ rfl, rfl, rfl⟩, fun b hb => ?_, q⟩
    have e : b = s1.heap.objs.size := by simpa using hb
    subst e
    exact I1.fpOk (Nat.le_refl _) (I1.hok.fresh (Nat.le_refl _))
def iItems (f : Dn) : DnA := fun ρ W => match f ρ W with
  | .val (.lst xs) ρ W => .val xs ρ W
  | .val (.tup xs) ρ W => .val xs ρ W
  | .val (.sq xs) ρ W => .val xs ρ W
  | .exc c fs ρ W => .exc c fs ρ W
  | _ => .stk
theorem si_seq {tg l : Expr} (hK : Cok X T Wx kk) (h : SE X T Wx l fa) : SI X T Wx tg l (iItems fa) := by
  refine PI.imp (pi_seq h) fun σ H R ⟨Z, ρ, W, as, G, s, p⟩ => ⟨Z, ρ, W, as, G, s, ?_⟩
  unfold iItems at p
  cases e1 : fa ρ W with
  | val d ρ1 W1 =>
    rw [e1] at p
    intro v H1 as1 G1 s1 m1 r1
    cases d <;> try exact p.elim
    · simp only [rep] at r1
      obtain ⟨q, vs, rfl, h1, h2⟩ := r1
      rw [hK.K] at h1
      exact .inr ⟨q, rfl, ⟨vs, ex_ns s1.sub h1⟩, p _ H1 as1 G1 s1 m1 (walk_t h1.sq h2)⟩
    · simp only [rep] at r1
      obtain ⟨q, vs, rfl, h1, h2⟩ := r1
      exact .inl ⟨q, rfl, ⟨vs, .inl (ex_rd s1.sub h1)⟩, p _ H1 as1 G1 s1 m1 (walk_l (.inl h1) h2)⟩
    · simp only [rep] at r1
      obtain ⟨q, vs, rfl, h1, h2⟩ := r1
      rw [hK.K] at h1
      exact .inl ⟨q, rfl, ⟨vs, ex_l s1.sub h1⟩, p _ H1 as1 G1 s1 m1 (walk_l h1 h2)⟩
  | exc c fs ρ1 W1 => rw [e1] at p; exact p
  | stk => rw [e1] at p; exact p
def rgD (lo : Int) (n : Nat) : List D := (List.range n).map fun i => .int (lo + (i : Nat))
theorem rgD_length (lo : Int) (n : Nat) : (rgD lo n).length = n := by simp [rgD]
theorem walk_r {as : List Addr} {G : Hp} (lo : Int) (n : Nat) : WalkD T (Itr lo n) as G (rgD lo n) where
  stop := fun H e => by rw [rgD_length]; exact Nat.le_refl _
  go := fun i H e hi => by rw [rgD_length] at hi; exact hi
  yld := fun i x H H' as' G' m e hi y => by
    obtain ⟨rfl, rfl⟩ := y
    rw [rgD_length] at hi
    exact ⟨G', .int (lo + i), Alloc.refl _ _, by simp [rgD, hi], by simp only [rep]⟩
def cRg (i : Int) : Bool := decide (-(2 ^ 62) ≤ i) && decide (i < 2 ^ 62)
def iRg1 (fA : DnA) : DnA := fun ρ W => match fA ρ W with
  | .val [.int j] ρ W => if cRg j = true then .val (rgD 0 j.toNat) ρ W else .stk
  | .exc c fs ρ W => .exc c fs ρ W
  | _ => .stk
def iRg2 (fA : DnA) : DnA := fun ρ W => match fA ρ W with
  | .val [.int i, .int j] ρ W => if (cRg i && cRg j) = true then .val (rgD i (j - i).toNat) ρ W else .stk
  | .exc c fs ρ W => .exc c fs ρ W
  | _ => .stk
theorem reps1 {as : List Addr} {G : Hp} {d : D} {vs : List V} (h : reps T as G [d] vs) : ∃ v, vs = [v] ∧ rep T as G d v := by
  simp only [reps] at h
  obtain ⟨v, vr, rfl, h1, rfl⟩ := h
  exact ⟨v, rfl, h1⟩
theorem reps2 {as : List Addr} {G : Hp} {d e : D} {vs : List V} (h : reps T as G [d, e] vs) : ∃ v u, vs = [v, u] ∧ rep T as G d v ∧ rep T as G e u := by
  simp only [reps] at h
  obtain ⟨v, vr, rfl, h1, u, vr', rfl, h2, rfl⟩ := h
  exact ⟨v, u, rfl, h1, h2⟩
theorem si_range1 {tg : Expr} {p : Pos} (hg : Gl X "range") (hm : X.mg "range" = none) (ha : SA X T Wx [a] fA) (hs : starEach [a] X.env = [(false, eval a X.env)] := by rfl) : SI X T Wx tg (.Call (.Name "range" p) [a] [] pos) (iRg1 fA) := by
  refine PI.imp (pi_range1 hg hm ha hs) fun σ H R ⟨Z, ρ, W, as, G, s, q⟩ => ⟨Z, ρ, W, as, G, s, ?_⟩
  unfold iRg1 at q
  cases e1 : fA ρ W with
  | val ds ρ1 W1 =>
    rw [e1] at q
    intro vs H1 as1 G1 s1 m1 r1
    split at q
    · rename_i e2
      cases e2
      obtain ⟨v, rfl, r⟩ := reps1 r1
      simp only [rep] at r
      split at q
      · rename_i hc
        simp only [cRg, Bool.and_eq_true, decide_eq_true_eq] at hc
        exact ⟨_, by rw [r], hc.1, hc.2, q _ H1 as1 G1 s1 m1 (walk_r 0 _)⟩
      · exact q.elim
    · rename_i e2; cases e2
    · exact q.elim
  | exc c fs ρ1 W1 => rw [e1] at q; exact q
  | stk => rw [e1] at q; exact q
theorem si_range2 {tg : Expr} {p : Pos} (hg : Gl X "range") (hm : X.mg "range" = none) (ha : SA X T Wx [a, b] fA) (hs : starEach [a, b] X.env = [(false, eval a X.env), (false, eval b X.env)] := by rfl) (hs2 : starEach [b] X.env = [(false, eval b X.env)] := by rfl) : SI X T Wx tg (.Call (.Name "range" p) [a, b] [] pos) (iRg2 fA) := by
  refine PI.imp (pi_range2 hg hm ha hs hs2) fun σ H R ⟨Z, ρ, W, as, G, s, q⟩ => ⟨Z, ρ, W, as, G, s, ?_⟩
  unfold iRg2 at q
  cases e1 : fA ρ W with
  | val ds ρ1 W1 =>
    rw [e1] at q
    intro vs H1 as1 G1 s1 m1 r1
    split at q
    · rename_i e2
      cases e2
      obtain ⟨v, u, rfl, r, r2⟩ := reps2 r1
      simp only [rep] at r r2
      split at q
      · rename_i hc
        simp only [cRg, Bool.and_eq_true, decide_eq_true_eq] at hc
        exact ⟨_, _, by rw [r, r2], ⟨hc.1.1, hc.1.2, hc.2.1, hc.2.2⟩, q _ H1 as1 G1 s1 m1 (walk_r _ _)⟩
      · exact q.elim
    · rename_i e2; cases e2
    · exact q.elim
  | exc c fs ρ1 W1 => rw [e1] at q; exact q
  | stk => rw [e1] at q; exact q
/-- zip of two lists, of two tuples -/
def zipD (xs ys : List D) : List D := List.zipWith (fun x y => .tp [x, y]) xs ys
theorem zipD_get {xs ys : List D} {i : Nat} {x y : D} (h1 : xs[i]? = some x) (h2 : ys[i]? = some y) : (zipD xs ys)[i]? = some (.tp [x, y]) := by
  rw [zipD, List.getElem?_zipWith, h1, h2]
theorem zipD_length (xs ys : List D) : (zipD xs ys).length = min xs.length ys.length := by simp [zipD]
theorem walk_zl {K : PySem.W.Frag} {as : List Addr} {G : Hp} {p q : Addr} {vs us : List V} {ds es : List D} (h : Rd G p (.lst vs)) (h' : Rd G q (.lst us)) (r : reps T as G ds vs) (r' : reps T as G es us) : WalkD T (Itz K p q) as G (zipD ds es) where
  stop := fun H e => ⟨vs, us, .inl (ex_rd e h), .inl (ex_rd e h'), by rw [zipD_length, r.length, r'.length]; omega⟩
  go := fun i H e hi => by
    rw [zipD_length] at hi
    exact ⟨vs, us, vs[i]'(by rw [r.length]; omega), us[i]'(by rw [r'.length]; omega), .inl (ex_rd e h), .inl (ex_rd e h'), List.getElem?_eq_getElem _, List.getElem?_eq_getElem _⟩
  yld := fun i x H H' as' G' m e hi y => by
    obtain ⟨t, v, u, rfl, hn, rfl, y1, y2⟩ := y
    obtain ⟨d, h1, h2⟩ := r.get (y1 vs (.inl (ex_rd (m.ex.trans e) h)))
    obtain ⟨d2, h3, h4⟩ := r'.get (y2 us (.inl (ex_rd (m.ex.trans e) h')))
    have m2 := m.trans (Mono.of (Ex.upd (o := .tup [v, u]) (e.free hn)))
    refine ⟨_, _, Alloc.new e hn, zipD_get h1 h3, ?_⟩
    simp only [rep]
    exact ⟨t, [v, u], rfl, SqT.of upd_same, reps_cons (rep.mono m2 _ _ h2) (reps_cons (rep.mono m2 _ _ h4) reps_nil)⟩
theorem walk_zt {K : PySem.W.Frag} {as : List Addr} {G : Hp} {p q : Addr} {vs us : List V} {ds es : List D} (h : SqT K G p vs) (h' : SqT K G q us) (r : reps T as G ds vs) (r' : reps T as G es us) : WalkD T (RZ.ItzT K p q) as G (zipD ds es) where
  stop := fun H e => ⟨vs, us, ex_t e h, ex_t e h', by rw [zipD_length, r.length, r'.length]; omega⟩
  go := fun i H e hi => by
    rw [zipD_length] at hi
    exact ⟨vs, us, vs[i]'(by rw [r.length]; omega), us[i]'(by rw [r'.length]; omega), ex_t e h, ex_t e h', List.getElem?_eq_getElem _, List.getElem?_eq_getElem _⟩
  yld := fun i x H H' as' G' m e hi y => by
    obtain ⟨t, v, u, rfl, hn, rfl, y1, y2⟩ := y
    obtain ⟨d, h1, h2⟩ := r.get (y1 vs (ex_t (m.ex.trans e) h))
    obtain ⟨d2, h3, h4⟩ := r'.get (y2 us (ex_t (m.ex.trans e) h'))
    have m2 := m.trans (Mono.of (Ex.upd (o := .tup [v, u]) (e.free hn)))
    refine ⟨_, _, Alloc.new e hn, zipD_get h1 h3, ?_⟩
    simp only [rep]
    exact ⟨t, [v, u], rfl, SqT.of upd_same, reps_cons (rep.mono m2 _ _ h2) (reps_cons (rep.mono m2 _ _ h4) reps_nil)⟩
def iZipD (fA : DnA) : DnA := fun ρ W => match fA ρ W with
  | .val [.lst xs, .lst ys] ρ W => .val (zipD xs ys) ρ W
  | .val [.tup xs, .tup ys] ρ W => .val (zipD xs ys) ρ W
  | .exc c fs ρ W => .exc c fs ρ W
  | _ => .stk
theorem si_zip {elts : List Expr} {k2 : Nat} {tpos p : Pos} (hK : Cok X T Wx kk) (hg : Gl X "zip") (hm : X.mg "zip" = none) (ha : SA X T Wx [a, b] fA)
    (hs : starEach [a, b] X.env = (false, eval a X.env) :: starEach [b] X.env := by rfl) (hpl : (backTo pos (starEach [b] X.env)).any (·.1) = false := by rfl) : SI X T Wx (.Tuple elts k2 tpos) (.Call (.Name "zip" p) [a, b] [] pos) (iZipD fA) := by
  refine PI.imp (RZ.pi_zipA hg hm ha hs hpl) fun σ H R ⟨Z, ρ, W, as, G, s, q⟩ => ⟨Z, ρ, W, as, G, s, ?_⟩
  unfold iZipD at q
  cases e1 : fA ρ W with
  | val ds ρ1 W1 =>
    rw [e1] at q
    intro vs H1 as1 G1 s1 m1 r1
    split at q
    · rename_i e2
      cases e2
      obtain ⟨v, u, rfl, r, r2⟩ := reps2 r1
      simp only [rep] at r r2
      obtain ⟨p1, v1, rfl, h1, h2⟩ := r
      obtain ⟨p2, v2, rfl, h3, h4⟩ := r2
      exact ⟨p1, p2, v1, v2, rfl, .inl ⟨.inl (ex_rd s1.sub h1), .inl (ex_rd s1.sub h3), q _ H1 as1 G1 s1 m1 (walk_zl h1 h3 h2 h4)⟩⟩
    · rename_i e2
      cases e2
      obtain ⟨v, u, rfl, r, r2⟩ := reps2 r1
      simp only [rep] at r r2
      obtain ⟨p1, v1, rfl, h1, h2⟩ := r
      obtain ⟨p2, v2, rfl, h3, h4⟩ := r2
      rw [hK.K] at h1 h3
      exact ⟨p1, p2, v1, v2, rfl, .inr ⟨ex_ns s1.sub h1, ex_ns s1.sub h3, q _ H1 as1 G1 s1 m1 (walk_zt h1.sq h3.sq h2 h4)⟩⟩
    · rename_i e2; cases e2
    · exact q.elim
  | exc c fs ρ1 W1 => rw [e1] at q; exact q
  | stk => rw [e1] at q; exact q

/-! ### targets -/
abbrev Bn := D → Env → Option Env
def rdG (T : Tb) (vs : List Nat) (bn : Bn) : TG := fun v σ H Q => ∃ Z ρ W as G d, StR T Z ρ W σ H as G ∧ rep T as G d v ∧ ∃ ρ', bn d ρ = some ρ' ∧ ∀ σ', StR T Z ρ' W σ' H as G → wipe σ' vs = wipe σ vs → Q σ' H
abbrev SG (X : Cx) (T : Tb) (tg : Expr) (vs : List Nat) (bn : Bn) : Prop := PG X tg (rdG T vs bn)
theorem PG.imp {tg : Expr} {t u : TG} (h : PG X tg t) (k : ∀ v σ H Q, u v σ H Q → t v σ H Q) : PG X tg u := ⟨fun pins s σ H v uu Q I r q => h.run pins s σ H v uu Q I r (k v σ H Q q)⟩
def bName (i : Nat) : Bn := fun d ρ => some (ρ.set i (.sh d))
theorem wipe_set1 {σ : L2.St} {i : Nat} {v : V} : wipe (σ.set i (some v)) [i] = wipe σ [i] := by
  simp [wipe]
theorem sg_name (i : Nat) {x : Str} (h : Cok X T Wx kk) (hi : X.N[i]? = some x := by rfl) (hx : Loc X.env.scope x := by first | exact Or.inl rfl | exact Or.inr rfl) (hf : X.fn x = true ∨ X.env.scope.names.lookup x = some .local := by first | exact .inl rfl | exact .inr rfl) : SG X T (.Name x pos) [i] (bName i) :=
  PG.imp (pg_name h.nd hi hx hf) fun v σ H Q ⟨Z, ρ, W, as, G, d, s, r, ρ', e, k⟩ => by
    cases e
    exact k _ (s.setSh rfl ⟨v, rfl, r⟩) wipe_set1
/-- several names for the items of a tuple -/
def bSets : List Nat → List D → Env → Env
  | i :: is, d :: ds, ρ => bSets is ds (ρ.set i (.sh d))
  | _, _, ρ => ρ
def bTup (is : List Nat) : Bn := fun d ρ => match d with
  | .tup ds => if ds.length = is.length then some (bSets is ds ρ) else none
  | .tp ds => if ds.length = is.length then some (bSets is ds ρ) else none
  | _ => none
theorem wipe_get {σ : L2.St} {j : Nat} : ∀ {vs : List Nat}, (wipe σ vs)[j]? = if j ∈ vs ∧ j < σ.length then some none else σ[j]?
  | [] => by simp [wipe]
  | v :: vs => by
    unfold wipe
    rw [List.getElem?_set, wipe_length, wipe_get (vs := vs)]
    by_cases h : v = j
    · subst h
      by_cases hl : v < σ.length
      · simp [hl]
      · simp [hl]
    · have h2 : ¬ j = v := fun z => h z.symm
      simp only [h, if_false, List.mem_cons, h2, false_or]
theorem wipe_eq_of {σ τ : L2.St} {vs : List Nat} (hl : τ.length = σ.length) (h : ∀ j, j ∉ vs → τ[j]? = σ[j]?) : wipe τ vs = wipe σ vs := by
  apply List.ext_getElem?
  intro j
  rw [wipe_get, wipe_get, hl]
  by_cases hj : j ∈ vs
  · by_cases h2 : j < σ.length
    · simp [hj, h2]
    · have h3 : ¬ j < τ.length := by rw [hl]; exact h2
      rw [if_neg (fun z => h2 z.2), if_neg (fun z => h2 z.2), List.getElem?_eq_none (by omega), List.getElem?_eq_none (by omega)]
  · simp [hj, h j hj]
theorem wipe_of {σ τ : L2.St} {vs : List Nat} (h : wipe τ vs = wipe σ vs) : τ.length = σ.length ∧ ∀ j, j ∉ vs → τ[j]? = σ[j]? := by
  refine ⟨by rw [← wipe_length τ vs, h, wipe_length], fun j hj => ?_⟩
  have := congrArg (fun l : L2.St => l[j]?) h
  simp only [wipe_get, hj, false_and, if_false] at this
  exact this
/-- names, one behind another -/
def rdGs (T : Tb) (is : List Nat) : TGs := fun vs σ H Q => ∃ Z ρ W as G ds, StR T Z ρ W σ H as G ∧ reps T as G ds vs ∧ ds.length = is.length ∧ ∀ σ', StR T Z (bSets is ds ρ) W σ' H as G → wipe σ' is = wipe σ is → Q σ' H
abbrev SGs (X : Cx) (T : Tb) (ts : List Expr) (is : List Nat) : Prop := PGs X ts (rdGs T is)
theorem PGs.imp {ts : List Expr} {t u : TGs} (h : PGs X ts t) (k : ∀ vs σ H Q, u vs σ H Q → t vs σ H Q) : PGs X ts u := ⟨fun pins s σ H v uu Q I r q => h.run pins s σ H v uu Q I r (k v σ H Q q)⟩
theorem sgs_nil : SGs X T [] [] := PGs.imp pgs_nil fun vs σ H Q ⟨Z, ρ, W, as, G, ds, s, r, l, k⟩ => by
  cases ds with
  | nil => simp only [reps] at r; exact ⟨r, k σ s rfl⟩
  | cons d ds => cases l
theorem sgs_cons (i : Nat) {is : List Nat} {x : Str} {ts : List Expr} (h : Cok X T Wx kk) (hr : SGs X T ts is) (hi : X.N[i]? = some x := by rfl) (hx : Loc X.env.scope x := by first | exact Or.inl rfl | exact Or.inr rfl) (hf : X.fn x = true ∨ X.env.scope.names.lookup x = some .local := by first | exact .inl rfl | exact .inr rfl)
    (hs : (assignEach (.Name x pos :: ts) X.env).map (·.2) = assign (.Name x pos) X.env :: (assignEach ts X.env).map (·.2) := by rfl) : SGs X T (.Name x pos :: ts) (i :: is) :=
  PGs.imp (pgs_cons (pg_name h.nd hi hx hf) hr hs) fun vs σ H Q ⟨Z, ρ, W, as, G, ds, s, r, l, k⟩ => by
    cases ds with
    | nil => cases l
    | cons d ds =>
      simp only [reps] at r
      obtain ⟨v, vr, rfl, r1, r2⟩ := r
      refine ⟨v, vr, rfl, ?_⟩
      refine ⟨Z, ρ.set i (.sh d), W, as, G, ds, s.setSh rfl ⟨v, rfl, r1⟩, r2, Nat.succ.inj l, fun σ' s' e => k σ' s' ?_⟩
      obtain ⟨e1, e2⟩ := wipe_of e
      refine wipe_eq_of (by rw [e1, List.length_set]) fun j hj => ?_
      simp only [List.mem_cons, not_or] at hj
      rw [e2 j hj.2, List.getElem?_set_ne (fun z => hj.1 z.symm)]
theorem sg_tup {is : List Nat} {ts : List Expr} {k : Nat} (h : Cok X T Wx kk) (hs : SGs X T ts is)
    (hn : (assignEach ts X.env).length = is.length := by rfl) (hst : (assignEach ts X.env).findIdx? (·.1) = none := by rfl) : SG X T (.Tuple ts k pos) is (bTup is) :=
  PG.imp (pg_tup h.calm hs hn hst) fun v σ H Q ⟨Z, ρ, W, as, G, d, s, r, ρ', e, k⟩ => by
    cases d <;> simp only [bTup] at e <;> try cases e
    · rename_i ds
      split at e
      · rename_i hl
        cases e
        simp only [rep] at r
        obtain ⟨p, vs, rfl, h1, h2⟩ := r
        exact ⟨p, vs, rfl, by rw [← h.K]; exact ex_ns s.sub h1, by rw [h2.length, hl], ⟨Z, ρ, W, as, G, ds, s, h2, hl, k⟩⟩
      · cases e
    · rename_i ds
      split at e
      · rename_i hl
        cases e
        simp only [rep] at r
        obtain ⟨p, vs, rfl, h1, h2⟩ := r
        exact ⟨p, vs, rfl, by rw [← h.K]; exact ex_t s.sub h1, by rw [h2.length, hl], ⟨Z, ρ, W, as, G, ds, s, h2, hl, k⟩⟩
      · cases e

/-! ### assignments -/
variable {st : Stmt} {sts : List Stmt} {fs gs : Ds}
def sAsg (i : Nat) (f : Dn) : Ds := fun ρ W => (f ρ W).bindS fun d ρ W => .nx (ρ.set i (.sh d)) W
theorem ss_asg (i : Nat) {x : Str} {pos' : Pos} (h : Cok X T Wx kk) (he : SE X T Wx e fa) (hi : X.N[i]? = some x := by rfl) (hx : Loc X.env.scope x := by first | exact Or.inl rfl | exact Or.inr rfl) (hs : swapsWith e (some (.Name x pos')) pos.line X.env = pure false := by rfl)
    (hf : X.fn x = true ∨ X.env.scope.names.lookup x = some .local := by first | exact .inl rfl | exact .inr rfl) : SS X T Wx (.Assign [.Name x pos'] e pos) (sAsg i fa) := by
  refine PS.imp (ps_set h.nd hi hx he hs hf) fun D σ H ⟨Z, ρ, W, as, G, s, p⟩ => ⟨Z, ρ, W, as, G, s, ?_⟩
  unfold sAsg at p
  cases e1 : fa ρ W with
  | val d ρ1 W1 => rw [e1] at p; exact fun v H1 as1 G1 s1 m1 r1 => p _ H1 as1 G1 (s1.setSh rfl ⟨v, rfl, r1⟩) m1
  | exc c fs ρ1 W1 => rw [e1] at p; exact p σ
  | stk => rw [e1] at p; exact p
/-- a list that the name alone holds -/
def sOwl (i : Nat) (f : Dn) : Ds := fun ρ W => match f ρ W with
  | .val (.lst xs) ρ W => .nx (ρ.set i (.owl xs)) W
  | .exc c fs ρ W => .exc c fs ρ W
  | _ => .stk
theorem ss_owl (i : Nat) {x : Str} {pos' : Pos} (h : Cok X T Wx kk) (he : SEL X T Wx e fa) (hi : X.N[i]? = some x := by rfl) (hx : Loc X.env.scope x := by first | exact Or.inl rfl | exact Or.inr rfl) (hs : swapsWith e (some (.Name x pos')) pos.line X.env = pure false := by rfl)
    (hf : X.fn x = true ∨ X.env.scope.names.lookup x = some .local := by first | exact .inl rfl | exact .inr rfl) : SS X T Wx (.Assign [.Name x pos'] e pos) (sOwl i fa) := by
  refine PS.imp (ps_set h.nd hi hx he hs hf) fun D σ H ⟨Z, ρ, W, as, G, s, p⟩ => ⟨Z, ρ, W, as, G, s, ?_⟩
  unfold sOwl at p
  cases e1 : fa ρ W with
  | val d ρ1 W1 =>
    rw [e1] at p
    cases d <;> try exact p.elim
    exact ⟨_, rfl, fun q vs H1 as1 G1 s1 m1 hid hq r1 => p _ H1 as1 G1 (s1.setOwl hq hid.g hid.z hid.a hid.o r1) m1⟩
  | exc c fs ρ1 W1 => rw [e1] at p; exact p σ
  | stk => rw [e1] at p; exact p
/-- names for a tuple's items -/
def sUnp (is : List Nat) (f : Dn) : Ds := fun ρ W => (f ρ W).bindS fun d ρ W => match bTup is d ρ with
  | some ρ => .nx ρ W
  | none => .stk
theorem ss_unp {is : List Nat} {ts : List Expr} {k : Nat} {tp : Pos} (h : Cok X T Wx kk) (he : SE X T Wx e fa) (hg : SG X T (.Tuple ts k tp) is (bTup is)) (hs : swapsWithSole [.Tuple ts k tp] e pos.line X.env = pure false := by rfl) (hw : swappedStores [.Tuple ts k tp] e X.env = pure none := by rfl)
    (h1 : (assignEach [.Tuple ts k tp] X.env).map (·.2) = [assign (.Tuple ts k tp) X.env] := by rfl) : SS X T Wx (.Assign [.Tuple ts k tp] e pos) (sUnp is fa) := by
  refine PS.imp (ps_asg he hg hs hw h1) fun D σ H ⟨Z, ρ, W, as, G, s, p⟩ => ⟨Z, ρ, W, as, G, s, ?_⟩
  unfold sUnp at p
  cases e1 : fa ρ W with
  | val d ρ1 W1 =>
    rw [e1] at p
    simp only [Res.bindS_val] at p
    intro v H1 as1 G1 s1 m1 r1
    split at p
    · rename_i ρ' e2
      exact ⟨Z, ρ1, W1, as1, G1, d, s1, r1, ρ', e2, fun σ' s' _ => p σ' H1 as1 G1 s' m1⟩
    · exact p.elim
  | exc c fs ρ1 W1 => rw [e1] at p; exact p σ
  | stk => rw [e1] at p; exact p

/-! ### for, while -/
def forL (bn : Bn) (fb : Ds) : List D → Ds
  | [], ρ, W => .nx ρ W
  | d :: ds, ρ, W => match bn d ρ with
    | none => .stk
    | some ρ1 => match fb ρ1 W with
      | .nx ρ2 W2 => forL bn fb ds ρ2 W2
      | .ct ρ2 W2 => forL bn fb ds ρ2 W2
      | .bk ρ2 W2 => .nx ρ2 W2
      | r => r
def sFor (fi : DnA) (bn : Bn) (fb : Ds) : Ds := fun ρ W => match fi ρ W with
  | .val ds ρ W => forL bn fb ds ρ W
  | .exc c fs ρ W => .exc c fs ρ W
  | .stk => .stk
theorem ss_for {tg iter : Expr} {body : List Stmt} {vs : List Nat} {bn : Bn} {fi : DnA} (h : Cok X T Wx kk) (hi : SI X T Wx tg iter fi) (hg : SG X T tg vs bn) (hb : SSs X T Wx body fs)
    (hs : ∀ x, foldedSetIterable iter X.env x = pure x := by intro _; rfl) : SS X T Wx (.For tg iter body [] pos) (sFor fi bn fs) := by
  refine PS.imp (ps_for h.ps h.calm hi hg hb hs) fun D σ H ⟨Z, ρ, W, as, G, s, p⟩ => ⟨Z, ρ, W, as, G, s, ?_⟩
  unfold sFor at p
  cases e1 : fi ρ W with
  | exc c fs ρ1 W1 => rw [e1] at p; exact p σ
  | stk => rw [e1] at p; exact p
  | val ds ρ1 W1 =>
    rw [e1] at p
    intro J H1 as1 G1 s1 m1 wd
    refine ⟨fun i m σ H => m = ds.length - i ∧ i ≤ ds.length ∧ ∃ ρ W as2 G2, StR T Z ρ W σ H as2 G2 ∧ Mono as1 G1 as2 G2 ∧ PostS T Wx Z as G D (forL bn fs (ds.drop i) ρ W) ∧ Mono as G as2 G2,
      ⟨ds.length, by simp, Nat.zero_le _, ρ1, W1, as1, G1, s1, Mono.refl _ _, by simpa using p, m1⟩, ?_⟩
    rintro i m σ2 H2 ⟨rfl, hle, ρ2, W2, as2, G2, s2, m2, p2, m02⟩
    by_cases hlt : i < ds.length
    · have hd : ds.drop i = ds[i] :: ds.drop (i + 1) := List.drop_eq_getElem_cons hlt
      rw [hd] at p2
      simp only [forL] at p2
      refine .inr ⟨wd.go i H2 (m2.ex.trans s2.sub) hlt, fun σ' H' => (i + 1 ≤ ds.length ∧ ∃ ρ W as2 G2, StR T Z ρ W σ' H' as2 G2 ∧ Mono as1 G1 as2 G2 ∧ PostS T Wx Z as G D (forL bn fs (ds.drop (i + 1)) ρ W) ∧ Mono as G as2 G2),
        fun σ' H' n' => ⟨ds.length - (i + 1), by omega, rfl, n'⟩, fun x H' y => ?_⟩
      obtain ⟨G3, d, al, hdi, rx⟩ := wd.yld i x H2 H' as2 G2 m2 s2.sub hlt y
      rw [List.getElem?_eq_getElem hlt] at hdi
      cases hdi
      have s3 := s2.alloc al
      have m3 : Mono as2 G2 as2 G3 := Mono.of al.g
      cases e2 : bn ds[i] ρ2 with
      | none => rw [e2] at p2; exact p2.elim
      | some ρ3 =>
        rw [e2] at p2
        refine ⟨Z, ρ2, W2, as2, G3, ds[i], s3, rx, ρ3, e2, fun σ3 s4 _ => ⟨Z, ρ3, W2, as2, G3, s4, ?_⟩⟩
        dsimp only at p2
        cases e3 : fs ρ3 W2 with
        | nx ρ4 W4 =>
          rw [e3] at p2
          exact fun σ5 H5 as5 G5 s5 m5 => ⟨hlt, ρ4, W4, as5, G5, s5, m2.trans (m3.trans m5), p2, m02.trans (m3.trans m5)⟩
        | ct ρ4 W4 =>
          rw [e3] at p2
          exact fun σ5 H5 as5 G5 s5 m5 => ⟨hlt, ρ4, W4, as5, G5, s5, m2.trans (m3.trans m5), p2, m02.trans (m3.trans m5)⟩
        | bk ρ4 W4 =>
          rw [e3] at p2
          exact fun σ5 H5 as5 G5 s5 m5 => p2 σ5 H5 as5 G5 s5 (m02.trans (m3.trans m5))
        | rt d ρ4 W4 =>
          rw [e3] at p2
          exact fun v σ5 H5 as5 G5 s5 m5 r5 => p2 v σ5 H5 as5 G5 s5 (m02.trans (m3.trans m5)) r5
        | exc c fs ρ4 W4 =>
          rw [e3] at p2
          exact fun σ5 => PostX.mono (m02.trans m3) (p2 σ5)
        | stk => rw [e3] at p2; exact p2
    · have e : i = ds.length := by omega
      subst e
      rw [List.drop_length] at p2
      exact .inl ⟨wd.stop H2 (m2.ex.trans s2.sub), p2 σ2 H2 as2 G2 s2 m02⟩
def whL (fc : Dn) (fb : Ds) : Nat → Ds
  | 0, _, _ => .stk
  | n + 1, ρ, W => (fc ρ W).bindS fun d ρ W => match tru W d with
    | some true => match fb ρ W with
      | .nx ρ2 W2 => whL fc fb n ρ2 W2
      | .ct ρ2 W2 => whL fc fb n ρ2 W2
      | .bk ρ2 W2 => .nx ρ2 W2
      | r => r
    | some false => .nx ρ W
    | none => .stk
theorem ss_while (n : Nat) {body : List Stmt} (h : Cok X T Wx kk) (hc : ST X T Wx c fc) (hb : SSs X T Wx body fs) : SS X T Wx (.While c body [] pos) (whL fc fs n) := by
  refine PS.imp (ps_while h.ps hc hb) fun D σ H ⟨Z, ρ, W, as, G, s, p⟩ => ?_
  refine ⟨fun m σ H => ∃ ρ W as2 G2, StR T Z ρ W σ H as2 G2 ∧ Mono as G as2 G2 ∧ PostS T Wx Z as G D (whL fc fs m ρ W), ⟨n, ρ, W, as, G, s, Mono.refl _ _, p⟩, ?_⟩
  rintro m σ2 H2 ⟨ρ2, W2, as2, G2, s2, m2, p2⟩
  cases m with
  | zero => exact p2.elim
  | succ m =>
    simp only [whL] at p2
    refine ⟨Z, ρ2, W2, as2, G2, s2, ?_⟩
    cases e1 : fc ρ2 W2 with
    | exc c fs ρ1 W1 => rw [e1] at p2; exact PostX.mono m2 (p2 σ2)
    | stk => rw [e1] at p2; exact p2
    | val d ρ3 W3 =>
      rw [e1] at p2
      simp only [Res.bindS_val] at p2
      split at p2
      · rename_i h1
        refine ⟨true, h1, fun H3 as3 G3 s3 m3 => ?_⟩
        dsimp only
        rw [if_pos rfl]
        refine ⟨fun σ' H' => ∃ ρ W as2 G2, StR T Z ρ W σ' H' as2 G2 ∧ Mono as G as2 G2 ∧ PostS T Wx Z as G D (whL fc fs m ρ W), fun σ' H' n' => ⟨m, Nat.lt_succ_self _, n'⟩, ⟨Z, ρ3, W3, as3, G3, s3, ?_⟩⟩
        have m3' := m2.trans m3
        cases e3 : fs ρ3 W3 with
        | nx ρ4 W4 => rw [e3] at p2; exact fun σ5 H5 as5 G5 s5 m5 => ⟨ρ4, W4, as5, G5, s5, m3'.trans m5, p2⟩
        | ct ρ4 W4 => rw [e3] at p2; exact fun σ5 H5 as5 G5 s5 m5 => ⟨ρ4, W4, as5, G5, s5, m3'.trans m5, p2⟩
        | bk ρ4 W4 => rw [e3] at p2; exact fun σ5 H5 as5 G5 s5 m5 => p2 σ5 H5 as5 G5 s5 (m3'.trans m5)
        | rt d ρ4 W4 => rw [e3] at p2; exact fun v σ5 H5 as5 G5 s5 m5 r5 => p2 v σ5 H5 as5 G5 s5 (m3'.trans m5) r5
        | exc c fs ρ4 W4 => rw [e3] at p2; exact fun σ5 => PostX.mono m3' (p2 σ5)
        | stk => rw [e3] at p2; exact p2
      · rename_i h1
        refine ⟨false, h1, fun H3 as3 G3 s3 m3 => ?_⟩
        dsimp only
        rw [if_neg Bool.false_ne_true]
        exact p2 σ2 H3 as3 G3 s3 (m2.trans m3)
      · exact p2.elim
end
end Dl

set_option Elab.async false
set_option linter.all false
set_option maxRecDepth 100000
set_option maxHeartbeats 4000000
namespace Dl
open PySem PySem.Spec PyProof.Rows L2

/-! ### list comprehensions -/
/-- the names within: what is owned is not seen, the block's own names are none -/
def hide : Slot → Slot
  | .sh d => .sh d
  | _ => .no
def wipeE (ρ : Env) : List Nat → Env
  | [] => ρ
  | v :: vs => (wipeE ρ vs).set v .no
def blkE (ρ : Env) (vs : List Nat) : Env := wipeE (ρ.map hide) vs
theorem wipeE_length (ρ : Env) : ∀ vs : List Nat, (wipeE ρ vs).length = ρ.length
  | [] => rfl
  | v :: vs => by unfold wipeE; rw [List.length_set, wipeE_length ρ vs]
theorem wipeE_get {ρ : Env} {j : Nat} {sl : Slot} : ∀ {vs : List Nat}, (wipeE ρ vs)[j]? = some sl → sl = .no ∨ (j ∉ vs ∧ ρ[j]? = some sl)
  | [], h => .inr ⟨by simp, h⟩
  | v :: vs, h => by
    unfold wipeE at h
    by_cases hv : v = j
    · subst hv
      rw [List.getElem?_set] at h
      simp only [if_true] at h
      split at h
      · cases h; exact .inl rfl
      · cases h
    · rw [List.getElem?_set_ne hv] at h
      rcases wipeE_get h with h | ⟨h1, h2⟩
      · exact .inl h
      · exact .inr ⟨by simp only [List.mem_cons, not_or]; exact ⟨fun z => hv z.symm, h1⟩, h2⟩
section
variable {T : Tb} {Z : Bs} {ρ : Env} {W : Sto} {σ : L2.St} {H H' : Hp} {as as' : List Addr} {G G' : Hp}
theorem StR.blk (r : StR T Z ρ W σ H as G) (vs : List Nat) : StR T (bs H G as) (blkE ρ vs) W (wipe σ vs) H as G := by
  refine r.enter (fun i sl h => ?_) ?_
  · rcases wipeE_get h with h | ⟨h1, h2⟩
    · subst h; exact ⟨rfl, trivial⟩
    · rw [List.getElem?_map] at h2
      cases e : ρ[i]? with
      | none => rw [e] at h2; cases h2
      | some s0 =>
        rw [e] at h2
        cases h2
        have hs := r.slot i s0 e
        cases s0 with
        | sh d =>
          refine ⟨rfl, ?_⟩
          rw [wipe_get, if_neg fun z => h1 z.1]
          exact hs
        | no => exact ⟨rfl, trivial⟩
        | owl xs => exact ⟨rfl, trivial⟩
        | owi a c fs => exact ⟨rfl, trivial⟩
  · unfold blkE
    rw [wipeE_length, List.length_map, wipe_length]
    exact r.ln
/-- other names, none owning, at the same entry -/
theorem StR.env' (r : StR T Z ρ W σ H as G) {ρ' : Env} {σ' : L2.St} (h : ∀ (i : Nat) sl, ρ'[i]? = some sl → sl.isOw = false ∧ SlotR T as G H σ'[i]? sl) (hl : ρ'.length ≤ σ'.length) : StR T Z ρ' W σ' H as G where
  sub := r.sub
  slot := fun i sl e => (h i sl e).2
  own := fun i j a o _ => by
    obtain ⟨⟨sl, h1, h2⟩, _⟩ := o
    rw [(h i sl h1).1] at h2; cases h2
  len := r.len
  nd := r.nd
  sto := r.sto
  ownas := fun i a o => by
    obtain ⟨⟨sl, h1, h2⟩, _⟩ := o
    rw [(h i sl h1).1] at h2; cases h2
  fr := r.fr
  ownfr := fun i a o => by
    obtain ⟨⟨sl, h1, h2⟩, _⟩ := o
    rw [(h i sl h1).1] at h2; cases h2
  new := r.new
  pre := r.pre
  asnew := r.asnew
  exG := r.exG
  ln := hl
/-- the same names at a later state -/
theorem StR.again (r : StR T Z ρ W σ H as G) (h : ∀ (i : Nat) (sl : Slot), ρ[i]? = some sl → sl.isOw = false) : StR T (bs H G as) ρ W σ H as G :=
  r.enter (fun i sl e => ⟨h i sl e, r.slot i sl e⟩) r.ln
theorem blkE_now (ρ : Env) (vs : List Nat) : ∀ (i : Nat) (sl : Slot), (blkE ρ vs)[i]? = some sl → sl.isOw = false := fun i sl h => by
  rcases wipeE_get h with h | ⟨_, h2⟩
  · subst h; rfl
  · rw [List.getElem?_map] at h2
    cases e : ρ[i]? with
    | none => rw [e] at h2; cases h2
    | some s0 =>
      rw [e] at h2
      cases h2
      cases s0 <;> rfl
end

def lcL (bn : Bn) (ft fe : Dn) (ρb : Env) : List D → Sto → List D → Option (List D × Sto)
  | [], W, acc => some (acc, W)
  | d :: ds, W, acc => match bn d ρb with
    | none => none
    | some ρ1 => match ft ρ1 W with
      | .val t ρ2 W2 => match tru W2 t with
        | some true => match fe ρ2 W2 with
          | .val x _ W3 => lcL bn ft fe ρb ds W3 (acc ++ [x])
          | _ => none
        | some false => lcL bn ft fe ρb ds W2 acc
        | none => none
      | _ => none
def dLc (vs : List Nat) (fi : DnA) (bn : Bn) (ft fe : Dn) : Dn := fun ρ W => match fi ρ W with
  | .val ds ρ1 W1 => if ds.length < 16777216 then (match lcL bn ft fe (blkE ρ1 vs) ds W1 [] with
    | some (acc, W2) => .val (.lst acc) ρ1 W2
    | none => .stk) else .stk
  | .exc c fs ρ W => .exc c fs ρ W
  | .stk => .stk
theorem lcL_len {bn : Bn} {ft fe : Dn} {ρb : Env} : ∀ {ds : List D} {W : Sto} {acc : List D} {r : List D × Sto}, lcL bn ft fe ρb ds W acc = some r → acc.length ≤ r.1.length
  | [], W, acc, r, h => by cases h; exact Nat.le_refl _
  | d :: ds, W, acc, r, h => by
    simp only [lcL] at h
    split at h
    · cases h
    · split at h
      · split at h
        · split at h
          · have := lcL_len h
            rw [List.length_append] at this
            exact Nat.le_trans (Nat.le_add_right _ _) this
          · cases h
        · exact lcL_len h
        · cases h
      · cases h
abbrev STs (X : Cx) (T : Tb) (Wx : WX) (ifs : List Expr) (f : Dn) : Prop := PTs X ifs (rdT T Wx f)
theorem PTs.imp {X : Cx} {ifs : List Expr} {t u : TT} (h : PTs X ifs t) (k : ∀ σ H Q, u σ H Q → t σ H Q) : PTs X ifs u := ⟨fun pins s σ H Q I q => h.run pins s σ H Q I (k σ H Q q)⟩
section
variable {X : Cx} {T : Tb} {Wx : WX} {kk : Nat} {a b c e : Expr} {es rest : List Expr} {fa fb fc : Dn} {fA fr : DnA} {pos : Pos}
theorem sts_nil : STs X T Wx [] (dC (.bl true)) := PTs.imp pts_nil fun σ H Q ⟨Z, ρ, W, as, G, s, p⟩ => by
  obtain ⟨k, e, p⟩ := p
  cases e
  exact p H as G s (Mono.refl _ _)
theorem sts_one (h : ST X T Wx c fc) : STs X T Wx [c] fc := pts_one h
/-- a comprehension's loop, the list at D growing -/
theorem lc_loop {vs : List Nat} {bn : Bn} {ft fe : Dn} {σb τ : L2.St} {J : It} {H0 : Hp} {Z : Bs} {ρb : Env} {W0s W2 : Sto} {as0 : List Addr} {G0 : Hp} {ds ac0 acc : List D} {va0 : List V} {D : Addr} {Fin : Hp → Prop}
    (hτ : wipe σb vs = τ) (s0 : StR T Z ρb W0s σb H0 as0 G0) (now : ∀ (i : Nat) (sl : Slot), ρb[i]? = some sl → sl.isOw = false) (hid0 : Hid Z ρb σb as0 G0 D) (hD0 : H0 D = some (.lst va0)) (ra0 : reps T as0 G0 ac0 va0) (wd : WalkD T J as0 G0 ds)
    (hlt : ac0.length + ds.length < 16777216) (hrun : lcL bn ft fe ρb ds W0s ac0 = some (acc, W2))
    (hF : ∀ va H' as' G', StR T Z ρb W2 σb H' as' G' → Mono as0 G0 as' G' → Hid Z ρb σb as' G' D → H' D = some (.lst va) → reps T as' G' acc va → Fin H') :
    ∃ W : Nat → Nat → Hp → Prop, (∃ m, W 0 m H0) ∧ ∀ i m H, W i m H →
      (J.stop i H ∧ Fin H) ∨ (J.go i H ∧ ∃ Nx : Hp → Prop, (∀ H', Nx H' → ∃ m', m' < m ∧ W (i + 1) m' H') ∧ ∀ x H', J.yld i H x H' → rdG T vs bn x σb H' fun σ2 H2 => wipe σ2 vs = τ ∧ rdT T W0 ft σ2 H2 fun b H3 =>
        if b = true then rd T W0 fe σ2 H3 fun y H4 => ∃ acc, H4 D = some (.lst acc) ∧ acc.length < sizeLine ∧ Nx (upd H4 D (.lst (acc ++ [y]))) else Nx H3) := by
  refine ⟨fun i m H => m = ds.length - i ∧ i ≤ ds.length ∧ ∃ W as2 G2 ac va, StR T Z ρb W σb H as2 G2 ∧ Mono as0 G0 as2 G2 ∧ Hid Z ρb σb as2 G2 D ∧ H D = some (.lst va) ∧ reps T as2 G2 ac va ∧ ac.length ≤ ac0.length + i ∧ lcL bn ft fe ρb (ds.drop i) W ac = some (acc, W2),
    ⟨ds.length, by simp, Nat.zero_le _, W0s, as0, G0, ac0, va0, s0, Mono.refl _ _, hid0, hD0, ra0, Nat.le_refl _, by simpa using hrun⟩, ?_⟩
  rintro i m H ⟨rfl, hle, W, as2, G2, ac, va, s2, mm, hid, hva, rva, hal, hrun2⟩
  by_cases hi : i < ds.length
  · have hd : ds.drop i = ds[i] :: ds.drop (i + 1) := List.drop_eq_getElem_cons hi
    rw [hd] at hrun2
    simp only [lcL] at hrun2
    refine .inr ⟨wd.go i H (mm.ex.trans s2.sub) hi, fun H' => i + 1 ≤ ds.length ∧ ∃ W as2 G2 ac va, StR T Z ρb W σb H' as2 G2 ∧ Mono as0 G0 as2 G2 ∧ Hid Z ρb σb as2 G2 D ∧ H' D = some (.lst va) ∧ reps T as2 G2 ac va ∧ ac.length ≤ ac0.length + (i + 1) ∧ lcL bn ft fe ρb (ds.drop (i + 1)) W ac = some (acc, W2),
      fun H' n' => ⟨ds.length - (i + 1), by omega, rfl, n'⟩, fun x H' y => ?_⟩
    obtain ⟨G3, d, al, hdi, rx⟩ := wd.yld i x H H' as2 G2 mm s2.sub hi y
    rw [List.getElem?_eq_getElem hi] at hdi
    cases hdi
    have s3 := s2.alloc al
    obtain ⟨hva3, hid3⟩ := hid.alloc hva al
    have s3' := s3.again now
    have mal : Mono as2 G2 as2 G3 := Mono.of al.g
    split at hrun2
    · cases hrun2
    · rename_i ρ4 e4
      refine ⟨_, ρb, W, as2, G3, ds[i], s3', rx, ρ4, e4, fun σ4 s4 hw4 => ⟨hw4.trans hτ, ?_⟩⟩
      refine ⟨_, ρ4, W, as2, G3, s4, ?_⟩
      split at hrun2
      · rename_i t ρ5 W5 e5
        rw [e5]
        split at hrun2
        · rename_i h6
          refine ⟨true, h6, fun H5 as5 G5 s5 m5 => ?_⟩
          dsimp only
          rw [if_pos rfl]
          refine ⟨_, ρ5, W5, as5, G5, s5, ?_⟩
          split at hrun2
          · rename_i x7 ρ7 W7 e7
            rw [e7]
            intro v H7 as7 G7 s7 m7 r7
            obtain ⟨hva7, hid7⟩ := hid3.back hva3 s7
            have s8 := s3.back s7
            have l := rva.length
            refine ⟨va, hva7, by rw [l]; exact Nat.lt_of_lt_of_le (by omega) (szl (Nat.le_refl _)), hi, W7, as7, G7, ac ++ [x7], va ++ [v], s8.hidUpd hid7, mm.trans (mal.trans s7.mono0), hid7, upd_same, ?_, ?_, hrun2⟩
            · exact ((reps.mono (mal.trans s7.mono0) _ _ rva)).append (reps_cons r7 reps_nil)
            · rw [List.length_append, List.length_singleton]; omega
          · cases hrun2
        · rename_i h6
          refine ⟨false, h6, fun H5 as5 G5 s5 m5 => ?_⟩
          dsimp only
          rw [if_neg Bool.false_ne_true]
          obtain ⟨hva7, hid7⟩ := hid3.back hva3 s5
          exact ⟨hi, W5, as5, G5, ac, va, s3.back s5, mm.trans (mal.trans s5.mono0), hid7, hva7, reps.mono (mal.trans s5.mono0) _ _ rva, by omega, hrun2⟩
        · cases hrun2
      · cases hrun2
  · have e : i = ds.length := by omega
    subst e
    rw [List.drop_length] at hrun2
    cases hrun2
    exact .inl ⟨wd.stop H (mm.ex.trans s2.sub), hF va H as2 G2 s2 mm hid hva rva⟩
theorem wipe_wipe {σ : L2.St} {vs : List Nat} : wipe (wipe σ vs) vs = wipe σ vs := wipe_eq_of (wipe_length _ _) fun j hj => by rw [wipe_get, if_neg fun z => hj z.1]
theorem lc_run {vs : List Nat} {bn : Bn} {ft fe : Dn} {σ : L2.St} {Q : VK} {J : It} {H1 : Hp} {Z : Bs} {ρ1 : Env} {W1 W2 : Sto} {as as1 : List Addr} {G G1 : Hp} {ds acc : List D}
    (s1 : StR T Z ρ1 W1 σ H1 as1 G1) (m1 : Mono as G as1 G1) (wd : WalkD T J as1 G1 ds) (hlt : ds.length < 16777216) (hrun : lcL bn ft fe (blkE ρ1 vs) ds W1 [] = some (acc, W2))
    (hQ : ∀ p vs H' as' G', StR T Z ρ1 W2 σ H' as' G' → Mono as G as' G' → Hid Z ρ1 σ as' G' p → H' p = some (.lst vs) → reps T as' G' acc vs → Q (.ref p) H') :
    ∀ D, H1 D = none → ∃ W : Nat → Nat → Hp → Prop, (∃ m, W 0 m (upd H1 D (.lst []))) ∧ ∀ i m H, W i m H →
      (J.stop i H ∧ Q (.ref D) H) ∨ (J.go i H ∧ ∃ Nx : Hp → Prop, (∀ H', Nx H' → ∃ m', m' < m ∧ W (i + 1) m' H') ∧ ∀ x H', J.yld i H x H' → rdG T vs bn x (wipe σ vs) H' fun σ2 H2 => wipe σ2 vs = wipe σ vs ∧ rdT T W0 ft σ2 H2 fun b H3 =>
        if b = true then rd T W0 fe σ2 H3 fun y H4 => ∃ acc, H4 D = some (.lst acc) ∧ acc.length < sizeLine ∧ Nx (upd H4 D (.lst (acc ++ [y]))) else Nx H3) := by
  intro D hD
  have sb := s1.blk vs
  have sb0 := sb.alloc (Alloc.hid (o := .lst []) hD)
  refine lc_loop (Fin := Q (.ref D)) wipe_wipe sb0 (blkE_now ρ1 vs) (sb.hid hD) upd_same reps_nil wd (by simpa using hlt) hrun fun va H as2 G2 s2 mm hid hva rva => ?_
  refine hQ D va H as2 G2 (s1.back s2) (m1.trans mm) ⟨hid.g, hid.a, s1.h0 hD, fun j o => ?_⟩ hva rva
  obtain ⟨⟨u, hu⟩, _⟩ := s1.owna o
  rw [hD] at hu
  cases hu
theorem rd_lc {vs : List Nat} {fi : DnA} {bn : Bn} {ft fe : Dn} : ∀ σ H Q, rdL T Wx (dLc vs fi bn ft fe) σ H Q → tLc (rdI T Wx fi) (rdG T vs bn) (rdT T W0 ft) (rd T W0 fe) vs σ H Q := fun σ H Q ⟨Z, ρ, W, as, G, s, p⟩ => by
  refine ⟨Z, ρ, W, as, G, s, ?_⟩
  unfold dLc at p
  cases e1 : fi ρ W with
  | exc c fs ρ1 W1 => rw [e1] at p; exact p
  | stk => rw [e1] at p; exact p
  | val ds ρ1 W1 =>
    rw [e1] at p
    dsimp only at p
    intro J H1 as1 G1 s1 m1 wd
    split at p
    · rename_i hlt
      split at p
      · rename_i acc W2 hrun
        obtain ⟨xs, e, p⟩ := p
        cases e
        exact lc_run s1 m1 wd hlt hrun p
      · exact p.elim
    · exact p.elim
theorem sel_lc {elt tg iter : Expr} {ifs : List Expr} {scope : Scope} {own : List (Str × Nat)} {fi : DnA} {bn : Bn} {ft fe : Dn} (h : Cok X T Wx kk) (hi : SI X T Wx tg iter fi) (ok : BlkOk X.N X.env.scope scope own)
    (hg : ∀ (s : Shared) (H : Hp) (C : Addr) (cl : List (Str × Addr)) (fp : List Addr), SG (X.blk s H scope (compEnvC scope cl C X.env) fp) T tg (own.map (·.2)) bn) (ht : ∀ (s : Shared) (H : Hp) (C : Addr) (cl : List (Str × Addr)) (fp : List Addr), STs (X.blk s H scope (compEnvC scope cl C X.env) fp) T W0 ifs ft)
    (he : ∀ (s : Shared) (H : Hp) (C : Addr) (cl : List (Str × Addr)) (fp : List Addr), SE (X.blk s H scope (compEnvC scope cl C X.env) fp) T W0 elt fe) (hs : ∀ x, foldedSetIterable iter X.env x = pure x := by intro _; rfl) :
    SEL X T Wx (.ListComp elt [⟨tg, iter, ifs, 0⟩] scope pos) (dLc (own.map (·.2)) fi bn ft fe) := PE.imp (pe_lc h.calm h.nd hi ok hg ht he hs) rd_lc
theorem dLc_lst {vs : List Nat} {fi : DnA} {bn : Bn} {ft fe : Dn} : ∀ ρ W d ρ' W', dLc vs fi bn ft fe ρ W = .val d ρ' W' → ∃ xs, d = .lst xs := by
  intro ρ W d ρ' W' e
  unfold dLc at e
  split at e
  · split at e
    · split at e
      · cases e; exact ⟨_, rfl⟩
      · cases e
    · cases e
  · cases e
  · cases e
theorem se_lc {elt tg iter : Expr} {ifs : List Expr} {scope : Scope} {own : List (Str × Nat)} {fi : DnA} {bn : Bn} {ft fe : Dn} (h : Cok X T Wx kk) (hi : SI X T Wx tg iter fi) (ok : BlkOk X.N X.env.scope scope own)
    (hg : ∀ (s : Shared) (H : Hp) (C : Addr) (cl : List (Str × Addr)) (fp : List Addr), SG (X.blk s H scope (compEnvC scope cl C X.env) fp) T tg (own.map (·.2)) bn) (ht : ∀ (s : Shared) (H : Hp) (C : Addr) (cl : List (Str × Addr)) (fp : List Addr), STs (X.blk s H scope (compEnvC scope cl C X.env) fp) T W0 ifs ft)
    (he : ∀ (s : Shared) (H : Hp) (C : Addr) (cl : List (Str × Addr)) (fp : List Addr), SE (X.blk s H scope (compEnvC scope cl C X.env) fp) T W0 elt fe) (hs : ∀ x, foldedSetIterable iter X.env x = pure x := by intro _; rfl) :
    SE X T Wx (.ListComp elt [⟨tg, iter, ifs, 0⟩] scope pos) (dLc (own.map (·.2)) fi bn ft fe) := se_fresh (sel_lc h hi ok hg ht he hs) dLc_lst
/-- name = [..] -/
theorem ss_lcOwl (i : Nat) {y : Str} {py spos : Pos} {elt tg iter : Expr} {ifs : List Expr} {scope : Scope} {own : List (Str × Nat)} {fi : DnA} {bn : Bn} {ft fe : Dn} (h : Cok X T Wx kk) (hi : SI X T Wx tg iter fi) (ok : BlkOk X.N X.env.scope scope own)
    (hg : ∀ (s : Shared) (H : Hp) (C : Addr) (cl : List (Str × Addr)) (fp : List Addr), SG (X.blk s H scope (compEnvC scope cl C X.env) fp) T tg (own.map (·.2)) bn) (ht : ∀ (s : Shared) (H : Hp) (C : Addr) (cl : List (Str × Addr)) (fp : List Addr), STs (X.blk s H scope (compEnvC scope cl C X.env) fp) T W0 ifs ft)
    (he : ∀ (s : Shared) (H : Hp) (C : Addr) (cl : List (Str × Addr)) (fp : List Addr), SE (X.blk s H scope (compEnvC scope cl C X.env) fp) T W0 elt fe)
    (hsw : swapsWith (.ListComp elt [⟨tg, iter, ifs, 0⟩] scope pos) (some (.Name y py)) spos.line X.env = pure true) (hy : X.N[i]? = some y := by rfl) (hyl : X.env.scope.names.lookup y = some .local := by rfl) (hs : ∀ x, foldedSetIterable iter X.env x = pure x := by intro _; rfl) :
    SS X T Wx (.Assign [.Name y py] (.ListComp elt [⟨tg, iter, ifs, 0⟩] scope pos) spos) (sOwl i (dLc (own.map (·.2)) fi bn ft fe)) := by
  refine PS.imp (ps_setLc h.calm h.nd hy hyl hsw hi ok hg ht he hs) fun D σ H ⟨Z, ρ, W, as, G, s, p⟩ => ?_
  refine rd_lc σ H _ ⟨Z, ρ, W, as, G, s, ?_⟩
  unfold sOwl at p
  cases e1 : dLc (own.map (·.2)) fi bn ft fe ρ W with
  | val d ρ1 W1 =>
    rw [e1] at p
    cases d <;> try exact p.elim
    exact ⟨_, rfl, fun q vs H1 as1 G1 s1 m1 hid hq r1 => p _ H1 as1 G1 (s1.setOwl hq hid.g hid.z hid.a hid.o r1) m1⟩
  | exc c fs ρ1 W1 => rw [e1] at p; exact p σ
  | stk => rw [e1] at p; exact p
theorem ss_lcAsg (i : Nat) {y : Str} {py spos : Pos} {elt tg iter : Expr} {ifs : List Expr} {scope : Scope} {own : List (Str × Nat)} {fi : DnA} {bn : Bn} {ft fe : Dn} (h : Cok X T Wx kk) (hi : SI X T Wx tg iter fi) (ok : BlkOk X.N X.env.scope scope own)
    (hg : ∀ (s : Shared) (H : Hp) (C : Addr) (cl : List (Str × Addr)) (fp : List Addr), SG (X.blk s H scope (compEnvC scope cl C X.env) fp) T tg (own.map (·.2)) bn) (ht : ∀ (s : Shared) (H : Hp) (C : Addr) (cl : List (Str × Addr)) (fp : List Addr), STs (X.blk s H scope (compEnvC scope cl C X.env) fp) T W0 ifs ft)
    (he : ∀ (s : Shared) (H : Hp) (C : Addr) (cl : List (Str × Addr)) (fp : List Addr), SE (X.blk s H scope (compEnvC scope cl C X.env) fp) T W0 elt fe)
    (hsw : swapsWith (.ListComp elt [⟨tg, iter, ifs, 0⟩] scope pos) (some (.Name y py)) spos.line X.env = pure true) (hy : X.N[i]? = some y := by rfl) (hyl : X.env.scope.names.lookup y = some .local := by rfl) (hs : ∀ x, foldedSetIterable iter X.env x = pure x := by intro _; rfl) :
    SS X T Wx (.Assign [.Name y py] (.ListComp elt [⟨tg, iter, ifs, 0⟩] scope pos) spos) (sAsg i (dLc (own.map (·.2)) fi bn ft fe)) := by
  refine PS.imp (ps_setLc h.calm h.nd hy hyl hsw hi ok hg ht he hs) fun D σ H ⟨Z, ρ, W, as, G, s, p⟩ => ?_
  refine rd_lc σ H _ ⟨Z, ρ, W, as, G, s, ?_⟩
  unfold sAsg at p
  cases e1 : dLc (own.map (·.2)) fi bn ft fe ρ W with
  | val d ρ1 W1 =>
    rw [e1] at p
    obtain ⟨xs, rfl⟩ := dLc_lst _ _ _ _ _ e1
    refine ⟨_, rfl, fun q vs H1 as1 G1 s1 m1 hid hq r1 => p _ H1 as1 (upd G1 q (.lst vs)) ((s1.adopt hid hq).setSh rfl ⟨_, rfl, ?_⟩) (m1.trans (Mono.of (Ex.upd hid.g)))⟩
    simp only [rep]
    exact ⟨q, vs, rfl, Rd.of upd_same, reps.mono (Mono.of (Ex.upd hid.g)) _ _ r1⟩
  | exc c fs ρ1 W1 => rw [e1] at p; exact p σ
  | stk => rw [e1] at p; exact p

/-! ### two clauses -/
def lc2L (bn : Bn) (ft : Dn) (fi1 : DnA) (vs1 : List Nat) (bn1 : Bn) (ft1 fe : Dn) (ρb : Env) : List D → Sto → List D → Option (List D × Sto)
  | [], W, acc => some (acc, W)
  | d :: ds, W, acc => match bn d ρb with
    | none => none
    | some ρ1 => match ft ρ1 W with
      | .val t ρ2 W2 => match tru W2 t with
        | some true => match fi1 ρ2 W2 with
          | .val es ρ3 W3 => if acc.length + es.length < 16777216 then (match lcL bn1 ft1 fe (blkE ρ3 vs1) es W3 acc with
            | some (acc', W4) => lc2L bn ft fi1 vs1 bn1 ft1 fe ρb ds W4 acc'
            | none => none) else none
          | _ => none
        | some false => lc2L bn ft fi1 vs1 bn1 ft1 fe ρb ds W2 acc
        | none => none
      | _ => none
def dLc2 (vs vs1 : List Nat) (fi : DnA) (bn : Bn) (ft : Dn) (fi1 : DnA) (bn1 : Bn) (ft1 fe : Dn) : Dn := fun ρ W => match fi ρ W with
  | .val ds ρ1 W1 => (match lc2L bn ft fi1 vs1 bn1 ft1 fe (blkE ρ1 vs) ds W1 [] with
    | some (acc, W2) => .val (.lst acc) ρ1 W2
    | none => .stk)
  | .exc c fs ρ W => .exc c fs ρ W
  | .stk => .stk
theorem rd_lc2 {vs vs1 : List Nat} {fi fi1 : DnA} {bn bn1 : Bn} {ft ft1 fe : Dn} : ∀ σ H Q, rdL T Wx (dLc2 vs vs1 fi bn ft fi1 bn1 ft1 fe) σ H Q →
    tLc2 (rdI T Wx fi) (rdG T vs bn) (rdT T W0 ft) (rdI T W0 fi1) (rdG T vs1 bn1) (rdT T W0 ft1) (rd T W0 fe) vs vs1 σ H Q := fun σ H Q ⟨Z, ρ, W, as, G, s, p⟩ => by
  refine ⟨Z, ρ, W, as, G, s, ?_⟩
  unfold dLc2 at p
  cases e1 : fi ρ W with
  | exc c fs ρ1 W1 => rw [e1] at p; exact p
  | stk => rw [e1] at p; exact p
  | val ds ρ1 W1 =>
    rw [e1] at p
    dsimp only at p
    intro J H1 as1 G1 s1 m1 wd
    split at p
    · rename_i acc W2 hrun
      obtain ⟨xs, e, hQ⟩ := p
      cases e
      intro D hD
      have sb := s1.blk vs
      have sb0 := sb.alloc (Alloc.hid (o := .lst []) hD)
      refine ⟨fun i m H => m = ds.length - i ∧ i ≤ ds.length ∧ ∃ W as2 G2 ac va, StR T (bs H1 G1 as1) (blkE ρ1 vs) W (wipe σ vs) H as2 G2 ∧ Hid (bs H1 G1 as1) (blkE ρ1 vs) (wipe σ vs) as2 G2 D ∧ H D = some (.lst va) ∧ reps T as2 G2 ac va ∧ lc2L bn ft fi1 vs1 bn1 ft1 fe (blkE ρ1 vs) (ds.drop i) W ac = some (acc, W2),
        ⟨ds.length, by simp, Nat.zero_le _, W1, as1, G1, [], [], sb0, sb.hid hD, upd_same, reps_nil, by simpa using hrun⟩, ?_⟩
      rintro i m H ⟨rfl, hle, W, as2, G2, ac, va, s2, hid, hva, rva, hrun2⟩
      have mm := s2.mono0
      by_cases hi : i < ds.length
      · have hd : ds.drop i = ds[i] :: ds.drop (i + 1) := List.drop_eq_getElem_cons hi
        rw [hd] at hrun2
        simp only [lc2L] at hrun2
        refine .inr ⟨wd.go i H (mm.ex.trans s2.sub) hi, fun H' => i + 1 ≤ ds.length ∧ ∃ W as2 G2 ac va, StR T (bs H1 G1 as1) (blkE ρ1 vs) W (wipe σ vs) H' as2 G2 ∧ Hid (bs H1 G1 as1) (blkE ρ1 vs) (wipe σ vs) as2 G2 D ∧ H' D = some (.lst va) ∧ reps T as2 G2 ac va ∧ lc2L bn ft fi1 vs1 bn1 ft1 fe (blkE ρ1 vs) (ds.drop (i + 1)) W ac = some (acc, W2),
          fun H' n' => ⟨ds.length - (i + 1), by omega, rfl, n'⟩, fun x H' y => ?_⟩
        obtain ⟨G3, d, al, hdi, rx⟩ := wd.yld i x H H' as2 G2 mm s2.sub hi y
        rw [List.getElem?_eq_getElem hi] at hdi
        cases hdi
        have s3 := s2.alloc al
        obtain ⟨hva3, hid3⟩ := hid.alloc hva al
        have s3' := s3.again (blkE_now ρ1 vs)
        have mal : Mono as2 G2 as2 G3 := Mono.of al.g
        split at hrun2
        · cases hrun2
        · rename_i ρ4 e4
          refine ⟨_, blkE ρ1 vs, W, as2, G3, ds[i], s3', rx, ρ4, e4, fun σ4 s4 hw4 => ⟨hw4.trans wipe_wipe, ?_⟩⟩
          refine ⟨_, ρ4, W, as2, G3, s4, ?_⟩
          split at hrun2
          · rename_i t ρ5 W5 e5
            rw [e5]
            split at hrun2
            · rename_i h6
              refine ⟨true, h6, fun H5 as5 G5 s5 m5 => ?_⟩
              dsimp only
              rw [if_pos rfl]
              refine ⟨_, ρ5, W5, as5, G5, s5, ?_⟩
              split at hrun2
              · rename_i es ρ7 W7 e7
                rw [e7]
                intro J1 H7 as7 G7 s7 m7 wd1
                split at hrun2
                · rename_i hlt
                  split at hrun2
                  · rename_i acc' W8 e8
                    obtain ⟨hva7, hid7⟩ := hid3.back hva3 s7
                    have sM := s3.back s7
                    have sI := sM.env' (fun i sl e => ⟨blkE_now ρ7 vs1 i sl e, (s7.blk vs1).slot i sl e⟩) (s7.blk vs1).ln
                    have hidI : Hid (bs H1 G1 as1) (blkE ρ7 vs1) (wipe σ4 vs1) as7 G7 D := ⟨hid7.g, hid7.a, hid7.z, fun j o => by
                      obtain ⟨⟨sl, q1, q2⟩, _⟩ := o
                      rw [blkE_now ρ7 vs1 j sl q1] at q2
                      cases q2⟩
                    refine lc_loop wipe_wipe sI (blkE_now ρ7 vs1) hidI hva7 (reps.mono (mal.trans s7.mono0) _ _ rva) wd1 hlt e8 fun va8 H8 as8 G8 s8 m8 hid8 hva8 rva8 => ?_
                    refine ⟨hi, W8, as8, G8, acc', va8, s8.env' (fun i sl e => ⟨blkE_now ρ1 vs i sl e, (sM.slot i sl e).mono m8 fun a u _ q _ _ => by rw [blkE_now ρ1 vs i sl e] at q; cases q⟩) sM.ln, ⟨hid8.g, hid8.a, hid8.z, fun j o => ?_⟩, hva8, rva8, hrun2⟩
                    obtain ⟨⟨sl, q1, q2⟩, _⟩ := o
                    rw [blkE_now ρ1 vs j sl q1] at q2
                    cases q2
                  · cases hrun2
                · cases hrun2
              · cases hrun2
            · rename_i h6
              refine ⟨false, h6, fun H5 as5 G5 s5 m5 => ?_⟩
              dsimp only
              rw [if_neg Bool.false_ne_true]
              obtain ⟨hva7, hid7⟩ := hid3.back hva3 s5
              exact ⟨hi, W5, as5, G5, ac, va, s3.back s5, hid7, hva7, reps.mono (mal.trans s5.mono0) _ _ rva, hrun2⟩
            · cases hrun2
          · cases hrun2
      · have e : i = ds.length := by omega
        subst e
        rw [List.drop_length] at hrun2
        cases hrun2
        refine .inl ⟨wd.stop H (mm.ex.trans s2.sub), ?_⟩
        refine hQ D va H as2 G2 (s1.back s2) (m1.trans mm) ⟨hid.g, hid.a, s1.h0 hD, fun j o => ?_⟩ hva rva
        obtain ⟨⟨u, hu⟩, _⟩ := s1.owna o
        rw [hD] at hu
        cases hu
    · exact p.elim
theorem sel_lc2 {elt tg iter tg1 iter1 : Expr} {ifs ifs1 : List Expr} {scope : Scope} {own : List (Str × Nat)} {vs1 : List Nat} {fi fi1 : DnA} {bn bn1 : Bn} {ft ft1 fe : Dn} (h : Cok X T Wx kk) (hi : SI X T Wx tg iter fi) (ok : BlkOk X.N X.env.scope scope own) (hv : ∀ i ∈ vs1, i ∈ own.map (·.2))
    (hg : ∀ (s : Shared) (H : Hp) (C : Addr) (cl : List (Str × Addr)) (fp : List Addr), SG (X.blk s H scope (compEnvC scope cl C X.env) fp) T tg (own.map (·.2)) bn) (ht : ∀ (s : Shared) (H : Hp) (C : Addr) (cl : List (Str × Addr)) (fp : List Addr), STs (X.blk s H scope (compEnvC scope cl C X.env) fp) T W0 ifs ft)
    (hi1 : ∀ (s : Shared) (H : Hp) (C : Addr) (cl : List (Str × Addr)) (fp : List Addr), SI (X.blk s H scope (compEnvC scope cl C X.env) fp) T W0 tg1 iter1 fi1)
    (hg1 : ∀ (s : Shared) (H : Hp) (C : Addr) (cl : List (Str × Addr)) (fp : List Addr), SG (X.blk s H scope (compEnvC scope cl C X.env) fp) T tg1 vs1 bn1) (ht1 : ∀ (s : Shared) (H : Hp) (C : Addr) (cl : List (Str × Addr)) (fp : List Addr), STs (X.blk s H scope (compEnvC scope cl C X.env) fp) T W0 ifs1 ft1)
    (he : ∀ (s : Shared) (H : Hp) (C : Addr) (cl : List (Str × Addr)) (fp : List Addr), SE (X.blk s H scope (compEnvC scope cl C X.env) fp) T W0 elt fe) (hs : ∀ x, foldedSetIterable iter X.env x = pure x := by intro _; rfl) (hs1 : ∀ env x, foldedSetIterable iter1 env x = pure x := by intro _ _; rfl) :
    SEL X T Wx (.ListComp elt [⟨tg, iter, ifs, 0⟩, ⟨tg1, iter1, ifs1, 0⟩] scope pos) (dLc2 (own.map (·.2)) vs1 fi bn ft fi1 bn1 ft1 fe) := PE.imp (pe_lc2 h.calm h.nd hi ok hv hg ht hi1 hg1 ht1 he hs hs1) rd_lc2
theorem dLc2_lst {vs vs1 : List Nat} {fi fi1 : DnA} {bn bn1 : Bn} {ft ft1 fe : Dn} : ∀ ρ W d ρ' W', dLc2 vs vs1 fi bn ft fi1 bn1 ft1 fe ρ W = .val d ρ' W' → ∃ xs, d = .lst xs := by
  intro ρ W d ρ' W' e
  unfold dLc2 at e
  split at e
  · split at e
    · cases e; exact ⟨_, rfl⟩
    · cases e
  · cases e
  · cases e
theorem ss_lc2Asg (i : Nat) {y : Str} {py spos : Pos} {elt tg iter tg1 iter1 : Expr} {ifs ifs1 : List Expr} {scope : Scope} {own : List (Str × Nat)} {vs1 : List Nat} {fi fi1 : DnA} {bn bn1 : Bn} {ft ft1 fe : Dn} (h : Cok X T Wx kk) (hi : SI X T Wx tg iter fi) (ok : BlkOk X.N X.env.scope scope own) (hv : ∀ i ∈ vs1, i ∈ own.map (·.2))
    (hg : ∀ (s : Shared) (H : Hp) (C : Addr) (cl : List (Str × Addr)) (fp : List Addr), SG (X.blk s H scope (compEnvC scope cl C X.env) fp) T tg (own.map (·.2)) bn) (ht : ∀ (s : Shared) (H : Hp) (C : Addr) (cl : List (Str × Addr)) (fp : List Addr), STs (X.blk s H scope (compEnvC scope cl C X.env) fp) T W0 ifs ft)
    (hi1 : ∀ (s : Shared) (H : Hp) (C : Addr) (cl : List (Str × Addr)) (fp : List Addr), SI (X.blk s H scope (compEnvC scope cl C X.env) fp) T W0 tg1 iter1 fi1)
    (hg1 : ∀ (s : Shared) (H : Hp) (C : Addr) (cl : List (Str × Addr)) (fp : List Addr), SG (X.blk s H scope (compEnvC scope cl C X.env) fp) T tg1 vs1 bn1) (ht1 : ∀ (s : Shared) (H : Hp) (C : Addr) (cl : List (Str × Addr)) (fp : List Addr), STs (X.blk s H scope (compEnvC scope cl C X.env) fp) T W0 ifs1 ft1)
    (he : ∀ (s : Shared) (H : Hp) (C : Addr) (cl : List (Str × Addr)) (fp : List Addr), SE (X.blk s H scope (compEnvC scope cl C X.env) fp) T W0 elt fe)
    (hsw : swapsWith (.ListComp elt [⟨tg, iter, ifs, 0⟩, ⟨tg1, iter1, ifs1, 0⟩] scope pos) (some (.Name y py)) spos.line X.env = pure true) (hy : X.N[i]? = some y := by rfl) (hyl : X.env.scope.names.lookup y = some .local := by rfl) (hs : ∀ x, foldedSetIterable iter X.env x = pure x := by intro _; rfl) (hs1 : ∀ env x, foldedSetIterable iter1 env x = pure x := by intro _ _; rfl) :
    SS X T Wx (.Assign [.Name y py] (.ListComp elt [⟨tg, iter, ifs, 0⟩, ⟨tg1, iter1, ifs1, 0⟩] scope pos) spos) (sAsg i (dLc2 (own.map (·.2)) vs1 fi bn ft fi1 bn1 ft1 fe)) := by
  refine PS.imp (ps_setLc2 h.calm h.nd hy hyl hsw hi ok hv hg ht hi1 hg1 ht1 he hs hs1) fun D σ H ⟨Z, ρ, W, as, G, s, p⟩ => ?_
  refine rd_lc2 σ H _ ⟨Z, ρ, W, as, G, s, ?_⟩
  unfold sAsg at p
  cases e1 : dLc2 (own.map (·.2)) vs1 fi bn ft fi1 bn1 ft1 fe ρ W with
  | val d ρ1 W1 =>
    rw [e1] at p
    obtain ⟨xs, rfl⟩ := dLc2_lst _ _ _ _ _ e1
    refine ⟨_, rfl, fun q vs H1 as1 G1 s1 m1 hid hq r1 => p _ H1 as1 (upd G1 q (.lst vs)) ((s1.adopt hid hq).setSh rfl ⟨_, rfl, ?_⟩) (m1.trans (Mono.of (Ex.upd hid.g)))⟩
    simp only [rep]
    exact ⟨q, vs, rfl, Rd.of upd_same, reps.mono (Mono.of (Ex.upd hid.g)) _ _ r1⟩
  | exc c fs ρ1 W1 => rw [e1] at p; exact p σ
  | stk => rw [e1] at p; exact p
end
end Dl

set_option Elab.async false
set_option linter.all false
set_option maxRecDepth 100000
set_option maxHeartbeats 4000000
namespace Dl
open PySem PySem.Spec PyProof.Rows L2

section
variable {X : Cx} {T : Tb} {Wx : WX} {kk : Nat} {a b c e : Expr} {es rest : List Expr} {fa fb fc : Dn} {fA fr : DnA} {pos : Pos}
theorem CallR.or {f : Value} {r r' : List V → Hp → VK → Prop} (h : CallR X f r) (h' : CallR X f r') : CallR X f (fun xs H Q => r xs H Q ∨ r' xs H Q) := by
  intro pins s σ H xs us Q I rx q
  rcases q with q | q
  · exact h pins s σ H xs us Q I rx q
  · exact h' pins s σ H xs us Q I rx q
theorem POpN.or {r r' : List V → Hp → VK → Prop} {g g' : Sto → List D → Option D} (h : POpN T r g) (h' : POpN T r' g') : POpN T (fun xs H Q => r xs H Q ∨ r' xs H Q) (fun W ds => (g W ds).or (g' W ds)) := by
  intro Z ρ W σ as G H xs ds z Q s rx hz k
  dsimp only at hz
  cases q : g W ds with
  | some z' => rw [q] at hz; cases hz; exact .inl (h Z ρ W σ as G H xs ds _ Q s rx q k)
  | none => rw [q] at hz; exact .inr (h' Z ρ W σ as G H xs ds _ Q s rx hz k)

/-! ### len -/
def gLenS : Sto → List D → Option D
  | _, [.str s] => if s.length ≤ 16777216 then some (.int s.length) else none
  | _, [.lst xs] => some (.int xs.length)
  | _, [.tup xs] => some (.int xs.length)
  | _, _ => none
theorem popn_len (hK : T.K = X.K) : POpN T (fun xs H Q => ∃ x n, xs = [x] ∧ LenV X.K x H n ∧ Q (.int n) H) gLenS := by
  intro Z ρ W σ as G H xs ds z Q s rx hz k
  unfold gLenS at hz
  split at hz
  · split at hz
    · rename_i hl
      cases hz
      obtain ⟨v, rfl, r⟩ := reps1 rx
      simp only [rep] at r
      subst r
      exact ⟨_, _, rfl, ⟨szl hl, rfl⟩, k _ H G (Alloc.refl G H) (by simp only [rep])⟩
    · cases hz
  · cases hz
    obtain ⟨v, rfl, r⟩ := reps1 rx
    simp only [rep] at r
    obtain ⟨p, vs, rfl, h1, h2⟩ := r
    exact ⟨_, _, rfl, .inl ⟨vs, .inl (ex_rd s.sub h1), rfl⟩, k _ H G (Alloc.refl G H) (by rw [h2.length]; simp only [rep])⟩
  · cases hz
    obtain ⟨v, rfl, r⟩ := reps1 rx
    simp only [rep] at r
    obtain ⟨p, vs, rfl, h1, h2⟩ := r
    rw [hK] at h1
    exact ⟨_, _, rfl, .inr ⟨vs, ex_ns s.sub h1, rfl⟩, k _ H G (Alloc.refl G H) (by rw [h2.length]; simp only [rep])⟩
  · cases hz
theorem se_len {p : Pos} (h : Cok X T Wx kk) (hm : X.mg "len" = none) (ha : SA X T Wx [e] fA) (hg : Gl X "len" := by rfl) (he : starEach [e] X.env = (false, eval e X.env) :: starEach [] X.env := by rfl) : SE X T Wx (.Call (.Name "len" p) [e] [] pos) (dBi gLenS fA) :=
  se_bi (popn_len h.K) call_len hg hm boot_len ha (he := he)
/-- len of a name, a list of its own too -/
def dLenV (i : Nat) : Dn := fun ρ W => match ρ[i]? with
  | some (.owl xs) => .val (.int xs.length) ρ W
  | some (.sh d) => match gLenS W [d] with
    | some z => .val z ρ W
    | none => .stk
  | _ => .stk
theorem se_lenV (i : Nat) {x : Str} {p q : Pos} (h : Cok X T Wx kk) (hm : X.mg "len" = none) (hg : Gl X "len" := by rfl) (hN : X.N[i]? = some x := by rfl) (hv : Vis X.env.scope x := by first | exact Or.inl rfl | exact Or.inr (Or.inl rfl) | exact Or.inr (Or.inr rfl)) (hd : (x == ("__debug__" : Str)) = false := by decide)
    (hcd : (x == ("__classdict__" : Str)) = false := by decide) (he : starEach [.Name x q] X.env = (false, eval (.Name x q) X.env) :: starEach [] X.env := by rfl) : SE X T Wx (.Call (.Name "len" p) [.Name x q] [] pos) (dLenV i) := by
  refine PE.imp (pe_callB call_len hg hm boot_len (pa_cons (pe_var (i := i) hN hv hd hcd) pa_nil he) (he := he)) fun σ H Q ⟨Z, ρ, W, as, G, s, p⟩ => ?_
  unfold dLenV at p
  split at p
  · rename_i xs e1
    obtain ⟨q, vs, h1, h2, h3, h4⟩ := s.slot i _ e1
    exact ⟨_, h1, _, _, rfl, .inl ⟨vs, SqL.of h2, rfl⟩, p _ H as G s (Mono.refl _ _) (by rw [h4.length]; simp only [rep])⟩
  · rename_i d e1
    obtain ⟨v, h1, h2⟩ := s.slot i _ e1
    split at p
    · rename_i z hz
      exact ⟨_, h1, popn_len h.K Z ρ W σ as G H [v] [d] z Q s (reps_cons h2 reps_nil) hz fun v' H' G' al rz => p v' H' as G' (s.alloc al) (Mono.of al.g) rz⟩
    · exact p.elim
  · exact p.elim

/-! ### tuple(..), list(..) -/
def gTupleOf : Sto → List D → Option D
  | _, [.lst xs] => some (.tup xs)
  | _, [.tup xs] => some (.tup xs)
  | _, _ => none
theorem popn_tuple (hK : T.K = X.K) : POpN T (fun xs H Q => ∃ p ys, xs = [.ref p] ∧ ((SqL X.K H p ys ∧ NewT H Q ys) ∨ (SqT X.K H p ys ∧ Q (.ref p) H))) gTupleOf := by
  intro Z ρ W σ as G H xs ds z Q s rx hz k
  unfold gTupleOf at hz
  split at hz
  · cases hz
    obtain ⟨v, rfl, r⟩ := reps1 rx
    simp only [rep] at r
    obtain ⟨p, vs, rfl, h1, h2⟩ := r
    refine ⟨p, vs, rfl, .inl ⟨.inl (ex_rd s.sub h1), fun l o hl hd => k _ _ _ (Alloc.new s.sub hl) ?_⟩⟩
    simp only [rep]
    exact ⟨l, vs, rfl, TupN.of upd_same hd, reps.mono (Mono.of (Ex.upd (s.sub.free hl))) _ _ h2⟩
  · cases hz
    obtain ⟨v, rfl, r⟩ := reps1 rx
    have r0 := r
    simp only [rep] at r
    obtain ⟨p, vs, rfl, h1, h2⟩ := r
    rw [hK] at h1
    exact ⟨p, vs, rfl, .inr ⟨ex_ns s.sub h1, k _ H G (Alloc.refl G H) r0⟩⟩
  · cases hz
theorem se_tuple {p : Pos} (h : Cok X T Wx kk) (hm : X.mg "tuple" = none) (ha : SA X T Wx [e] fA) (hg : Gl X "tuple" := by rfl) (he : starEach [e] X.env = (false, eval e X.env) :: starEach [] X.env := by rfl) : SE X T Wx (.Call (.Name "tuple" p) [e] [] pos) (dBi gTupleOf fA) :=
  se_ty (popn_tuple h.K) call_tupF hg hm boot_tuple ha (he := he)
def gListOf : Sto → List D → Option D
  | _, [.lst xs] => some (.lst xs)
  | _, [.tup xs] => some (.lst xs)
  | _, [.sq xs] => some (.lst xs)
  | _, _ => none
theorem sel_list {p : Pos} (h : Cok X T Wx kk) (hm : X.mg "list" = none) (ha : SA X T Wx [e] fA) (hg : Gl X "list" := by rfl) (he : starEach [e] X.env = (false, eval e X.env) :: starEach [] X.env := by rfl) : SEL X T Wx (.Call (.Name "list" p) [e] [] pos) (dBi gListOf fA) := by
  refine PE.imp (pe_callTy call_list_of hg hm boot_list ha (he := he)) fun σ H Q ⟨Z, ρ, W, as, G, s, p⟩ => ⟨Z, ρ, W, as, G, s, ?_⟩
  unfold dBi at p
  cases e1 : fA ρ W with
  | val ds ρ1 W1 =>
    rw [e1] at p
    simp only [ResA.bind_val] at p
    intro vs H1 as1 G1 s1 m1 r1
    split at p
    · rename_i z hz
      obtain ⟨xs, e2, p⟩ := p
      subst e2
      unfold gListOf at hz
      split at hz
      · cases hz
        obtain ⟨v, rfl, r⟩ := reps1 r1
        simp only [rep] at r
        obtain ⟨q, us, rfl, h1, h2⟩ := r
        exact ⟨q, us, rfl, .inl (.inl (ex_rd s1.sub h1)), fun l hl => p l us _ as1 G1 (s1.alloc (Alloc.hid hl)) m1 (s1.hid hl) upd_same h2⟩
      · cases hz
        obtain ⟨v, rfl, r⟩ := reps1 r1
        simp only [rep] at r
        obtain ⟨q, us, rfl, h1, h2⟩ := r
        rw [h.K] at h1
        exact ⟨q, us, rfl, .inr (ex_ns s1.sub h1), fun l hl => p l us _ as1 G1 (s1.alloc (Alloc.hid hl)) m1 (s1.hid hl) upd_same h2⟩
      · cases hz
        obtain ⟨v, rfl, r⟩ := reps1 r1
        simp only [rep] at r
        obtain ⟨q, us, rfl, h1, h2⟩ := r
        rw [h.K] at h1
        exact ⟨q, us, rfl, .inl (ex_l s1.sub h1), fun l hl => p l us _ as1 G1 (s1.alloc (Alloc.hid hl)) m1 (s1.hid hl) upd_same h2⟩
      · cases hz
    · exact p.elim
  | exc c fs ρ1 W1 => rw [e1] at p; exact p
  | stk => rw [e1] at p; exact p
theorem dBi_lst {g : Sto → List D → Option D} (hg : ∀ W ds z, g W ds = some z → ∃ xs, z = .lst xs) : ∀ ρ W d ρ' W', dBi g fA ρ W = .val d ρ' W' → ∃ xs, d = .lst xs := by
  intro ρ W d ρ' W' e
  unfold dBi at e
  cases e1 : fA ρ W with
  | val ds ρ1 W1 =>
    rw [e1] at e
    simp only [ResA.bind_val] at e
    split at e
    · rename_i z hz
      cases e
      exact hg _ _ _ hz
    · cases e
  | exc => rw [e1] at e; cases e
  | stk => rw [e1] at e; cases e
theorem gListOf_lst : ∀ W ds z, gListOf W ds = some z → ∃ xs, z = .lst xs := by
  intro W ds z h
  unfold gListOf at h
  split at h <;> cases h <;> exact ⟨_, rfl⟩
theorem se_list {p : Pos} (h : Cok X T Wx kk) (hm : X.mg "list" = none) (ha : SA X T Wx [e] fA) (hg : Gl X "list" := by rfl) (he : starEach [e] X.env = (false, eval e X.env) :: starEach [] X.env := by rfl) : SE X T Wx (.Call (.Name "list" p) [e] [] pos) (dBi gListOf fA) :=
  se_fresh (sel_list h hm ha hg he) (dBi_lst gListOf_lst)

/-! ### list(range(..)), tuple(range(..)) -/
def cRgOk (a b : Int) : Bool := cRg a && cRg b && decide ((b - a).toNat ≤ 16777216)
theorem cRgOk_of {a b : Int} (h : cRgOk a b = true) : RgOk a b := by
  simp only [cRgOk, cRg, Bool.and_eq_true, decide_eq_true_eq] at h
  exact ⟨h.1.1.1, h.1.1.2, h.1.2.1, h.1.2.2, h.2⟩
theorem rgD_rep {as : List Addr} {G : Hp} (a b : Int) : reps T as G (rgD a (b - a).toNat) (rgV a b) := by
  unfold rgD rgV
  induction (b - a).toNat with
  | zero => simp [reps]
  | succ n ih =>
    rw [List.range_succ, List.map_append, List.map_append]
    exact ih.append (reps_cons (by simp only [rep]) reps_nil)
/-- a range's bounds -/
def rg1 (f : Dn) : DnA := fun ρ W => match f ρ W with
  | .val (.int n) ρ W => .val [.int 0, .int n] ρ W
  | .exc c fs ρ W => .exc c fs ρ W
  | _ => .stk
def rg2 (f g : Dn) : DnA := fun ρ W => match f ρ W with
  | .val (.int i) ρ W => (match g ρ W with
    | .val (.int j) ρ W => .val [.int i, .int j] ρ W
    | .exc c fs ρ W => .exc c fs ρ W
    | _ => .stk)
  | .exc c fs ρ W => .exc c fs ρ W
  | _ => .stk
def dLstRg (fR : DnA) : Dn := fun ρ W => match fR ρ W with
  | .val [.int i, .int j] ρ W => if cRgOk i j = true then .val (.lst (rgD i (j - i).toNat)) ρ W else .stk
  | .exc c fs ρ W => .exc c fs ρ W
  | _ => .stk
def dTupRg (fR : DnA) : Dn := fun ρ W => match fR ρ W with
  | .val [.int i, .int j] ρ W => if cRgOk i j = true then .val (.tup (rgD i (j - i).toNat)) ρ W else .stk
  | .exc c fs ρ W => .exc c fs ρ W
  | _ => .stk
/-- a range's reading -/
def rdR (T : Tb) (Wx : WX) (fR : DnA) : L2.St → Hp → (Int → Int → Hp → Prop) → Prop := fun σ H Q => ∃ Z ρ W as G, StR T Z ρ W σ H as G ∧ (match fR ρ W with
  | .val [.int i, .int j] ρ1 W1 => ∀ H1 as1 G1, StR T Z ρ1 W1 σ H1 as1 G1 → Mono as G as1 G1 → Q i j H1
  | .exc c fs ρ1 W1 => PostX T Wx Z σ as G c fs ρ1 W1
  | _ => False)
theorem prg_imp {e : Expr} {t u : L2.St → Hp → (Int → Int → Hp → Prop) → Prop} (h : PRg X e t) (k : ∀ σ H Q, u σ H Q → t σ H Q) : PRg X e u := fun pins s σ H Q I q => h pins s σ H Q I (k σ H Q q)
abbrev SR (X : Cx) (T : Tb) (Wx : WX) (e : Expr) (fR : DnA) : Prop := PRg X e (rdR T Wx fR)
theorem sr_1 {p : Pos} (hm : X.mg "range" = none) (ha : SE X T Wx a fa) (hg : Gl X "range" := by rfl) (na : starEach [a] X.env = (false, eval a X.env) :: starEach [] X.env := by rfl) : SR X T Wx (.Call (.Name "range" p) [a] [] pos) (rg1 fa) := by
  refine prg_imp (prg_1 hg hm ha na) fun σ H Q ⟨Z, ρ, W, as, G, s, q⟩ => ⟨Z, ρ, W, as, G, s, ?_⟩
  unfold rg1 at q
  cases e1 : fa ρ W with
  | val d ρ1 W1 =>
    rw [e1] at q
    intro v H1 as1 G1 s1 m1 r1
    cases d <;> first | exact q.elim | skip
    simp only [rep] at r1
    exact ⟨_, r1, q H1 as1 G1 s1 m1⟩
  | exc c fs ρ1 W1 => rw [e1] at q; exact q
  | stk => rw [e1] at q; exact q
theorem sr_2 {p : Pos} (hm : X.mg "range" = none) (ha : SE X T Wx a fa) (hb : SE X T Wx b fb) (hg : Gl X "range" := by rfl) (na : starEach [a, b] X.env = (false, eval a X.env) :: starEach [b] X.env := by rfl)
    (nb : starEach [b] X.env = (false, eval b X.env) :: starEach [] X.env := by rfl) (hp : (backTo pos (starEach [b] X.env)).any (·.1) = false := by rfl) : SR X T Wx (.Call (.Name "range" p) [a, b] [] pos) (rg2 fa fb) := by
  refine prg_imp (prg_2 hg hm ha hb na nb hp) fun σ H Q ⟨Z, ρ, W, as, G, s, q⟩ => ⟨Z, ρ, W, as, G, s, ?_⟩
  unfold rg2 at q
  cases e1 : fa ρ W with
  | val d ρ1 W1 =>
    rw [e1] at q
    intro v H1 as1 G1 s1 m1 r1
    cases d <;> first | exact q.elim | skip
    simp only [rep] at r1
    dsimp only at q
    refine ⟨Z, ρ1, W1, as1, G1, s1, ?_⟩
    cases e2 : fb ρ1 W1 with
    | val d2 ρ2 W2 =>
      rw [e2] at q
      intro v2 H2 as2 G2 s2 m2 r2
      cases d2 <;> first | exact q.elim | skip
      simp only [rep] at r2
      exact ⟨_, _, r1, r2, q H2 as2 G2 s2 (m1.trans m2)⟩
    | exc c fs ρ2 W2 => rw [e2] at q; exact PostX.mono m1 q
    | stk => rw [e2] at q; exact q
  | exc c fs ρ1 W1 => rw [e1] at q; exact q
  | stk => rw [e1] at q; exact q
variable {fR : DnA}
theorem sel_lstRg {p : Pos} (h : Cok X T Wx kk) (hm : X.mg "list" = none) (hr : SR X T Wx e fR) (hg : Gl X "list" := by rfl) (na : starEach [e] X.env = (false, eval e X.env) :: starEach [] X.env := by rfl) : SEL X T Wx (.Call (.Name "list" p) [e] [] pos) (dLstRg fR) := by
  refine PE.imp (pe_listRg h.calm hg hm hr na) fun σ H Q ⟨Z, ρ, W, as, G, s, q⟩ => ⟨Z, ρ, W, as, G, s, ?_⟩
  unfold dLstRg at q
  split
  · rename_i i j ρ1 W1 e1
    rw [e1] at q
    dsimp only at q
    split at q
    · rename_i hc
      obtain ⟨xs, e2, q⟩ := q
      cases e2
      exact fun H1 as1 G1 s1 m1 => ⟨cRgOk_of hc, fun p hp => q p _ _ as1 G1 (s1.alloc (Alloc.hid hp)) m1 (s1.hid hp) upd_same (rgD_rep i j)⟩
    · exact q.elim
  · rename_i c fs ρ1 W1 e1
    rw [e1] at q
    exact q
  · rename_i n1 n2
    split at q
    · rename_i e1; exact (n1 _ _ _ _ e1).elim
    · rename_i e1; exact (n2 _ _ _ _ e1).elim
    · exact q
theorem dLstRg_lst : ∀ ρ W d ρ' W', dLstRg fR ρ W = .val d ρ' W' → ∃ xs, d = .lst xs := by
  intro ρ W d ρ' W' e
  unfold dLstRg at e
  split at e
  · split at e
    · cases e; exact ⟨_, rfl⟩
    · cases e
  · cases e
  · cases e
theorem se_lstRg {p : Pos} (h : Cok X T Wx kk) (hm : X.mg "list" = none) (hr : SR X T Wx e fR) (hg : Gl X "list" := by rfl) (na : starEach [e] X.env = (false, eval e X.env) :: starEach [] X.env := by rfl) : SE X T Wx (.Call (.Name "list" p) [e] [] pos) (dLstRg fR) :=
  se_fresh (sel_lstRg h hm hr hg na) dLstRg_lst
theorem se_tupRg {p : Pos} (h : Cok X T Wx kk) (hm : X.mg "tuple" = none) (hr : SR X T Wx e fR) (hg : Gl X "tuple" := by rfl) (na : starEach [e] X.env = (false, eval e X.env) :: starEach [] X.env := by rfl) : SE X T Wx (.Call (.Name "tuple" p) [e] [] pos) (dTupRg fR) := by
  refine PE.imp (pe_tupRgF h.calm hg hm hr na) fun σ H Q ⟨Z, ρ, W, as, G, s, q⟩ => ⟨Z, ρ, W, as, G, s, ?_⟩
  unfold dTupRg at q
  split
  · rename_i i j ρ1 W1 e1
    rw [e1] at q
    dsimp only at q
    split at q
    · rename_i hc
      refine fun H1 as1 G1 s1 m1 => ⟨cRgOk_of hc, fun p o hp hd => q _ _ as1 _ (s1.alloc (Alloc.new s1.sub hp)) (m1.trans (Mono.of (Ex.upd (s1.sub.free hp)))) ?_⟩
      simp only [rep]
      exact ⟨p, _, rfl, TupN.of upd_same hd, rgD_rep i j⟩
    · exact q.elim
  · rename_i c fs ρ1 W1 e1
    rw [e1] at q
    exact q
  · rename_i n1 n2
    split at q
    · rename_i e1; exact (n1 _ _ _ _ e1).elim
    · rename_i e1; exact (n2 _ _ _ _ e1).elim
    · exact q

/-! ### all, any, sum, min, max, int, abs -/
def bools : List D → Option (List Bool)
  | [] => some []
  | .bl b :: ds => (bools ds).map (b :: ·)
  | _ :: _ => none
def intsD : List D → Option (List Int)
  | [] => some []
  | .int b :: ds => (intsD ds).map (b :: ·)
  | _ :: _ => none
theorem bools_rep {as : List Addr} {G : Hp} : ∀ {ds : List D} {bs : List Bool} {vs : List V}, bools ds = some bs → reps T as G ds vs → vs = bs.map V.bl
  | [], bs, vs, h, r => by cases h; simp only [reps] at r; subst r; rfl
  | d :: ds, bs, vs, h, r => by
    simp only [reps] at r
    obtain ⟨v, vr, rfl, r1, r2⟩ := r
    cases d <;> simp only [bools] at h <;> try cases h
    cases q : bools ds with
    | none => rw [q] at h; cases h
    | some cs =>
      rw [q] at h; cases h
      simp only [rep] at r1
      rw [r1, bools_rep q r2]
      rfl
theorem intsD_rep {as : List Addr} {G : Hp} : ∀ {ds : List D} {bs : List Int} {vs : List V}, intsD ds = some bs → reps T as G ds vs → vs = bs.map V.int
  | [], bs, vs, h, r => by cases h; simp only [reps] at r; subst r; rfl
  | d :: ds, bs, vs, h, r => by
    simp only [reps] at r
    obtain ⟨v, vr, rfl, r1, r2⟩ := r
    cases d <;> simp only [intsD] at h <;> try cases h
    cases q : intsD ds with
    | none => rw [q] at h; cases h
    | some cs =>
      rw [q] at h; cases h
      simp only [rep] at r1
      rw [r1, intsD_rep q r2]
      rfl
def gAll : Sto → List D → Option D
  | _, [.lst xs] => (bools xs).map fun bs => .bl (bs.all id)
  | _, _ => none
def gAny : Sto → List D → Option D
  | _, [.lst xs] => (bools xs).map fun bs => .bl (bs.any id)
  | _, _ => none
theorem popn_all {K : PySem.W.Frag} : POpN T (rAll K) gAll := by
  intro Z ρ W σ as G H xs ds z Q s rx hz k
  unfold gAll at hz
  split at hz
  · obtain ⟨v, rfl, r⟩ := reps1 rx
    simp only [rep] at r
    obtain ⟨p, vs, rfl, h1, h2⟩ := r
    obtain ⟨bs, h3, rfl⟩ := Option.map_eq_some_iff.mp hz
    rw [bools_rep h3 h2] at h1
    exact ⟨p, bs, rfl, .inl (ex_rd s.sub h1), k _ H G (Alloc.refl G H) (by simp only [rep])⟩
  · cases hz
theorem popn_any {K : PySem.W.Frag} : POpN T (rAny K) gAny := by
  intro Z ρ W σ as G H xs ds z Q s rx hz k
  unfold gAny at hz
  split at hz
  · obtain ⟨v, rfl, r⟩ := reps1 rx
    simp only [rep] at r
    obtain ⟨p, vs, rfl, h1, h2⟩ := r
    obtain ⟨bs, h3, rfl⟩ := Option.map_eq_some_iff.mp hz
    rw [bools_rep h3 h2] at h1
    exact ⟨p, bs, rfl, .inl (ex_rd s.sub h1), k _ H G (Alloc.refl G H) (by simp only [rep])⟩
  · cases hz
theorem se_all {p : Pos} (h : Cok X T Wx kk) (hm : X.mg "all" = none) (ha : SA X T Wx [e] fA) (hg : Gl X "all" := by rfl) (he : starEach [e] X.env = (false, eval e X.env) :: starEach [] X.env := by rfl) : SE X T Wx (.Call (.Name "all" p) [e] [] pos) (dBi gAll fA) :=
  se_bi popn_all (cr_all h.calm) hg hm (by decide +kernel) ha (he := he)
theorem se_any {p : Pos} (h : Cok X T Wx kk) (hm : X.mg "any" = none) (ha : SA X T Wx [e] fA) (hg : Gl X "any" := by rfl) (he : starEach [e] X.env = (false, eval e X.env) :: starEach [] X.env := by rfl) : SE X T Wx (.Call (.Name "any" p) [e] [] pos) (dBi gAny fA) :=
  se_bi popn_any (cr_any h.calm) hg hm (by decide +kernel) ha (he := he)
def gSum : Sto → List D → Option D
  | _, [.lst xs] => (intsD xs).map fun ns => .int ns.sum
  | _, _ => none
theorem popn_sum {K : PySem.W.Frag} : POpN T (rSum K) gSum := by
  intro Z ρ W σ as G H xs ds z Q s rx hz k
  unfold gSum at hz
  split at hz
  · obtain ⟨v, rfl, r⟩ := reps1 rx
    simp only [rep] at r
    obtain ⟨p, vs, rfl, h1, h2⟩ := r
    obtain ⟨bs, h3, rfl⟩ := Option.map_eq_some_iff.mp hz
    rw [intsD_rep h3 h2] at h1
    exact ⟨p, bs, rfl, .inl (ex_rd s.sub h1), k _ H G (Alloc.refl G H) (by simp only [rep])⟩
  · cases hz
theorem se_sum {p : Pos} (h : Cok X T Wx kk) (hm : X.mg "sum" = none) (ha : SA X T Wx [e] fA) (hg : Gl X "sum" := by rfl) (he : starEach [e] X.env = (false, eval e X.env) :: starEach [] X.env := by rfl) : SE X T Wx (.Call (.Name "sum" p) [e] [] pos) (dBi gSum fA) :=
  se_bi popn_sum (cr_sum h.calm) hg hm (by decide +kernel) ha (he := he)
def minL : List Int → Int
  | [] => 0
  | [a] => a
  | a :: b :: r => let m := minL (b :: r); if a ≤ m then a else m
theorem minL_mem : ∀ l : List Int, l ≠ [] → minL l ∈ l
  | [], h => (h rfl).elim
  | [a], _ => by simp [minL]
  | a :: b :: r, _ => by
    have := minL_mem (b :: r) (by simp)
    simp only [minL]
    split
    · exact List.mem_cons_self
    · exact List.mem_cons_of_mem _ this
theorem minL_le : ∀ (l : List Int) (y : Int), y ∈ l → minL l ≤ y
  | [], y, h => by cases h
  | [a], y, h => by simp at h; subst h; simp [minL]
  | a :: b :: r, y, h => by
    have ih := minL_le (b :: r)
    simp only [minL]
    rcases List.mem_cons.mp h with e | h
    · subst e; split <;> omega
    · have := ih y h
      split <;> omega
def gMin : Sto → List D → Option D
  | _, [.lst xs] => (intsD xs).bind fun ns => if ns.isEmpty then none else some (.int (minL ns))
  | _, _ => none
theorem popn_min {K : PySem.W.Frag} : POpN T (rMin K) gMin := by
  intro Z ρ W σ as G H xs ds z Q s rx hz k
  unfold gMin at hz
  split at hz
  · obtain ⟨v, rfl, r⟩ := reps1 rx
    simp only [rep] at r
    obtain ⟨p, vs, rfl, h1, h2⟩ := r
    obtain ⟨bs, h3, h4⟩ := Option.bind_eq_some_iff.mp hz
    rw [intsD_rep h3 h2] at h1
    split at h4
    · cases h4
    · rename_i hne
      cases h4
      have hne' : bs ≠ [] := fun e => hne (by rw [e]; rfl)
      refine ⟨p, bs, rfl, .inl (ex_rd s.sub h1), by cases bs with | nil => exact (hne' rfl).elim | cons b r => simp, fun m hm hle => ?_⟩
      have e : m = minL bs := Int.le_antisymm (hle _ (minL_mem bs hne')) (minL_le bs m hm)
      subst e
      exact k _ H G (Alloc.refl G H) (by simp only [rep])
  · cases hz
theorem se_min {p : Pos} (h : Cok X T Wx kk) (hm : X.mg "min" = none) (ha : SA X T Wx [e] fA) (hg : Gl X "min" := by rfl) (he : starEach [e] X.env = (false, eval e X.env) :: starEach [] X.env := by rfl) : SE X T Wx (.Call (.Name "min" p) [e] [] pos) (dBi gMin fA) :=
  se_bi popn_min (cr_min h.calm) hg hm (by decide +kernel) ha (he := he)
def gInt : Sto → List D → Option D
  | _, [.int i] => some (.int i)
  | _, [.bl b] => some (.int (if b then 1 else 0))
  | _, _ => none
theorem popn_int : POpN T (fun xs H Q => (∃ i, xs = [.int i] ∧ Q (.int i) H) ∨ ∃ k, xs = [.bl k] ∧ Q (.int (if k then 1 else 0)) H) gInt := by
  intro Z ρ W σ as G H xs ds z Q s rx hz k
  unfold gInt at hz
  split at hz
  · obtain ⟨v, rfl, r⟩ := reps1 rx
    simp only [rep] at r
    cases hz
    exact .inl ⟨_, by rw [r], k _ H G (Alloc.refl G H) (by simp only [rep])⟩
  · obtain ⟨v, rfl, r⟩ := reps1 rx
    simp only [rep] at r
    cases hz
    exact .inr ⟨_, by rw [r], k _ H G (Alloc.refl G H) (by simp only [rep])⟩
  · cases hz
theorem se_intc {p : Pos} (hm : X.mg "int" = none) (ha : SA X T Wx [e] fA) (hg : Gl X "int" := by rfl) (he : starEach [e] X.env = (false, eval e X.env) :: starEach [] X.env := by rfl) : SE X T Wx (.Call (.Name "int" p) [e] [] pos) (dBi gInt fA) :=
  se_ty popn_int call_int1 hg hm (by decide +kernel) ha (he := he)
def gAbs : Sto → List D → Option D
  | _, [.int i] => some (.int (if i < 0 then -i else i))
  | _, _ => none
theorem popn_abs : POpN T (fun xs H Q => ∃ i, xs = [.int i] ∧ Q (.int (if i < 0 then -i else i)) H) gAbs := by
  intro Z ρ W σ as G H xs ds z Q s rx hz k
  unfold gAbs at hz
  split at hz
  · obtain ⟨v, rfl, r⟩ := reps1 rx
    simp only [rep] at r
    cases hz
    exact ⟨_, by rw [r], k _ H G (Alloc.refl G H) (by simp only [rep])⟩
  · cases hz
theorem se_abs {p : Pos} (hm : X.mg "abs" = none) (ha : SA X T Wx [e] fA) (hg : Gl X "abs" := by rfl) (he : starEach [e] X.env = (false, eval e X.env) :: starEach [] X.env := by rfl) : SE X T Wx (.Call (.Name "abs" p) [e] [] pos) (dBi gAbs fA) :=
  se_bi popn_abs call_abs hg hm (by decide +kernel) ha (he := he)

/-! ### - and ~ -/
def dUn (g : D → Option D) (f : Dn) : Dn := fun ρ W => (f ρ W).bind fun d ρ W => match g d with
  | some z => .val z ρ W
  | none => .stk
def gNeg : D → Option D
  | .int i => some (.int (-i))
  | _ => none
def gInv : D → Option D
  | .int i => some (.int (Builtin.bitNot i))
  | _ => none
theorem rd_un {h : Int → V} {g : D → Option D} (hg : ∀ d z, g d = some z → ∃ i, d = .int i ∧ ∀ as G, rep T as G z (h i)) : ∀ σ H Q, rd T Wx (dUn g fa) σ H Q → tUn (rU h) (rd T Wx fa) σ H Q := fun σ H Q ⟨Z, ρ, W, as, G, s, p⟩ => by
  refine ⟨Z, ρ, W, as, G, s, ?_⟩
  unfold dUn at p
  cases e1 : fa ρ W with
  | val d ρ1 W1 =>
    rw [e1] at p
    simp only [Res.bind_val] at p
    intro v H1 as1 G1 s1 m1 r1
    split at p
    · rename_i z hz
      obtain ⟨i, rfl, hi⟩ := hg _ _ hz
      simp only [rep] at r1
      exact ⟨i, r1, p _ H1 as1 G1 s1 m1 (hi _ _)⟩
    · exact p.elim
  | exc c fs ρ1 W1 => rw [e1] at p; exact p
  | stk => rw [e1] at p; exact p
theorem se_neg (ha : SE X T Wx a fa) : SE X T Wx (.UnaryOp .USub a pos) (dUn gNeg fa) := PE.imp (pe_un un_neg ha) (rd_un fun d z h => by
  cases d <;> simp only [gNeg] at h <;> try cases h
  exact ⟨_, rfl, fun _ _ => by simp only [rep]⟩)
theorem se_inv (ha : SE X T Wx a fa) : SE X T Wx (.UnaryOp .Invert a pos) (dUn gInv fa) := PE.imp (pe_un un_inv ha) (rd_un fun d z h => by
  cases d <;> simp only [gInv] at h <;> try cases h
  exact ⟨_, rfl, fun _ _ => by simp only [rep]⟩)

/-! ### the other operators, by name -/
theorem se_sub (ha : SE X T Wx a fa) (hb : SE X T Wx b fb) : SE X T Wx (.BinOp a .Sub b pos) (dOp2 (fun _ => gSub) fa fb) := se_op op_sub pop_sub.w ha hb
theorem se_fdiv (ha : SE X T Wx a fa) (hb : SE X T Wx b fb) : SE X T Wx (.BinOp a .FloorDiv b pos) (dOp2 (fun _ => gFdiv) fa fb) := se_op op_fdiv pop_fdiv.w ha hb
theorem se_mod (ha : SE X T Wx a fa) (hb : SE X T Wx b fb) : SE X T Wx (.BinOp a .Mod b pos) (dOp2 (fun _ => gMod) fa fb) := se_op op_mod pop_mod.w ha hb
theorem se_pow (ha : SE X T Wx a fa) (hb : SE X T Wx b fb) : SE X T Wx (.BinOp a .Pow b pos) (dOp2 (fun _ => gPow) fa fb) := se_op op_pow pop_pow.w ha hb
theorem se_mul (ha : SE X T Wx a fa) (hb : SE X T Wx b fb) : SE X T Wx (.BinOp a .Mult b pos) (dOp2 (fun _ => gMulI) fa fb) := se_op op_mul pop_mul.w ha hb
theorem se_shl (ha : SE X T Wx a fa) (hb : SE X T Wx b fb) : SE X T Wx (.BinOp a .LShift b pos) (dOp2 (fun _ => gShl) fa fb) := se_op op_shl pop_shl.w ha hb
theorem se_shr (ha : SE X T Wx a fa) (hb : SE X T Wx b fb) : SE X T Wx (.BinOp a .RShift b pos) (dOp2 (fun _ => gShr) fa fb) := se_op op_shr pop_shr.w ha hb
theorem se_band (ha : SE X T Wx a fa) (hb : SE X T Wx b fb) : SE X T Wx (.BinOp a .BitAnd b pos) (dOp2 (fun _ => gAnd) fa fb) := se_op op_and pop_and.w ha hb
theorem se_bor (ha : SE X T Wx a fa) (hb : SE X T Wx b fb) : SE X T Wx (.BinOp a .BitOr b pos) (dOp2 (fun _ => gOr) fa fb) := se_op op_or pop_or.w ha hb
theorem se_bxor (ha : SE X T Wx a fa) (hb : SE X T Wx b fb) : SE X T Wx (.BinOp a .BitXor b pos) (dOp2 (fun _ => gXor) fa fb) := se_op op_xor pop_xor.w ha hb
theorem se_eq (h : Cok X T Wx kk) (ha : SE X T Wx a fa) (hb : SE X T Wx b fb) : SE X T Wx (.Compare a [.Eq] [b] pos) (dOp2 (fun _ => gEq) fa fb) := se_cmp (op_eqD h.room.units) (pop_eq h.K).w ha hb (nomark _)
theorem se_ne (h : Cok X T Wx kk) (ha : SE X T Wx a fa) (hb : SE X T Wx b fb) : SE X T Wx (.Compare a [.NotEq] [b] pos) (dOp2 (fun _ => gNe) fa fb) := se_cmp (op_neD h.room.units) (pop_ne h.K).w ha hb (nomark _)
theorem st_eq (h : Cok X T Wx kk) (ha : SE X T Wx a fa) (hb : SE X T Wx b fb) : ST X T Wx (.Compare a [.Eq] [b] pos) (dOp2 (fun _ => gEq) fa fb) := st_cmp (op_eqD h.room.units) (pop_eq h.K).w gb_eq ha hb (nomark _)
theorem st_ne (h : Cok X T Wx kk) (ha : SE X T Wx a fa) (hb : SE X T Wx b fb) : ST X T Wx (.Compare a [.NotEq] [b] pos) (dOp2 (fun _ => gNe) fa fb) := st_cmp (op_neD h.room.units) (pop_ne h.K).w gb_ne ha hb (nomark _)
theorem se_lt (ha : SE X T Wx a fa) (hb : SE X T Wx b fb) : SE X T Wx (.Compare a [.Lt] [b] pos) (dOp2 (fun _ => gLt) fa fb) := se_cmp op_lt pop_lt.w ha hb (nomark _)
theorem se_le (ha : SE X T Wx a fa) (hb : SE X T Wx b fb) : SE X T Wx (.Compare a [.LtE] [b] pos) (dOp2 (fun _ => gLe) fa fb) := se_cmp op_le pop_le.w ha hb (nomark _)
theorem se_gt (ha : SE X T Wx a fa) (hb : SE X T Wx b fb) : SE X T Wx (.Compare a [.Gt] [b] pos) (dOp2 (fun _ => gGt) fa fb) := se_cmp op_gt pop_gt.w ha hb (nomark _)
theorem se_ge (ha : SE X T Wx a fa) (hb : SE X T Wx b fb) : SE X T Wx (.Compare a [.GtE] [b] pos) (dOp2 (fun _ => gGe) fa fb) := se_cmp op_ge pop_ge.w ha hb (nomark _)
theorem st_lt (ha : SE X T Wx a fa) (hb : SE X T Wx b fb) : ST X T Wx (.Compare a [.Lt] [b] pos) (dOp2 (fun _ => gLt) fa fb) := st_cmp op_lt pop_lt.w gb_I ha hb (nomark _)
theorem st_le (ha : SE X T Wx a fa) (hb : SE X T Wx b fb) : ST X T Wx (.Compare a [.LtE] [b] pos) (dOp2 (fun _ => gLe) fa fb) := st_cmp op_le pop_le.w gb_I ha hb (nomark _)
theorem st_gt (ha : SE X T Wx a fa) (hb : SE X T Wx b fb) : ST X T Wx (.Compare a [.Gt] [b] pos) (dOp2 (fun _ => gGt) fa fb) := st_cmp op_gt pop_gt.w gb_I ha hb (nomark _)
theorem st_ge (ha : SE X T Wx a fa) (hb : SE X T Wx b fb) : ST X T Wx (.Compare a [.GtE] [b] pos) (dOp2 (fun _ => gGe) fa fb) := st_cmp op_ge pop_ge.w gb_I ha hb (nomark _)
theorem se_isN (ha : SE X T Wx a fa) (hb : SE X T Wx b fb) : SE X T Wx (.Compare a [.Is] [b] pos) (dOp2 (fun _ => gIsN) fa fb) := se_cmp op_isN pop_isN.w ha hb (nomark _)
theorem st_isN (ha : SE X T Wx a fa) (hb : SE X T Wx b fb) : ST X T Wx (.Compare a [.Is] [b] pos) (dOp2 (fun _ => gIsN) fa fb) := st_cmp op_isN pop_isN.w gb_isN ha hb (nomark _)
theorem se_notN (ha : SE X T Wx a fa) (hb : SE X T Wx b fb) : SE X T Wx (.Compare a [.IsNot] [b] pos) (dOp2 (fun _ => gNotN) fa fb) := se_cmp op_notN pop_notN.w ha hb (nomark _)
theorem st_notN (ha : SE X T Wx a fa) (hb : SE X T Wx b fb) : ST X T Wx (.Compare a [.IsNot] [b] pos) (dOp2 (fun _ => gNotN) fa fb) := st_cmp op_notN pop_notN.w gb_notN ha hb (nomark _)
theorem se_in (h : Cok X T Wx kk) (ha : SE X T Wx a fa) (hb : SE X T Wx b fb) (hm : behindInMarks .In b = false := by rfl) : SE X T Wx (.Compare a [.In] [b] pos) (dOp2 (fun _ => gInS false) fa fb) := se_cmp op_in_seq (pop_inS h.K false).w ha hb hm
theorem st_in (h : Cok X T Wx kk) (ha : SE X T Wx a fa) (hb : SE X T Wx b fb) (hm : behindInMarks .In b = false := by rfl) : ST X T Wx (.Compare a [.In] [b] pos) (dOp2 (fun _ => gInS false) fa fb) := st_cmp op_in_seq (pop_inS h.K false).w (gb_inS _) ha hb hm
theorem se_notin (h : Cok X T Wx kk) (ha : SE X T Wx a fa) (hb : SE X T Wx b fb) (hm : behindInMarks .NotIn b = false := by rfl) : SE X T Wx (.Compare a [.NotIn] [b] pos) (dOp2 (fun _ => gInS true) fa fb) := se_cmp op_notIn_seq (pop_inS h.K true).w ha hb hm
theorem st_notin (h : Cok X T Wx kk) (ha : SE X T Wx a fa) (hb : SE X T Wx b fb) (hm : behindInMarks .NotIn b = false := by rfl) : ST X T Wx (.Compare a [.NotIn] [b] pos) (dOp2 (fun _ => gInS true) fa fb) := st_cmp op_notIn_seq (pop_inS h.K true).w (gb_inS _) ha hb hm
theorem se_lele (ha : SE X T Wx a fa) (hb : SE X T Wx b fb) (hc : SE X T Wx c fc) (hm : lastMarks [.LtE, .LtE] [b, c] = false := by with_unfolding_all rfl) : SE X T Wx (.Compare a [.LtE, .LtE] [b, c] pos) (dChain (fun _ => gLe) (fun _ => gLe) fa fb fc) := se_chain op_le op_le pop_le.w pop_le.w ha hb hc hm
theorem st_lele (ha : SE X T Wx a fa) (hb : SE X T Wx b fb) (hc : SE X T Wx c fc) (hm : lastMarks [.LtE, .LtE] [b, c] = false := by with_unfolding_all rfl) : ST X T Wx (.Compare a [.LtE, .LtE] [b, c] pos) (dChain (fun _ => gLe) (fun _ => gLe) fa fb fc) := st_chain op_le op_le pop_le.w pop_le.w gb_I ha hb hc hm
theorem se_lelt (ha : SE X T Wx a fa) (hb : SE X T Wx b fb) (hc : SE X T Wx c fc) (hm : lastMarks [.LtE, .Lt] [b, c] = false := by with_unfolding_all rfl) : SE X T Wx (.Compare a [.LtE, .Lt] [b, c] pos) (dChain (fun _ => gLe) (fun _ => gLt) fa fb fc) := se_chain op_le op_lt pop_le.w pop_lt.w ha hb hc hm
theorem st_lelt (ha : SE X T Wx a fa) (hb : SE X T Wx b fb) (hc : SE X T Wx c fc) (hm : lastMarks [.LtE, .Lt] [b, c] = false := by with_unfolding_all rfl) : ST X T Wx (.Compare a [.LtE, .Lt] [b, c] pos) (dChain (fun _ => gLe) (fun _ => gLt) fa fb fc) := st_chain op_le op_lt pop_le.w pop_lt.w gb_I ha hb hc hm
end
end Dl

set_option Elab.async false
set_option linter.all false
set_option maxRecDepth 100000
set_option maxHeartbeats 4000000
namespace Dl
open PySem PySem.Spec PyProof.Rows L2

section
variable {X : Cx} {T : Tb} {Wx : WX} {kk : Nat} {a b c e : Expr} {es rest : List Expr} {fa fb fc : Dn} {fA fr : DnA} {pos : Pos}

/-! ### a name that may hold a list of its own: reading it makes the list a value -/
def dVarF (i : Nat) : Dn := fun ρ W => match ρ[i]? with
  | some (.sh d) => .val d ρ W
  | some (.owl xs) => .val (.lst xs) (ρ.set i (.sh (.lst xs))) W
  | _ => .stk
theorem se_varF (i : Nat) {x : Str} (hN : X.N[i]? = some x := by rfl) (hv : Vis X.env.scope x := by first | exact Or.inl rfl | exact Or.inr (Or.inl rfl) | exact Or.inr (Or.inr rfl)) (hd : (x == ("__debug__" : Str)) = false := by decide)
    (hcd : (x == ("__classdict__" : Str)) = false := by decide) : SE X T Wx (.Name x pos) (dVarF i) := by
  refine PE.imp (pe_var hN hv hd hcd) fun σ H Q ⟨Z, ρ, W, as, G, s, p⟩ => ?_
  unfold dVarF at p
  split at p
  · rename_i d e
    obtain ⟨v, h1, h2⟩ := s.slot i _ e
    exact ⟨v, h1, p v H as G s (Mono.refl _ _) h2⟩
  · rename_i xs e
    obtain ⟨G', s', m⟩ := s.freeze e
    have hil : i < ρ.length := (List.getElem?_eq_some_iff.mp e).1
    obtain ⟨v, h1, h2⟩ := s'.slot i _ (List.getElem?_set_self hil)
    exact ⟨v, h1, p v H as G' s' m h2⟩
  · exact p.elim

/-! ### methods of a list of its own -/
/-- r, as g tells: the answer and the list behind it -/
def PMth (T : Tb) (r : V → List V → Hp → VK → Prop) (g : List D → List D → Option (D × List D)) : Prop := ∀ as G H l xs vs ds us z ys (Q : VK), Ex G H → H l = some (.lst vs) → reps T as G xs vs → reps T as G ds us → g xs ds = some (z, ys) →
  (∀ v vs', rep T as G z v → reps T as G ys vs' → Q v (upd H l (.lst vs'))) → r (.ref l) us H Q
def dMth (i : Nat) (g : List D → List D → Option (D × List D)) (fA : DnA) : Dn := fun ρ W => match ρ[i]? with
  | some (.owl _) => (fA ρ W).bind fun ds ρ W => (match ρ[i]? with
    | some (.owl xs) => (match g xs ds with
      | some (z, ys) => .val z (ρ.set i (.owl ys)) W
      | none => .stk)
    | _ => .stk)
  | _ => .stk
theorem rd_mth (i : Nat) {r : V → List V → Hp → VK → Prop} {g} (hK : T.K = X.K) (hr : PMth T r g) : ∀ σ H Q, rd T Wx (dMth i g fA) σ H Q → tBM X.K "list" r (tVar i) (rdA T Wx fA) σ H Q := fun σ H Q ⟨Z, ρ, W, as, G, s, p⟩ => by
  unfold dMth at p
  split at p
  · rename_i xs0 e0
    obtain ⟨q0, vs0, h1, h2, h3, h4⟩ := s.slot i _ e0
    refine ⟨_, h1, .inl ⟨rfl, vs0, .inl (.inl h2)⟩, Z, ρ, W, as, G, s, ?_⟩
    cases e1 : fA ρ W with
    | val ds ρ1 W1 =>
      rw [e1] at p
      simp only [ResA.bind_val] at p
      intro us H1 as1 G1 s1 m1 r1
      split at p
      · rename_i xs e2
        obtain ⟨q, vs, h5, h6, h7, h8⟩ := s1.slot i _ e2
        rw [h1] at h5
        cases h5
        split at p
        · rename_i z ys hz
          refine hr as1 G1 H1 q0 xs vs ds us z ys Q s1.sub h6 h8 r1 hz fun v vs' rz ry => p v _ as1 G1 (s1.chOw e2 rfl h1 rfl ?_) m1 rz
          exact ⟨q0, vs', rfl, upd_same, h7, ry⟩
        · exact p.elim
      · exact p.elim
    | exc c fs ρ1 W1 => rw [e1] at p; exact p
    | stk => rw [e1] at p; exact p
  · exact p.elim
def gAppend : List D → List D → Option (D × List D)
  | xs, [d] => if xs.length < 16777216 then some (.non, xs ++ [d]) else none
  | _, _ => none
theorem pm_append : PMth T rAppend gAppend := by
  intro as G H l xs vs ds us z ys Q sub hl rx rd hz k
  unfold gAppend at hz
  split at hz
  · split at hz
    · rename_i h
      cases hz
      obtain ⟨v, rfl, r⟩ := reps1 rd
      exact ⟨l, vs, v, rfl, rfl, hl, by rw [rx.length]; exact Nat.lt_of_lt_of_le h (szl (Nat.le_refl _)), k _ _ (by simp only [rep]) (rx.append rd)⟩
    · cases hz
  · cases hz
def gPop : List D → List D → Option (D × List D)
  | xs, [] => (xs[xs.length - 1]?).map fun d => (d, xs.dropLast)
  | _, _ => none
theorem reps.dropLast {as : List Addr} {G : Hp} {ds : List D} {vs : List V} (r : reps T as G ds vs) : reps T as G ds.dropLast vs.dropLast := by
  rw [List.dropLast_eq_take, List.dropLast_eq_take, r.length]
  exact r.take _
theorem reps.erase {as : List Addr} {G : Hp} : ∀ {ds : List D} {vs : List V} (i : Nat), reps T as G ds vs → reps T as G (ds.eraseIdx i) (vs.eraseIdx i)
  | [], vs, i, h => by simp only [reps] at h; subst h; simp only [List.eraseIdx_nil, reps]
  | d :: ds, vs, i, h => by
    simp only [reps] at h
    obtain ⟨v, vr, rfl, h1, h2⟩ := h
    cases i with
    | zero => exact h2
    | succ i => exact reps_cons h1 (reps.erase i h2)
theorem pm_pop : PMth T rPop gPop := by
  intro as G H l xs vs ds us z ys Q sub hl rx rd hz k
  unfold gPop at hz
  split at hz
  · simp only [reps] at rd
    subst rd
    obtain ⟨d, h1, h2⟩ := Option.map_eq_some_iff.mp hz
    cases h2
    obtain ⟨v, h3, h4⟩ := rx.get' h1
    exact ⟨l, vs, v, rfl, rfl, hl, by rw [rx.length]; exact h3, k _ _ h4 rx.dropLast⟩
  · cases hz
theorem seqIdx_of {i : Int} {n : Nat} (h : 0 ≤ i) (h2 : i.toNat < n) : seqIndex? i n = some i.toNat := by
  unfold seqIndex?
  have : ¬ i < 0 := by omega
  simp [this]
  omega
def gPopAt : List D → List D → Option (D × List D)
  | xs, [.int i] => if 0 ≤ i ∧ i < 16777216 then (xs[i.toNat]?).map fun d => (d, xs.eraseIdx i.toNat) else none
  | _, _ => none
theorem pm_popAt : PMth T rPopAt gPopAt := by
  intro as G H l xs vs ds us z ys Q sub hl rx rd hz k
  unfold gPopAt at hz
  split at hz
  · rename_i i
    split at hz
    · rename_i hi
      obtain ⟨v, rfl, r⟩ := reps1 rd
      simp only [rep] at r
      subst r
      obtain ⟨d, h1, h2⟩ := Option.map_eq_some_iff.mp hz
      cases h2
      obtain ⟨v, h3, h4⟩ := rx.get' h1
      have hlt : i.toNat < xs.length := (List.getElem?_eq_some_iff.mp h1).1
      refine ⟨l, vs, i, i.toNat, v, rfl, rfl, hl, by omega, by omega, ?_, h3, k _ _ h4 (rx.erase _)⟩
      rw [rx.length]
      exact seqIdx_of hi.1 hlt
    · cases hz
  · cases hz
section
variable {x : Str} {apos cpos p1 : Pos}
theorem se_append (i : Nat) (h : Cok X T Wx kk) (ha : SA X T Wx [e] fA) (hN : X.N[i]? = some x := by rfl) (hv : Vis X.env.scope x := by first | exact Or.inl rfl | exact Or.inr (Or.inl rfl) | exact Or.inr (Or.inr rfl)) (hd : (x == ("__debug__" : Str)) = false := by decide)
    (hcd : (x == ("__classdict__" : Str)) = false := by decide)
    (hbase : attributeBase (.Name x p1) "append" X.env (eval (.Name x p1) X.env) = eval (.Name x p1) X.env := by rfl)
    (hfew : ((backTo cpos (starEach [e] X.env)).all (fun x => !x.1) && (backToKw cpos (keywordEach [] X.env)).all (fun x => x.1.isSome)
      && decide (([e]).length + ([] : List Keyword).length + (if ([] : List Keyword).isEmpty then 0 else 1) < 30)) = true := by rfl)
    (hline : (apos.endLine == cpos.line) = true := by rfl) (hs : starEach [e] X.env = (false, eval e X.env) :: starEach [] X.env := by rfl) (hplain : (backTo cpos (starEach [] X.env)).any (·.1) = false := by rfl) : SE X T Wx (.Call (.Attribute (.Name x p1) "append" apos) [e] [] cpos) (dMth i gAppend fA) :=
  PE.imp (pe_bm PySem.F.plainAttrs_list PySem.F.slot_list_append PySem.F.type_list_append mt_append (pe_var (i := i) hN hv hd hcd) ha hbase hfew hline hs hplain) (rd_mth i h.K pm_append)
theorem se_popAt (i : Nat) (h : Cok X T Wx kk) (ha : SA X T Wx [e] fA) (hN : X.N[i]? = some x := by rfl) (hv : Vis X.env.scope x := by first | exact Or.inl rfl | exact Or.inr (Or.inl rfl) | exact Or.inr (Or.inr rfl)) (hd : (x == ("__debug__" : Str)) = false := by decide)
    (hcd : (x == ("__classdict__" : Str)) = false := by decide)
    (hbase : attributeBase (.Name x p1) "pop" X.env (eval (.Name x p1) X.env) = eval (.Name x p1) X.env := by rfl)
    (hfew : ((backTo cpos (starEach [e] X.env)).all (fun x => !x.1) && (backToKw cpos (keywordEach [] X.env)).all (fun x => x.1.isSome)
      && decide (([e]).length + ([] : List Keyword).length + (if ([] : List Keyword).isEmpty then 0 else 1) < 30)) = true := by rfl)
    (hline : (apos.endLine == cpos.line) = true := by rfl) (hs : starEach [e] X.env = (false, eval e X.env) :: starEach [] X.env := by rfl) (hplain : (backTo cpos (starEach [] X.env)).any (·.1) = false := by rfl) : SE X T Wx (.Call (.Attribute (.Name x p1) "pop" apos) [e] [] cpos) (dMth i gPopAt fA) :=
  PE.imp (pe_bm PySem.F.plainAttrs_list PySem.F.slot_list_pop PySem.F.type_list_pop mt_popAt (pe_var (i := i) hN hv hd hcd) ha hbase hfew hline hs hplain) (rd_mth i h.K pm_popAt)
end

/-! ### a, b = x, y: each a value or a fresh list -/
inductive PRes where
  | val (sls : List Slot) (ρ : Env) (W : Sto)
  | exc (c : Nat) (fs : List (Str × D)) (ρ : Env) (W : Sto)
  | stk
instance : Inhabited PRes := ⟨.stk⟩
/-- what is owned is not seen, and stands again behind -/
def dHid (f : Dn) : Dn := fun ρ W => match f (ρ.map hide) W with
  | .val d _ W' => .val d ρ W'
  | .exc c fs _ W' => .exc c fs ρ W'
  | .stk => .stk
/-- the parts, from the left: true tells a fresh list -/
def parL : Bool → List (Bool × Dn) → Env → Sto → PRes
  | _, [], ρ, W => .val [] ρ W
  | pd, (k, f) :: r, ρ, W => match (if pd then dHid f else f) ρ W with
    | .val d ρ1 W1 => (match (if k then (match d with | .lst xs => some (Slot.owl xs) | _ => none) else some (.sh d)) with
      | some sl => (match parL (pd || k) r ρ1 W1 with
        | .val sls ρ2 W2 => .val (sl :: sls) ρ2 W2
        | .exc c fs ρ2 W2 => .exc c fs ρ2 W2
        | .stk => .stk)
      | none => .stk)
    | .exc c fs ρ1 W1 => .exc c fs ρ1 W1
    | .stk => .stk
end
def PO (T : Tb) (Z : Bs) (ρ : Env) (σ : L2.St) (as : List Addr) (G H : Hp) (sl : Slot) (v : V) : Prop := match sl with
  | .sh d => rep T as G d v
  | .owl xs => ∃ p us, v = .ref p ∧ Hid Z ρ σ as G p ∧ H p = some (.lst us) ∧ reps T as G xs us
  | _ => False
structure Pend (T : Tb) (Z : Bs) (ρ : Env) (σ : L2.St) (as : List Addr) (G H : Hp) (sls : List Slot) (vs : List V) : Prop where
  len : sls.length = vs.length
  po : ∀ (k : Nat) sl v, sls[k]? = some sl → vs[k]? = some v → PO T Z ρ σ as G H sl v
  dj : ∀ (k l : Nat) sl sl' p, sls[k]? = some sl → sls[l]? = some sl' → sl.isOw = true → sl'.isOw = true → vs[k]? = some (.ref p) → vs[l]? = some (.ref p) → k = l
section
variable {T : Tb} {Z : Bs} {ρ : Env} {W : Sto} {σ : L2.St} {H H' : Hp} {as as' : List Addr} {G G' : Hp} {sls : List Slot} {vs : List V}
theorem Pend.nil : Pend T Z ρ σ as G H [] [] := ⟨rfl, fun k sl v h => by simp at h, fun k l sl sl' p h => by simp at h⟩
theorem Pend.snoc {sl : Slot} {v : V} (q : Pend T Z ρ σ as G H sls vs) (h : PO T Z ρ σ as G H sl v) (hd : sl.isOw = true → ∀ p (k : Nat) sl', v = .ref p → sls[k]? = some sl' → sl'.isOw = true → vs[k]? ≠ some (.ref p)) : Pend T Z ρ σ as G H (sls ++ [sl]) (vs ++ [v]) := by
  have key : ∀ (k : Nat) s', (sls ++ [sl])[k]? = some s' → (sls[k]? = some s' ∧ (vs ++ [v])[k]? = vs[k]?) ∨ (k = sls.length ∧ s' = sl ∧ (vs ++ [v])[k]? = some v) := fun k s' e => by
    by_cases hk : k < sls.length
    · rw [List.getElem?_append_left hk] at e
      exact .inl ⟨e, List.getElem?_append_left (by rw [← q.len]; exact hk)⟩
    · rw [List.getElem?_append_right (by omega)] at e
      have : k - sls.length = 0 := by
        rcases Nat.eq_zero_or_pos (k - sls.length) with hh | hh
        · exact hh
        · rw [List.getElem?_eq_none (by simp; omega)] at e
          cases e
      have hk2 : k = sls.length := by omega
      subst hk2
      rw [Nat.sub_self] at e
      cases e
      refine .inr ⟨rfl, rfl, ?_⟩
      rw [q.len, List.getElem?_append_right (Nat.le_refl _), Nat.sub_self]
      rfl
  refine ⟨by simp [q.len], fun k s' u e1 e2 => ?_, fun k l s1 s2 p e1 e2 o1 o2 v1 v2 => ?_⟩
  · rcases key k s' e1 with ⟨f1, f2⟩ | ⟨_, f1, f2⟩
    · rw [f2] at e2; exact q.po k s' u f1 e2
    · rw [f2] at e2; cases e2; subst f1; exact h
  · rcases key k s1 e1 with ⟨f1, f2⟩ | ⟨k1, f1, f2⟩ <;> rcases key l s2 e2 with ⟨g1, g2⟩ | ⟨l1, g1, g2⟩
    · rw [f2] at v1; rw [g2] at v2; exact q.dj k l s1 s2 p f1 g1 o1 o2 v1 v2
    · rw [f2] at v1; rw [g2] at v2; cases v2; subst g1
      exact (hd o2 p k s1 rfl f1 o1 v1).elim
    · rw [f2] at v1; rw [g2] at v2; cases v1; subst f1
      exact (hd o1 p l s2 rfl g1 o2 v2).elim
    · rw [k1, l1]
theorem PO.keep {sl : Slot} {v : V} (h : PO T Z ρ σ as G H sl v) (m : Mono as G as' G') (k : ∀ p o, Hid Z ρ σ as G p → H p = some o → H' p = some o ∧ Hid Z ρ σ as' G' p) : PO T Z ρ σ as' G' H' sl v := by
  cases sl with
  | sh d => exact rep.mono m _ _ h
  | owl xs =>
    obtain ⟨p, us, e, hid, hp, r⟩ := h
    obtain ⟨h1, h2⟩ := k p _ hid hp
    exact ⟨p, us, e, h2, h1, reps.mono m _ _ r⟩
  | no => exact h.elim
  | owi => exact h.elim
theorem Pend.back (q : Pend T Z ρ σ as G H sls vs) {ρ' : Env} {W' : Sto} {σ' : L2.St} (s : StR T (bs H G as) ρ' W' σ' H' as' G') : Pend T Z ρ σ as' G' H' sls vs :=
  ⟨q.len, fun k sl v e1 e2 => (q.po k sl v e1 e2).keep s.mono0 fun p o hid hp => hid.back hp s, q.dj⟩
/-- no fresh list yet: any further run -/
theorem Pend.pure (q : Pend T Z ρ σ as G H sls vs) (hn : ∀ sl ∈ sls, sl.isOw = false) (m : Mono as G as' G') {ρ' : Env} : Pend T Z ρ' σ as' G' H' sls vs := by
  refine ⟨q.len, fun k sl v e1 e2 => ?_, q.dj⟩
  have h := q.po k sl v e1 e2
  have h2 := hn sl (List.mem_of_getElem? e1)
  cases sl with
  | sh d => exact rep.mono m _ _ h
  | owl xs => cases h2
  | no => exact h.elim
  | owi => exact h.elim
theorem StR.hideAll (r : StR T Z ρ W σ H as G) : StR T (bs H G as) (ρ.map hide) W σ H as G := by
  refine r.enter (fun i sl h => ?_) (by rw [List.length_map]; exact r.ln)
  rw [List.getElem?_map] at h
  cases e : ρ[i]? with
  | none => rw [e] at h; cases h
  | some s0 =>
    rw [e] at h
    cases h
    have hs := r.slot i s0 e
    cases s0 with
    | sh d => exact ⟨rfl, hs⟩
    | no => exact ⟨rfl, trivial⟩
    | owl xs => exact ⟨rfl, trivial⟩
    | owi a c fs => exact ⟨rfl, trivial⟩
/-- a name gets the first of what was made -/
theorem StR.pset (r : StR T Z ρ W σ H as G) {i : Nat} {sl : Slot} {v : V} (q : Pend T Z ρ σ as G H (sl :: sls) (v :: vs)) : StR T Z (ρ.set i sl) W (σ.set i (some v)) H as G ∧ Pend T Z (ρ.set i sl) (σ.set i (some v)) as G H sls vs := by
  have h0 := q.po 0 sl v rfl rfl
  have hid' : ∀ (k : Nat) sl' v', sls[k]? = some sl' → vs[k]? = some v' → PO T Z (ρ.set i sl) (σ.set i (some v)) as G H sl' v' := by
    intro k sl' v' e1 e2
    have h := q.po (k + 1) sl' v' e1 e2
    cases sl' with
    | sh d => exact h
    | owl xs =>
      obtain ⟨p, us, rfl, hid, hp, rr⟩ := h
      refine ⟨p, us, rfl, ⟨hid.g, hid.a, hid.z, fun j o => ?_⟩, hp, rr⟩
      obtain ⟨⟨s', h1, h2⟩, h3⟩ := o
      by_cases hj : i = j
      · subst hj
        rw [List.getElem?_set] at h1 h3
        simp only [if_true] at h1 h3
        split at h1
        · cases h1
          split at h3
          · cases h3
            have := q.dj 0 (k + 1) sl (.owl xs) p rfl e1 h2 rfl rfl e2
            cases this
          · cases h3
        · cases h1
      · rw [List.getElem?_set_ne hj] at h1 h3
        exact hid.o j ⟨⟨s', h1, h2⟩, h3⟩
    | no => exact h.elim
    | owi => exact h.elim
  refine ⟨?_, ⟨Nat.succ.inj q.len, hid', fun k l s1 s2 p e1 e2 o1 o2 v1 v2 => Nat.succ.inj (q.dj (k + 1) (l + 1) s1 s2 p e1 e2 o1 o2 v1 v2)⟩⟩
  cases sl with
  | sh d => exact r.setSh rfl ⟨v, rfl, h0⟩
  | owl xs =>
    obtain ⟨p, us, rfl, hid, hp, rr⟩ := h0
    exact r.setOwl hp hid.g hid.z hid.a hid.o rr
  | no => exact h0.elim
  | owi => exact h0.elim
end
def PostPar (T : Tb) (Wx : WX) (Z : Bs) (σ : L2.St) (as : List Addr) (G : Hp) (pv : List Slot) (ps : List V) (Q : List V → Hp → Prop) : PRes → Prop
  | .val sls ρ W => ∀ vs H' as' G', StR T Z ρ W σ H' as' G' → Mono as G as' G' → Pend T Z ρ σ as' G' H' (pv ++ sls) (ps ++ vs) → Q vs H'
  | .exc c fs ρ W => PostX T Wx Z σ as G c fs ρ W
  | .stk => False
theorem PostPar.mono {T : Tb} {Wx : WX} {Z : Bs} {σ : L2.St} {as as' : List Addr} {G G' : Hp} {pv ps} {Q : List V → Hp → Prop} {r : PRes} (m : Mono as G as' G') (h : PostPar T Wx Z σ as G pv ps Q r) : PostPar T Wx Z σ as' G' pv ps Q r := by
  cases r with
  | val sls ρ W => exact fun vs H' as1 G1 s m1 q => h vs H' as1 G1 s (m.trans m1) q
  | exc c fs ρ W => exact PostX.mono m h
  | stk => exact h
def rdPar (T : Tb) (Wx : WX) (pd : Bool) (cs : List (Bool × Dn)) : TA := fun σ H Q => ∃ Z ρ W as G pv ps, StR T Z ρ W σ H as G ∧ Pend T Z ρ σ as G H pv ps ∧ (pd = false → ∀ sl ∈ pv, sl.isOw = false) ∧ PostPar T Wx Z σ as G pv ps Q (parL pd cs ρ W)
abbrev SPar (X : Cx) (T : Tb) (Wx : WX) (es : List Expr) (cs : List (Bool × Dn)) : Prop := ∀ pd, PA X es (rdPar T Wx pd cs)
section
variable {X : Cx} {T : Tb} {Wx : WX} {kk : Nat} {a b c e : Expr} {es rest : List Expr} {fa fb fc : Dn} {fA fr : DnA} {pos : Pos} {cs : List (Bool × Dn)}
theorem sp_nil : SPar X T Wx [] [] := fun pd => PA.imp pa_nil fun σ H Q ⟨Z, ρ, W, as, G, pv, ps, s, pn, hn, p⟩ => p [] H as G s (Mono.refl _ _) (by simpa using pn)
theorem sp_e (ha : SE X T Wx e fa) (hr : SPar X T Wx es cs) (hs : starEach (e :: es) X.env = (false, eval e X.env) :: starEach es X.env := by rfl) : SPar X T Wx (e :: es) ((false, fa) :: cs) := by
  intro pd
  refine PA.imp (pa_cons ha (hr pd) hs) fun σ H Q ⟨Z, ρ, W, as, G, pv, ps, s, pn, hn, p⟩ => ?_
  simp only [parL, Bool.or_false] at p
  cases pd with
  | false =>
    refine ⟨Z, ρ, W, as, G, s, ?_⟩
    simp only [Bool.false_eq_true, if_false] at p
    cases e1 : fa ρ W with
    | val d ρ1 W1 =>
      rw [e1] at p
      intro v H1 as1 G1 s1 m1 r1
      dsimp only at p
      have pn1 := (pn.pure (hn rfl) m1 (H' := H1) (ρ' := ρ1)).snoc (sl := .sh d) (v := v) r1 (fun z => by cases z)
      refine ⟨Z, ρ1, W1, as1, G1, pv ++ [.sh d], ps ++ [v], s1, pn1, fun _ sl hm => ?_, ?_⟩
      · rcases List.mem_append.mp hm with h | h
        · exact hn rfl sl h
        · simp at h; subst h; rfl
      · cases e2 : parL false cs ρ1 W1 with
        | val sls ρ2 W2 =>
          rw [e2] at p
          exact fun vs H2 as2 G2 s2 m2 q => p (v :: vs) H2 as2 G2 s2 (m1.trans m2) (by simpa using q)
        | exc c fs ρ2 W2 => rw [e2] at p; exact PostX.mono m1 p
        | stk => rw [e2] at p; exact p
    | exc c fs ρ1 W1 => rw [e1] at p; exact p
    | stk => rw [e1] at p; exact p
  | true =>
    refine ⟨_, ρ.map hide, W, as, G, s.hideAll, ?_⟩
    simp only [if_true, dHid] at p
    cases e1 : fa (ρ.map hide) W with
    | val d ρ1 W1 =>
      rw [e1] at p
      intro v H1 as1 G1 s1 m1 r1
      dsimp only at p
      have pn1 := (pn.back s1).snoc (sl := .sh d) (v := v) r1 (fun z => by cases z)
      refine ⟨Z, ρ, W1, as1, G1, pv ++ [.sh d], ps ++ [v], s.back s1, pn1, (fun z => by cases z), ?_⟩
      cases e2 : parL true cs ρ W1 with
      | val sls ρ2 W2 =>
        rw [e2] at p
        exact fun vs H2 as2 G2 s2 m2 q => p (v :: vs) H2 as2 G2 s2 (m1.trans m2) (by simpa using q)
      | exc c fs ρ2 W2 => rw [e2] at p; exact PostX.mono m1 p
      | stk => rw [e2] at p; exact p
    | exc c fs ρ1 W1 =>
      rw [e1] at p
      exact fun dx us H2 as2 G2 s2 m2 r2 h2 => p dx us H2 as2 G2 (s.back s2) m2 r2 h2
    | stk => rw [e1] at p; exact p
theorem sp_l (ha : SEL X T Wx e fa) (hr : SPar X T Wx es cs) (hs : starEach (e :: es) X.env = (false, eval e X.env) :: starEach es X.env := by rfl) : SPar X T Wx (e :: es) ((true, fa) :: cs) := by
  intro pd
  refine PA.imp (pa_cons ha (hr true) hs) fun σ H Q ⟨Z, ρ, W, as, G, pv, ps, s, pn, hn, p⟩ => ?_
  simp only [parL, Bool.or_true] at p
  cases pd with
  | false =>
    refine ⟨Z, ρ, W, as, G, s, ?_⟩
    simp only [Bool.false_eq_true, if_false] at p
    cases e1 : fa ρ W with
    | val d ρ1 W1 =>
      rw [e1] at p
      dsimp only at p
      cases d <;> try exact p.elim
      rename_i xs
      refine ⟨xs, rfl, fun q vs H1 as1 G1 s1 m1 hid hq r1 => ?_⟩
      have pn1 := (pn.pure (hn rfl) m1 (H' := H1) (ρ' := ρ1)).snoc (sl := .owl xs) (v := .ref q) ⟨q, vs, rfl, hid, hq, r1⟩ (fun _ p' k sl' _ e o _ => by
        have := hn rfl sl' (List.mem_of_getElem? e)
        rw [o] at this; cases this)
      refine ⟨Z, ρ1, W1, as1, G1, pv ++ [.owl xs], ps ++ [.ref q], s1, pn1, (fun z => by cases z), ?_⟩
      dsimp only [if_true] at p
      cases e2 : parL true cs ρ1 W1 with
      | val sls ρ2 W2 =>
        rw [e2] at p
        exact fun us H2 as2 G2 s2 m2 q' => p (.ref q :: us) H2 as2 G2 s2 (m1.trans m2) (by simpa using q')
      | exc c fs ρ2 W2 => rw [e2] at p; exact PostX.mono m1 p
      | stk => rw [e2] at p; exact p
    | exc c fs ρ1 W1 => rw [e1] at p; exact p
    | stk => rw [e1] at p; exact p
  | true =>
    refine ⟨_, ρ.map hide, W, as, G, s.hideAll, ?_⟩
    simp only [if_true, dHid] at p
    cases e1 : fa (ρ.map hide) W with
    | val d ρ1 W1 =>
      rw [e1] at p
      dsimp only at p
      cases d <;> try exact p.elim
      rename_i xs
      refine ⟨xs, rfl, fun q vs H1 as1 G1 s1 m1 hid hq r1 => ?_⟩
      have hfree : H q = none := hid.z
      have hid' : Hid Z ρ σ as1 G1 q := ⟨hid.g, hid.a, s.h0 hfree, fun j o => by
        obtain ⟨⟨u, hu⟩, _⟩ := s.owna o
        rw [hfree] at hu; cases hu⟩
      have pn1 := (pn.back s1).snoc (sl := .owl xs) (v := .ref q) ⟨q, vs, rfl, hid', hq, r1⟩ (fun _ p' k sl' ev e o e3 => by
        cases ev
        have hp := pn.po k sl' _ e e3
        cases sl' with
        | sh d => cases o
        | no => cases o
        | owi => exact hp
        | owl ys =>
          obtain ⟨p2, us, e4, _, h5, _⟩ := hp
          cases e4
          rw [hfree] at h5; cases h5)
      refine ⟨Z, ρ, W1, as1, G1, pv ++ [.owl xs], ps ++ [.ref q], s.back s1, pn1, (fun z => by cases z), ?_⟩
      dsimp only [if_true] at p
      cases e2 : parL true cs ρ W1 with
      | val sls ρ2 W2 =>
        rw [e2] at p
        exact fun us H2 as2 G2 s2 m2 q' => p (.ref q :: us) H2 as2 G2 s2 (m1.trans m2) (by simpa using q')
      | exc c fs ρ2 W2 => rw [e2] at p; exact PostX.mono m1 p
      | stk => rw [e2] at p; exact p
    | exc c fs ρ1 W1 =>
      rw [e1] at p
      exact fun dx us H2 as2 G2 s2 m2 r2 h2 => p dx us H2 as2 G2 (s.back s2) m2 r2 h2
    | stk => rw [e1] at p; exact p
def setSl : List Nat → List Slot → Env → Env
  | i :: is, sl :: sls, ρ => setSl is sls (ρ.set i sl)
  | _, _, ρ => ρ
def sPar (is : List Nat) (cs : List (Bool × Dn)) : Ds := fun ρ W => match parL false cs ρ W with
  | .val sls ρ W => if sls.length = is.length then .nx (setSl is sls ρ) W else .stk
  | .exc c fs ρ W => .exc c fs ρ W
  | .stk => .stk
theorem ss_par (i j : Nat) {x y : Str} {px py pt : Pos} {kt k2 pt2} (h : Cok X T Wx kk) (ha : SPar X T Wx [a, b] cs)
    (hi : X.N[i]? = some x := by rfl) (hj : X.N[j]? = some y := by rfl) (hij : i ≠ j := by decide)
    (hx : X.env.scope.names.lookup x = some .local := by rfl) (hy : X.env.scope.names.lookup y = some .local := by rfl)
    (hw : swappedStores [.Tuple [.Name x px, .Name y py] kt pt] (.Tuple [a, b] k2 pt2) X.env = pure (some [x, y]) := by rfl)
    (hs : swapsWithSole [.Tuple [.Name x px, .Name y py] kt pt] (.Tuple [a, b] k2 pt2) pos.line X.env = pure false := by rfl) :
    SS X T Wx (.Assign [.Tuple [.Name x px, .Name y py] kt pt] (.Tuple [a, b] k2 pt2) pos) (sPar [i, j] cs) := by
  refine PS.imp (ps_par h.calm h.nd hi hj hij hx hy (ha false) hw hs) fun D σ H ⟨Z, ρ, W, as, G, s, p⟩ => ?_
  refine ⟨Z, ρ, W, as, G, [], [], s, Pend.nil, (fun _ sl h => by cases h), ?_⟩
  unfold sPar at p
  cases e1 : parL false cs ρ W with
  | val sls ρ1 W1 =>
    rw [e1] at p
    dsimp only at p
    intro vs H1 as1 G1 s1 m1 q
    split at p
    · rename_i hl
      simp only [List.nil_append] at q
      match sls, vs, hl, q with
      | [s1', s2'], vs, _, q =>
        match vs, q.len, q with
        | [v, w], _, q =>
          obtain ⟨sa, qa⟩ := s1.pset (i := i) q
          obtain ⟨sb, _⟩ := sa.pset (i := j) qa
          exact ⟨v, w, rfl, p _ H1 as1 G1 sb m1⟩
    · exact p.elim
  | exc c fs ρ1 W1 => rw [e1] at p; exact p σ
  | stk => rw [e1] at p; exact p
theorem ss_par3 (i j l : Nat) {x y z : Str} {px py pz pt : Pos} {kt k2 pt2} (h : Cok X T Wx kk) (ha : SPar X T Wx [a, b, c] cs)
    (hi : X.N[i]? = some x := by rfl) (hj : X.N[j]? = some y := by rfl) (hl : X.N[l]? = some z := by rfl) (hij : i ≠ j := by decide) (hil : i ≠ l := by decide) (hjl : j ≠ l := by decide)
    (hx : X.env.scope.names.lookup x = some .local := by rfl) (hy : X.env.scope.names.lookup y = some .local := by rfl) (hz : X.env.scope.names.lookup z = some .local := by rfl)
    (hw : swappedStores [.Tuple [.Name x px, .Name y py, .Name z pz] kt pt] (.Tuple [a, b, c] k2 pt2) X.env = pure (some [x, y, z]) := by rfl)
    (hs : swapsWithSole [.Tuple [.Name x px, .Name y py, .Name z pz] kt pt] (.Tuple [a, b, c] k2 pt2) pos.line X.env = pure false := by rfl) :
    SS X T Wx (.Assign [.Tuple [.Name x px, .Name y py, .Name z pz] kt pt] (.Tuple [a, b, c] k2 pt2) pos) (sPar [i, j, l] cs) := by
  refine PS.imp (ps_par3 h.calm h.nd hi hj hl hij hil hjl hx hy hz (ha false) hw hs) fun D σ H ⟨Z, ρ, W, as, G, s, p⟩ => ?_
  refine ⟨Z, ρ, W, as, G, [], [], s, Pend.nil, (fun _ sl h => by cases h), ?_⟩
  unfold sPar at p
  cases e1 : parL false cs ρ W with
  | val sls ρ1 W1 =>
    rw [e1] at p
    dsimp only at p
    intro vs H1 as1 G1 s1 m1 q
    split at p
    · rename_i hl
      simp only [List.nil_append] at q
      match sls, vs, hl, q with
      | [s1', s2', s3'], vs, _, q =>
        match vs, q.len, q with
        | [v, w, u], _, q =>
          obtain ⟨sa, qa⟩ := s1.pset (i := i) q
          obtain ⟨sb, qb⟩ := sa.pset (i := j) qa
          obtain ⟨sc, _⟩ := sb.pset (i := l) qb
          exact ⟨v, w, u, rfl, p _ H1 as1 G1 sc m1⟩
    · exact p.elim
  | exc c fs ρ1 W1 => rw [e1] at p; exact p σ
  | stk => rw [e1] at p; exact p
end
end Dl

set_option Elab.async false
set_option linter.all false
set_option maxRecDepth 100000
set_option maxHeartbeats 4000000

/-! ### at the library's level: t[::-1] of a tuple, sorted of a tuple -/
namespace DlX
open PySem PySem.Spec PyProof.Rows HT
section
variable {prog : Program} {w : World} {A : Around} {E : Value → Shared → Prop} {s : Shared}
theorem adjust_rev (n : Nat) : Builtin.Slice.sliceAdjust none none (-1) (n : Int) = ((n : Int) - 1, -1) := by
  unfold Builtin.Slice.sliceAdjust
  simp
theorem places_rev (n : Nat) : Builtin.Slice.slicePlaces ((n : Int) - 1) (-1) (-1) = n := by
  unfold Builtin.Slice.slicePlaces
  have h1 : ¬ ((-1 : Int) > 0) := by decide
  simp only [h1, if_false]
  by_cases h : (n : Int) - 1 > -1
  · rw [if_pos h]
    have e : ((n : Int) - 1 - -1 - 1) / (- -1) + 1 = (n : Int) := by
      rw [show (- -1 : Int) = 1 by decide, Int.ediv_one]
      omega
    rw [e, Int.toNat_natCast]
  · rw [if_neg h]
    omega
theorem sliceApplied_rev {sl : Addr} {vl vu vk : Value} {n : Nat} {Q : Int × Int × Nat → Shared → Prop} (hs : s.heap.IsSliceOf sl vl vu vk) (pl : IsPart vl none) (pu : IsPart vu none) (pk : IsPart vk (some (-1)))
    (h : Q ((n : Int) - 1, -1, n) s) : wpAny (model prog w) A (Builtin.Slice.sliceApplied (.ref sl) (pure (n : Int))) Q E s := by
  obtain ⟨os, hos, hcs, hds⟩ := id hs
  unfold Builtin.Slice.sliceApplied Builtin.Slice.sliceFields
  refine wpAny_bind (wpAny_bind (wpAny_field hos hds (x := vl) rfl (wpAny_bind (wpAny_field hos hds (x := vu) rfl (wpAny_bind (wpAny_field hos hds (x := vk) rfl (wpAny_pure ?_)))))))
  refine wpAny_bind (slicePart_ pk ?_)
  show wpAny _ _ (if ((-1 : Int) == 0) = true then _ else _) _ _ s
  rw [if_neg (by decide)]
  refine wpAny_bind (slicePart_ pl (wpAny_bind (slicePart_ pu (wpAny_bind (wpAny_pure ?_)))))
  show wpAny _ _ (match Builtin.Slice.sliceAdjust none none (-1) (n : Int) with | (lo, hi) => pure (lo, (-1 : Int), Builtin.Slice.slicePlaces lo hi (-1))) _ _ s
  rw [adjust_rev n]
  show wpAny _ _ (pure ((n : Int) - 1, (-1 : Int), Builtin.Slice.slicePlaces ((n : Int) - 1) (-1) (-1))) _ _ s
  rw [places_rev]
  exact wpAny_pure h
theorem fm_congr {α β : Type} {f g : α → Option β} : ∀ {l : List α}, (∀ x ∈ l, f x = g x) → l.filterMap f = l.filterMap g
  | [], _ => rfl
  | a :: l, h => by
    rw [List.filterMap_cons, List.filterMap_cons, h a List.mem_cons_self, fm_congr fun x hx => h x (List.mem_cons_of_mem _ hx)]
theorem pick_rev (xs : Array Value) : ((List.range xs.size).filterMap fun (m : Nat) => xs[((xs.size : Int) - 1 + (m : Int) * (-1)).toNat]?).toArray = xs.toList.reverse.toArray := by
  have e : (List.range xs.size).filterMap (fun (m : Nat) => xs[((xs.size : Int) - 1 + (m : Int) * (-1)).toNat]?) = ((List.range xs.size).map (fun k => xs.size - 1 - k)).filterMap (xs[·]?) := by
    rw [List.filterMap_map]
    refine fm_congr fun m hm => ?_
    have := List.mem_range.mp hm
    have e2 : ((xs.size : Int) - 1 + (m : Int) * (-1)).toNat = xs.size - 1 - m := by omega
    show xs[((xs.size : Int) - 1 + (m : Int) * (-1)).toNat]? = xs[xs.size - 1 - m]?
    rw [e2]
  rw [e, PySem.W.krv_range, List.filterMap_reverse, PySem.W.krv_all]
theorem getItem_tuple_rev {t sl : Addr} {items : Array Value} {vl vu vk : Value} {Q : Value → Shared → Prop} (ht : IsTup s.heap t items) (hs : s.heap.IsSliceOf sl vl vu vk) (pl : IsPart vl none) (pu : IsPart vu none) (pk : IsPart vk (some (-1)))
    (h : Q (.ref s.heap.objs.size) { s with heap := s.heap.push { cls := .type "tuple", data := .seq items.toList.reverse.toArray } })
    (hsz : items.size ≤ sizeLine) : wpAny (model prog w) A (getItem (.ref t) (.ref sl)) Q E s := by
  have htake : sizeOk (.seq items.toList.reverse.toArray) := by
    show items.toList.reverse.toArray.size ≤ sizeLine
    rw [List.size_toArray, List.length_reverse, Array.length_toList]
    exact hsz
  obtain ⟨os, hos, hcs, hds⟩ := id hs
  have hTs : s.TypeIs (.ref sl) "slice" := ⟨os, hos, hcs⟩
  unfold getItem
  try with_reducible refine wpAny_holding ?_
  first | refine wpAny_bind (wpAny_pure ?_) | skip
  refine wpAny_bind (wpAny_sequenceKey ht.typeIs (by decide) ?_)
  refine wpAny_bind (wpAny_callSpecial?_slot (name := Str.ofString "__getitem__") ht.typeIs PyProof.Rows.slot_tuple_getitem
    (wpAny_call_entry PyProof.Rows.slot_tuple_getitem ht.typeIs entry_tuple_getitem ?_ (args_tuple_getitem _ _)))
  show wpAny _ _ (Builtin.Tuple.tupleItemsOf (.ref t) >>= _) _ _ s
  refine wpAny_bind (tupleItemsOf_ ht ?_)
  refine wpAny_bind (wpAny_typeOf hTs ?_)
  rw [if_pos (by decide)]
  refine wpAny_bind (sliceApplied_rev hs pl pu pk ?_)
  have hno : ¬ ((((items.size : Int) - 1) == 0 && (-1 : Int) == 1 && items.size == items.size) = true) := by
    intro q
    rw [Bool.and_eq_true, Bool.and_eq_true] at q
    have q2 : ((-1 : Int) == 1) = true := q.1.2
    exact absurd q2 (by decide)
  show wpAny _ _ (if (((items.size : Int) - 1) == 0 && (-1 : Int) == 1 && items.size == items.size) = true then _ else _) _ _ s
  rw [if_neg hno, pick_rev]
  first
    | exact wpAny_bind (m := Builtin.Tuple.tupleExact _) (wpAny_newObj_type (wpAny_pure ⟨_, rfl, wpAny_pure h⟩) htake)
    | exact wpAny_bind (m := Builtin.Tuple.tupleExact _) (wpAny_newObj_type (wpAny_bind (wpAny_pure (wpAny_pure ⟨_, rfl, wpAny_pure h⟩))) htake)
    | exact wpAny_bind (wpAny_bind (m := Builtin.Tuple.tupleExact _) (wpAny_newObj_type (wpAny_pure (wpAny_pure ⟨_, rfl, wpAny_pure h⟩)) htake))
    | exact wpAny_bind (wpAny_bind (m := Builtin.Tuple.tupleExact _) (wpAny_newObj_type (wpAny_pure ⟨_, rfl, wpAny_pure h⟩) htake))

theorem collect_tup {l : Addr} {vs : List Value} {Q : List Value → Shared → Prop} (hl : IsTup s.heap l vs.toArray)
    (h : Q vs { s with heap := (s.heap.push (seqObj "list" #[] 0)).update s.heap.objs.size (Obj.mapSeq (· ++ vs.toArray)) }) (hsz : vs.length ≤ sizeLine) :
    wpAny (model prog w) A (collect (.ref l)) Q E s := by
  obtain ⟨o, ho, hc, n, hd⟩ := id hl
  unfold collect
  refine wpAny_bind (wpAny_runValue (codeAny_builtin entry_proto_collect' ?_))
  show wpAny _ _ (do again (.builtin "list.__iadd__" ⟨[← newList [], .ref l], []⟩)) _ _ s
  refine wpAny_bind (wpAny_newList (wpAny_pure ⟨Code.quiet_builtin _ (by decide +kernel), codeAny_builtin entry_list_iadd' ?_⟩))
  show wpAny _ _ (Builtin.List.listExtendWith (.ref s.heap.objs.size) (.ref l) (.ref s.heap.objs.size)) _ _ { s with heap := s.heap.push (seqObj "list" #[] 0) }
  unfold Builtin.List.listExtendWith
  have ho' : (s.heap.push (seqObj "list" #[] 0)).get? l = some o := Heap.get?_push_of_some _ ho
  refine wpAny_bind (wpAny_typeOf (T := "tuple") ⟨o, ho', hc⟩ ?_)
  have ht : (Value.type "tuple" == Value.type "tuple") = true := by rfl
  rw [if_pos (by rw [ht]; simp)]
  refine wpAny_bind (listItems_at ho' hd ?_)
  refine wpAny_bind (listItems_at (xs := #[]) (n := 0) (Heap.get?_push_size _ rfl) rfl ?_)
  rw [if_neg (by simp)]
  refine wpAny_bind (listUpdate_at (xs := #[]) (n := 0) (Heap.get?_push_size _ rfl) rfl ?_ (Nat.zero_le _) (by show (#[] ++ vs.toArray).size ≤ sizeLine + 1; simp only [Array.size_append, List.size_toArray, List.length_nil]; omega))
  refine wpAny_pure ?_
  show wpAny (model prog w) A (do
      let o ← load s.heap.objs.size
      match o.data with
      | .seq xs _ => pure xs.toList
      | _ => unsupported "internal:collect") Q E { s with heap := (s.heap.push (seqObj "list" #[] 0)).update s.heap.objs.size (Obj.mapSeq (· ++ vs.toArray)) }
  refine wpAny_bind (wpAny_load (get?_update_seq (Heap.get?_push_size _ rfl) _) ?_)
  show wpAny _ _ (pure ((#[] : Array Value) ++ vs.toArray).toList) Q E _
  rw [show ((#[] : Array Value) ++ vs.toArray).toList = vs by simp]
  exact wpAny_pure h
theorem sorted_tupI {l : Addr} {vs : List Value} {ns : List Int} {Q : Value → Shared → Prop} (hl : IsTup s.heap l vs.toArray) (hI : IntsAre vs ns) (h64 : vs.length < 64)
    (h : ∀ (out : Array Value) (ns' : List Int), IntsAre out.toList ns' → ns'.Perm ns → ns'.Pairwise (· ≤ ·) → Q (.ref (s.heap.objs.size + 1)) { s with heap := sortedAll s.heap vs out }) :
    wpAny (model prog w) A (call (.builtin "sorted") [.ref l]) Q E s := by
  refine Calls.call_function_entry kind_sorted plain_sorted entry_sorted (args_sorted1 _) ?_
  unfold Builtin.«sorted»
  refine wpAny_bind (m := checkCount "sorted" 1 1 _) (wpAny_pure ?_)
  refine wpAny_bind (collect_tup hl ?_ (by rw [sizeLine_eq]; omega))
  refine wpAny_bind (wpAny_newList ?_ (by rw [sizeLine_eq]; omega))
  have hsz : ((s.heap.push (seqObj "list" #[] 0)).update s.heap.objs.size (Obj.mapSeq (· ++ vs.toArray))).objs.size = s.heap.objs.size + 1 := by
    rw [Heap.size_update, size_push']
  have hoL : (((s.heap.push (seqObj "list" #[] 0)).update s.heap.objs.size (Obj.mapSeq (· ++ vs.toArray))).push (seqObj "list" vs.toArray 0)).get? (s.heap.objs.size + 1) = some (seqObj "list" vs.toArray 0) := by
    rw [← hsz]; exact Heap.get?_push_size _ rfl
  show wpAny _ _ _ _ _ { s with heap := ((s.heap.push (seqObj "list" #[] 0)).update s.heap.objs.size (Obj.mapSeq (· ++ vs.toArray))).push (seqObj "list" vs.toArray 0) }
  rw [hsz]
  refine wpAny_bind (wpAny_holding (wpAny_call_entry slot_list_sort ⟨_, hoL, rfl⟩ entry_list_sort (list_sort_tree hoL hI h64 fun out ns' a1 a2 a3 => ⟨_, rfl, ?_⟩) (args_list_sort _)))
  exact wpAny_pure ⟨_, rfl, h out ns' a1 a2 a3⟩
end
end DlX

namespace L2
open PySem PySem.Spec PyProof.Rows
section
variable {X : Cx}
/-- sorted of a list or a tuple of ints -/
def rSorted2 (K : PySem.W.Frag) : List V → Hp → VK → Prop := fun vs H Q => ∃ (a : Addr) (ns : List Int), vs = [V.ref a] ∧ (SqL K H a (ns.map V.int) ∨ SqT K H a (ns.map V.int)) ∧ ns.length < 64 ∧
  ∀ (ns' : List Int) (p : Addr), ns'.Perm ns → ns'.Pairwise (· ≤ ·) → H p = none → Q (.ref p) (upd H p (.lst (ns'.map V.int)))
theorem cr_sorted2 : CallR X (.builtin "sorted") (rSorted2 X.K) := by
  intro pins s σ H vs us Q I r h
  obtain ⟨a, ns, rfl, hs | hs, h64, q⟩ := h
  · exact cr_sorted pins s σ H _ us Q I r ⟨a, ns, rfl, hs, h64, q⟩
  · obtain ⟨its, rv, hl, _⟩ := I.tuple hs
    rw [Vals.ref1 r]
    have hi := rv.ints
    refine DlX.sorted_tupI hl hi (by rw [hi.length]; exact h64) fun out ns' h1 h2 h3 => ?_
    obtain ⟨ep, he'⟩ := PyProof.Rows.sortedAll_at s.heap its out
    have hlen : (ns'.map V.int).length ≤ sizeLine := by rw [List.length_map, h2.length_eq]; exact small64 h64
    exact ⟨.ref _, upd H (s.heap.objs.size + 1) (.lst (ns'.map V.int)), I.laid (t' := s.toks) (fun _ _ => PyProof.Rows.sortedAll_old) (Nat.le_succ _) ⟨hlen, out.toList, ep, vals_of_ints h1, he'⟩, rfl, q ns' _ h2 h3 (I.hok.fresh (Nat.le_succ _))⟩
theorem flat_ints (ys : List Int) : (ys.map V.int).all flatV = true := by
  rw [List.all_map]
  exact List.all_eq_true.mpr fun _ _ => rfl
/-- t.index(x) of ints, the first place -/
def rTupI (K : PySem.W.Frag) : V → List V → Hp → VK → Prop := fun x xs H Q => ∃ p, ∃ ys : List Int, ∃ z j, x = .ref p ∧ xs = [.int z] ∧ SqT K H p (ys.map V.int) ∧ ys[j]? = some z ∧ (∀ m, m < j → ys[m]? ≠ some z) ∧ Q (.int (j : Nat)) H
theorem mt_tup_indexI : MtR X "tuple.index" (rTupI X.K) := by
  intro pins s σ H x xs v us Q I rx rs h
  obtain ⟨p, ys, z, j, rfl, rfl, hq, hy, hno, q⟩ := h
  cases rx
  obtain ⟨u, rfl, t, rfl⟩ := vals1 rs
  obtain ⟨its, r, pl, hz⟩ := I.tuple hq
  obtain ⟨⟨cls, dd, dt, sl⟩, ho, hc, n, hd⟩ := pl
  simp only at hc hd
  subst hc
  subst hd
  have hl : its.toArray.size = ys.length := by rw [List.size_toArray, ← r.length, List.length_map]
  have hj : j < its.toArray.size := by rw [hl]; exact (List.getElem?_eq_some_iff.mp hy).1
  have at' : ∀ (m : Nat) (hm : m < its.toArray.size), ∃ y t', ys[m]? = some y ∧ its.toArray[m] = Value.int y t' := fun m hm => by
    have hm' : m < ys.length := by rw [← hl]; exact hm
    obtain ⟨w, hw, t', hw'⟩ := r.get (i := m) (x := .int ys[m]) (by simp [hm'])
    refine ⟨ys[m], t', List.getElem?_eq_getElem hm', ?_⟩
    have e := (List.getElem?_eq_some_iff.mp hw).2
    rw [← hw', ← e]
    simp
  refine call_meets PySem.F.slot_tuple_index ⟨_, ho, rfl⟩ PySem.F.entry_tuple_index (PySem.F.args_tuple_index_2 _ _) (TI.tuple_indexAt p its.toArray n dd sl (.int z t) (eqU (.int z)) j hj ?_ ?_)
    ⟨ho, fun w hw => mem_eqAt (x := .int z) ⟨t, rfl⟩ rfl r (flat_ints ys) w (by simpa using hw), ⟨.int (j : Nat), H, I.tok _, ⟨_, rfl⟩, q⟩⟩
  · obtain ⟨y, t', h1, h2⟩ := at' j hj
    rw [hy] at h1
    cases h1
    rw [h2]
    show (z == z) = true
    exact beq_self_eq_true z
  · intro m hm hmj
    obtain ⟨y, t', h1, h2⟩ := at' m hm
    rw [h2]
    show (y == z) = false
    refine beq_eq_false_iff_ne.mpr fun e => hno m hmj ?_
    rw [h1, e]
end
end L2

set_option Elab.async false
set_option linter.all false
set_option maxRecDepth 100000
set_option maxHeartbeats 4000000
namespace L2
open PySem PySem.Spec PyProof.Rows
section
variable {X : Cx}
/-- xs[::-1] of a list or a tuple -/
def tRev2 (K : PySem.W.Frag) (te : TE) : TE := fun σ H Q => te σ H fun x H1 => ∃ a xs, x = .ref a ∧ ((SqL K H1 a xs ∧ ∀ p, H1 p = none → Q (.ref p) (upd H1 p (.lst xs.reverse))) ∨ (SqT K H1 a xs ∧ Dl.NewT H1 Q xs.reverse))
theorem pe_rev2 {e : Expr} {te : TE} {k : Nat} {p1 p2 p3 pos : Pos} (he : PE X e te) : PE X (.Subscript e (.Slice none none (some (.UnaryOp .USub (.Constant (.int 1) k p1) p2)) p3) pos) (tRev2 X.K te) := by
  refine ⟨fun pins s σ H Q I h => ?_⟩
  refine Subscript_ (thn (he.run pins s σ H _ I h) fun v s1 ⟨x, H1, I1, r1, q1⟩ => ?_)
  obtain ⟨a, xs, ex, q1⟩ := q1
  subst ex
  cases r1
  have hst : PO X (some (.UnaryOp .USub (.Constant (.int 1) k p1) p2)) (tPart (tUn (rU fun i => .int (-i)) (tC (.int 1)))) := po_some (pe_un un_neg pe_int)
  refine wpAny_Slice (thn (po_none.run pins s1 σ H1 (fun o H2 => o = none ∧ H2 = H1) I1 ⟨rfl, rfl⟩) fun vl s2 ⟨l, H2, I2, pl, el, e2⟩ => ?_)
  subst el e2
  refine thn (po_none.run pins s2 σ H2 (fun o H3 => o = none ∧ H3 = H2) I2 ⟨rfl, rfl⟩) fun vu s3 ⟨u, H3, I3, pu, eu, e3⟩ => ?_
  subst eu e3
  refine thn (hst.run pins s3 σ H3 (fun o H4 => o = some (-1) ∧ H4 = H3) I3 ⟨1, rfl, -1, rfl, rfl, rfl⟩) fun vs s4 ⟨o, H4, I4, ps, eo, e4⟩ => ?_
  subst eo e4
  have I5 : Inv X pins σ H4 { s4 with heap := s4.heap.push { cls := .type "slice", data := .fields #[vl, vu, vs] } } := I4.kept (t' := s4.toks) fun b ob q => Heap.get?_push_of_some _ q
  show wpAny (model X.prog X.w) X.A (subscriptTail e (.Slice none none (some (.UnaryOp .USub (.Constant (.int 1) k p1) p2)) p3) (.ref a) (.ref s4.heap.objs.size)) (EP X pins σ Q) X.xe { s4 with heap := s4.heap.push { cls := .type "slice", data := .fields #[vl, vu, vs] } }
  rcases q1 with ⟨hx, q⟩ | ⟨hx, q⟩
  · obtain ⟨its, r, ht, hz⟩ := I5.list hx
    have hlen := r.length
    refine tail_any (ops := [.ref a, .ref s4.heap.objs.size]) ht.isList.typeIs (PySem.slot_list_getitem.lookup) ?_ (by with_unfolding_all rfl)
    refine wpAny_getItem_list_slice ht.isList (Heap.IsSliceOf.new _ vl vu vs) pl pu ps (by decide) ?_ (by rw [List.size_toArray]; omega)
    rw [PySem.W.krv_pick]
    refine ⟨.ref _, _, I5.laid (t' := s4.toks) (o := .lst xs.reverse) (fun b ob q => Heap.get?_push_of_some _ q) (Nat.le_refl _) ?_, rfl, q _ (I5.hok.fresh (Nat.le_refl _))⟩
    exact ⟨by rw [List.length_reverse]; exact hz, _, 0, r.reverse, Heap.get?_push_size _ rfl⟩
  · obtain ⟨its, r, ht, hz⟩ := I5.tuple hx
    have hlen : its.toArray.size = xs.length := by rw [List.size_toArray]; exact r.length.symm
    refine tail_any (ops := [.ref a, .ref s4.heap.objs.size]) ht.typeIs (PyProof.Rows.slot_tuple_getitem.lookup) ?_ (by with_unfolding_all rfl)
    refine DlX.getItem_tuple_rev ht (Heap.IsSliceOf.new _ vl vu vs) pl pu ps ?_ (by rw [hlen]; exact hz)
    exact Dl.laidT I5 (by rw [List.length_reverse]; exact hz) r.reverse q
def tLenSetT (K : PySem.W.Frag) (ta : TE) : TE := fun σ H Q => ta σ H fun x H1 => ∃ (l : Addr) (ns : List Int), x = V.ref l ∧ SqT K H1 l (ns.map V.int) ∧ ns.length < 4000 ∧ ∀ ms : List Int, ms.Nodup → (∀ k, k ∈ ms ↔ k ∈ ns) → Q (.int ms.length) H1
theorem pe_lenSetT {a : Expr} {ta : TE} {p p2 q pos : Pos} (hc : X.calm = true) (hg : Gl X "len") (hm : X.mg "len" = none) (hg2 : Gl X "set") (hm2 : X.mg "set" = none) (ha : PE X a ta)
    (na : starEach [a] X.env = (false, eval a X.env) :: starEach [] X.env := by rfl) : PE X (.Call (.Name "len" p) [.Call (.Name "set" p2) [a] [] q] [] pos) (tLenSetT X.K ta) := by
  refine ⟨fun pins s σ H Q I h => ?_⟩
  refine Call_ (ld_blt I hg hm PySem.boot_len ?_)
  refine PyProof.Rows.callWith_builtin1 (PyProof.Rows.args_cons ?_ rfl) rfl rfl
  refine Call_ (ld_blt I hg2 hm2 PyProof.Rows.boot_set ?_)
  refine PyProof.Rows.callWith_type1 (PyProof.Rows.args_cons (thn (ha.run pins s σ H _ I h) fun v s1 ⟨x, H1, I1, r1, q1⟩ => PyProof.Rows.args_nil ?_) na) na rfl
  obtain ⟨l, ns, rfl, hq, h1, q1⟩ := q1
  cases r1
  obtain ⟨its, r, pl, hz⟩ := I1.tuple hq
  refine call_set_tupI ns (I1.ok.hd hc) (show s1.heap.IsTuple l its.toArray from pl) (by simpa using r.ints) (by unfold scanBound; omega) fun h' tk c hS hcn hk => ?_
  refine PyProof.Rows.args_nil ?_
  obtain ⟨o, es, ep, t, ho, hex, hd, g, nd, hm2, hb, hf, hn, _⟩ := hS
  have I2 : Inv X pins σ H1 { s1 with heap := h', toks := tk } := I1.kept hk
  have hl : (es.toList.map keyOf).length = es.size := by simp
  refine call_len_set ho hex hd hf (by rw [hn] <;> omega) ⟨.int ((es.toList.map keyOf).length : Nat), H1, I2.tok _, ⟨_, by rw [hl]⟩, q1 _ nd fun k => ?_⟩
  rw [← hm2 k, decide_eq_true_iff]
end
end L2

namespace Dl
open PySem PySem.Spec PyProof.Rows L2
section
variable {X : Cx} {T : Tb} {Wx : WX} {kk : Nat} {a b c e : Expr} {es rest : List Expr} {fa fb fc : Dn} {fA fr : DnA} {pos : Pos}

/-! ### slices -/
def cutD (xs : List D) (lo hi : Option Int) : List D := (xs.drop (HT.sIx xs.length 0 lo)).take (HT.sIx xs.length xs.length hi - HT.sIx xs.length 0 lo)
def oI : D → Option (Option Int)
  | .non => some none
  | .int i => some (some i)
  | _ => none
def gSl : D → Option Int → Option Int → Option D
  | .tup xs, lo, hi => some (.tup (cutD xs lo hi))
  | .lst xs, lo, hi => some (.lst (cutD xs lo hi))
  | _, _, _ => none
def dPart (f : Dn) : Dn := fun ρ W => (f ρ W).bind fun d ρ W => match d with
  | .int i => .val (.int i) ρ W
  | _ => .stk
def rdO (T : Tb) (Wx : WX) (f : Dn) : TO := fun σ H Q => ∃ Z ρ W as G, StR T Z ρ W σ H as G ∧ (match f ρ W with
  | .val d ρ1 W1 => ∃ o, oI d = some o ∧ ∀ H1 as1 G1, StR T Z ρ1 W1 σ H1 as1 G1 → Mono as G as1 G1 → Q o H1
  | .exc c fs ρ1 W1 => PostX T Wx Z σ as G c fs ρ1 W1
  | .stk => False)
theorem PO.imp {e : Option Expr} {t u : TO} (h : L2.PO X e t) (k : ∀ σ H Q, u σ H Q → t σ H Q) : L2.PO X e u := ⟨fun pins s σ H Q I q => h.run pins s σ H Q I (k σ H Q q)⟩
abbrev SO (X : Cx) (T : Tb) (Wx : WX) (e : Option Expr) (f : Dn) : Prop := L2.PO X e (rdO T Wx f)
theorem so_none : SO X T Wx none (dC .non) := PO.imp po_none fun σ H Q ⟨Z, ρ, W, as, G, s, o, e, q⟩ => by
  cases e
  exact q H as G s (Mono.refl _ _)
theorem so_some (ha : SE X T Wx e fa) : SO X T Wx (some e) (dPart fa) := PO.imp (po_some ha) fun σ H Q ⟨Z, ρ, W, as, G, s, q⟩ => ⟨Z, ρ, W, as, G, s, by
  unfold dPart at q
  cases e1 : fa ρ W with
  | val d ρ1 W1 =>
    rw [e1] at q
    intro v H1 as1 G1 s1 m1 r1
    cases d <;> first | exact q.elim | skip
    obtain ⟨o, e2, q⟩ := q
    cases e2
    simp only [rep] at r1
    exact ⟨_, r1, q H1 as1 G1 s1 m1⟩
  | exc c fs ρ1 W1 => rw [e1] at q; exact q
  | stk => rw [e1] at q; exact q⟩
def dSl (f l h : Dn) : Dn := fun ρ W => (f ρ W).bind fun d ρ W => (l ρ W).bind fun dl ρ W => match oI dl with
  | none => .stk
  | some lo => (h ρ W).bind fun dh ρ W => match oI dh with
    | none => .stk
    | some hi => match gSl d lo hi with
      | some z => .val z ρ W
      | none => .stk
theorem reps.cut {as : List Addr} {G : Hp} {ds : List D} {vs : List V} (r : reps T as G ds vs) (lo hi : Option Int) : reps T as G (cutD ds lo hi) (cutV vs lo hi) := by
  unfold cutD cutV
  rw [r.length]
  exact (r.drop _).take _
theorem cutD_whole {ds : List D} {lo hi : Option Int} (h : HT.sIx ds.length 0 lo = 0 ∧ HT.sIx ds.length ds.length hi = ds.length) : cutD ds lo hi = ds := by
  unfold cutD
  rw [h.1, h.2, List.drop_zero, Nat.sub_zero, List.take_length]
variable {lo hi : Option Expr} {fl fh : Dn}
theorem se_slice {p2 : Pos} (h : Cok X T Wx kk) (ha : SE X T Wx a fa) (hl : SO X T Wx lo fl) (hh : SO X T Wx hi fh) : SE X T Wx (.Subscript a (.Slice lo hi none p2) pos) (dSl fa fl fh) := by
  refine PE.imp (pe_slice (SlR.or sl_tupF sl_list) ha hl hh) fun σ H Q ⟨Z, ρ, W, as, G, s, q⟩ => ⟨Z, ρ, W, as, G, s, ?_⟩
  unfold dSl at q
  cases e1 : fa ρ W with
  | exc c fs ρ1 W1 => rw [e1] at q; exact q
  | stk => rw [e1] at q; exact q
  | val d ρ1 W1 =>
    rw [e1] at q
    simp only [Res.bind_val] at q
    intro v H1 as1 G1 s1 m1 r1
    refine ⟨Z, ρ1, W1, as1, G1, s1, ?_⟩
    cases e2 : fl ρ1 W1 with
    | exc c fs ρ1 W1 => rw [e2] at q; exact PostX.mono m1 q
    | stk => rw [e2] at q; exact q
    | val dl ρ2 W2 =>
      rw [e2] at q
      simp only [Res.bind_val] at q
      cases hol : oI dl with
      | none => rw [hol] at q; exact q.elim
      | some ol =>
      rw [hol] at q
      dsimp only at q
      refine ⟨ol, hol, fun H2 as2 G2 s2 m2 => ⟨Z, ρ2, W2, as2, G2, s2, ?_⟩⟩
      cases e3 : fh ρ2 W2 with
      | exc c fs ρ3 W3 => rw [e3] at q; exact PostX.mono (m1.trans m2) q
      | stk => rw [e3] at q; exact q
      | val dh ρ3 W3 =>
        rw [e3] at q
        simp only [Res.bind_val] at q
        cases e4 : oI dh with
        | none => rw [e4] at q; exact q.elim
        | some oh =>
          rw [e4] at q
          refine ⟨oh, e4, fun H3 as3 G3 s3 m3 => ?_⟩
          have m13 := m2.trans m3
          have r3 := rep.mono m13 _ _ r1
          cases d <;> simp only [gSl] at q <;> first | exact q.elim | skip
          · rename_i xs
            have r30 := r3
            simp only [rep] at r3
            obtain ⟨p, vs, rfl, h1, h2⟩ := r3
            rw [h.K] at h1
            have l := h2.length
            refine .inl ⟨p, vs, rfl, ex_ns s3.sub h1, fun hw => ?_, fun hw p' o hp hd => ?_⟩
            · rw [l] at hw
              rw [cutD_whole hw] at q
              exact q _ H3 as3 G3 s3 (m1.trans m13) r30
            · refine q _ _ as3 _ (s3.alloc (Alloc.new s3.sub hp)) ((m1.trans m13).trans (Mono.of (Ex.upd (s3.sub.free hp)))) ?_
              simp only [rep]
              exact ⟨p', _, rfl, TupN.of upd_same hd, reps.mono (Mono.of (Ex.upd (s3.sub.free hp))) _ _ (h2.cut _ _)⟩
          · rename_i xs
            simp only [rep] at r3
            obtain ⟨p, vs, rfl, h1, h2⟩ := r3
            refine .inr ⟨p, vs, rfl, .inl (ex_rd s3.sub h1), fun p' hp => ?_⟩
            refine q _ _ as3 _ (s3.alloc (Alloc.new s3.sub hp)) ((m1.trans m13).trans (Mono.of (Ex.upd (s3.sub.free hp)))) ?_
            simp only [rep]
            exact ⟨p', _, rfl, Rd.of upd_same, reps.mono (Mono.of (Ex.upd (s3.sub.free hp))) _ _ (h2.cut _ _)⟩

/-! ### xs[::-1] -/
def gRev : Sto → List D → Option D
  | _, [.tup xs] => some (.tup xs.reverse)
  | _, [.lst xs] => some (.lst xs.reverse)
  | _, _ => none
theorem reps.reverse {as : List Addr} {G : Hp} : ∀ {ds : List D} {vs : List V}, reps T as G ds vs → reps T as G ds.reverse vs.reverse
  | [], vs, h => by simp only [reps] at h; subst h; simp only [List.reverse_nil, reps]
  | d :: ds, vs, h => by
    simp only [reps] at h
    obtain ⟨v, vr, rfl, h1, h2⟩ := h
    rw [List.reverse_cons, List.reverse_cons]
    exact (reps.reverse h2).append (reps_cons h1 reps_nil)
theorem popn_rev (hK : T.K = X.K) : POpN T (fun xs H Q => ∃ x, xs = [x] ∧ ∃ a xs, x = .ref a ∧ ((SqL X.K H a xs ∧ ∀ p, H p = none → Q (.ref p) (upd H p (.lst xs.reverse))) ∨ (SqT X.K H a xs ∧ NewT H Q xs.reverse))) gRev := by
  intro Z ρ W σ as G H xs ds z Q s rx hz k
  unfold gRev at hz
  split at hz
  · cases hz
    obtain ⟨v, rfl, r⟩ := reps1 rx
    simp only [rep] at r
    obtain ⟨p, vs, rfl, h1, h2⟩ := r
    rw [hK] at h1
    refine ⟨_, rfl, p, vs, rfl, .inr ⟨ex_ns s.sub h1, fun l o hl hd => k _ _ _ (Alloc.new s.sub hl) ?_⟩⟩
    simp only [rep]
    exact ⟨l, _, rfl, TupN.of upd_same hd, reps.mono (Mono.of (Ex.upd (s.sub.free hl))) _ _ h2.reverse⟩
  · cases hz
    obtain ⟨v, rfl, r⟩ := reps1 rx
    simp only [rep] at r
    obtain ⟨p, vs, rfl, h1, h2⟩ := r
    refine ⟨_, rfl, p, vs, rfl, .inl ⟨.inl (ex_rd s.sub h1), fun l hl => k _ _ _ (Alloc.new s.sub hl) ?_⟩⟩
    simp only [rep]
    exact ⟨l, _, rfl, Rd.of upd_same, reps.mono (Mono.of (Ex.upd (s.sub.free hl))) _ _ h2.reverse⟩
  · cases hz
/-- one thing, by an answer -/
def dG1 (g : Sto → List D → Option D) (f : Dn) : Dn := fun ρ W => (f ρ W).bind fun d ρ W => match g W [d] with
  | some z => .val z ρ W
  | none => .stk
theorem rd_g1 {r : List V → Hp → VK → Prop} {g} (hr : POpN T r g) : ∀ σ H Q, rd T Wx (dG1 g fa) σ H Q → rd T Wx fa σ H (fun v H1 => r [v] H1 Q) := fun σ H Q h => by
  obtain ⟨Z, ρ, W, as, G, s, p⟩ := h
  refine ⟨Z, ρ, W, as, G, s, ?_⟩
  unfold dG1 at p
  cases e1 : fa ρ W with
  | val d ρ1 W1 =>
    rw [e1] at p
    simp only [Res.bind_val] at p
    intro v H1 as1 G1 s1 m1 r1
    split at p
    · rename_i z hz
      exact hr Z ρ1 W1 σ as1 G1 H1 [v] [d] z Q s1 (reps_cons r1 reps_nil) hz fun v' H' G' al rz => p v' H' as1 G' (s1.alloc al) (m1.trans (Mono.of al.g)) rz
    · exact p.elim
  | exc c fs ρ1 W1 => rw [e1] at p; exact p
  | stk => rw [e1] at p; exact p
theorem rd_mono {σ : L2.St} {H : Hp} {Q Q' : VK} (h : rd T Wx fa σ H Q) (k : ∀ v H, Q v H → Q' v H) : rd T Wx fa σ H Q' := by
  obtain ⟨Z, ρ, W, as, G, s, p⟩ := h
  refine ⟨Z, ρ, W, as, G, s, ?_⟩
  cases e1 : fa ρ W with
  | val d ρ1 W1 => rw [e1] at p; exact fun v H1 as1 G1 s1 m1 r1 => k _ _ (p v H1 as1 G1 s1 m1 r1)
  | exc c fs ρ1 W1 => rw [e1] at p; exact p
  | stk => rw [e1] at p; exact p
theorem se_rev {k : Nat} {p1 p2 p3 : Pos} (h : Cok X T Wx kk) (ha : SE X T Wx a fa) : SE X T Wx (.Subscript a (.Slice none none (some (.UnaryOp .USub (.Constant (.int 1) k p1) p2)) p3) pos) (dG1 gRev fa) := by
  refine PE.imp (pe_rev2 ha) fun σ H Q q => rd_mono (rd_g1 (popn_rev h.K) σ H Q q) fun v H1 ⟨x, e, q⟩ => ?_
  cases e
  exact q

/-! ### sorted, of ints -/
def ins1 (x : Int) : List Int → List Int
  | [] => [x]
  | y :: ys => if x ≤ y then x :: y :: ys else y :: ins1 x ys
def isort : List Int → List Int
  | [] => []
  | x :: xs => ins1 x (isort xs)
theorem ins1_perm (x : Int) : ∀ ys : List Int, (ins1 x ys).Perm (x :: ys)
  | [] => .refl _
  | y :: ys => by
    unfold ins1
    split
    · exact .refl _
    · exact ((ins1_perm x ys).cons y).trans (.swap x y ys)
theorem isort_perm : ∀ xs : List Int, (isort xs).Perm xs
  | [] => .refl _
  | x :: xs => (ins1_perm x _).trans ((isort_perm xs).cons x)
theorem ins1_sorted (x : Int) : ∀ ys : List Int, ys.Pairwise (· ≤ ·) → (ins1 x ys).Pairwise (· ≤ ·)
  | [], _ => by unfold ins1; exact List.pairwise_singleton ..
  | y :: ys, h => by
    unfold ins1
    have h1 := List.pairwise_cons.mp h
    split
    · rename_i hx
      exact List.pairwise_cons.mpr ⟨fun z hz => by
        rcases List.mem_cons.mp hz with rfl | hz
        · exact hx
        · exact Int.le_trans hx (h1.1 z hz), h⟩
    · rename_i hx
      refine List.pairwise_cons.mpr ⟨fun z hz => ?_, ins1_sorted x ys h1.2⟩
      rcases List.mem_cons.mp ((ins1_perm x ys).mem_iff.mp hz) with rfl | hz
      · omega
      · exact h1.1 z hz
theorem isort_sorted : ∀ xs : List Int, (isort xs).Pairwise (· ≤ ·)
  | [] => .nil
  | x :: xs => ins1_sorted x _ (isort_sorted xs)
theorem isort_of {ns ms : List Int} (p : ms.Perm ns) (h : ms.Pairwise (· ≤ ·)) : ms = isort ns :=
  List.Perm.eq_of_pairwise (fun a b _ _ h1 h2 => Int.le_antisymm h1 h2) h (isort_sorted ns) (p.trans (isort_perm ns).symm)
theorem reps_ints {as : List Addr} {G : Hp} : ∀ ns : List Int, reps T as G (ns.map .int) (ns.map V.int)
  | [] => reps_nil
  | n :: ns => reps_cons (by simp only [rep]) (reps_ints ns)
def gSorted : Sto → List D → Option D
  | _, [.lst xs] => (intsD xs).bind fun ns => if ns.length < 64 then some (.lst ((isort ns).map .int)) else none
  | _, [.tup xs] => (intsD xs).bind fun ns => if ns.length < 64 then some (.lst ((isort ns).map .int)) else none
  | _, _ => none
theorem sorted_aux {H G : Hp} {as : List Addr} {a : Addr} {ns : List Int} {Z ρ W} {σ : L2.St} {Q : VK} (s : StR T Z ρ W σ H as G) (hq : SqL X.K H a (ns.map V.int) ∨ SqT X.K H a (ns.map V.int)) (h64 : ns.length < 64)
    (k : ∀ v H' G', Alloc G H G' H' → rep T as G' (.lst ((isort ns).map .int)) v → Q v H') : rSorted2 X.K [.ref a] H Q := by
  refine ⟨a, ns, rfl, hq, h64, fun ns' p hp hs hn => k _ _ _ (Alloc.new s.sub hn) ?_⟩
  rw [← isort_of hp hs]
  simp only [rep]
  exact ⟨p, _, rfl, Rd.of upd_same, reps_ints ns'⟩
theorem popn_sorted (hK : T.K = X.K) : POpN T (rSorted2 X.K) gSorted := by
  intro Z ρ W σ as G H xs ds z Q s rx hz k
  unfold gSorted at hz
  split at hz
  · obtain ⟨v, rfl, r⟩ := reps1 rx
    simp only [rep] at r
    obtain ⟨p, vs, rfl, h1, h2⟩ := r
    obtain ⟨ns, h3, h4⟩ := Option.bind_eq_some_iff.mp hz
    split at h4
    · rename_i h64
      cases h4
      rw [intsD_rep h3 h2] at h1
      exact sorted_aux s (.inl (.inl (ex_rd s.sub h1))) h64 k
    · cases h4
  · obtain ⟨v, rfl, r⟩ := reps1 rx
    simp only [rep] at r
    obtain ⟨p, vs, rfl, h1, h2⟩ := r
    obtain ⟨ns, h3, h4⟩ := Option.bind_eq_some_iff.mp hz
    split at h4
    · rename_i h64
      cases h4
      rw [intsD_rep h3 h2, hK] at h1
      exact sorted_aux s (.inr (ex_ns s.sub h1)) h64 k
    · cases h4
  · cases hz
theorem se_sorted {p : Pos} (h : Cok X T Wx kk) (hm : X.mg "sorted" = none) (ha : SA X T Wx [e] fA) (hg : Gl X "sorted" := by rfl) (he : starEach [e] X.env = (false, eval e X.env) :: starEach [] X.env := by rfl) : SE X T Wx (.Call (.Name "sorted" p) [e] [] pos) (dBi gSorted fA) :=
  se_bi (popn_sorted h.K) cr_sorted2 hg hm (by decide +kernel) ha (he := he)

/-! ### t.index(x), of ints -/
def firstI (z : Int) : List Int → Option Nat
  | [] => none
  | y :: ys => if y = z then some 0 else (firstI z ys).map (· + 1)
theorem firstI_of {z : Int} : ∀ {ys : List Int} {j : Nat}, firstI z ys = some j → ys[j]? = some z ∧ ∀ m, m < j → ys[m]? ≠ some z
  | [], j, h => by cases h
  | y :: ys, j, h => by
    unfold firstI at h
    split at h
    · rename_i e
      cases h
      exact ⟨by rw [← e]; rfl, fun m hm => absurd hm (Nat.not_lt_zero _)⟩
    · rename_i e
      obtain ⟨i, h1, rfl⟩ := Option.map_eq_some_iff.mp h
      obtain ⟨h2, h3⟩ := firstI_of h1
      refine ⟨by simpa using h2, fun m hm => ?_⟩
      cases m with
      | zero => simpa using e
      | succ m => simpa using h3 m (by omega)
def dIndex (f : Dn) (fA : DnA) : Dn := fun ρ W => (f ρ W).bind fun d ρ W => match d with
  | .tup xs => (fA ρ W).bind fun ds ρ W => (match ds with
    | [.int z] => (match (intsD xs).bind (firstI z) with
      | some j => .val (.int j) ρ W
      | none => .stk)
    | _ => .stk)
  | _ => .stk
theorem se_index {apos cpos : Pos} (h : Cok X T Wx kk) (ho : SE X T Wx a fa) (ha : SA X T Wx [e] fA)
    (hbase : attributeBase a "index" X.env (eval a X.env) = eval a X.env := by rfl)
    (hfew : ((backTo cpos (starEach [e] X.env)).all (fun x => !x.1) && (backToKw cpos (keywordEach [] X.env)).all (fun x => x.1.isSome)
      && decide (([e]).length + ([] : List Keyword).length + (if ([] : List Keyword).isEmpty then 0 else 1) < 30)) = true := by rfl)
    (hline : (apos.endLine == cpos.line) = true := by rfl) (hs : starEach [e] X.env = (false, eval e X.env) :: starEach [] X.env := by rfl) (hplain : (backTo cpos (starEach [] X.env)).any (·.1) = false := by rfl) :
    SE X T Wx (.Call (.Attribute a "index" apos) [e] [] cpos) (dIndex fa fA) := by
  refine PE.imp (pe_bmT PySem.F.slot_tuple_index PySem.F.type_tuple_index mt_tup_indexI ho ha hbase hfew hline hs hplain) fun σ H Q ⟨Z, ρ, W, as, G, s, p⟩ => ⟨Z, ρ, W, as, G, s, ?_⟩
  unfold dIndex at p
  cases e1 : fa ρ W with
  | exc c fs ρ1 W1 => rw [e1] at p; exact p
  | stk => rw [e1] at p; exact p
  | val d ρ1 W1 =>
    rw [e1] at p
    simp only [Res.bind_val] at p
    intro v H1 as1 G1 s1 m1 r1
    cases d <;> first | exact p.elim | skip
    rename_i xs
    dsimp only at p
    have r10 := r1
    simp only [rep] at r1
    obtain ⟨q, vs, rfl, h1, h2⟩ := r1
    rw [h.K] at h1
    refine ⟨⟨q, vs, rfl, ?_⟩, Z, ρ1, W1, as1, G1, s1, ?_⟩
    · rcases h1 with ⟨o, h1, hd⟩ | h1
      · exact .inl ⟨o, s1.sub _ _ h1, hd⟩
      · exact .inr (.inr h1)
    · cases e2 : fA ρ1 W1 with
      | exc c fs ρ2 W2 => rw [e2] at p; exact PostX.mono m1 p
      | stk => rw [e2] at p; exact p
      | val ds ρ2 W2 =>
        rw [e2] at p
        simp only [ResA.bind_val] at p
        intro us H2 as2 G2 s2 m2 r2
        split at p
        · split at p
          · rename_i z _ j hj
            obtain ⟨ys, h3, h4⟩ := Option.bind_eq_some_iff.mp hj
            obtain ⟨h5, h6⟩ := firstI_of h4
            obtain ⟨u, rfl, ru⟩ := reps1 r2
            simp only [rep] at ru
            subst ru
            rw [intsD_rep h3 h2] at h1
            exact ⟨q, ys, z, j, rfl, rfl, ex_ns (m2.ex.trans s2.sub) h1, h5, h6, p _ H2 as2 G2 s2 (m1.trans m2) (by simp only [rep])⟩
          · exact p.elim
        · exact p.elim

/-! ### len(set(t)), of ints -/
def ddup : List Int → List Int
  | [] => []
  | x :: xs => if x ∈ ddup xs then ddup xs else x :: ddup xs
theorem ddup_mem {k : Int} : ∀ {xs : List Int}, k ∈ ddup xs ↔ k ∈ xs
  | [] => Iff.rfl
  | x :: xs => by
    unfold ddup
    split
    · rename_i h
      rw [ddup_mem, List.mem_cons]
      exact ⟨.inr, fun q => q.elim (fun e => by rw [e]; exact ddup_mem.mp h) id⟩
    · rw [List.mem_cons, List.mem_cons, ddup_mem]
theorem ddup_nodup : ∀ xs : List Int, (ddup xs).Nodup
  | [] => List.nodup_nil
  | x :: xs => by
    unfold ddup
    split
    · exact ddup_nodup xs
    · rename_i h
      exact List.nodup_cons.mpr ⟨h, ddup_nodup xs⟩
def gLenSet : Sto → List D → Option D
  | _, [.tup xs] => (intsD xs).bind fun ns => if ns.length < 4000 then some (.int (ddup ns).length) else none
  | _, _ => none
theorem popn_lenSet (hK : T.K = X.K) : POpN T (fun xs H Q => ∃ x, xs = [x] ∧ ∃ (l : Addr) (ns : List Int), x = V.ref l ∧ SqT X.K H l (ns.map V.int) ∧ ns.length < 4000 ∧ ∀ ms : List Int, ms.Nodup → (∀ k, k ∈ ms ↔ k ∈ ns) → Q (.int ms.length) H) gLenSet := by
  intro Z ρ W σ as G H xs ds z Q s rx hz k
  unfold gLenSet at hz
  split at hz
  · obtain ⟨v, rfl, r⟩ := reps1 rx
    simp only [rep] at r
    obtain ⟨p, vs, rfl, h1, h2⟩ := r
    obtain ⟨ns, h3, h4⟩ := Option.bind_eq_some_iff.mp hz
    split at h4
    · rename_i h64
      cases h4
      rw [intsD_rep h3 h2, hK] at h1
      refine ⟨_, rfl, p, ns, rfl, ex_ns s.sub h1, h64, fun ms hm hi => ?_⟩
      have : ms.length = (ddup ns).length := ((List.perm_ext_iff_of_nodup hm (ddup_nodup ns)).mpr fun k => (hi k).trans ddup_mem.symm).length_eq
      rw [this]
      exact k _ H G (Alloc.refl G H) (by simp only [rep])
    · cases h4
  · cases hz
theorem se_lenSet {p p2 q : Pos} (h : Cok X T Wx kk) (hm : X.mg "len" = none) (hm2 : X.mg "set" = none) (ha : SE X T Wx a fa) (hg : Gl X "len" := by rfl) (hg2 : Gl X "set" := by rfl)
    (na : starEach [a] X.env = (false, eval a X.env) :: starEach [] X.env := by rfl) : SE X T Wx (.Call (.Name "len" p) [.Call (.Name "set" p2) [a] [] q] [] pos) (dG1 gLenSet fa) := by
  refine PE.imp (pe_lenSetT h.calm hg hm hg2 hm2 ha na) fun σ H Q q => rd_mono (rd_g1 (popn_lenSet h.K) σ H Q q) fun v H1 ⟨x, e, q⟩ => ?_
  cases e
  exact q
end
end Dl

set_option Elab.async false
set_option linter.all false
set_option maxRecDepth 100000
set_option maxHeartbeats 4000000
namespace Dl
open PySem PySem.Spec PyProof.Rows L2

/-! ### isinstance -/
inductive BT where
  | non | bl | int | str | tup | lst | dct
  deriving DecidableEq
def BT.nm : BT → String
  | .non => "NoneType" | .bl => "bool" | .int => "int" | .str => "str" | .tup => "tuple" | .lst => "list" | .dct => "dict"
inductive Ty where
  | b (t : BT)
  | o (c : Nat)
def Ty.v (T : Tb) : Ty → Value
  | .b t => .type t.nm
  | .o c => .ref (T.cl c)
def tyD (W : Sto) : D → Option Ty
  | .non => some (.b .non)
  | .bl _ => some (.b .bl)
  | .int _ => some (.b .int)
  | .str _ => some (.b .str)
  | .tup _ => some (.b .tup)
  | .tp _ => some (.b .tup)
  | .lst _ => some (.b .lst)
  | .sq _ => none
  | .dct _ => some (.b .dct)
  | .obj c _ => some (.o c)
  | .ref n => match W[n]? with
    | some (.dct _) => some (.b .dct)
    | some (.dtt _) => some (.b .dct)
    | some (.ins c _) => some (.o c)
    | none => none
  | .fn _ => none
def isTy : Ty → Ty → Bool
  | .b s, .b t => decide (s = t) || (decide (s = .bl) && decide (t = .int))
  | .o c, .o d => c == d
  | _, _ => false
theorem kitB_nm : ∀ s t : BT, kitB s.nm t.nm = some (isTy (.b s) (.b t)) := by
  intro s t
  cases s <;> cases t <;> decide +kernel
theorem mro_nm (s : BT) (C : Addr) : (fastBuiltinMro s.nm).map (·.contains (Value.ref C)) = some false := by
  cases s <;> (with_unfolding_all rfl)
theorem kit_one {T : Tb} (ok : TbOk T) {t u : Ty} (ht : ∀ c, t = .o c → c < T.nc) (hu : ∀ c, u = .o c → c < T.nc) : PySem.W.kitOne T.K (t.v T) (u.v T) = some (isTy t u) := by
  cases t with
  | b s =>
    cases u with
    | b r => exact kit_ty (kitB_nm s r)
    | o c =>
      have k := ok.co c (hu c rfl)
      show (if (Value.type s.nm == Value.ref (T.cl c)) = true then some true else PySem.W.kitCls T.K (.type s.nm) (.ref (T.cl c))) = some false
      rw [if_neg (by intro h; cases h)]
      unfold PySem.W.kitCls
      have h1 : (PySem.W.clsIn T.K (T.cl c)).isSome = true := by
        have := k.mro
        cases q : PySem.W.clsIn T.K (T.cl c) with
        | none => rw [q] at this; cases this
        | some _ => rfl
      simp only [h1, k.ty, beq_self_eq_true, Bool.and_self, if_true]
      exact mro_nm s (T.cl c)
  | o c =>
    have k := ok.co c (ht c rfl)
    have hm : ∀ v, PySem.W.mroIn T.K (T.cl c) v = some ([Value.ref (T.cl c), .type "object"].contains v) := by
      intro v
      unfold PySem.W.mroIn
      have := k.mro
      cases q : PySem.W.clsIn T.K (T.cl c) with
      | none => rw [q] at this; cases this
      | some cd =>
        rw [q] at this
        simp only [Option.map_some, Option.some.injEq] at this
        simp only [Option.bind_some, this]
        rfl
    cases u with
    | b r =>
      show (if (Value.ref (T.cl c) == Value.type r.nm) = true then some true else PySem.W.kitCls T.K (.ref (T.cl c)) (.type r.nm)) = some false
      rw [if_neg (by intro h; cases h)]
      unfold PySem.W.kitCls
      have h1 : PySem.W.kitMeta r.nm = true := by cases r <;> decide +kernel
      simp only [h1, if_true]
      show PySem.W.mroIn T.K (T.cl c) (.type r.nm) = some false
      rw [hm]
      have : [Value.ref (T.cl c), .type "object"].contains (.type r.nm) = false := by cases r <;> (with_unfolding_all rfl)
      rw [this]
    | o d =>
      have kd := ok.co d (hu d rfl)
      show (if (Value.ref (T.cl c) == Value.ref (T.cl d)) = true then some true else PySem.W.kitCls T.K (.ref (T.cl c)) (.ref (T.cl d))) = some (c == d)
      by_cases e : c = d
      · subst e
        rw [if_pos (beq_self_eq_true _), beq_self_eq_true]
      · have ne : T.cl c ≠ T.cl d := fun z => e (ok.inj c d (ht c rfl) (hu d rfl) z)
        have ne2 : (Value.ref (T.cl c) == Value.ref (T.cl d)) = false := beq_eq_false_iff_ne.mpr fun z => ne (Value.ref.inj z)
        rw [if_neg (by rw [ne2]; exact Bool.false_ne_true)]
        unfold PySem.W.kitCls
        have h1 : (PySem.W.clsIn T.K (T.cl d)).isSome = true := by
          have := kd.mro
          cases q : PySem.W.clsIn T.K (T.cl d) with
          | none => rw [q] at this; cases this
          | some _ => rfl
        simp only [h1, kd.ty, beq_self_eq_true, Bool.and_self, if_true]
        show PySem.W.mroIn T.K (T.cl c) (.ref (T.cl d)) = some (c == d)
        rw [hm]
        have h3 : (c == d) = false := beq_eq_false_iff_ne.mpr e
        have h4 : (Value.ref (T.cl d) == Value.ref (T.cl c)) = false := beq_eq_false_iff_ne.mpr fun z => ne (Value.ref.inj z).symm
        rw [h3]
        simp only [List.contains_cons, h4, Bool.false_or]
        rfl
section
variable {X : Cx} {T : Tb} {Wx : WX} {kk : Nat} {a b c e : Expr} {es rest : List Expr} {fa fb fc : Dn} {fA fr : DnA} {pos : Pos}
theorem tyx_of (ok : TbOk T) {Z ρ W as G} {σ : L2.St} {H : Hp} {d : D} {v : V} {t : Ty} (s : StR T Z ρ W σ H as G) (r : rep T as G d v) (h : tyD W d = some t) : TyX T.K H v (t.v T) ∧ ∀ c, t = .o c → c < T.nc := by
  have ins : ∀ {a dx fs c}, H a = some (.ins (T.cl c) dx fs) → c < T.nc → TyX T.K H (.ref a) (Ty.v T (.o c)) := fun {a dx fs c} h1 h2 => by
    have k := ok.co c h2
    refine .base (.ins h1 k.cls k.cl ok.sp ok.tk ?_)
    unfold PySem.W.mroIn
    have := k.mro
    cases q : PySem.W.clsIn T.K (T.cl c) with
    | none => rw [q] at this; cases this
    | some cd =>
      rw [q] at this
      simp only [Option.map_some, Option.some.injEq] at this
      simp only [Option.bind_some, this]
      simp
  have seqT : ∀ {a vs}, SqT T.K G a vs → TyX T.K H (.ref a) (.type "tuple") := fun {a vs} h => by
    rcases h with h | ⟨o, its, n, h1, h2, _⟩
    · rcases h with h | ⟨o, h⟩
      · exact .base (.tup (s.sub _ _ h))
      · exact .fTuple (s.sub _ _ h)
    · exact .kTuple h1 h2
  cases d <;> simp only [tyD] at h <;> simp only [rep] at r
  case non => cases h; subst r; exact ⟨.base .non, fun c e => nomatch e⟩
  case bl => cases h; subst r; exact ⟨.base (.bl _), fun c e => nomatch e⟩
  case int => cases h; subst r; exact ⟨.base (.int _), fun c e => nomatch e⟩
  case str => cases h; subst r; exact ⟨.base (.str _), fun c e => nomatch e⟩
  case tup => cases h; obtain ⟨p, vs, rfl, h1, _⟩ := r; exact ⟨seqT h1.sq, fun c e => nomatch e⟩
  case tp => cases h; obtain ⟨p, vs, rfl, h1, _⟩ := r; exact ⟨seqT h1, fun c e => nomatch e⟩
  case lst =>
    cases h
    obtain ⟨p, vs, rfl, h1, _⟩ := r
    refine ⟨?_, fun c e => nomatch e⟩
    rcases h1 with h1 | ⟨o, h1⟩
    · exact .base (.lst (s.sub _ _ h1))
    · exact .base (.frz (s.sub _ _ h1))
  case sq => cases h
  case dct => cases h; obtain ⟨p, vs, rfl, h1, _⟩ := r; exact ⟨.base (.dK (s.sub _ _ h1)), fun c e => nomatch e⟩
  case obj => cases h; obtain ⟨p, dx, vs, rfl, h1, h2, _⟩ := r; exact ⟨ins (s.sub _ _ h1) h2, fun c e => by cases e; exact h2⟩
  case fn => cases h
  case ref n =>
    obtain ⟨p, rfl, h1⟩ := r
    split at h
    · rename_i kvs hw
      cases h
      obtain ⟨_, vs, h2, _⟩ := s.sto n _ p hw h1
      exact ⟨.base (.dK h2), fun c e => nomatch e⟩
    · rename_i kvs hw
      cases h
      obtain ⟨_, vs, h2, _⟩ := s.sto n _ p hw h1
      exact ⟨.base (.dT h2), fun c e => nomatch e⟩
    · rename_i c fs hw
      cases h
      obtain ⟨_, dx, vs, h2, h3, _⟩ := s.sto n _ p hw h1
      exact ⟨ins h2 h3, fun c e => by cases e; exact h3⟩
    · cases h
def gIsi (us : List Ty) : Sto → List D → Option D
  | W, [d] => (tyD W d).map fun t => .bl (us.any fun u => isTy t u)
  | _, _ => none
theorem gIsi_b {us : List Ty} {W : Sto} {ds : List D} {z : D} (h : gIsi us W ds = some z) : ∃ k, z = .bl k := by
  unfold gIsi at h
  split at h
  · obtain ⟨t, _, rfl⟩ := Option.map_eq_some_iff.mp h
    exact ⟨_, rfl⟩
  · cases h
/-- a class named in the text -/
inductive TyN (X : Cx) (T : Tb) : Expr → Ty → V → Prop where
  | b (t : BT) {x : Str} {p : Pos} (hg : Gl X x) (hm : X.mg x = none) (hv : bootBuiltins x = some (.type t.nm)) (hn : x ≠ "__name__") (hd : (x == ("__debug__" : Str)) = false) : TyN X T (.Name x p) (.b t) (.ty t.nm)
  | o (c : Nat) {x : Str} {p : Pos} (hg : Gl X x) (hm : X.mg x = some (.ref (T.cl c))) (hc : c < T.nc) (hd : (x == ("__debug__" : Str)) = false) : TyN X T (.Name x p) (.o c) (.ref (T.cl c))
theorem TyN.pe {n : Expr} {u : Ty} {v : V} (h : TyN X T n u v) : PE X n (tC v) := by
  cases h with
  | b t hg hm hv hn hd => exact pe_bltn hg hm hv rfl hn hd
  | o c hg hm hc hd => exact pe_glob hg hm rfl hd
theorem TyN.cls {n : Expr} {u : Ty} {v : V} (h : TyN X T n u v) : ClsV v (u.v T) := by
  cases h with
  | b t => exact .ty _
  | o c => exact .own _
theorem TyN.lt {n : Expr} {u : Ty} {v : V} (h : TyN X T n u v) : ∀ c, u = .o c → c < T.nc := by
  cases h with
  | b t => exact fun c e => nomatch e
  | o c hg hm hc hd => exact fun c e => by cases e; exact hc
theorem boot_isinstance : bootBuiltins "isinstance" = some (.builtin "isinstance") := by decide +kernel
theorem se_isi {p : Pos} {n : Expr} {u : Ty} {v : V} (h : Cok X T Wx kk) (hm : X.mg "isinstance" = none) (ha : SE X T Wx a fa) (hn : TyN X T n u v) (hg : Gl X "isinstance" := by rfl)
    (na : starEach [a, n] X.env = (false, eval a X.env) :: starEach [n] X.env := by rfl) (nb : starEach [n] X.env = (false, eval n X.env) :: starEach [] X.env := by rfl) (hpl : (backTo pos (starEach [n] X.env)).any (·.1) = false := by rfl) :
    SE X T Wx (.Call (.Name "isinstance" p) [a, n] [] pos) (dG1 (gIsi [u]) fa) := by
  refine PE.imp (pe_callB call_isi hg hm boot_isinstance (pa_cons ha (pa_cons hn.pe pa_nil nb) na) (he := na) (hpl := hpl)) fun σ H Q q => ?_
  have hp : POpN T (fun xs H Q => ∃ x, xs = [x] ∧ rIsi X.K [x, v] H Q) (gIsi [u]) := by
    intro Z ρ W σ as G H xs ds z Q s rx hz k
    unfold gIsi at hz
    split at hz
    · obtain ⟨t, h1, rfl⟩ := Option.map_eq_some_iff.mp hz
      obtain ⟨w, rfl, r⟩ := reps1 rx
      obtain ⟨h2, h3⟩ := tyx_of h.ok s r h1
      refine ⟨w, rfl, w, v, t.v T, u.v T, isTy t u, rfl, hn.cls, by rw [← h.K]; exact h2, by rw [← h.K]; exact kit_one h.ok h3 hn.lt, ?_⟩
      refine k _ H G (Alloc.refl G H) ?_
      simp only [List.any_cons, List.any_nil, Bool.or_false, rep]
    · cases hz
  exact rd_mono (rd_g1 hp σ H Q q) fun x H1 ⟨y, e, q⟩ => by cases e; exact q
theorem se_isi2 {p p2 : Pos} {k2} {n m : Expr} {u1 u2 : Ty} {v1 v2 : V} (h : Cok X T Wx kk) (hm : X.mg "isinstance" = none) (ha : SE X T Wx a fa) (hn : TyN X T n u1 v1) (hn2 : TyN X T m u2 v2) (hg : Gl X "isinstance" := by rfl)
    (na : starEach [a, .Tuple [n, m] k2 p2] X.env = (false, eval a X.env) :: starEach [.Tuple [n, m] k2 p2] X.env := by rfl) (nb : starEach [.Tuple [n, m] k2 p2] X.env = (false, eval (.Tuple [n, m] k2 p2) X.env) :: starEach [] X.env := by rfl) (hpl : (backTo pos (starEach [.Tuple [n, m] k2 p2] X.env)).any (·.1) = false := by rfl)
    (nc : starEach [n, m] X.env = (false, eval n X.env) :: starEach [m] X.env := by rfl) (nd : starEach [m] X.env = (false, eval m X.env) :: starEach [] X.env := by rfl) :
    SE X T Wx (.Call (.Name "isinstance" p) [a, .Tuple [n, m] k2 p2] [] pos) (dG1 (gIsi [u1, u2]) fa) := by
  refine PE.imp (pe_callB call_isiT hg hm boot_isinstance (pa_cons ha (pa_cons (pe_tup (pa_cons hn.pe (pa_cons hn2.pe pa_nil nd) nc)) pa_nil nb) na) (he := na) (hpl := hpl)) fun σ H Q q => ?_
  have hp : POpN T (fun xs H Q => ∃ x, xs = [x] ∧ ∀ p, H p = none → rIsiT X.K [x, .ref p] (upd H p (.tup [v1, v2])) Q) (gIsi [u1, u2]) := by
    intro Z ρ W σ as G H xs ds z Q s rx hz k
    unfold gIsi at hz
    split at hz
    · obtain ⟨t, h1, rfl⟩ := Option.map_eq_some_iff.mp hz
      obtain ⟨w, rfl, r⟩ := reps1 rx
      refine ⟨w, rfl, fun p hp => ?_⟩
      have s' := s.alloc (Alloc.hid (o := .tup [v1, v2]) hp)
      obtain ⟨h2, h3⟩ := tyx_of h.ok s' r h1
      have e1 := kit_one h.ok h3 hn.lt
      have e2 := kit_one h.ok h3 hn2.lt
      refine ⟨w, p, [v1, v2], t.v T, [u1.v T, u2.v T], isTy t u1 || isTy t u2, rfl, upd_same, .cons hn.cls (.cons hn2.cls .nil), by rw [← h.K]; exact h2, ?_, ?_⟩
      · rw [← h.K]
        refine kitAny_cons e1 (fun z => kitAny_cons e2 (fun z2 => ?_) fun z2 => ?_) fun z => ?_
        · rw [z, z2]; exact kitAny_nil
        · rw [z2, Bool.or_true]
        · rw [z, Bool.true_or]
      · refine k _ _ G (Alloc.hid hp) ?_
        simp only [List.any_cons, List.any_nil, Bool.or_false, rep]
    · cases hz
  exact rd_mono (rd_g1 hp σ H Q q) fun x H1 ⟨y, e, q⟩ => by cases e; exact ⟨by show 2 ≤ sizeLine; decide, q⟩

/-! ### attributes -/
def gFld (f : Str) : Sto → List D → Option D
  | _, [.obj _ fs] => fs.lookup f
  | W, [.ref n] => match W[n]? with
    | some (.ins _ fs) => fs.lookup f
    | _ => none
  | _, _ => none
theorem se_fld (f : Str) (h : Cok X T Wx kk) (ha : SE X T Wx a fa) (hf : f ∈ T.fl) (hb : attributeBase a f X.env (eval a X.env) = eval a X.env := by rfl) : SE X T Wx (.Attribute a f pos) (dG1 (gFld f) fa) := by
  refine PE.imp (pe_fld ha hb) fun σ H Q q => ?_
  have hp : POpN T (fun xs H Q => ∃ x, xs = [x] ∧ ∃ a C dx fs v, x = .ref a ∧ H a = some (.ins C dx fs) ∧ Cls X.K C ∧ NoAttr X.K C f ∧ fs.lookup f = some v ∧ Q v H) (gFld f) := by
    intro Z ρ W σ as G H xs ds z Q s rx hz k
    unfold gFld at hz
    split at hz
    · obtain ⟨w, rfl, r⟩ := reps1 rx
      simp only [rep] at r
      obtain ⟨p, dx, vs, rfl, h1, h2, h3⟩ := r
      obtain ⟨v, h4, h5⟩ := h3.look hz
      exact ⟨_, rfl, p, _, dx, vs, v, rfl, s.sub _ _ h1, by rw [← h.K]; exact (h.ok.co _ h2).cls, by rw [← h.K]; exact h.ok.na _ h2 f hf, h4, k _ H G (Alloc.refl G H) h5⟩
    · split at hz
      · rename_i hw
        obtain ⟨w, rfl, r⟩ := reps1 rx
        simp only [rep] at r
        obtain ⟨p, rfl, h1⟩ := r
        obtain ⟨_, dx, vs, h2, h3, h4⟩ := s.sto _ _ p hw h1
        obtain ⟨v, h5, h6⟩ := h4.look hz
        exact ⟨_, rfl, p, _, dx, vs, v, rfl, h2, by rw [← h.K]; exact (h.ok.co _ h3).cls, by rw [← h.K]; exact h.ok.na _ h3 f hf, h5, k _ H G (Alloc.refl G H) h6⟩
      · cases hz
    · cases hz
  exact rd_mono (rd_g1 hp σ H Q q) fun x H1 ⟨y, e, q⟩ => by cases e; exact q
def putFD (f : Str) (v : D) : List (Str × D) → List (Str × D)
  | [] => [(f, v)]
  | (g, x) :: r => if g = f then (g, v) :: r else (g, x) :: putFD f v r
theorem repf.put {as : List Addr} {G : Hp} {f : Str} {d : D} {v : V} (r : rep T as G d v) : ∀ {ds : List (Str × D)} {vs : List (Str × V)}, repf T as G ds vs → repf T as G (putFD f d ds) (putF f v vs)
  | [], vs, h => by simp only [repf] at h; subst h; exact repf_cons r repf_nil
  | (g, x) :: ds, vs, h => by
    simp only [repf] at h
    obtain ⟨w, vr, rfl, h1, h2⟩ := h
    simp only [putFD, putF]
    split
    · exact repf_cons r h2
    · exact repf_cons h1 (repf.put r h2)
/-- self.f = e, self an instance of its own -/
def sFldO (i : Nat) (f : Str) (fv : Dn) : Ds := fun ρ W => (fv ρ W).bindS fun d ρ W => match ρ[i]? with
  | some (.owi a c fs) => if fs.length < 1000 then .nx (ρ.set i (.owi a c (putFD f d fs))) W else .stk
  | _ => .stk
theorem ss_fldO (i : Nat) {x f : Str} {px pos' : Pos} (h : Cok X T Wx kk) (hv : SE X T Wx e fa) (hf : f ∈ T.fl) (hN : X.N[i]? = some x := by rfl) (hvv : Vis X.env.scope x := by first | exact Or.inl rfl | exact Or.inr (Or.inl rfl) | exact Or.inr (Or.inr rfl)) (hd : (x == ("__debug__" : Str)) = false := by decide)
    (hcd : (x == ("__classdict__" : Str)) = false := by decide) (hs : swapsWith e (some (.Attribute (.Name x px) f pos')) pos.line X.env = pure false := by rfl) : SS X T Wx (.Assign [.Attribute (.Name x px) f pos'] e pos) (sFldO i f fa) := by
  refine PS.imp (ps_fld (pe_var (i := i) hN hvv hd hcd) hv hs) fun D σ H ⟨Z, ρ, W, as, G, s, p⟩ => ⟨Z, ρ, W, as, G, s, ?_⟩
  unfold sFldO at p
  cases e1 : fa ρ W with
  | exc c fs ρ1 W1 => rw [e1] at p; exact p σ
  | stk => rw [e1] at p; exact p
  | val d ρ1 W1 =>
    rw [e1] at p
    simp only [Res.bindS_val] at p
    intro v H1 as1 G1 s1 m1 r1
    split at p
    · rename_i q c fs e2
      split at p
      · rename_i hl
        obtain ⟨dx, vs, h1, h2, h3, h4, h5⟩ := s1.slot i _ e2
        refine ⟨_, h1, q, _, dx, vs, rfl, h2, by rw [← h.K]; exact (h.ok.co _ h4).cls, by rw [← h.K]; exact h.ok.na _ h4 f hf, ?_, p _ _ as1 G1 (s1.chOw e2 rfl h1 rfl ?_) m1⟩
        · rw [h5.length]; exact hl
        · exact ⟨dx, _, rfl, upd_same, h3, h4, h5.put r1⟩
      · exact p.elim
    · exact p.elim
end
end Dl

set_option Elab.async false
set_option linter.all false
set_option maxRecDepth 100000
set_option maxHeartbeats 4000000
namespace Dl
open PySem PySem.Spec PyProof.Rows L2

/-! ### a def from its body's term -/
def envOf (n : Nat) (ds : List D) : Env := ds.map Slot.sh ++ List.replicate (n - ds.length) .no
def runD (n : Nat) (fb : Ds) : Con := fun ds W => match fb (envOf n ds) W with
  | .nx _ W' => .val .non W'
  | .rt d _ W' => .val d W'
  | .exc c fs _ W' => .exc c fs W'
  | _ => .stk
theorem reps_slots {T : Tb} {as : List Addr} {G H : Hp} : ∀ {ds : List D} {vs : List V}, reps T as G ds vs → ∀ (i : Nat) sl, (ds.map Slot.sh)[i]? = some sl → sl.isOw = false ∧ SlotR T as G H (vs.map some)[i]? sl
  | [], vs, h, i, sl, e => by simp at e
  | d :: ds, vs, h, i, sl, e => by
    simp only [reps] at h
    obtain ⟨v, vr, rfl, h1, h2⟩ := h
    cases i with
    | zero => simp at e; subst e; exact ⟨rfl, v, rfl, h1⟩
    | succ i => simp at e; simpa using reps_slots (H := H) h2 i sl (by simpa using e)
theorem start_slots {T : Tb} {as : List Addr} {G H : Hp} {N : List Str} {ds : List D} {vs : List V} (h : reps T as G ds vs) : (∀ (i : Nat) sl, (envOf N.length ds)[i]? = some sl → sl.isOw = false ∧ SlotR T as G H (L2.start N vs)[i]? sl) ∧ (envOf N.length ds).length ≤ (L2.start N vs).length := by
  have l := h.length
  constructor
  · intro i sl e
    unfold envOf at e
    unfold L2.start
    by_cases hi : i < ds.length
    · rw [List.getElem?_append_left (by simpa using hi)] at e
      rw [List.getElem?_append_left (by simpa [l] using hi)]
      exact reps_slots h i sl e
    · rw [List.getElem?_append_right (by simpa using hi)] at e
      have := List.mem_of_getElem? e
      rw [(List.mem_replicate.mp this).2]
      exact ⟨rfl, trivial⟩
  · unfold envOf L2.start
    simp only [List.length_append, List.length_map, List.length_replicate]
    omega
/-- a run's end, its names forgotten -/
theorem StR.forget {T : Tb} {Z : Bs} {ρ : Env} {W : Sto} {σ : L2.St} {H : Hp} {as : List Addr} {G : Hp} (s : StR T Z ρ W σ H as G) : StR T Z [] W [] H as G :=
  s.env' (fun i sl e => by simp at e) (Nat.le_refl _)
section
variable {T : Tb} {P : Program} {w : World} {mg : Str → Option Value} {base : Heap}
/-- a body's term, in every context that this def's call can have -/
def Body (T : Tb) (P : Program) (w : World) (mg : Str → Option Value) (base : Heap) (k : Nat) (N : List Str) (qual : Str) (st : Stmt) (f : Addr) (fb : Ds) : Prop :=
  ∀ (cdv : Value) (A : Around) (outer : List PySem.Env) (s : Shared) (H : Hp) (E : XK), Cok (cxOf (L2.CX P w) P w T.K mg base N qual (defScope st) f cdv A outer s H E) T (fun cls d _ H => E cls d H) k →
    SSs (cxOf (L2.CX P w) P w T.K mg base N qual (defScope st) f cdv A outer s H E) T (fun cls d _ H => E cls d H) (defBody st) fb
theorem cok_of (ok : TbOk T) {N ps : List Str} {qual : Str} {st : Stmt} {f : Addr} {cdv : Value} {A : Around} {outer : List PySem.Env} {s : Shared} {H : Hp} {E : XK} {k : Nat} (S : FnScope N ps (defScope st)) (hr : Room k (A.deeper (envOfC qual (defScope st) s.heap.objs.size f cdv))) :
    Cok (cxOf (L2.CX P w) P w T.K mg base N qual (defScope st) f cdv A outer s H E) T (fun cls d _ H => E cls d H) k :=
  ⟨rfl, S.nd, hr, takes_of rfl rfl rfl rfl, rfl, passes_of rfl, ok⟩
theorem fn_d (ok : TbOk T) {x qual : Str} {st : Stmt} {i : Nat} {fd : FuncData} {N ps : List Str} {k n : Nat} {fb : Ds} (F : Fun T.K x qual st (T.fa i) fd) (S : FnScope N ps (defScope st)) (hn : ps.length = n)
    (hb : ∀ (kV doc pm : Value) (an : Option Addr) (cdv ct : Value) (us : List Value), us.length = ps.length → bindArgs (PySem.W.fnOf x qual (defArgs st) (defBody st) (defScope st) .none kV doc pm an cdv ct) ⟨us, []⟩ = pure (ps.zip us))
    (hm : mg x = some (.ref (T.fa i))) (body : Body T P w mg base k N qual st (T.fa i) fb) : FnD T P w mg base (k + 1) x i n (runD N.length fb) := by
  refine ⟨⟨fd, ps, hn, F.binds hb, F.okX S (fun vs H Q E ⟨as, G, W, ds, s, r, l, p⟩ => by rw [r.length, l, hn]) fun cdv A outer s0 H vs Q E hr hsp => ?_⟩, hm, F.kp⟩
  refine ⟨_, body cdv A outer s0 H E (cok_of ok S hr), ?_⟩
  obtain ⟨as, G, W, ds, s, r, l, p⟩ := hsp
  obtain ⟨h1, h2⟩ := start_slots (N := N) (H := H) r
  have s' : StR T (bs H G as) (envOf N.length ds) W (L2.start N vs) H as G := s.enter h1 h2
  refine ⟨_, _, _, _, _, s', ?_⟩
  unfold runD at p
  cases e1 : fb (envOf N.length ds) W with
  | nx ρ' W' =>
    rw [e1] at p
    exact fun σ H' as' G' s1 m1 => p .non H' as' G' s1.forget (by simp only [rep])
  | rt d ρ' W' =>
    rw [e1] at p
    exact fun v σ H' as' G' s1 m1 r1 => p v H' as' G' s1.forget r1
  | exc c fs ρ' W' =>
    rw [e1] at p
    exact fun σ dx us H' as' G' s1 m1 r1 h1 => p dx us H' as' G' s1.forget r1 h1
  | bk ρ' W' => rw [e1] at p; exact p.elim
  | ct ρ' W' => rw [e1] at p; exact p.elim
  | stk => rw [e1] at p; exact p.elim

/-! ### instances that never change: their making -/
abbrev ConI := List D → Sto → Option (List (Str × D) × Sto)
def spI (T : Tb) (c n : Nat) (Ψ : ConI) : Sp := fun vs H Q E => ∃ H0 as G W ds p dx us fs W', vs = .ref p :: us ∧ H0 p = none ∧ H = upd H0 p (.ins (T.cl c) dx []) ∧ StR T (bs H0 G as) [] W [] H0 as G ∧ reps T as G ds us ∧ ds.length = n ∧ c < T.nc ∧
  Ψ ds W = some (fs, W') ∧ ∀ H' as' G' dx' vs', StR T (bs H0 G as) [] W' [] H' as' G' → H' p = some (.ins (T.cl c) dx' vs') → G' p = none → p ∉ as' → repf T as' G' fs vs' → Q .non H'
structure InD (T : Tb) (P : Program) (w : World) (mg : Str → Option Value) (base : Heap) (k : Nat) (x : Str) (c n : Nat) (Ψ : ConI) : Prop where
  ex : ∃ (fd : FuncData) (ps : List Str) (f : Addr), ps.length = n + 1 ∧ Binds T.K fd ps [] ∧ FnOk P w T.K mg base (L2.CX P w) k f fd ps (spI T c n Ψ) ∧ Mk T.K (T.cl c) f
  mg : mg x = some (.ref (T.cl c))
  lt : c < T.nc
theorem InD.mono {k k' : Nat} {x : Str} {c n : Nat} {Ψ : ConI} (F : InD T P w mg base k x c n Ψ) (h : k ≤ k') : InD T P w mg base k' x c n Ψ := by
  obtain ⟨⟨fd, ps, f, h1, h2, h3, h4⟩, m, l⟩ := F
  exact ⟨⟨fd, ps, f, h1, h2, h3.mono h, h4⟩, m, l⟩
theorem InD.imp {k : Nat} {x : Str} {c n : Nat} {Ψ Ψ' : ConI} (F : InD T P w mg base k x c n Ψ) (h : ∀ ds W r, ds.length = n → Ψ' ds W = some r → Ψ ds W = some r) : InD T P w mg base k x c n Ψ' := by
  obtain ⟨⟨fd, ps, f, h1, h2, h3, h4⟩, m, l⟩ := F
  exact ⟨⟨fd, ps, f, h1, h2, h3.imp fun vs H Q E ⟨H0, as, G, W, ds, p, dx, us, fs, W', q1, q2, q3, q4, q5, q6, q7, q8, q9⟩ => ⟨H0, as, G, W, ds, p, dx, us, fs, W', q1, q2, q3, q4, q5, q6, q7, h _ _ _ q6 q8, q9⟩, h4⟩, m, l⟩
/-- what __init__ does to the instance at p, in its first slot -/
def runI (n c : Nat) (fb : Ds) (p : Addr) : ConI := fun ds W => match fb (.owi p c [] :: envOf (n - 1) ds) W with
  | .nx ρ W' => (match ρ with
    | .owi p' c' fs :: _ => if p' = p ∧ c' = c then some (fs, W') else none
    | _ => none)
  | _ => none
theorem in_d (ok : TbOk T) {x xi qual : Str} {st : Stmt} {f : Addr} {c : Nat} {fd : FuncData} {N ps : List Str} {k n : Nat} {fb : Ds} {Ψ : ConI} (F : Fun T.K xi qual st f fd) (S : FnScope N ps (defScope st)) (hn : ps.length = n + 1) (hN : 0 < N.length)
    (hb : ∀ (kV doc pm : Value) (an : Option Addr) (cdv ct : Value) (us : List Value), us.length = ps.length → bindArgs (PySem.W.fnOf xi qual (defArgs st) (defBody st) (defScope st) .none kV doc pm an cdv ct) ⟨us, []⟩ = pure (ps.zip us))
    (M : Mk T.K (T.cl c) f) (hc : c < T.nc) (hm : mg x = some (.ref (T.cl c))) (body : Body T P w mg base k N qual st f fb) (hΨ : ∀ p ds W r, Ψ ds W = some r → runI N.length c fb p ds W = some r) : InD T P w mg base (k + 1) x c n Ψ := by
  refine ⟨⟨fd, ps, f, hn, F.binds hb, F.okX S (fun vs H Q E ⟨H0, as, G, W, ds, p, dx, us, fs, W', q1, q2, q3, q4, q5, q6, q7, q8, q9⟩ => by rw [q1, List.length_cons, q5.length, q6, hn]) fun cdv A outer s0 H vs Q E hr hsp => ?_, M⟩, hm, hc⟩
  refine ⟨_, body cdv A outer s0 H E (cok_of ok S hr), ?_⟩
  obtain ⟨H0, as, G, W, ds, p, dx, us, fs, W', rfl, q2, rfl, q4, q5, q6, q7, q8, q9⟩ := hsp
  obtain ⟨h1, h2⟩ := start_slots (N := N.tail) (H := H0) q5
  have eN : N.tail.length = N.length - 1 := List.length_tail
  have est : L2.start N (.ref p :: us) = some (.ref p) :: L2.start N.tail us := by
    unfold L2.start
    simp only [List.map_cons, List.cons_append, List.length_cons, eN]
    congr 3
    omega
  have s1 : StR T (bs H0 G as) (.no :: envOf (N.length - 1) ds) W (some (.ref p) :: L2.start N.tail us) H0 as G := by
    refine q4.enter (fun i sl e => ?_) (by rw [eN] at h2; simpa using h2)
    cases i with
    | zero => simp at e; subst e; exact ⟨rfl, trivial⟩
    | succ i => rw [eN] at h1; exact h1 i sl (by simpa using e)
  have hid := s1.hid q2
  -- the instance is laid, then owned
  have s2 : StR T (bs H0 G as) (.no :: envOf (N.length - 1) ds) W (some (.ref p) :: L2.start N.tail us) (upd H0 p (.ins (T.cl c) dx [])) as G := s1.alloc (Alloc.hid q2)
  have s3 : StR T (bs H0 G as) (.owi p c [] :: envOf (N.length - 1) ds) W (some (.ref p) :: L2.start N.tail us) (upd H0 p (.ins (T.cl c) dx [])) as G := by
    have noOwn : ∀ j a, Own (.owi p c [] :: envOf (N.length - 1) ds) (some (.ref p) :: L2.start N.tail us) j a → j = 0 ∧ a = p := by
      rintro j a ⟨⟨sl, e1, e2⟩, e3⟩
      cases j with
      | zero => simp at e3; exact ⟨rfl, e3.symm⟩
      | succ j =>
        rw [eN] at h1
        have := (h1 j sl (by simpa using e1)).1
        rw [this] at e2; cases e2
    refine ⟨s2.sub, fun i sl e => ?_, fun i j a o1 o2 => by rw [(noOwn i a o1).1, (noOwn j a o2).1], s2.len, s2.nd, s2.sto, fun i a o => by rw [(noOwn i a o).2]; exact hid.a, s2.fr, fun i a o => by rw [(noOwn i a o).2]; exact q2, s2.new, s2.pre, s2.asnew, s2.exG, by simpa using s2.ln⟩
    cases i with
    | zero => simp at e; subst e; exact ⟨dx, [], rfl, upd_same, hid.g, q7, repf_nil⟩
    | succ i =>
      have := s2.slot (i + 1) sl (by simpa using e)
      simpa using this
  refine ⟨_, _, _, _, _, by rw [est]; exact s3, ?_⟩
  have q8 := hΨ p _ _ _ q8
  unfold runI at q8
  cases e1 : fb (.owi p c [] :: envOf (N.length - 1) ds) W with
  | nx ρ' W'' =>
    rw [e1] at q8
    dsimp only at q8
    split at q8
    · rename_i p' c' fs' tl
      split at q8
      · rename_i hcc
        obtain ⟨rfl, rfl⟩ := hcc
        cases q8
        intro σ H' as' G' s5 m5
        obtain ⟨dx', vs', e2, e3, e4, e5, e6⟩ := s5.slot 0 _ rfl
        have ow : Own (.owi p' c' fs :: tl) σ 0 p' := ⟨⟨_, rfl, rfl⟩, e2⟩
        exact q9 H' as' G' dx' vs' s5.forget e3 e4 (s5.ownas 0 p' ow) e6
      · cases q8
    · cases q8
  | rt d ρ' W' => rw [e1] at q8; cases q8
  | exc c fs ρ' W' => rw [e1] at q8; cases q8
  | bk ρ' W' => rw [e1] at q8; cases q8
  | ct ρ' W' => rw [e1] at q8; cases q8
  | stk => rw [e1] at q8; cases q8
/-- Class(..), the instance a value -/
def dMake (c n : Nat) (Ψ : ConI) (fA : DnA) : Dn := fun ρ W => (fA ρ W).bind fun ds ρ W => if ds.length = n then (match Ψ ds W with
  | some (fs, W') => .val (.obj c fs) ρ W'
  | none => .stk) else .stk
end
section
variable {X : Cx} {T : Tb} {Wx : WX} {kk : Nat} {a b c e : Expr} {es rest : List Expr} {fa fb fc : Dn} {fA fr : DnA} {pos : Pos}
theorem passM {X : Cx} {W : WX} (tk : Takes X W) (σ : L2.St) : PassesAt (L2.CX X.prog X.w) X σ (WE W σ) := passAt tk σ
theorem se_make {x : Str} {i n : Nat} {Ψ : ConI} {p : Pos} (h : Cok X T Wx (kk + 1)) (F : InD T X.prog X.w X.mg X.base kk x i n Ψ) (hk : PySem.W.keepIn T.K (.ref (T.cl i)) = true) (ha : SA X T Wx (e :: es) fA) (hg : Gl X x := by rfl) (hdb : (x == ("__debug__" : Str)) = false := by decide)
    (he : starEach (e :: es) X.env = (false, eval e X.env) :: starEach es X.env := by rfl) (hpl : (backTo pos (starEach es X.env)).any (·.1) = false := by rfl) : SE X T Wx (.Call (.Name x p) (e :: es) [] pos) (dMake i n Ψ fA) := by
  obtain ⟨⟨fd, ps, f, h1, h2, h3, h4⟩, m, hc⟩ := F
  rw [h.K] at h2 h3 h4 hk
  refine PE.imp (pe_make (dvs := []) (E := fun _ _ _ => False) h4 h3 h.room hg m h2 .nil passL ha hdb he hpl) fun σ H Q ⟨Z, ρ, W, as, G, s, q⟩ => ⟨Z, ρ, W, as, G, s, ?_⟩
  unfold dMake at q
  cases e1 : fA ρ W with
  | exc c fs ρ1 W1 => rw [e1] at q; exact q
  | stk => rw [e1] at q; exact q
  | val ds ρ1 W1 =>
    rw [e1] at q
    simp only [ResA.bind_val] at q
    intro vs H1 as1 G1 s1 m1 r1 y dx hy hdx hne
    split at q
    · rename_i hl
      split at q
      · rename_i fs W' e2
        have s2 : StR T Z ρ1 W1 σ (upd H1 dx (.own y)) as1 G1 := s1.alloc (Alloc.hid hdx)
        have hy2 : (upd H1 dx (.own y)) y = none := by rw [upd_ne fun z => hne z.symm]; exact hy
        refine ⟨upd H1 dx (.own y), as1, G1, W1, ds, y, dx, vs ++ [], fs, W', rfl, hy2, rfl, s2.enter (fun i sl e => by simp at e) (Nat.le_refl _), by rw [List.append_nil]; exact r1, hl, hc, e2, fun H' as' G' dx' vs' s3 e3 e4 e5 r3 => ⟨rfl, ?_⟩⟩
        have s4 := s2.back s3
        have hid : Hid Z ρ1 σ as' G' y := ⟨e4, e5, s2.h0 hy2, fun j o => by
          obtain ⟨⟨u, hu⟩, _⟩ := s2.owna o
          rw [hy2] at hu; cases hu⟩
        refine q (.ref y) H' as' _ (s4.adopt hid e3) ((m1.trans s3.mono0).trans (Mono.of (Ex.upd e4))) ?_
        simp only [rep]
        exact ⟨y, dx', vs', rfl, upd_same, hc, repf.mono (Mono.of (Ex.upd e4)) _ _ r3⟩
      · exact q.elim
    · exact q.elim
end
end Dl

set_option Elab.async false
set_option linter.all false
set_option maxRecDepth 100000
set_option maxHeartbeats 4000000
/-! == and != by an own __eq__ (no own __ne__). -/
namespace DlX
open PySem PySem.Spec PyProof.Rows PySem.SeqAt
section
variable {M : Model} {prog : Program} {w : World} {A : Around} {E : Value → Shared → Prop} {s : Shared} {K : PySem.W.Frag} {x C f L : Addr} {ox : Obj} {od : Option Obj} {b tb : Value} {h₀ : Heap} {m : Str → Option Value}
theorem ifBound_objNe {args : List Value} {Q : Option Value → Shared → Prop} (X : K.In s.heap) (I : PySem.W.InstAt s.heap x ox C od) (hs : PySem.W.findIn K (.ref C) "__ne__" = some (some (.builtin "object.__ne__")))
    (h : wpAny M A (call (.builtin "object.__ne__") (.ref x :: args)) (fun v => Q (some v)) E s) : wpAny M A (callSpecialIfBound? (.ref x) "__ne__" args) Q E s := by
  simp only [callSpecialIfBound?, bindSpecialIfBound?]
  refine wpAny_holding (wpAny_bind (wpAny_bind (wpAny_bind (I.type.here ((PySem.W.looks_findIn X hs).here ?_)))))
  refine wpAny_bind (wpAny_askSetting (wpAny_ite ?_))
  have fin : wpAny M A (call (.builtin "object.__ne__") ([.ref x] ++ args) >>= fun v => pure (some v)) Q E s := wpAny_bind (wpAny_mono h (fun v s' h' => wpAny_pure h') fun _ _ h' => h')
  split
  · exact wpAny_bind (wpAny_of_eq (F.cmp_object.ne.bind _) (wpAny_pure (by exact fin)))
  · exact wpAny_tryCatch (wpAny_bind (wpAny_of_eq (F.cmp_object.ne.bind _) (wpAny_pure (by exact fin))))
theorem objNe_entry {Q : Fin → Shared → Prop} (X : K.In s.heap) (I : PySem.W.InstAt s.heap x ox C od) (hs : PySem.W.findIn K (.ref C) "__eq__" = some (some (.ref f))) (hf : PySem.W.isFn K (.ref f) = true) (hu : A.units < cLine)
    (hcall : wpAny (model prog w) A (call (.ref f) [.ref x, b]) (fun v s' => ∃ k, v = .bool k ∧ Q (.done (.ret (.bool (!k)))) s') E s) :
    wpAny (model prog w) A (Builtin.«object.__ne__» ⟨[.ref x, b], []⟩) Q E s := by
  unfold Builtin.«object.__ne__»
  repeat (first
    | with_reducible refine wpAny_cRoomFor hu ?_
    | (refine wpAny_bind (m := callSpecialIfBound? (.ref x) (Str.ofString "__eq__") [b])
        (PySem.W.ifBound_K X I hs hf (wpAny_mono hcall (fun r s' hr => by
          obtain ⟨k, rfl, hq⟩ := hr
          repeat (first | exact hq | exact wpAny_pure hq | exact wpAny_truthy_bool hq | (refine wpAny_bind (m := truthy (.bool _)) (wpAny_truthy_bool ?_)) | wp_step)) fun _ _ e => e)))
    | wp_step)
theorem ne_K {Q : Value → Shared → Prop} (hu : A.units + 1 < cLine) (F : Fr h₀ L s.heap m) (X₀ : K.In h₀) (I : PySem.W.InstAt s.heap x ox C od) (hb : PySem.W.Looks (model prog w) s.heap (typeOf b) tb) (hn : PySem.W.notFirst K C tb = true) (hm : PySem.W.mroIn K C (.type "object") = some true)
    (hsn : PySem.W.findIn K (.ref C) "__ne__" = some (some (.builtin "object.__ne__"))) (hs : PySem.W.findIn K (.ref C) "__eq__" = some (some (.ref f))) (hf : PySem.W.isFn K (.ref f) = true)
    (h : wpAny (model prog w) A.in1 (call (.ref f) [.ref x, b]) (fun v s' => ∃ k, v = .bool k ∧ Q (.bool (!k)) s') E s) : wpAny (model prog w) A (richCompare .NotEq (.ref x) b) Q E s := by
  have X := X₀.keeps F.keep
  have one : wpAny (model prog w) A (tryCompare (.ref x) "__ne__" b) (fun r s' => ∃ v, r = some v ∧ Q v s') E s := by
    unfold tryCompare
    refine wpAny_bind (ifBound_objNe X I hsn (wpAny_call (codeAny_call_builtin PySem.F.cmp_object.ne.plain PySem.F.cmpEntry_ne (PySem.W.check_slot PySem.F.cmpKind_ne PySem.F.cmpSplit_ne (I.type.andThen (PySem.W.looks_mroIn X hm)) (PySem.F.cmpArgs_ne _ _)
      (objNe_entry X I hs hf hu (wpAny_mono h (fun v s' hv => ?_) fun _ _ e => e))))))
    obtain ⟨k, rfl, hq⟩ := hv
    exact ⟨k, rfl, wpAny_pure ⟨_, rfl, hq⟩⟩
  unfold richCompare
  simp only [oneThing_ref]
  refine wpAny_holding (wpAny_bind (wpAny_cRoomFor (Nat.lt_of_succ_lt hu) ?_))
  refine wpAny_bind (I.type.here (wpAny_bind (hb.here ?_)))
  split
  · rename_i q
    have e : PySem.W.subIn K tb (.ref C) = some false := by
      rcases Bool.or_eq_true_iff.mp hn with e | e
      · rw [beq_iff_eq.mp e] at q; simp at q
      · exact beq_iff_eq.mp e
    refine wpAny_bind ((PySem.W.looks_subIn X e).here ?_)
    simp only [Bool.false_eq_true, if_false]
    refine wpAny_bind (wpAny_mono one (fun r s' z => ?_) fun _ _ e => e)
    obtain ⟨v, rfl, hq⟩ := z
    exact wpAny_pure hq
  · refine wpAny_bind (wpAny_pure ?_)
    simp only [Bool.false_eq_true, if_false]
    refine wpAny_bind (wpAny_mono one (fun r s' z => ?_) fun _ _ e => e)
    obtain ⟨v, rfl, hq⟩ := z
    exact wpAny_pure hq
end
end DlX

namespace Dl
open PySem PySem.Spec PyProof.Rows L2
/-- == of instances: the class at C has the __eq__ at f -/
structure EqD (T : Tb) (P : Program) (w : World) (mg : Str → Option Value) (base : Heap) (k c : Nat) (Φ : Con) : Prop where
  ex : ∃ (fd : FuncData) (ps : List Str) (f : Addr), ps.length = 2 ∧ Binds T.K fd ps [] ∧ FnOk P w T.K mg base (L2.CX P w) k f fd ps (spD T 2 Φ) ∧ PySem.W.findIn T.K (.ref (T.cl c)) "__eq__" = some (some (.ref f)) ∧ PySem.W.isFn T.K (.ref f) = true
  ne : PySem.W.findIn T.K (.ref (T.cl c)) "__ne__" = some (some (.builtin "object.__ne__"))
  lt : c < T.nc
theorem EqD.mono {T : Tb} {P : Program} {w : World} {mg : Str → Option Value} {base : Heap} {k k' c : Nat} {Φ : Con} (F : EqD T P w mg base k c Φ) (h : k ≤ k') : EqD T P w mg base k' c Φ := by
  obtain ⟨⟨fd, ps, f, h1, h2, h3, h4, h5⟩, m, l⟩ := F
  exact ⟨⟨fd, ps, f, h1, h2, h3.mono h, h4, h5⟩, m, l⟩
theorem EqD.imp {T : Tb} {P : Program} {w : World} {mg : Str → Option Value} {base : Heap} {k c : Nat} {Φ Ψ : Con} (F : EqD T P w mg base k c Φ) (h : ∀ ds W, ds.length = 2 → Ψ ds W ≠ .stk → Φ ds W = Ψ ds W) : EqD T P w mg base k c Ψ := by
  obtain ⟨⟨fd, ps, f, h1, h2, h3, h4, h5⟩, m, l⟩ := F
  exact ⟨⟨fd, ps, f, h1, h2, h3.imp fun vs H Q E ⟨as, G, W, ds, s, r, l, p⟩ => ⟨as, G, W, ds, s, r, l, by rw [h ds W l fun z => by rw [z] at p; exact p]; exact p⟩, h4, h5⟩, m, l⟩
section
variable {X : Cx} {CX : CXT} {n : Nat} {C f : Addr} {fd : FuncData} {ps : List Str} {sp : Sp} {E : XK}
theorem run_at {pins : List (Addr × Obj)} {σ : L2.St} {H : Hp} {s : Shared} {A : Around} {Q : VK} {us : List Value} {ws : List V} (F : FnOk X.prog X.w X.K X.mg X.base CX n f fd ps sp) (hb : Binds X.K fd ps []) (hr : Room n A) (e0 : Env0 X.prog X.w X.K X.mg X.base A X.stack s H) (hx : Passes CX X E) (I : Inv X pins σ H s) (r : Vals ws us) (h : sp ws H Q E) :
    wpAny (model X.prog X.w) A (call (.ref f) us) (EP X pins σ Q) X.xe s := by
  have hl : us.length = ps.length := by rw [← r.length]; exact F.len _ _ _ _ h
  refine wpAny_call (codeAny_mono (F.run A X.stack s H ⟨us, []⟩ us ws Q E hr e0 (by
    have := hb s us I.kIn (by simpa using hl)
    simpa using this) r h) fun r s' hq => ?_)
  cases r with
  | error e => exact hx pins σ H s e s' I hq
  | ok fl =>
    cases fl with
    | ret u => exact I.after hq
    | next => exact False.elim hq
    | brk => exact False.elim hq
    | cont => exact False.elim hq
def rOwnEq (K : PySem.W.Frag) (C : Addr) (sp : Sp) (E : XK) : R2 := fun x y H Q => ∃ a dx fs b C' dy gs, x = .ref a ∧ y = .ref b ∧ H a = some (.ins C dx fs) ∧ H b = some (.ins C' dy gs) ∧ PySem.W.notFirst K C (.ref C') = true ∧ sp [x, y] H Q E
def rOwnNe (K : PySem.W.Frag) (C : Addr) (sp : Sp) (E : XK) : R2 := fun x y H Q => ∃ a dx fs b C' dy gs, x = .ref a ∧ y = .ref b ∧ H a = some (.ins C dx fs) ∧ H b = some (.ins C' dy gs) ∧ PySem.W.notFirst K C (.ref C') = true ∧ PySem.W.mroIn K C (.type "object") = some true ∧
  sp [x, y] H (fun v H' => ∃ k, v = .bl k ∧ Q (.bl (!k)) H') E
theorem op_ownEq (hs : PySem.W.findIn X.K (.ref C) "__eq__" = some (some (.ref f))) (hf : PySem.W.isFn X.K (.ref f) = true) (F : FnOk X.prog X.w X.K X.mg X.base CX n f fd ps sp) (hb : Binds X.K fd ps [])
    (hr : Room n X.A) (hx : Passes CX X E) : OpR X (compareOp .Eq) (rOwnEq X.K C sp E) := by
  intro pins s σ H x y v u Q I rx ry h
  obtain ⟨a, dx, vs, b, C', dy, ws, rfl, rfl, ha, hb', hn, q⟩ := h
  cases (show v = Value.ref a from rx)
  cases (show u = Value.ref b from ry)
  obtain ⟨mA, J, _⟩ := ins_get I.hok ha
  obtain ⟨mB, J', _⟩ := ins_get I.hok hb'
  obtain ⟨od, J, _⟩ := J.look
  obtain ⟨od', J', _⟩ := J'.look
  obtain ⟨m, hF⟩ := I.fr
  show wpAny _ _ (richCompare .Eq (.ref a) (.ref b)) _ _ s
  refine PySem.W.cmp_K (op := .Eq) (tb := .ref C') hr.units0 hF I.ok.mod.kin J J'.type hn hs hf ?_
  refine wpAny_mono (run_at (us := [Value.ref a, Value.ref b]) (ws := [V.ref a, V.ref b]) F hb hr I.env0 hx I (.cons rfl (.cons rfl .nil)) q) (fun w s' z => ?_) fun _ _ x => x
  obtain ⟨z', H', I', rz, qz⟩ := z
  exact SlX.cmpback rz ⟨z', H', I', rz, qz⟩
theorem op_ownNe (hs : PySem.W.findIn X.K (.ref C) "__eq__" = some (some (.ref f))) (hne : PySem.W.findIn X.K (.ref C) "__ne__" = some (some (.builtin "object.__ne__"))) (hf : PySem.W.isFn X.K (.ref f) = true) (F : FnOk X.prog X.w X.K X.mg X.base CX n f fd ps sp) (hb : Binds X.K fd ps [])
    (hr : Room (n + 1) X.A) (hx : Passes CX X E) : OpR X (compareOp .NotEq) (rOwnNe X.K C sp E) := by
  intro pins s σ H x y v u Q I rx ry h
  obtain ⟨a, dx, vs, b, C', dy, ws, rfl, rfl, ha, hb', hn, hm, q⟩ := h
  cases (show v = Value.ref a from rx)
  cases (show u = Value.ref b from ry)
  obtain ⟨mA, J, _⟩ := ins_get I.hok ha
  obtain ⟨mB, J', _⟩ := ins_get I.hok hb'
  obtain ⟨od, J, _⟩ := J.look
  obtain ⟨od', J', _⟩ := J'.look
  obtain ⟨m, hF⟩ := I.fr
  show wpAny _ _ (richCompare .NotEq (.ref a) (.ref b)) _ _ s
  refine DlX.ne_K (tb := .ref C') (hu_of hr) hF I.ok.mod.kin J J'.type hn hm hne hs hf ?_
  refine wpAny_mono (run_at (us := [Value.ref a, Value.ref b]) (ws := [V.ref a, V.ref b]) F hb hr.in1 I.env0.in1 hx I (.cons rfl (.cons rfl .nil)) q) (fun w s' z => ?_) fun _ _ x => x
  obtain ⟨z', H', I', rz, k, rfl, qz⟩ := z
  cases (show w = Value.bool k from rz)
  exact ⟨k, rfl, .bl (!k), H', I', rfl, qz⟩
end
section
variable {X : Cx} {T : Tb} {Wx : WX} {kk : Nat} {a b c e : Expr} {es rest : List Expr} {fa fb fc : Dn} {fA fr : DnA} {pos : Pos}
def dOwnEq (neg : Bool) (c : Nat) (Φ : Con) (fa fb : Dn) : Dn := fun ρ W => (fa ρ W).bind fun d ρ W => (fb ρ W).bind fun e ρ W => match d, e with
  | .obj c' fs, .obj d' gs => if c' = c then (match Φ [.obj c' fs, .obj d' gs] W with
    | .val (.bl k) W' => .val (.bl (if neg then !k else k)) ρ W'
    | _ => .stk) else .stk
  | _, _ => .stk
theorem cls_mro (ok : TbOk T) {c : Nat} (h : c < T.nc) (v : Value) : PySem.W.mroIn T.K (T.cl c) v = some ([Value.ref (T.cl c), .type "object"].contains v) := by
  have k := ok.co c h
  unfold PySem.W.mroIn
  have := k.mro
  cases q : PySem.W.clsIn T.K (T.cl c) with
  | none => rw [q] at this; cases this
  | some cd =>
    rw [q] at this
    simp only [Option.map_some, Option.some.injEq] at this
    simp only [Option.bind_some, this]
    rfl
theorem cls_first (ok : TbOk T) {c d : Nat} (h : c < T.nc) (h' : d < T.nc) : PySem.W.notFirst T.K (T.cl c) (.ref (T.cl d)) = true := by
  unfold PySem.W.notFirst
  by_cases e : d = c
  · subst e; simp
  · have ne : T.cl d ≠ T.cl c := fun z => e (ok.inj d c h' h z)
    have : PySem.W.subIn T.K (.ref (T.cl d)) (.ref (T.cl c)) = some false := by
      show PySem.W.mroIn T.K (T.cl d) (.ref (T.cl c)) = some false
      rw [cls_mro ok h']
      have h4 : (Value.ref (T.cl c) == Value.ref (T.cl d)) = false := beq_eq_false_iff_ne.mpr fun z => ne (Value.ref.inj z).symm
      simp only [List.contains_cons, h4, Bool.false_or]
      rfl
    rw [this]
    simp
theorem rd_ownEq (neg : Bool) {i : Nat} {Φ : Con} {r : R2} (ok : TbOk T) (hr : ∀ Z ρ W σ as G H x y fs d gs Q k W', StR T Z ρ W σ H as G → rep T as G (.obj i fs) x → rep T as G (.obj d gs) y → Φ [.obj i fs, .obj d gs] W = .val (.bl k) W' →
      (∀ H' as' G', StR T (bs H G as) [] W' [] H' as' G' → Q (.bl (if neg then !k else k)) H') → r x y H Q) :
    ∀ σ H Q, rd T Wx (dOwnEq neg i Φ fa fb) σ H Q → tOp r (rd T Wx fa) (rd T Wx fb) σ H Q := fun σ H Q h => by
  have h2 := rd_two (k := fun d e ρ W => match d, e with
    | .obj c' fs, .obj d' gs => if c' = i then (match Φ [.obj c' fs, .obj d' gs] W with
      | .val (.bl k) W' => .val (.bl (if neg then !k else k)) ρ W'
      | _ => .stk) else .stk
    | _, _ => .stk) h
  refine rd_mono h2 fun v H1 q1 => rd_mono q1 fun u H2 ⟨Z, ρ, W, as, G, d, e, s, r1, r2, p⟩ => ?_
  cases d <;> cases e <;> first | exact p.elim | skip
  rename_i c' fs d' gs
  dsimp only at p
  split at p
  · rename_i hc
    subst hc
    split at p
    · rename_i k W' e2
      exact hr Z ρ W σ as G H2 v u fs d' gs Q k W' s r1 r2 e2 fun H' as' G' s' => p _ H' as' G' (s.back s') s'.mono0 (by simp only [rep])
    · exact p.elim
  · exact p.elim
theorem se_ownEq {i : Nat} {Φ : Con} (h : Cok X T Wx (kk + 1)) (F : EqD T X.prog X.w X.mg X.base kk i Φ) (ha : SE X T Wx a fa) (hb : SE X T Wx b fb) (hm : behindInMarks .Eq b = false := by rfl) : SE X T Wx (.Compare a [.Eq] [b] pos) (dOwnEq false i Φ fa fb) := by
  obtain ⟨⟨fd, ps, f, h1, h2, h3, h4, h5⟩, m, l⟩ := F
  rw [h.K] at h2 h3 h4 h5
  refine PE.imp (pe_cmpR (op_ownEq (E := fun _ _ _ => False) h4 h5 h3 h2 (h.room.mono (Nat.le_succ _)) passL) ha hb hm) (rd_ownEq false h.ok fun Z ρ W σ as G H x y fs d gs Q k W' s r1 r2 e p => ?_)
  have r10 := r1
  have r20 := r2
  simp only [rep] at r1 r2
  obtain ⟨p1, dx, vs, rfl, q1, q2, q3⟩ := r1
  obtain ⟨p2, dy, us, rfl, q4, q5, q6⟩ := r2
  refine ⟨p1, dx, vs, p2, _, dy, us, rfl, rfl, s.sub _ _ q1, s.sub _ _ q4, by rw [← h.K]; exact cls_first h.ok q2 q5, as, G, W, _, s.enter (fun i sl h => by simp at h) (Nat.le_refl _), reps_cons r10 (reps_cons r20 reps_nil), rfl, ?_⟩
  rw [e]
  intro v H' as' G' s' rv
  simp only [rep] at rv
  subst rv
  exact p H' as' G' s'
theorem se_ownNe {i : Nat} {Φ : Con} (h : Cok X T Wx (kk + 1)) (F : EqD T X.prog X.w X.mg X.base kk i Φ) (ha : SE X T Wx a fa) (hb : SE X T Wx b fb) (hm : behindInMarks .NotEq b = false := by rfl) : SE X T Wx (.Compare a [.NotEq] [b] pos) (dOwnEq true i Φ fa fb) := by
  obtain ⟨⟨fd, ps, f, h1, h2, h3, h4, h5⟩, m, l⟩ := F
  rw [h.K] at h2 h3 h4 h5 m
  refine PE.imp (pe_cmpR (op_ownNe (E := fun _ _ _ => False) h4 m h5 h3 h2 h.room passL) ha hb hm) (rd_ownEq true h.ok fun Z ρ W σ as G H x y fs d gs Q k W' s r1 r2 e p => ?_)
  have r10 := r1
  have r20 := r2
  simp only [rep] at r1 r2
  obtain ⟨p1, dx, vs, rfl, q1, q2, q3⟩ := r1
  obtain ⟨p2, dy, us, rfl, q4, q5, q6⟩ := r2
  refine ⟨p1, dx, vs, p2, _, dy, us, rfl, rfl, s.sub _ _ q1, s.sub _ _ q4, by rw [← h.K]; exact cls_first h.ok q2 q5, by rw [← h.K, cls_mro h.ok l]; simp, as, G, W, _, s.enter (fun i sl h => by simp at h) (Nat.le_refl _), reps_cons r10 (reps_cons r20 reps_nil), rfl, ?_⟩
  rw [e]
  intro v H' as' G' s' rv
  simp only [rep] at rv
  subst rv
  exact ⟨k, rfl, p H' as' G' s'⟩
end
end Dl

set_option Elab.async false
set_option linter.all false
set_option maxRecDepth 100000
set_option maxHeartbeats 4000000
namespace Dl
open PySem PySem.Spec PyProof.Rows L2

/-! ### dicts, keys ints and texts -/
def valD (kvs : List (Key × D)) (k : Key) : Option D := (kvs.find? fun kv => decide (kv.1 = k)).map (·.2)
def putD (kvs : List (Key × D)) (k : Key) (v : D) : List (Key × D) :=
  if (kvs.any fun kv => decide (kv.1 = k)) = true then kvs.map (fun kv => if kv.1 = k then (kv.1, v) else kv) else kvs ++ [(k, v)]
def toK : D → Option Key
  | .int i => some (.inl i)
  | .str s => some (.inr s)
  | _ => none
section
variable {T : Tb} {as : List Addr} {G : Hp}
theorem toK_rep {d : D} {v : V} {k : Key} (h : toK d = some k) (r : rep T as G d v) : v = kV k := by
  cases d <;> simp only [toK] at h <;> cases h <;> simp only [rep] at r <;> exact r
theorem repk.val {k : Key} : ∀ {ds : List (Key × D)} {vs : List (Key × V)} {d : D}, repk T as G ds vs → valD ds k = some d → ∃ v, valV vs k = some v ∧ rep T as G d v
  | [], vs, d, h, e => by simp [valD] at e
  | (x, c) :: ds, vs, d, h, e => by
    simp only [repk] at h
    obtain ⟨v, vr, rfl, r, q⟩ := h
    by_cases hx : x = k
    · subst hx
      simp [valD] at e
      subst e
      exact ⟨v, by simp [valV], r⟩
    · have e2 : valD ds k = some d := by simpa [valD, List.find?_cons, hx] using e
      obtain ⟨u, h1, h2⟩ := repk.val q e2
      exact ⟨u, by simpa [valV, List.find?_cons, hx] using h1, h2⟩
theorem repk.no {k : Key} : ∀ {ds : List (Key × D)} {vs : List (Key × V)}, repk T as G ds vs → valD ds k = none → valV vs k = none
  | [], vs, h, e => by simp only [repk] at h; subst h; rfl
  | (x, c) :: ds, vs, h, e => by
    simp only [repk] at h
    obtain ⟨v, vr, rfl, r, q⟩ := h
    by_cases hx : x = k
    · subst hx; simp [valD] at e
    · have e2 : valD ds k = none := by simpa [valD, List.find?_cons, hx] using e
      have := repk.no q e2
      simpa [valV, List.find?_cons, hx] using this
theorem repk.any {p : Key → Bool} : ∀ {ds : List (Key × D)} {vs : List (Key × V)}, repk T as G ds vs → (ds.any fun kv => p kv.1) = (vs.any fun kv => p kv.1)
  | [], vs, h => by simp only [repk] at h; subst h; rfl
  | (x, c) :: ds, vs, h => by
    simp only [repk] at h
    obtain ⟨v, vr, rfl, r, q⟩ := h
    simp only [List.any_cons]
    rw [repk.any q]
theorem repk.app : ∀ {ds es : List (Key × D)} {vs us : List (Key × V)}, repk T as G ds vs → repk T as G es us → repk T as G (ds ++ es) (vs ++ us)
  | [], es, vs, us, h, q => by simp only [repk] at h; subst h; exact q
  | (x, c) :: ds, es, vs, us, h, q => by
    simp only [repk] at h
    obtain ⟨v, vr, rfl, r, q2⟩ := h
    exact repk_cons r (repk.app q2 q)
theorem repk.mapPut {k : Key} {d : D} {v : V} (r : rep T as G d v) : ∀ {ds : List (Key × D)} {vs : List (Key × V)}, repk T as G ds vs → repk T as G (ds.map fun kv => if kv.1 = k then (kv.1, d) else kv) (vs.map fun kv => if kv.1 = k then (kv.1, v) else kv)
  | [], vs, h => by simp only [repk] at h; subst h; exact repk_nil
  | (x, c) :: ds, vs, h => by
    simp only [repk] at h
    obtain ⟨u, vr, rfl, r1, q⟩ := h
    simp only [List.map_cons]
    by_cases hx : x = k
    · simp only [hx, if_true]
      exact repk_cons r (repk.mapPut r q)
    · simp only [hx, if_false]
      exact repk_cons r1 (repk.mapPut r q)
theorem repk.put {k : Key} {d : D} {v : V} {ds : List (Key × D)} {vs : List (Key × V)} (h : repk T as G ds vs) (r : rep T as G d v) : repk T as G (putD ds k d) (putK vs k v) := by
  unfold putD putK
  rw [repk.any (p := fun x => decide (x = k)) h]
  split
  · exact h.mapPut r
  · exact h.app (repk_cons r repk_nil)
end

/-! ### the store -/
section
variable {T : Tb} {Z : Bs} {ρ : Env} {W : Sto} {σ : L2.St} {H H' : Hp} {as as' : List Addr} {G G' : Hp} {p : Addr} {o : HO}
theorem StR.chMO (r : StR T Z ρ W σ H as G) {n : Nat} {m m' : MO} {a : Addr} (hw : W[n]? = some m) (ha : as[n]? = some a) (hm : MOR T as G (upd H a o) a m') : StR T Z ρ (W.set n m') σ (upd H a o) as G := by
  have hmem : a ∈ as := List.mem_of_getElem? ha
  obtain ⟨hG, hMO⟩ := r.sto n m a hw ha
  have hnl : n < W.length := (List.getElem?_eq_some_iff.mp hw).1
  refine ⟨fun b u e => ?_, fun i sl e => ?_, r.own, by rw [List.length_set]; exact r.len, r.nd, fun k mm b h1 h2 => ?_, r.ownas, fun b u h n' => ?_, r.ownfr, r.new, r.pre, r.asnew, r.exG, r.ln⟩
  · rw [upd_ne fun z => by rw [z, hG] at e; cases e]; exact r.sub b u e
  · refine (r.slot i sl e).mono (Mono.refl _ _) fun b u h1 h2 h3 h4 => ⟨?_, h4⟩
    rw [upd_ne fun z => r.ownas i b ⟨⟨sl, e, h2⟩, h1⟩ (by rw [z]; exact hmem)]
    exact h3
  · by_cases hk : n = k
    · subst hk
      rw [List.getElem?_set_self hnl] at h1
      cases h1
      rw [ha] at h2
      cases h2
      exact ⟨hG, hm⟩
    · rw [List.getElem?_set_ne hk] at h1
      obtain ⟨g, q⟩ := r.sto k mm b h1 h2
      refine ⟨g, q.mono (Mono.refl _ _) ?_⟩
      rw [upd_ne fun z => ?_]
      subst z
      have h3 := (List.getElem?_eq_some_iff.mp ha)
      have h4 := (List.getElem?_eq_some_iff.mp h2)
      obtain ⟨l3, e3⟩ := h3
      obtain ⟨l4, e4⟩ := h4
      exact hk ((List.getElem_inj r.nd).mp (e3.trans e4.symm))
  · rw [upd_ne fun z => n' (by
      rw [z] at h ⊢
      rcases r.asnew a hmem with q | q
      · exact q
      · rw [q] at h; cases h)]
    exact r.fr b u h n'
theorem MOR.asmono {m : MO} {a : Addr} (x : Mono as G as' G') (h : MOR T as G H a m) : MOR T as' G' H a m := h.mono x rfl
/-- something hidden joins the store -/
theorem StR.newMO (r : StR T Z ρ W σ H as G) {m : MO} (h : Hid Z ρ σ as G p) (hm : MOR T as G H p m) : StR T Z ρ (W ++ [m]) σ H (as ++ [p]) G ∧ Mono as G (as ++ [p]) G := by
  have mm : Mono as G (as ++ [p]) G := ⟨List.prefix_append _ _, Ex.refl _⟩
  refine ⟨⟨r.sub, fun i sl e => (r.slot i sl e).mono mm fun b u _ _ h3 h4 => ⟨h3, h4⟩, r.own, by simp [r.len], ?_, fun k mo b h1 h2 => ?_, fun i b o => ?_, fun b u h n' => r.fr b u h n', r.ownfr, r.new, r.pre.trans mm.as, fun b hb => ?_, r.exG, r.ln⟩, mm⟩
  · refine List.nodup_append.mpr ⟨r.nd, by simp, fun x hx y hy => ?_⟩
    simp at hy
    subst hy
    exact fun z => h.a (by rw [← z]; exact hx)
  · by_cases hk : k < W.length
    · rw [List.getElem?_append_left hk] at h1
      rw [List.getElem?_append_left (by rw [r.len]; exact hk)] at h2
      obtain ⟨g, q⟩ := r.sto k mo b h1 h2
      exact ⟨g, q.asmono mm⟩
    · rw [List.getElem?_append_right (by omega)] at h1
      rw [List.getElem?_append_right (by rw [r.len]; omega), r.len] at h2
      cases e : k - W.length with
      | zero =>
        rw [e] at h1 h2
        cases h1; cases h2
        exact ⟨h.g, hm.asmono mm⟩
      | succ j => rw [e] at h1; simp at h1
  · intro hb
    rcases List.mem_append.mp hb with hb | hb
    · exact r.ownas i b o hb
    · simp at hb
      subst hb
      exact h.o i o
  · rcases List.mem_append.mp hb with hb | hb
    · exact r.asnew b hb
    · simp at hb
      subst hb
      exact .inr h.z
end
section
variable {X : Cx} {T : Tb} {Wx : WX} {kk : Nat} {a b c e : Expr} {es rest : List Expr} {fa fb fc : Dn} {fA fr : DnA} {pos : Pos}
def gDGet (W : Sto) (d k : D) : Option D := match toK k with
  | none => none
  | some k => match d with
    | .dct kvs => valD kvs k
    | .ref n => (match W[n]? with
      | some (.dct kvs) => valD kvs k
      | _ => none)
    | _ => none
theorem pop_dget : POp T (fun x y H Q => ∃ a v, x = .ref a ∧ DGet H a y (some v) ∧ Q v H) gDGet := by
  intro Z ρ W σ as G H x y d e z Q s rx ry hz k
  unfold gDGet at hz
  split at hz
  · cases hz
  · rename_i kk hk
    have ey := toK_rep hk ry
    subst ey
    split at hz
    · rename_i kvs
      simp only [rep] at rx
      obtain ⟨p, vs, rfl, h1, h2⟩ := rx
      obtain ⟨v, h3, h4⟩ := h2.val hz
      exact ⟨p, v, rfl, by rw [← h3]; exact .k (s.sub _ _ h1), k _ H G (Alloc.refl G H) h4⟩
    · split at hz
      · rename_i kvs hw
        simp only [rep] at rx
        obtain ⟨p, rfl, h1⟩ := rx
        obtain ⟨_, vs, h2, h3⟩ := s.sto _ _ p hw h1
        obtain ⟨v, h4, h5⟩ := h3.val hz
        exact ⟨p, v, rfl, by rw [← h4]; exact .k h2, k _ H G (Alloc.refl G H) h5⟩
      · cases hz
    · cases hz
theorem se_dget (h : Cok X T Wx kk) (ha : SE X T Wx a fa) (hb : SE X T Wx b fb) (hs : NoSl b := by exact fun _ _ => rfl) : SE X T Wx (.Subscript a b pos) (dOp2 gDGet fa fb) :=
  PE.imp (pe_dget (hu_of h.room) ha hb hs) (rd_op2 pop_dget)
/-- d[k] = v, d a dict of the store -/
def sDPutD (fd fk fv : Dn) : Ds := fun ρ W => (fv ρ W).bindS fun v ρ W => (fd ρ W).bindS fun d ρ W => (fk ρ W).bindS fun k ρ W => match d, toK k with
  | .ref n, some k => (match W[n]? with
    | some (.dct kvs) => if kvs.length < 16777216 then .nx ρ (W.set n (.dct (putD kvs k v))) else .stk
    | _ => .stk)
  | _, _ => .stk
theorem ss_dput {pos' : Pos} (h : Cok X T Wx kk) (ha : SE X T Wx a fa) (hb : SE X T Wx b fb) (hv : SE X T Wx e fc) (hs : swapsWith e (some (.Subscript a b pos')) pos.line X.env = pure false := by rfl) : SS X T Wx (.Assign [.Subscript a b pos'] e pos) (sDPutD fa fb fc) := by
  refine PS.imp (ps_dput (hu_of h.room) ha hb hv hs) fun D σ H ⟨Z, ρ, W, as, G, s, p⟩ => ⟨Z, ρ, W, as, G, s, ?_⟩
  unfold sDPutD at p
  cases e1 : fc ρ W with
  | exc c fs ρ1 W1 => rw [e1] at p; exact p σ
  | stk => rw [e1] at p; exact p
  | val dv ρ1 W1 =>
    rw [e1] at p
    simp only [Res.bindS_val] at p
    refine fun v H1 as1 G1 s1 m1 r1 => ⟨Z, ρ1, W1, as1, G1, s1, ?_⟩
    cases e2 : fa ρ1 W1 with
    | exc c fs ρ1 W1 => rw [e2] at p; exact PostX.mono m1 (p σ)
    | stk => rw [e2] at p; exact p
    | val dd ρ2 W2 =>
      rw [e2] at p
      simp only [Res.bindS_val] at p
      refine fun x H2 as2 G2 s2 m2 r2 => ⟨Z, ρ2, W2, as2, G2, s2, ?_⟩
      cases e3 : fb ρ2 W2 with
      | exc c fs ρ1 W1 => rw [e3] at p; exact PostX.mono (m1.trans m2) (p σ)
      | stk => rw [e3] at p; exact p
      | val dk ρ3 W3 =>
        rw [e3] at p
        simp only [Res.bindS_val] at p
        intro y H3 as3 G3 s3 m3 r3
        split at p
        · rename_i n k hk
          have ey := toK_rep hk r3
          subst ey
          split at p
          · rename_i kvs hw
            split at p
            · rename_i hl
              have r2' := rep.mono m3 _ _ r2
              simp only [rep] at r2'
              obtain ⟨q, rfl, h1⟩ := r2'
              obtain ⟨_, vs, h2, h3⟩ := s3.sto n _ q hw h1
              refine ⟨q, _, rfl, DPut.k h2 (by rw [h3.length]; exact Nat.lt_of_lt_of_le hl (szl (Nat.le_refl _))), p _ _ as3 G3 (s3.chMO hw h1 ⟨_, upd_same, h3.put (rep.mono (m2.trans m3) _ _ r1)⟩) ((m1.trans m2).trans m3)⟩
            · exact p.elim
          · exact p.elim
        · exact p.elim

/-! ### displays of dicts -/
/-- the pairs, from the left; none where one of them does not end with a value -/
def prL : List (Dn × Dn) → Env → Sto → Option (List (Key × D) × Sto)
  | [], _, W => some ([], W)
  | (fk, fv) :: r, ρ, W => match fk ρ W with
    | .val k ρ1 W1 => (match toK k with
      | none => none
      | some k => (match fv ρ1 W1 with
        | .val d ρ2 W2 => (match prL r ρ2 W2 with
          | some (kvs, W3) => some ((k, d) :: kvs, W3)
          | none => none)
        | _ => none))
    | _ => none
def mergeD (kvs more : List (Key × D)) : List (Key × D) := more.foldl (fun acc kv => putD acc kv.1 kv.2) kvs
theorem repk.merge {T : Tb} {as : List Addr} {G : Hp} : ∀ {es : List (Key × D)} {us : List (Key × V)} {ds : List (Key × D)} {vs : List (Key × V)}, repk T as G es us → repk T as G ds vs → repk T as G (mergeD ds es) (mergeK vs us)
  | [], us, ds, vs, h, q => by simp only [repk] at h; subst h; exact q
  | (x, c) :: es, us, ds, vs, h, q => by
    simp only [repk] at h
    obtain ⟨v, vr, rfl, r, q2⟩ := h
    show repk T as G (mergeD (putD ds x c) es) (mergeK (putK vs x v) vr)
    exact repk.merge q2 (q.put r)
theorem pr_run {T : Tb} {Wx : WX} {σ : L2.St} {Q : List (V × V) → Hp → Prop} {Z : Bs} : ∀ {ps : List (Dn × Dn)} {ρ : Env} {W W' : Sto} {H : Hp} {as : List Addr} {G : Hp} {kvs : List (Key × D)}, StR T Z ρ W σ H as G → prL ps ρ W = some (kvs, W') →
    (∀ vs H' as' G' ρ', StR T Z ρ' W' σ H' as' G' → Mono as G as' G' → repk T as' G' kvs vs → Q (vs.map fun kv => (kV kv.1, kv.2)) H') → tPairs (ps.map fun p => (rd T Wx p.1, rd T Wx p.2)) σ H Q
  | [], ρ, W, W', H, as, G, kvs, s, e, k => by
    simp only [prL, Option.some.injEq, Prod.mk.injEq] at e
    obtain ⟨rfl, rfl⟩ := e
    exact k [] H as G ρ s (Mono.refl _ _) repk_nil
  | (fk, fv) :: r, ρ, W, W', H, as, G, kvs, s, e, k => by
    simp only [prL] at e
    split at e
    · rename_i dk ρ1 W1 e1
      split at e
      · cases e
      · rename_i key hk
        split at e
        · rename_i dv ρ2 W2 e2
          split at e
          · rename_i kvs' W3 e3
            cases e
            refine ⟨Z, ρ, W, as, G, s, ?_⟩
            dsimp only
            rw [e1]
            refine fun x H1 as1 G1 s1 m1 r1 => ⟨Z, ρ1, W1, as1, G1, s1, ?_⟩
            rw [e2]
            refine fun y H2 as2 G2 s2 m2 r2 => ?_
            have ex := toK_rep hk r1
            subst ex
            exact pr_run s2 e3 fun vs H' as' G' ρ' s' m' r' => k ((key, y) :: vs) H' as' G' ρ' s' ((m1.trans m2).trans m') (repk_cons (rep.mono m' _ _ r2) r')
          · cases e
        · cases e
    · cases e
structure SPr (X : Cx) (T : Tb) (Wx : WX) (pos : Pos) (keys : List (Option Expr)) (values : List Expr) (ps : List (Dn × Dn)) : Prop where
  pps : PPs X pos keys values (ps.map fun p => (rd T Wx p.1, rd T Wx p.2))
theorem spr_nil : SPr X T Wx pos [] [] [] := ⟨pps_nil⟩
theorem spr_cons {k v : Expr} {ks : List (Option Expr)} {vs : List Expr} {ps : List (Dn × Dn)} (hk : SE X T Wx k fa) (hv : SE X T Wx v fb) (hr : SPr X T Wx pos ks vs ps) : SPr X T Wx pos (some k :: ks) (v :: vs) ((fa, fb) :: ps) := ⟨pps_cons hk hv hr.pps⟩
def dDispV (ps : List (Dn × Dn)) : Dn := fun ρ W => match prL ps (ρ.map hide) W with
  | some (kvs, W') => .val (.dct (mergeD [] kvs)) ρ W'
  | none => .stk
def dDispS (ps : List (Dn × Dn)) : Dn := fun ρ W => match prL ps (ρ.map hide) W with
  | some (kvs, W') => .val (.ref W'.length) ρ (W' ++ [.dct (mergeD [] kvs)])
  | none => .stk
theorem prL_len : ∀ {ps : List (Dn × Dn)} {ρ : Env} {W : Sto} {r : List (Key × D) × Sto}, prL ps ρ W = some r → r.1.length = ps.length
  | [], ρ, W, r, e => by simp only [prL, Option.some.injEq] at e; subst e; rfl
  | (fk, fv) :: ps, ρ, W, r, e => by
    simp only [prL] at e
    split at e
    · split at e
      · cases e
      · split at e
        · split at e
          · rename_i e3
            cases e
            have := prL_len e3
            simpa using this
          · cases e
        · cases e
    · cases e
theorem disp_run {ps : List (Dn × Dn)} {Z : Bs} {ρ : Env} {W W' : Sto} {σ : L2.St} {H : Hp} {as : List Addr} {G : Hp} {kvs : List (Key × D)} {Q : VK} (s : StR T Z ρ W σ H as G) (h15 : ps.length ≤ 15) (e : prL ps (ρ.map hide) W = some (kvs, W'))
    (k : ∀ p vs H' as' G', StR T Z ρ W' σ H' as' G' → Mono as G as' G' → Hid Z ρ σ as' G' p → H' p = some (.dK vs) → repk T as' G' (mergeD [] kvs) vs → Q (.ref p) H') : tDisp (ps.map fun p => (rd T Wx p.1, rd T Wx p.2)) σ H Q := by
  intro p hp
  have s1 : StR T Z ρ W σ (upd H p (.dK [])) as G := s.alloc (Alloc.hid hp)
  have hid1 := s.hid hp
  refine pr_run s1.hideAll e fun vs H' as' G' ρ' s' m' r' => ?_
  obtain ⟨h1, h2⟩ := hid1.back upd_same s'
  refine ⟨h1, vs, rfl, by rw [r'.length, prL_len e]; exact h15, ?_⟩
  exact k p _ _ as' G' ((s1.back s').hidUpd h2) m' h2 upd_same (r'.merge repk_nil)
theorem se_dispV {keys : List (Option Expr)} {values : List Expr} {ps : List (Dn × Dn)} (hp : SPr X T Wx pos keys values ps) (hall : keys.all (·.isSome) = true := by rfl) (hl : keys.length = values.length := by rfl) (h0 : keys ≠ [] := by simp) (h15 : keys.length ≤ 15 := by decide) (h15' : ps.length ≤ 15 := by simp) :
    SE X T Wx (.Dict keys values pos) (dDispV ps) := by
  refine PE.imp (pe_disp hp.pps hall hl h0 h15) fun σ H Q ⟨Z, ρ, W, as, G, s, q⟩ => ?_
  unfold dDispV at q
  cases e : prL ps (ρ.map hide) W with
  | none => rw [e] at q; exact q.elim
  | some r =>
    obtain ⟨kvs, W'⟩ := r
    rw [e] at q
    refine disp_run s h15' e fun p vs H' as' G' s' m' hid hv r' => ?_
    refine q (.ref p) H' as' _ (s'.adopt hid hv) (m'.trans (Mono.of (Ex.upd hid.g))) ?_
    simp only [rep]
    exact ⟨p, vs, rfl, upd_same, repk.mono (Mono.of (Ex.upd hid.g)) _ _ r'⟩
theorem se_dispS {keys : List (Option Expr)} {values : List Expr} {ps : List (Dn × Dn)} (hp : SPr X T Wx pos keys values ps) (hall : keys.all (·.isSome) = true := by rfl) (hl : keys.length = values.length := by rfl) (h0 : keys ≠ [] := by simp) (h15 : keys.length ≤ 15 := by decide) (h15' : ps.length ≤ 15 := by simp) :
    SE X T Wx (.Dict keys values pos) (dDispS ps) := by
  refine PE.imp (pe_disp hp.pps hall hl h0 h15) fun σ H Q ⟨Z, ρ, W, as, G, s, q⟩ => ?_
  unfold dDispS at q
  cases e : prL ps (ρ.map hide) W with
  | none => rw [e] at q; exact q.elim
  | some r =>
    obtain ⟨kvs, W'⟩ := r
    rw [e] at q
    refine disp_run s h15' e fun p vs H' as' G' s' m' hid hv r' => ?_
    obtain ⟨s2, m2⟩ := s'.newMO (m := .dct (mergeD [] kvs)) hid ⟨vs, hv, r'⟩
    refine q (.ref p) H' _ G' s2 (m'.trans m2) ?_
    simp only [rep]
    refine ⟨p, rfl, ?_⟩
    rw [← s'.len, List.getElem?_append_right (Nat.le_refl _), Nat.sub_self]
    rfl
end
end Dl

set_option Elab.async false
set_option linter.all false
set_option maxRecDepth 100000
set_option maxHeartbeats 4000000
namespace Dl
open PySem PySem.Spec PyProof.Rows L2

/-! ### dict comprehensions, the dict a value -/
def dcL (bn : Bn) (ft fk fv : Dn) (ρb : Env) : List D → Sto → List (Key × D) → Option (List (Key × D) × Sto)
  | [], W, acc => some (acc, W)
  | d :: ds, W, acc => match bn d ρb with
    | none => none
    | some ρ1 => match ft ρ1 W with
      | .val t ρ2 W2 => match tru W2 t with
        | some true => match fk ρ2 W2 with
          | .val k ρ3 W3 => (match toK k with
            | none => none
            | some k => (match fv ρ3 W3 with
              | .val x _ W4 => dcL bn ft fk fv ρb ds W4 (putD acc k x)
              | _ => none))
          | _ => none
        | some false => dcL bn ft fk fv ρb ds W2 acc
        | none => none
      | _ => none
def dDc (vs : List Nat) (fi : DnA) (bn : Bn) (ft fk fv : Dn) : Dn := fun ρ W => match fi ρ W with
  | .val ds ρ1 W1 => if ds.length < 16777216 then (match dcL bn ft fk fv (blkE ρ1 vs) ds W1 [] with
    | some (acc, W2) => .val (.dct acc) ρ1 W2
    | none => .stk) else .stk
  | .exc c fs ρ W => .exc c fs ρ W
  | .stk => .stk
theorem putD_len (kvs : List (Key × D)) (k : Key) (v : D) : (putD kvs k v).length ≤ kvs.length + 1 := by
  unfold putD
  split <;> simp
section
variable {X : Cx} {T : Tb} {Wx : WX} {kk : Nat} {a b c e : Expr} {es rest : List Expr} {fa fb fc : Dn} {fA fr : DnA} {pos : Pos}
theorem dc_loop {vs : List Nat} {bn : Bn} {ft fk fv : Dn} {σb τ : L2.St} {J : It} {H0 : Hp} {Z : Bs} {ρb : Env} {W0s W2 : Sto} {as0 : List Addr} {G0 : Hp} {ds : List D} {ac0 acc : List (Key × D)} {va0 : List (Key × V)} {D : Addr} {Fin : Hp → Prop}
    (hτ : wipe σb vs = τ) (s0 : StR T Z ρb W0s σb H0 as0 G0) (now : ∀ (i : Nat) (sl : Slot), ρb[i]? = some sl → sl.isOw = false) (hid0 : Hid Z ρb σb as0 G0 D) (hD0 : H0 D = some (.dK va0)) (ra0 : repk T as0 G0 ac0 va0) (wd : WalkD T J as0 G0 ds)
    (hlt : ac0.length + ds.length < 16777216) (hrun : dcL bn ft fk fv ρb ds W0s ac0 = some (acc, W2))
    (hF : ∀ va H' as' G', StR T Z ρb W2 σb H' as' G' → Mono as0 G0 as' G' → Hid Z ρb σb as' G' D → H' D = some (.dK va) → repk T as' G' acc va → Fin H') :
    ∃ W : Nat → Nat → Hp → Prop, (∃ m, W 0 m H0) ∧ ∀ i m H, W i m H →
      (J.stop i H ∧ Fin H) ∨ (J.go i H ∧ ∃ Nx : Hp → Prop, (∀ H', Nx H' → ∃ m', m' < m ∧ W (i + 1) m' H') ∧ ∀ x H', J.yld i H x H' → rdG T vs bn x σb H' fun σ2 H2 => wipe σ2 vs = τ ∧ rdT T W0 ft σ2 H2 fun b H3 =>
        if b = true then rd T W0 fk σ2 H3 fun y H4 => rd T W0 fv σ2 H4 fun z H5 => ∃ kvs k, y = kV k ∧ H5 D = some (.dK kvs) ∧ kvs.length < sizeLine ∧ Nx (upd H5 D (.dK (putK kvs k z))) else Nx H3) := by
  refine ⟨fun i m H => m = ds.length - i ∧ i ≤ ds.length ∧ ∃ W as2 G2 ac va, StR T Z ρb W σb H as2 G2 ∧ Mono as0 G0 as2 G2 ∧ Hid Z ρb σb as2 G2 D ∧ H D = some (.dK va) ∧ repk T as2 G2 ac va ∧ ac.length ≤ ac0.length + i ∧ dcL bn ft fk fv ρb (ds.drop i) W ac = some (acc, W2),
    ⟨ds.length, by simp, Nat.zero_le _, W0s, as0, G0, ac0, va0, s0, Mono.refl _ _, hid0, hD0, ra0, Nat.le_refl _, by simpa using hrun⟩, ?_⟩
  rintro i m H ⟨rfl, hle, W, as2, G2, ac, va, s2, mm, hid, hva, rva, hal, hrun2⟩
  by_cases hi : i < ds.length
  · have hd : ds.drop i = ds[i] :: ds.drop (i + 1) := List.drop_eq_getElem_cons hi
    rw [hd] at hrun2
    simp only [dcL] at hrun2
    refine .inr ⟨wd.go i H (mm.ex.trans s2.sub) hi, fun H' => i + 1 ≤ ds.length ∧ ∃ W as2 G2 ac va, StR T Z ρb W σb H' as2 G2 ∧ Mono as0 G0 as2 G2 ∧ Hid Z ρb σb as2 G2 D ∧ H' D = some (.dK va) ∧ repk T as2 G2 ac va ∧ ac.length ≤ ac0.length + (i + 1) ∧ dcL bn ft fk fv ρb (ds.drop (i + 1)) W ac = some (acc, W2),
      fun H' n' => ⟨ds.length - (i + 1), by omega, rfl, n'⟩, fun x H' y => ?_⟩
    obtain ⟨G3, d, al, hdi, rx⟩ := wd.yld i x H H' as2 G2 mm s2.sub hi y
    rw [List.getElem?_eq_getElem hi] at hdi
    cases hdi
    have s3 := s2.alloc al
    obtain ⟨hva3, hid3⟩ := hid.alloc hva al
    have s3' := s3.again now
    have mal : Mono as2 G2 as2 G3 := Mono.of al.g
    split at hrun2
    · cases hrun2
    · rename_i ρ4 e4
      refine ⟨_, ρb, W, as2, G3, ds[i], s3', rx, ρ4, e4, fun σ4 s4 hw4 => ⟨hw4.trans hτ, ?_⟩⟩
      refine ⟨_, ρ4, W, as2, G3, s4, ?_⟩
      split at hrun2
      · rename_i t ρ5 W5 e5
        rw [e5]
        split at hrun2
        · rename_i h6
          refine ⟨true, h6, fun H5 as5 G5 s5 m5 => ?_⟩
          dsimp only
          rw [if_pos rfl]
          refine ⟨_, ρ5, W5, as5, G5, s5, ?_⟩
          split at hrun2
          · rename_i x7 ρ7 W7 e7
            rw [e7]
            intro v H7 as7 G7 s7 m7 r7
            split at hrun2
            · cases hrun2
            · rename_i key hk
              refine ⟨_, ρ7, W7, as7, G7, s7, ?_⟩
              split at hrun2
              · rename_i x9 ρ9 W9 e9
                rw [e9]
                intro u H9 as9 G9 s9 m9 r9
                obtain ⟨hva9, hid9⟩ := hid3.back hva3 s9
                have s10 := s3.back s9
                have l := rva.length
                refine ⟨va, key, toK_rep hk r7, hva9, by rw [l]; exact Nat.lt_of_lt_of_le (by omega) (szl (Nat.le_refl _)), hi, W9, as9, G9, putD ac key x9, putK va key u, s10.hidUpd hid9, mm.trans (mal.trans s9.mono0), hid9, upd_same, ?_, ?_, hrun2⟩
                · exact (repk.mono (mal.trans s9.mono0) _ _ rva).put r9
                · have := putD_len ac key x9
                  omega
              · cases hrun2
          · cases hrun2
        · rename_i h6
          refine ⟨false, h6, fun H5 as5 G5 s5 m5 => ?_⟩
          dsimp only
          rw [if_neg Bool.false_ne_true]
          obtain ⟨hva7, hid7⟩ := hid3.back hva3 s5
          exact ⟨hi, W5, as5, G5, ac, va, s3.back s5, mm.trans (mal.trans s5.mono0), hid7, hva7, repk.mono (mal.trans s5.mono0) _ _ rva, by omega, hrun2⟩
        · cases hrun2
      · cases hrun2
  · have e : i = ds.length := by omega
    subst e
    rw [List.drop_length] at hrun2
    cases hrun2
    exact .inl ⟨wd.stop H (mm.ex.trans s2.sub), hF va H as2 G2 s2 mm hid hva rva⟩
theorem se_dc {kx vx tg iter : Expr} {ifs : List Expr} {scope : Scope} {own : List (Str × Nat)} {fi : DnA} {bn : Bn} {ft fk fv : Dn} (h : Cok X T Wx kk) (hi : SI X T Wx tg iter fi) (ok : BlkOk X.N X.env.scope scope own)
    (hg : ∀ (s : Shared) (H : Hp) (C : Addr) (cl : List (Str × Addr)) (fp : List Addr), SG (X.blk s H scope (compEnvC scope cl C X.env) fp) T tg (own.map (·.2)) bn) (ht : ∀ (s : Shared) (H : Hp) (C : Addr) (cl : List (Str × Addr)) (fp : List Addr), STs (X.blk s H scope (compEnvC scope cl C X.env) fp) T W0 ifs ft)
    (hk : ∀ (s : Shared) (H : Hp) (C : Addr) (cl : List (Str × Addr)) (fp : List Addr), SE (X.blk s H scope (compEnvC scope cl C X.env) fp) T W0 kx fk)
    (he : ∀ (s : Shared) (H : Hp) (C : Addr) (cl : List (Str × Addr)) (fp : List Addr), SE (X.blk s H scope (compEnvC scope cl C X.env) fp) T W0 vx fv) (hs : ∀ x, foldedSetIterable iter X.env x = pure x := by intro _; rfl) :
    SE X T Wx (.DictComp kx vx [⟨tg, iter, ifs, 0⟩] scope pos) (dDc (own.map (·.2)) fi bn ft fk fv) := by
  refine PE.imp (pe_dc h.calm h.nd hi ok hg ht hk he hs) fun σ H Q ⟨Z, ρ, W, as, G, s, p⟩ => ⟨Z, ρ, W, as, G, s, ?_⟩
  unfold dDc at p
  cases e1 : fi ρ W with
  | exc c fs ρ1 W1 => rw [e1] at p; exact p
  | stk => rw [e1] at p; exact p
  | val ds ρ1 W1 =>
    rw [e1] at p
    dsimp only at p
    intro J H1 as1 G1 s1 m1 wd
    split at p
    · rename_i hlt
      split at p
      · rename_i acc W2 hrun
        intro D hD
        have sb := s1.blk (own.map (·.2))
        have sb0 := sb.alloc (Alloc.hid (o := .dK []) hD)
        refine dc_loop (Fin := Q (.ref D)) wipe_wipe sb0 (blkE_now ρ1 _) (sb.hid hD) upd_same repk_nil wd (by simpa using hlt) hrun fun va H as2 G2 s2 mm hid hva rva => ?_
        have hid' : Hid Z ρ1 σ as2 G2 D := ⟨hid.g, hid.a, s1.h0 hD, fun j o => by
          obtain ⟨⟨u, hu⟩, _⟩ := s1.owna o
          rw [hD] at hu
          cases hu⟩
        refine p (.ref D) H as2 _ ((s1.back s2).adopt hid' hva) ((m1.trans mm).trans (Mono.of (Ex.upd hid.g))) ?_
        simp only [rep]
        exact ⟨D, va, rfl, upd_same, repk.mono (Mono.of (Ex.upd hid.g)) _ _ rva⟩
      · exact p.elim
    · exact p.elim

/-! ### len, of dicts too -/
theorem call_lenD : CallR X (.builtin "len") (fun xs H Q => ∃ p kvs, xs = [.ref p] ∧ Rd H p (.dK kvs) ∧ Q (.int kvs.length) H) := by
  intro pins s σ H xs us Q I r h
  obtain ⟨p, kvs, rfl, hk, q⟩ := h
  obtain ⟨u, rfl, ru⟩ := vals1 r
  cases ru
  exact d_len I hk fun t s' I' => ⟨.int kvs.length, H, I', ⟨t, rfl⟩, q⟩
def gLenD : Sto → List D → Option D
  | _, [.dct kvs] => some (.int kvs.length)
  | W, [.ref n] => match W[n]? with
    | some (.dct kvs) => some (.int kvs.length)
    | _ => none
  | _, _ => none
theorem popn_lenD : POpN T (fun xs H Q => ∃ p kvs, xs = [.ref p] ∧ Rd H p (.dK kvs) ∧ Q (.int kvs.length) H) gLenD := by
  intro Z ρ W σ as G H xs ds z Q s rx hz k
  unfold gLenD at hz
  split at hz
  · cases hz
    obtain ⟨v, rfl, r⟩ := reps1 rx
    simp only [rep] at r
    obtain ⟨p, vs, rfl, h1, h2⟩ := r
    exact ⟨p, vs, rfl, .inl (s.sub _ _ h1), k _ H G (Alloc.refl G H) (by rw [h2.length]; simp only [rep])⟩
  · split at hz
    · rename_i hw
      cases hz
      obtain ⟨v, rfl, r⟩ := reps1 rx
      simp only [rep] at r
      obtain ⟨p, rfl, h1⟩ := r
      obtain ⟨_, vs, h2, h3⟩ := s.sto _ _ p hw h1
      exact ⟨p, vs, rfl, .inl h2, k _ H G (Alloc.refl G H) (by rw [h3.length]; simp only [rep])⟩
    · cases hz
  · cases hz
theorem se_lenD {p : Pos} (h : Cok X T Wx kk) (hm : X.mg "len" = none) (ha : SA X T Wx [e] fA) (hg : Gl X "len" := by rfl) (he : starEach [e] X.env = (false, eval e X.env) :: starEach [] X.env := by rfl) : SE X T Wx (.Call (.Name "len" p) [e] [] pos) (dBi gLenD fA) :=
  se_bi popn_lenD call_lenD hg hm boot_len ha (he := he)
end

section
variable {T : Tb} {P : Program} {w : World} {mg : Str → Option Value} {base : Heap}
/-- a def at f, by its body's term -/
theorem fnok_d (ok : TbOk T) {x qual : Str} {st : Stmt} {f : Addr} {fd : FuncData} {N ps : List Str} {k n : Nat} {fb : Ds} (F : Fun T.K x qual st f fd) (S : FnScope N ps (defScope st)) (hn : ps.length = n)
    (body : Body T P w mg base k N qual st f fb) : FnOk P w T.K mg base (L2.CX P w) (k + 1) f fd ps (spD T n (runD N.length fb)) := by
  refine F.okX S (fun vs H Q E ⟨as, G, W, ds, s, r, l, p⟩ => by rw [r.length, l, hn]) fun cdv A outer s0 H vs Q E hr hsp => ?_
  refine ⟨_, body cdv A outer s0 H E (cok_of ok S hr), ?_⟩
  obtain ⟨as, G, W, ds, s, r, l, p⟩ := hsp
  obtain ⟨h1, h2⟩ := start_slots (N := N) (H := H) r
  have s' : StR T (bs H G as) (envOf N.length ds) W (L2.start N vs) H as G := s.enter h1 h2
  refine ⟨_, _, _, _, _, s', ?_⟩
  unfold runD at p
  cases e1 : fb (envOf N.length ds) W with
  | nx ρ' W' => rw [e1] at p; exact fun σ H' as' G' s1 m1 => p .non H' as' G' s1.forget (by simp only [rep])
  | rt d ρ' W' => rw [e1] at p; exact fun v σ H' as' G' s1 m1 r1 => p v H' as' G' s1.forget r1
  | exc c fs ρ' W' => rw [e1] at p; exact fun σ dx us H' as' G' s1 m1 r1 h1 => p dx us H' as' G' s1.forget r1 h1
  | bk ρ' W' => rw [e1] at p; exact p.elim
  | ct ρ' W' => rw [e1] at p; exact p.elim
  | stk => rw [e1] at p; exact p.elim
theorem eq_d (ok : TbOk T) {x qual : Str} {st : Stmt} {f : Addr} {c : Nat} {fd : FuncData} {N ps : List Str} {k : Nat} {fb : Ds} (F : Fun T.K x qual st f fd) (S : FnScope N ps (defScope st)) (hn : ps.length = 2)
    (hb : ∀ (kV doc pm : Value) (an : Option Addr) (cdv ct : Value) (us : List Value), us.length = ps.length → bindArgs (PySem.W.fnOf x qual (defArgs st) (defBody st) (defScope st) .none kV doc pm an cdv ct) ⟨us, []⟩ = pure (ps.zip us))
    (he : PySem.W.findIn T.K (.ref (T.cl c)) "__eq__" = some (some (.ref f))) (hf : PySem.W.isFn T.K (.ref f) = true) (hne : PySem.W.findIn T.K (.ref (T.cl c)) "__ne__" = some (some (.builtin "object.__ne__"))) (hc : c < T.nc)
    (body : Body T P w mg base k N qual st f fb) : EqD T P w mg base (k + 1) c (runD N.length fb) :=
  ⟨⟨fd, ps, f, hn, F.binds hb, fnok_d ok F S hn body, he, hf⟩, hne, hc⟩
end
end Dl

set_option Elab.async false
set_option linter.all false
set_option maxRecDepth 100000
set_option maxHeartbeats 4000000
namespace Dl
open PySem PySem.Spec PyProof.Rows L2

/-- a comprehension's names, by one answer -/
def blkB (N : List Str) (sc scope : Scope) (own : List (Str × Nat)) : Bool :=
  (scope.kind == .function) && (scope.names.all fun y => decide (scope.names.lookup y.1 = some y.2)) && (own.all fun p => decide (N[p.2]? = some p.1)) &&
  (scope.names.all fun y => !(decide (y.2 = .free)) || (decide (sc.names.lookup y.1 = some .cell) || decide (sc.names.lookup y.1 = some .free))) &&
  (scope.names.all fun y => !(decide (y.2 = .local) || decide (y.2 = .cell)) || ((own.map (·.1)).contains y.1 || !(N.contains y.1)))
theorem blk_of {N : List Str} {sc scope : Scope} {own : List (Str × Nat)} (h : blkB N sc scope own = true) : BlkOk N sc scope own := by
  simp only [blkB, Bool.and_eq_true, List.all_eq_true, decide_eq_true_eq, Bool.or_eq_true, Bool.not_eq_true', decide_eq_false_iff_not, Bool.or_eq_false_iff, List.contains_iff_mem] at h
  obtain ⟨⟨⟨⟨h1, h2⟩, h3⟩, h4⟩, h5⟩ := h
  refine ⟨eq_of_beq h1, h2, h3, fun y hy e => ?_, fun y hy e => ?_⟩
  · rcases h4 y hy with q | q
    · exact absurd e q
    · exact q
  · rcases h5 y hy with q | q | q
    · rcases e with e | e
      · exact absurd e q.1
      · exact absurd e q.2
    · exact .inl q
    · refine .inr fun z => ?_
      rw [List.contains_iff_mem.mpr z] at q
      cases q
section
variable {X : Cx} {T : Tb} {Wx : WX} {kk : Nat} {a b c e : Expr} {es rest : List Expr} {fa fb fc : Dn} {fA fr : DnA} {pos : Pos}
theorem sg_wide {tg : Expr} {vs vs' : List Nat} {bn : Bn} (h : SG X T tg vs bn) (hs : ∀ i ∈ vs, i ∈ vs') : SG X T tg vs' bn :=
  PG.imp h fun v σ H Q ⟨Z, ρ, W, as, G, d, s, r, ρ', e, k⟩ => ⟨Z, ρ, W, as, G, d, s, r, ρ', e, fun σ' s' ew => k σ' s' (by
    obtain ⟨e1, e2⟩ := wipe_of ew
    exact wipe_eq_of e1 fun j hj => e2 j fun z => hj (hs j z))⟩
theorem ownEq_bl {neg : Bool} {i : Nat} {Φ : Con} : ∀ ρ W d ρ' W', dOwnEq neg i Φ fa fb ρ W = .val d ρ' W' → ∃ k, d = .bl k := by
  intro ρ W d ρ' W' h
  unfold dOwnEq at h
  cases e1 : fa ρ W with
  | val d1 ρ1 W1 =>
    rw [e1] at h
    simp only [Res.bind_val] at h
    cases e2 : fb ρ1 W1 with
    | val d2 ρ2 W2 =>
      rw [e2] at h
      simp only [Res.bind_val] at h
      split at h
      · split at h
        · split at h
          · cases h; exact ⟨_, rfl⟩
          · cases h
        · cases h
      · cases h
    | exc => rw [e2] at h; cases h
    | stk => rw [e2] at h; cases h
  | exc => rw [e1] at h; cases h
  | stk => rw [e1] at h; cases h
theorem st_ownEq {i : Nat} {Φ : Con} (h : Cok X T Wx (kk + 1)) (F : EqD T X.prog X.w X.mg X.base kk i Φ) (ha : SE X T Wx a fa) (hb : SE X T Wx b fb) (hm : behindInMarks .Eq b = false := by rfl) : ST X T Wx (.Compare a [.Eq] [b] pos) (dOwnEq false i Φ fa fb) := by
  obtain ⟨⟨fd, ps, f, h1, h2, h3, h4, h5⟩, m, l⟩ := F
  rw [h.K] at h2 h3 h4 h5
  refine PT.imp (pt_cmpR (op_ownEq (E := fun _ _ _ => False) h4 h5 h3 h2 (h.room.mono (Nat.le_succ _)) passL) ha hb hm) fun σ H Q hh => rd_ownEq false h.ok (fun Z ρ W σ as G H x y fs d gs Q k W' s r1 r2 e p => ?_) σ H _ (rdT_bl ownEq_bl σ H Q hh)
  have r10 := r1
  have r20 := r2
  simp only [rep] at r1 r2
  obtain ⟨p1, dx, vs, rfl, q1, q2, q3⟩ := r1
  obtain ⟨p2, dy, us, rfl, q4, q5, q6⟩ := r2
  refine ⟨p1, dx, vs, p2, _, dy, us, rfl, rfl, s.sub _ _ q1, s.sub _ _ q4, by rw [← h.K]; exact cls_first h.ok q2 q5, as, G, W, _, s.enter (fun i sl h => by simp at h) (Nat.le_refl _), reps_cons r10 (reps_cons r20 reps_nil), rfl, ?_⟩
  rw [e]
  intro v H' as' G' s' rv
  simp only [rep] at rv
  subst rv
  exact p H' as' G' s'
theorem st_ownNe {i : Nat} {Φ : Con} (h : Cok X T Wx (kk + 1)) (F : EqD T X.prog X.w X.mg X.base kk i Φ) (ha : SE X T Wx a fa) (hb : SE X T Wx b fb) (hm : behindInMarks .NotEq b = false := by rfl) : ST X T Wx (.Compare a [.NotEq] [b] pos) (dOwnEq true i Φ fa fb) := by
  obtain ⟨⟨fd, ps, f, h1, h2, h3, h4, h5⟩, m, l⟩ := F
  rw [h.K] at h2 h3 h4 h5 m
  refine PT.imp (pt_cmpR (op_ownNe (E := fun _ _ _ => False) h4 m h5 h3 h2 h.room passL) ha hb hm) fun σ H Q hh => rd_ownEq true h.ok (fun Z ρ W σ as G H x y fs d gs Q k W' s r1 r2 e p => ?_) σ H _ (rdT_bl ownEq_bl σ H Q hh)
  have r10 := r1
  have r20 := r2
  simp only [rep] at r1 r2
  obtain ⟨p1, dx, vs, rfl, q1, q2, q3⟩ := r1
  obtain ⟨p2, dy, us, rfl, q4, q5, q6⟩ := r2
  refine ⟨p1, dx, vs, p2, _, dy, us, rfl, rfl, s.sub _ _ q1, s.sub _ _ q4, by rw [← h.K]; exact cls_first h.ok q2 q5, by rw [← h.K, cls_mro h.ok l]; simp, as, G, W, _, s.enter (fun i sl h => by simp at h) (Nat.le_refl _), reps_cons r10 (reps_cons r20 reps_nil), rfl, ?_⟩
  rw [e]
  intro v H' as' G' s' rv
  simp only [rep] at rv
  subst rv
  exact ⟨k, rfl, p H' as' G' s'⟩
end
section
variable {T : Tb} {P : Program} {w : World} {mg : Str → Option Value} {base : Heap}
/-- nothing promised -/
theorem fn_0 {x qual : Str} {st : Stmt} {i : Nat} {fd : FuncData} {ps : List Str} {k n : Nat} (F : Fun T.K x qual st (T.fa i) fd) (hn : ps.length = n)
    (hb : ∀ (kV doc pm : Value) (an : Option Addr) (cdv ct : Value) (us : List Value), us.length = ps.length → bindArgs (PySem.W.fnOf x qual (defArgs st) (defBody st) (defScope st) .none kV doc pm an cdv ct) ⟨us, []⟩ = pure (ps.zip us))
    (hm : mg x = some (.ref (T.fa i))) : FnD T P w mg base k x i n (fun _ _ => .stk) :=
  ⟨⟨fd, ps, hn, F.binds hb, ⟨fun vs H Q E ⟨_, _, _, _, _, _, _, p⟩ => p.elim, fun A outer s H args us vs Q E _ _ _ _ ⟨_, _, _, _, _, _, _, p⟩ => p.elim⟩⟩, hm, F.kp⟩
end
end Dl
namespace Dl
theorem getD_inj {l : List PySem.Addr} (h : l.Nodup) {c d : Nat} (hc : c < l.length) (hd : d < l.length) (e : l.getD c 0 = l.getD d 0) : c = d := by
  have e1 : l.getD c 0 = l[c] := by simp [List.getD, hc]
  have e2 : l.getD d 0 = l[d] := by simp [List.getD, hd]
  rw [e1, e2] at e
  exact (List.getElem_inj h).mp e
end Dl

set_option Elab.async false
set_option linter.all false
set_option maxRecDepth 100000
set_option maxHeartbeats 4000000
/-! What denotations come to: the rows that simp takes. -/
namespace Dl
open PySem PySem.Spec PyProof.Rows L2
@[simp] theorem ev_var (i : Nat) (ρ : Env) (W : Sto) : dVar i ρ W = (match ρ[i]? with
  | some (.sh d) => .val d ρ W
  | _ => .stk) := (Eq.refl _).trans (Eq.refl _)
@[simp] theorem ev_varF (i : Nat) (ρ : Env) (W : Sto) : dVarF i ρ W = (match ρ[i]? with
  | some (.sh d) => .val d ρ W
  | some (.owl xs) => .val (.lst xs) (ρ.set i (.sh (.lst xs))) W
  | _ => .stk) := (Eq.refl _).trans (Eq.refl _)
@[simp] theorem ev_c (d : D) (ρ : Env) (W : Sto) : dC d ρ W = .val d ρ W := (Eq.refl _).trans (Eq.refl _)
@[simp] theorem ev_nil (ρ : Env) (W : Sto) : dNil ρ W = .val [] ρ W := (Eq.refl _).trans (Eq.refl _)
theorem ev_cons {f : Dn} {r : DnA} {ρ ρ1 ρ2 : Env} {W W1 W2 : Sto} {d : D} {ds : List D} (h : f ρ W = .val d ρ1 W1) (h2 : r ρ1 W1 = .val ds ρ2 W2) : dCons f r ρ W = .val (d :: ds) ρ2 W2 := by
  unfold dCons; rw [h]; dsimp only; rw [h2]
@[simp] theorem ev_cons' (f : Dn) (r : DnA) (ρ : Env) (W : Sto) : dCons f r ρ W = (match f ρ W with
  | .val d ρ W => (match r ρ W with
    | .val ds ρ W => .val (d :: ds) ρ W
    | .exc c fs ρ W => .exc c fs ρ W
    | .stk => .stk)
  | .exc c fs ρ W => .exc c fs ρ W
  | .stk => .stk) := (Eq.refl _).trans (Eq.refl _)
@[simp] theorem ev_op2 (g : Sto → D → D → Option D) (fa fb : Dn) (ρ : Env) (W : Sto) : dOp2 g fa fb ρ W = (fa ρ W).bind fun d ρ W => (fb ρ W).bind fun e ρ W => match g W d e with
  | some z => .val z ρ W
  | none => .stk := (Eq.refl _).trans (Eq.refl _)
@[simp] theorem ev_bi (g : Sto → List D → Option D) (fA : DnA) (ρ : Env) (W : Sto) : dBi g fA ρ W = (fA ρ W).bind fun ds ρ W => match g W ds with
  | some z => .val z ρ W
  | none => .stk := (Eq.refl _).trans (Eq.refl _)
@[simp] theorem ev_g1 (g : Sto → List D → Option D) (f : Dn) (ρ : Env) (W : Sto) : dG1 g f ρ W = (f ρ W).bind fun d ρ W => match g W [d] with
  | some z => .val z ρ W
  | none => .stk := (Eq.refl _).trans (Eq.refl _)
@[simp] theorem ev_and (fa fb : Dn) (ρ : Env) (W : Sto) : dAnd fa fb ρ W = (fa ρ W).bind fun d ρ W => match tru W d with
  | some true => fb ρ W
  | some false => .val d ρ W
  | none => .stk := (Eq.refl _).trans (Eq.refl _)
@[simp] theorem ev_or (fa fb : Dn) (ρ : Env) (W : Sto) : dOr fa fb ρ W = (fa ρ W).bind fun d ρ W => match tru W d with
  | some true => .val d ρ W
  | some false => fb ρ W
  | none => .stk := (Eq.refl _).trans (Eq.refl _)
@[simp] theorem ev_not (fa : Dn) (ρ : Env) (W : Sto) : dNot fa ρ W = (fa ρ W).bind fun d ρ W => match tru W d with
  | some k => .val (.bl (!k)) ρ W
  | none => .stk := (Eq.refl _).trans (Eq.refl _)
@[simp] theorem ev_if (fc fa fb : Dn) (ρ : Env) (W : Sto) : dIf fc fa fb ρ W = (fc ρ W).bind fun d ρ W => match tru W d with
  | some true => fa ρ W
  | some false => fb ρ W
  | none => .stk := (Eq.refl _).trans (Eq.refl _)
@[simp] theorem ev_call (n : Nat) (Φ : Con) (fA : DnA) (ρ : Env) (W : Sto) : dCall n Φ fA ρ W = (fA ρ W).bind fun ds ρ W => if ds.length = n then (match Φ ds W with
  | .val d W' => .val d ρ W'
  | .exc c fs W' => .exc c fs ρ W'
  | .stk => .stk) else .stk := (Eq.refl _).trans (Eq.refl _)
@[simp] theorem ev_chain (g g' : Sto → D → D → Option D) (fa fb fc : Dn) (ρ : Env) (W : Sto) : dChain g g' fa fb fc ρ W = (fa ρ W).bind fun d ρ W => (fb ρ W).bind fun e ρ W => match g W d e with
  | some (.bl true) => (fc ρ W).bind fun f ρ W => match g' W e f with
    | some z => .val z ρ W
    | none => .stk
  | some (.bl false) => .val (.bl false) ρ W
  | _ => .stk := (Eq.refl _).trans (Eq.refl _)
@[simp] theorem ev_seq (f g : Ds) (ρ : Env) (W : Sto) : sSeq f g ρ W = (match f ρ W with
  | .nx ρ W => g ρ W
  | r => r) := (Eq.refl _).trans (Eq.refl _)
@[simp] theorem ev_snil (ρ : Env) (W : Sto) : sNil ρ W = .nx ρ W := (Eq.refl _).trans (Eq.refl _)
@[simp] theorem ev_ret (f : Dn) (ρ : Env) (W : Sto) : sRet f ρ W = (f ρ W).bindS fun d ρ W => .rt d ρ W := (Eq.refl _).trans (Eq.refl _)
@[simp] theorem ev_retN (ρ : Env) (W : Sto) : sRetN ρ W = .rt .non ρ W := (Eq.refl _).trans (Eq.refl _)
@[simp] theorem ev_expr (f : Dn) (ρ : Env) (W : Sto) : sExpr f ρ W = (f ρ W).bindS fun _ ρ W => .nx ρ W := (Eq.refl _).trans (Eq.refl _)
@[simp] theorem ev_sif (fc : Dn) (f g : Ds) (ρ : Env) (W : Sto) : sIf fc f g ρ W = (fc ρ W).bindS fun d ρ W => match tru W d with
  | some true => f ρ W
  | some false => g ρ W
  | none => .stk := (Eq.refl _).trans (Eq.refl _)
@[simp] theorem ev_asg (i : Nat) (f : Dn) (ρ : Env) (W : Sto) : sAsg i f ρ W = (f ρ W).bindS fun d ρ W => .nx (ρ.set i (.sh d)) W := (Eq.refl _).trans (Eq.refl _)
@[simp] theorem ev_owl (i : Nat) (f : Dn) (ρ : Env) (W : Sto) : sOwl i f ρ W = (match f ρ W with
  | .val (.lst xs) ρ W => .nx (ρ.set i (.owl xs)) W
  | .exc c fs ρ W => .exc c fs ρ W
  | _ => .stk) := (Eq.refl _).trans (Eq.refl _)
@[simp] theorem ev_unp (is : List Nat) (f : Dn) (ρ : Env) (W : Sto) : sUnp is f ρ W = (f ρ W).bindS fun d ρ W => match bTup is d ρ with
  | some ρ => .nx ρ W
  | none => .stk := (Eq.refl _).trans (Eq.refl _)
@[simp] theorem ev_for (fi : DnA) (bn : Bn) (fb : Ds) (ρ : Env) (W : Sto) : sFor fi bn fb ρ W = (match fi ρ W with
  | .val ds ρ W => forL bn fb ds ρ W
  | .exc c fs ρ W => .exc c fs ρ W
  | .stk => .stk) := (Eq.refl _).trans (Eq.refl _)
@[simp] theorem ev_items (f : Dn) (ρ : Env) (W : Sto) : iItems f ρ W = (match f ρ W with
  | .val (.lst xs) ρ W => .val xs ρ W
  | .val (.tup xs) ρ W => .val xs ρ W
  | .val (.sq xs) ρ W => .val xs ρ W
  | .exc c fs ρ W => .exc c fs ρ W
  | _ => .stk) := (Eq.refl _).trans (Eq.refl _)
@[simp] theorem ev_bname (i : Nat) (d : D) (ρ : Env) : bName i d ρ = some (ρ.set i (.sh d)) := (Eq.refl _).trans (Eq.refl _)
@[simp] theorem tru_bl (W : Sto) (b : Bool) : tru W (.bl b) = some b := (Eq.refl _).trans (Eq.refl _)
@[simp] theorem tru_int (W : Sto) (i : Int) : tru W (.int i) = some (i != 0) := (Eq.refl _).trans (Eq.refl _)
@[simp] theorem tru_non (W : Sto) : tru W .non = some false := (Eq.refl _).trans (Eq.refl _)
theorem run_rt {n : Nat} {fb : Ds} {ds : List D} {W W' : Sto} {d : D} {ρ : Env} (h : fb (Dl.envOf n ds) W = .rt d ρ W') : runD n fb ds W = .val d W' := by unfold runD; rw [h]
theorem run_nx {n : Nat} {fb : Ds} {ds : List D} {W W' : Sto} {ρ : Env} (h : fb (Dl.envOf n ds) W = .nx ρ W') : runD n fb ds W = .val .non W' := by unfold runD; rw [h]

/-! ### comprehensions that ask one thing of each item -/
theorem lcL_map {bn : Bn} {fe : Dn} {ρb : Env} {W : Sto} {f : D → D} : ∀ {ds acc : List D}, (∀ d ∈ ds, ∃ ρ1 ρ2, bn d ρb = some ρ1 ∧ fe ρ1 W = .val (f d) ρ2 W) → lcL bn (dC (.bl true)) fe ρb ds W acc = some (acc ++ ds.map f, W)
  | [], acc, _ => by simp [lcL]
  | d :: ds, acc, h => by
    obtain ⟨ρ1, ρ2, h1, h2⟩ := h d List.mem_cons_self
    have ih := lcL_map (acc := acc ++ [f d]) fun x hx => h x (List.mem_cons_of_mem _ hx)
    simp only [lcL, h1, ev_c, tru_bl, h2, ih, List.map_cons]
    simp
theorem bools_map {p : D → Bool} : ∀ ds : List D, bools (ds.map fun d => .bl (p d)) = some (ds.map p)
  | [] => rfl
  | d :: ds => by simp only [List.map_cons, bools, bools_map ds, Option.map_some]
theorem lc_val {vs : List Nat} {fi : DnA} {bn : Bn} {fe : Dn} {ρ ρ0 : Env} {W : Sto} {ds : List D} {f : D → D} (hi : fi ρ W = .val ds ρ0 W) (hl : ds.length < 16777216) (h : ∀ d ∈ ds, ∃ ρ1 ρ2, bn d (blkE ρ0 vs) = some ρ1 ∧ fe ρ1 W = .val (f d) ρ2 W) :
    dLc vs fi bn (dC (.bl true)) fe ρ W = .val (.lst (ds.map f)) ρ0 W := by
  unfold dLc
  rw [hi]
  dsimp only
  rw [if_pos hl, lcL_map h]
  simp
/-- all([p(d) for d in ..]) -/
theorem allc {vs : List Nat} {fi : DnA} {bn : Bn} {fe : Dn} {ρ ρ0 : Env} {W : Sto} {ds : List D} {p : D → Bool} (hi : fi ρ W = .val ds ρ0 W) (hl : ds.length < 16777216) (h : ∀ d ∈ ds, ∃ ρ1 ρ2, bn d (blkE ρ0 vs) = some ρ1 ∧ fe ρ1 W = .val (.bl (p d)) ρ2 W) :
    dBi gAll (dCons (dLc vs fi bn (dC (.bl true)) fe) dNil) ρ W = .val (.bl (ds.all p)) ρ0 W := by
  have := lc_val (f := fun d => .bl (p d)) hi hl h
  simp only [ev_bi, ev_cons', this, ev_nil, ResA.bind_val, gAll, bools_map, Option.map_some]
  have : (ds.map p).all id = ds.all p := by simp [List.all_map, Function.comp_def]
  rw [this]
/-! ### loops -/
theorem forL_nil (bn : Bn) (fb : Ds) (ρ : Env) (W : Sto) : forL bn fb [] ρ W = .nx ρ W := rfl
theorem forL_nx {bn : Bn} {fb : Ds} {d : D} {ds : List D} {ρ ρ1 ρ2 : Env} {W W2 : Sto} (h1 : bn d ρ = some ρ1) (h2 : fb ρ1 W = .nx ρ2 W2) : forL bn fb (d :: ds) ρ W = forL bn fb ds ρ2 W2 := by simp only [forL, h1, h2]
theorem forL_rt {bn : Bn} {fb : Ds} {d z : D} {ds : List D} {ρ ρ1 ρ2 : Env} {W W2 : Sto} (h1 : bn d ρ = some ρ1) (h2 : fb ρ1 W = .rt z ρ2 W2) : forL bn fb (d :: ds) ρ W = .rt z ρ2 W2 := by simp only [forL, h1, h2]
/-- by an invariant: each turn goes on -/
theorem forL_inv {bn : Bn} {fb : Ds} (I : Nat → Env → Sto → Prop) {ds : List D} : ∀ (k : Nat) (ρ : Env) (W : Sto), I k ρ W → (∀ (i : Nat) d ρ W, ds[i]? = some d → I (k + i) ρ W → ∃ ρ1 ρ2 W2, bn d ρ = some ρ1 ∧ (fb ρ1 W = .nx ρ2 W2 ∨ fb ρ1 W = .ct ρ2 W2) ∧ I (k + i + 1) ρ2 W2) → ∃ ρ2 W2, forL bn fb ds ρ W = .nx ρ2 W2 ∧ I (k + ds.length) ρ2 W2 := by
  induction ds with
  | nil => exact fun k ρ W h _ => ⟨ρ, W, rfl, h⟩
  | cons d ds ih =>
    intro k ρ W h st
    obtain ⟨ρ1, ρ2, W2, h1, h2, h3⟩ := st 0 d ρ W rfl h
    obtain ⟨ρ3, W3, h4, h5⟩ := ih (k + 1) ρ2 W2 (by simpa using h3) fun i x ρ W hx hI => by
      have := st (i + 1) x ρ W (by simpa using hx) (by rw [← Nat.add_assoc]; rwa [Nat.add_right_comm])
      rwa [← Nat.add_assoc, Nat.add_right_comm k i 1] at this
    refine ⟨ρ3, W3, ?_, by rw [List.length_cons]; rwa [Nat.add_right_comm, Nat.add_assoc] at h5⟩
    rcases h2 with h2 | h2 <;> simp only [forL, h1, h2, h4]
/-- turns that ask, the first yes ends it: nothing but the loop's names changes -/
theorem forL_any {bn : Bn} {fb : Ds} (I : Env → Prop) {p : D → Bool} {z : D} {W : Sto} : ∀ {ds : List D} {ρ : Env}, I ρ → (∀ d ∈ ds, ∀ ρ, I ρ → ∃ ρ1, bn d ρ = some ρ1 ∧ ((p d = true ∧ ∃ ρ2, fb ρ1 W = .rt z ρ2 W) ∨ (p d = false ∧ ∃ ρ2, fb ρ1 W = .nx ρ2 W ∧ I ρ2))) →
    (ds.any p = true ∧ ∃ ρ2, forL bn fb ds ρ W = .rt z ρ2 W) ∨ (ds.any p = false ∧ ∃ ρ2, forL bn fb ds ρ W = .nx ρ2 W ∧ I ρ2)
  | [], ρ, hI, _ => .inr ⟨rfl, ρ, rfl, hI⟩
  | d :: ds, ρ, hI, h => by
    obtain ⟨ρ1, h1, ⟨h2, ρ2, h3⟩ | ⟨h2, ρ2, h3, h4⟩⟩ := h d List.mem_cons_self ρ hI
    · exact .inl ⟨by simp [h2], ρ2, forL_rt h1 h3⟩
    · rcases forL_any I h4 (ds := ds) (fun x hx => h x (List.mem_cons_of_mem _ hx)) with ⟨h5, ρ3, h6⟩ | ⟨h5, ρ3, h6, h7⟩
      · exact .inl ⟨by simp [h5], ρ3, (forL_nx h1 h3).trans h6⟩
      · exact .inr ⟨by simp [h2, h5], ρ3, (forL_nx h1 h3).trans h6, h7⟩
end Dl

set_option Elab.async false
set_option linter.all false
set_option maxRecDepth 100000
set_option maxHeartbeats 4000000
namespace P82
open PySem PySem.Spec PyProof.Rows L2 Dl
abbrev top (i : Nat) : Stmt := PySem.Challenge.pw_anytaste_k82_axes_threes_fours_judged.main.body.getD i (.Pass ⟨0, 0, 0, 0⟩)
abbrev s_frozen : Stmt := (top 4)
abbrev N_frozen : List Str := ["value", "item"]
def E1_frozen (c : Con) : Dn := (dCall 1 c (dCons (dVar 1) dNil))
def b_frozen (c : Con) : Ds := (sSeq (sIf (dG1 (gIsi [(.b .tup), (.b .lst)]) (dVar 0)) (sRet (dBi gTupleOf (dCons (dLc [1] (iItems (dVar 0)) (bName 1) (dC (.bl true)) (E1_frozen c)) dNil))) sNil)
    (sRet (dVar 0)))
def cN_frozen : Nat → Con
  | 0 => fun _ _ => .stk
  | n + 1 => runD 2 (b_frozen (cN_frozen n))
abbrev c_frozen : Con := cN_frozen 5
abbrev s_is_whole : Stmt := (top 6)
abbrev N_is_whole : List Str := ["value"]
def b_is_whole : Ds := (sRet (dAnd (dG1 (gIsi [(.b .int)]) (dVar 0)) (dNot (dG1 (gIsi [(.b .bl)]) (dVar 0)))))
def c_is_whole : Con := runD 1 b_is_whole
abbrev s_is_list : Stmt := (top 8)
abbrev N_is_list : List Str := ["value"]
def b_is_list : Ds := (sRet (dG1 (gIsi [(.b .tup), (.b .lst)]) (dVar 0)))
def c_is_list : Con := runD 1 b_is_list
abbrev s_is_index : Stmt := (top 9)
abbrev N_is_index : List Str := ["many", "value"]
def b_is_index : Ds := (sRet (dAnd (dCall 1 c_is_whole (dCons (dVar 1) dNil)) (dChain (fun _ => gLe) (fun _ => gLt) (dC (.int 0)) (dVar 1) (dVar 0))))
def c_is_index : Con := runD 2 b_is_index
abbrev s_in_Turn : Stmt := (inClass (top 11) 0)
abbrev N_in_Turn : List Str := ["self", "rows"]
def b_in_Turn : Ds := (sFldO 0 "rows" (dCall 1 c_frozen (dCons (dVar 1) dNil)))
def c_in_Turn : ConI := fun ds W => match ds with | [d] => (match c_frozen [d] W with | .val z W1 => some ([("rows", z)], W1) | _ => none) | _ => none
abbrev s_is_all_things : Stmt := (top 13)
abbrev N_is_all_things : List Str := ["many", "value", "thing"]
def E1_is_all_things : Dn := (dCall 2 c_is_index (dCons (dVar 0) (dCons (dVar 2) dNil)))
def b_is_all_things : Ds := (sSeq (sIf (dOr (dNot (dCall 1 c_is_list (dCons (dVar 1) dNil))) (dNot (dBi gAll (dCons (dLc [2] (iItems (dVar 1)) (bName 2) (dC (.bl true)) E1_is_all_things) dNil)))) (sRet (dC (.bl false))) sNil)
    (sRet (dOp2 (fun _ => gEq) (dBi gSorted (dCons (dVar 1) dNil)) (dLstRg (rg1 (dVar 0))))))
def c_is_all_things : Con := runD 3 b_is_all_things
abbrev s_in_Axis : Stmt := (inClass (top 15) 0)
abbrev N_in_Axis : List Str := ["self", "things"]
def b_in_Axis : Ds := (sFldO 0 "things" (dCall 1 c_frozen (dCons (dVar 1) dNil)))
def c_in_Axis : ConI := fun ds W => match ds with | [d] => (match c_frozen [d] W with | .val z W1 => some ([("things", z)], W1) | _ => none) | _ => none
abbrev s_eq_Axis : Stmt := (inClass (top 15) 1)
abbrev N_eq_Axis : List Str := ["self", "other"]
def b_eq_Axis : Ds := (sRet (dAnd (dG1 (gIsi [(.o 1)]) (dVar 1)) (dOp2 (fun _ => gEq) (dG1 (gFld "things") (dVar 0)) (dG1 (gFld "things") (dVar 1)))))
def c_eq_Axis : Con := runD 2 b_eq_Axis
abbrev s_in_Three : Stmt := (inClass (top 16) 0)
abbrev N_in_Three : List Str := ["self", "things", "rows"]
def b_in_Three : Ds := (sSeq (sFldO 0 "things" (dCall 1 c_frozen (dCons (dVar 1) dNil)))
    (sFldO 0 "rows" (dCall 1 c_frozen (dCons (dVar 2) dNil))))
def c_in_Three : ConI := fun ds W => match ds with | [d, e] => (match c_frozen [d] W with | .val z W1 => (match c_frozen [e] W1 with | .val y W2 => some ([("things", z), ("rows", y)], W2) | _ => none) | _ => none) | _ => none
abbrev s_eq_Three : Stmt := (inClass (top 16) 1)
abbrev N_eq_Three : List Str := ["self", "other"]
def b_eq_Three : Ds := (sRet (dAnd (dG1 (gIsi [(.o 2)]) (dVar 1)) (dAnd (dOp2 (fun _ => gEq) (dG1 (gFld "things") (dVar 0)) (dG1 (gFld "things") (dVar 1))) (dOp2 (fun _ => gEq) (dG1 (gFld "rows") (dVar 0)) (dG1 (gFld "rows") (dVar 1))))))
def c_eq_Three : Con := runD 2 b_eq_Three
abbrev s_in_Four : Stmt := (inClass (top 17) 0)
abbrev N_in_Four : List Str := ["self", "things", "rows"]
def b_in_Four : Ds := (sSeq (sFldO 0 "things" (dCall 1 c_frozen (dCons (dVar 1) dNil)))
    (sFldO 0 "rows" (dCall 1 c_frozen (dCons (dVar 2) dNil))))
def c_in_Four : ConI := fun ds W => match ds with | [d, e] => (match c_frozen [d] W with | .val z W1 => (match c_frozen [e] W1 with | .val y W2 => some ([("things", z), ("rows", y)], W2) | _ => none) | _ => none) | _ => none
abbrev s_eq_Four : Stmt := (inClass (top 17) 1)
abbrev N_eq_Four : List Str := ["self", "other"]
def b_eq_Four : Ds := (sRet (dAnd (dG1 (gIsi [(.o 3)]) (dVar 1)) (dAnd (dOp2 (fun _ => gEq) (dG1 (gFld "things") (dVar 0)) (dG1 (gFld "things") (dVar 1))) (dOp2 (fun _ => gEq) (dG1 (gFld "rows") (dVar 0)) (dG1 (gFld "rows") (dVar 1))))))
def c_eq_Four : Con := runD 2 b_eq_Four
abbrev s_panel_told : Stmt := (top 18)
abbrev N_panel_told : List Str := ["panel", "order"]
def E1_panel_told : Dn := (dCall 2 c_is_all_things (dCons (dBi gLenS (dCons (dOp2 (fun _ => gIx) (dVar 0) (dC (.int 0))) dNil)) (dCons (dVar 1) dNil)))
def E2_panel_told : Dn := (dBi gTupleOf (dCons (dVar 1) dNil))
def b_panel_told : Ds := (sSeq (sIf (dOr (dNot (dCall 1 c_is_list (dCons (dVar 0) dNil))) (dOr (dOp2 (fun _ => gEq) (dBi gLenS (dCons (dVar 0) dNil)) (dC (.int 0))) (dOr (dNot (dCall 1 c_is_list (dCons (dOp2 (fun _ => gIx) (dVar 0) (dC (.int 0))) dNil))) (dOp2 (fun _ => gEq) (dBi gLenS (dCons (dOp2 (fun _ => gIx) (dVar 0) (dC (.int 0))) dNil)) (dC (.int 0)))))) sStk sNil)
    (sSeq (sIf (dNot (dBi gAll (dCons (dLc [1] (iItems (dVar 0)) (bName 1) (dC (.bl true)) E1_panel_told) dNil))) sStk sNil)
    (sRet (dBi gTupleOf (dCons (dLc [1] (iItems (dVar 0)) (bName 1) (dC (.bl true)) E2_panel_told) dNil)))))
def c_panel_told : Con := runD 2 b_panel_told
abbrev s_is_ahead : Stmt := (top 19)
abbrev N_is_ahead : List Str := ["order", "one", "other"]
def b_is_ahead : Ds := (sRet (dOp2 (fun _ => gLt) (dIndex (dVar 0) (dCons (dVar 1) dNil)) (dIndex (dVar 0) (dCons (dVar 2) dNil))))
def c_is_ahead : Con := runD 3 b_is_ahead
abbrev s_falls_on : Stmt := (top 20)
abbrev N_falls_on : List Str := ["axis", "order", "many", "left", "middle", "right"]
def L1_falls_on : Ds := (sIf (dAnd (dCall 3 c_is_ahead (dCons (dVar 1) (dCons (dOp2 (fun _ => gIx) (dVar 0) (dVar 3)) (dCons (dOp2 (fun _ => gIx) (dVar 0) (dVar 4)) dNil)))) (dCall 3 c_is_ahead (dCons (dVar 1) (dCons (dOp2 (fun _ => gIx) (dVar 0) (dVar 5)) (dCons (dOp2 (fun _ => gIx) (dVar 0) (dVar 4)) dNil))))) (sRet (dC (.bl false))) sNil)
def L2_falls_on : Ds := (sFor (iRg2 (dCons (dOp2 (fun _ => gAdd) (dVar 4) (dC (.int 1))) (dCons (dVar 2) dNil))) (bName 5) L1_falls_on)
def L3_falls_on : Ds := (sFor (iRg2 (dCons (dOp2 (fun _ => gAdd) (dVar 3) (dC (.int 1))) (dCons (dVar 2) dNil))) (bName 4) L2_falls_on)
def b_falls_on : Ds := (sSeq (sAsg 2 (dBi gLenS (dCons (dVar 0) dNil)))
    (sSeq (sFor (iRg1 (dCons (dVar 2) dNil)) (bName 3) L3_falls_on)
    (sRet (dC (.bl true)))))
def c_falls_on : Con := runD 6 b_falls_on
abbrev s_all_fall : Stmt := (top 21)
abbrev N_all_fall : List Str := ["orders", "axis", "order"]
def E1_all_fall : Dn := (dCall 2 c_falls_on (dCons (dVar 1) (dCons (dVar 2) dNil)))
def b_all_fall : Ds := (sRet (dBi gAll (dCons (dLc [2] (iItems (dVar 0)) (bName 2) (dC (.bl true)) E1_all_fall) dNil)))
def c_all_fall : Con := runD 3 b_all_fall
abbrev s_axis_holds : Stmt := (top 22)
abbrev N_axis_holds : List Str := ["panel", "value", "orders"]
def b_axis_holds : Ds := (sSeq (sAsg 2 (dCall 1 c_panel_told (dCons (dVar 0) dNil)))
    (sSeq (sIf (dOr (dNot (dG1 (gIsi [(.o 1)]) (dVar 1))) (dNot (dG1 (gIsi [(.b .tup)]) (dG1 (gFld "things") (dVar 1))))) (sRet (dC (.bl false))) sNil)
    (sSeq (sIf (dNot (dCall 2 c_is_all_things (dCons (dBi gLenS (dCons (dOp2 (fun _ => gIx) (dVar 2) (dC (.int 0))) dNil)) (dCons (dG1 (gFld "things") (dVar 1)) dNil)))) (sRet (dC (.bl false))) sNil)
    (sRet (dCall 2 c_all_fall (dCons (dVar 2) (dCons (dG1 (gFld "things") (dVar 1)) dNil)))))))
def c_axis_holds : Con := runD 3 b_axis_holds
abbrev s_are_unlike : Stmt := (top 23)
abbrev N_are_unlike : List Str := ["most", "many", "value", "item"]
def E1_are_unlike : Dn := (dCall 2 c_is_index (dCons (dVar 0) (dCons (dVar 3) dNil)))
def b_are_unlike : Ds := (sSeq (sIf (dOr (dNot (dG1 (gIsi [(.b .tup)]) (dVar 2))) (dOr (dOp2 (fun _ => gNe) (dBi gLenS (dCons (dVar 2) dNil)) (dVar 1)) (dNot (dBi gAll (dCons (dLc [3] (iItems (dVar 2)) (bName 3) (dC (.bl true)) E1_are_unlike) dNil))))) (sRet (dC (.bl false))) sNil)
    (sRet (dOp2 (fun _ => gEq) (dBi gLenD (dCons (dDc [3] (iItems (dVar 2)) (bName 3) (dC (.bl true)) (dVar 3) (dC (.bl true))) dNil)) (dVar 1))))
def c_are_unlike : Con := runD 4 b_are_unlike
abbrev s_are_numbers : Stmt := (top 24)
abbrev N_are_numbers : List Str := ["most", "many", "value", "item"]
def E1_are_numbers : Dn := (dCall 2 c_is_index (dCons (dVar 0) (dCons (dVar 3) dNil)))
def b_are_numbers : Ds := (sRet (dAnd (dG1 (gIsi [(.b .tup)]) (dVar 2)) (dAnd (dOp2 (fun _ => gEq) (dBi gLenS (dCons (dVar 2) dNil)) (dVar 1)) (dBi gAll (dCons (dLc [3] (iItems (dVar 2)) (bName 3) (dC (.bl true)) E1_are_numbers) dNil)))))
def c_are_numbers : Con := runD 4 b_are_numbers
abbrev s_is_last : Stmt := (top 25)
abbrev N_is_last : List Str := ["order", "thing", "things", "other"]
def E1_is_last : Dn := (dOr (dOp2 (fun _ => gEq) (dVar 3) (dVar 1)) (dCall 3 c_is_ahead (dCons (dVar 0) (dCons (dVar 3) (dCons (dVar 1) dNil)))))
def b_is_last : Ds := (sRet (dBi gAll (dCons (dLc [3] (iItems (dVar 2)) (bName 3) (dC (.bl true)) E1_is_last) dNil)))
def c_is_last : Con := runD 4 b_is_last
abbrev s_three_holds : Stmt := (top 26)
abbrev N_three_holds : List Str := ["panel", "value", "orders", "thing", "row"]
def E1_three_holds : Dn := (dCall 3 c_is_last (dCons (dOp2 (fun _ => gIx) (dVar 2) (dVar 4)) (dCons (dVar 3) (dCons (dG1 (gFld "things") (dVar 1)) dNil))))
def b_three_holds : Ds := (sSeq (sAsg 2 (dCall 1 c_panel_told (dCons (dVar 0) dNil)))
    (sSeq (sIf (dOr (dNot (dG1 (gIsi [(.o 2)]) (dVar 1))) (dNot (dCall 3 c_are_unlike (dCons (dBi gLenS (dCons (dOp2 (fun _ => gIx) (dVar 2) (dC (.int 0))) dNil)) (dCons (dC (.int 3)) (dCons (dG1 (gFld "things") (dVar 1)) dNil)))))) (sRet (dC (.bl false))) sNil)
    (sSeq (sIf (dNot (dCall 3 c_are_numbers (dCons (dBi gLenS (dCons (dVar 2) dNil)) (dCons (dC (.int 3)) (dCons (dG1 (gFld "rows") (dVar 1)) dNil))))) (sRet (dC (.bl false))) sNil)
    (sRet (dBi gAll (dCons (dLc [3, 4] (iZipD (dCons (dG1 (gFld "things") (dVar 1)) (dCons (dG1 (gFld "rows") (dVar 1)) dNil))) (bTup [3, 4]) (dC (.bl true)) E1_three_holds) dNil))))))
def c_three_holds : Con := runD 5 b_three_holds
abbrev s_is_four : Stmt := (top 27)
abbrev N_is_four : List Str := ["first", "second", "things", "one", "two", "three", "four"]
def b_is_four : Ds := (sSeq (sUnp [3, 4, 5, 6] (dVar 2))
    (sSeq (sIf (dOr (dNot (dCall 3 c_is_ahead (dCons (dVar 0) (dCons (dVar 3) (dCons (dVar 4) dNil))))) (dOr (dNot (dCall 3 c_is_ahead (dCons (dVar 0) (dCons (dVar 4) (dCons (dVar 5) dNil))))) (dNot (dCall 3 c_is_ahead (dCons (dVar 0) (dCons (dVar 6) (dCons (dVar 4) dNil))))))) (sRet (dC (.bl false))) sNil)
    (sRet (dAnd (dCall 3 c_is_ahead (dCons (dVar 1) (dCons (dVar 5) (dCons (dVar 4) dNil)))) (dAnd (dCall 3 c_is_ahead (dCons (dVar 1) (dCons (dVar 4) (dCons (dVar 3) dNil)))) (dCall 3 c_is_ahead (dCons (dVar 1) (dCons (dVar 6) (dCons (dVar 4) dNil)))))))))
def c_is_four : Con := runD 7 b_is_four
abbrev s_four_holds : Stmt := (top 28)
abbrev N_four_holds : List Str := ["panel", "value", "orders"]
def b_four_holds : Ds := (sSeq (sAsg 2 (dCall 1 c_panel_told (dCons (dVar 0) dNil)))
    (sSeq (sIf (dOr (dNot (dG1 (gIsi [(.o 3)]) (dVar 1))) (dNot (dCall 3 c_are_unlike (dCons (dBi gLenS (dCons (dOp2 (fun _ => gIx) (dVar 2) (dC (.int 0))) dNil)) (dCons (dC (.int 4)) (dCons (dG1 (gFld "things") (dVar 1)) dNil)))))) (sRet (dC (.bl false))) sNil)
    (sSeq (sIf (dNot (dCall 3 c_are_numbers (dCons (dBi gLenS (dCons (dVar 2) dNil)) (dCons (dC (.int 2)) (dCons (dG1 (gFld "rows") (dVar 1)) dNil))))) (sRet (dC (.bl false))) sNil)
    (sRet (dCall 3 c_is_four (dCons (dOp2 (fun _ => gIx) (dVar 2) (dOp2 (fun _ => gIx) (dG1 (gFld "rows") (dVar 1)) (dC (.int 0)))) (dCons (dOp2 (fun _ => gIx) (dVar 2) (dOp2 (fun _ => gIx) (dG1 (gFld "rows") (dVar 1)) (dC (.int 1)))) (dCons (dG1 (gFld "things") (dVar 1)) dNil))))))))
def c_four_holds : Con := runD 3 b_four_holds
abbrev s_rows_of_things : Stmt := (top 29)
abbrev N_rows_of_things : List Str := ["many", "length", "layer", "_", "row", "thing"]
def E1_rows_of_things : Dn := (dOp2 (fun _ => gAdd) (dVar 4) (dBi gTup (dCons (dVar 5) dNil)))
def T1_rows_of_things : Dn := (dOp2 (fun _ => (gInS true)) (dVar 5) (dVar 4))
def L1_rows_of_things : Ds := (sAsg 2 (dLc2 [4, 5] [5] (iItems (dVar 2)) (bName 4) (dC (.bl true)) (iRg1 (dCons (dVar 0) dNil)) (bName 5) T1_rows_of_things E1_rows_of_things))
def b_rows_of_things : Ds := (sSeq (sAsg 2 (dBi gLst (dCons (dBi gTup dNil) dNil)))
    (sSeq (sFor (iRg1 (dCons (dVar 1) dNil)) (bName 3) L1_rows_of_things)
    (sRet (dVar 2))))
def c_rows_of_things : Con := runD 6 b_rows_of_things
abbrev s_first_axis : Stmt := (top 30)
abbrev N_first_axis : List Str := ["orders", "axis"]
def L1_first_axis : Ds := (sIf (dCall 2 c_all_fall (dCons (dVar 0) (dCons (dVar 1) dNil))) (sRet (dVar 1)) sNil)
def b_first_axis : Ds := (sSeq (sFor (iItems (dCall 2 c_rows_of_things (dCons (dBi gLenS (dCons (dOp2 (fun _ => gIx) (dVar 0) (dC (.int 0))) dNil)) (dCons (dBi gLenS (dCons (dOp2 (fun _ => gIx) (dVar 0) (dC (.int 0))) dNil)) dNil)))) (bName 1) L1_first_axis)
    (sRet (dC .non)))
def c_first_axis : Con := runD 2 b_first_axis
abbrev s_last_rows : Stmt := (top 31)
abbrev N_last_rows : List Str := ["orders", "things", "found", "thing", "row"]
def T1_last_rows : Dn := (dCall 3 c_is_last (dCons (dOp2 (fun _ => gIx) (dVar 0) (dVar 4)) (dCons (dVar 3) (dCons (dVar 1) dNil))))
def L1_last_rows : Ds := (sAsg 2 (dOp2 (fun _ => gAdd) (dVar 2) (dSl (dLc [4] (iRg1 (dCons (dBi gLenS (dCons (dVar 0) dNil)) dNil)) (bName 4) T1_last_rows (dVar 4)) (dC .non) (dPart (dC (.int 1))))))
def b_last_rows : Ds := (sSeq (sAsg 2 (dBi gLst dNil))
    (sSeq (sFor (iItems (dVar 1)) (bName 3) L1_last_rows)
    (sRet (dVar 2))))
def c_last_rows : Con := runD 5 b_last_rows
abbrev s_no_axis : Stmt := (top 32)
abbrev N_no_axis : List Str := ["orders", "things", "rows", "one", "other"]
def L1_no_axis : Ds := (sSeq (sAsg 2 (dCall 2 c_last_rows (dCons (dVar 0) (dCons (dVar 1) dNil))))
    (sIf (dOp2 (fun _ => gEq) (dBi gLenS (dCons (dVar 2) dNil)) (dC (.int 3))) (sRet (dMake 2 2 c_in_Three (dCons (dVar 1) (dCons (dVar 2) dNil)))) sNil))
def L2_no_axis : Ds := (sIf (dCall 3 c_is_four (dCons (dOp2 (fun _ => gIx) (dVar 0) (dVar 3)) (dCons (dOp2 (fun _ => gIx) (dVar 0) (dVar 4)) (dCons (dVar 1) dNil)))) (sRet (dMake 3 2 c_in_Four (dCons (dVar 1) (dCons (dBi gTup (dCons (dVar 3) (dCons (dVar 4) dNil))) dNil)))) sNil)
def L3_no_axis : Ds := (sFor (iRg1 (dCons (dBi gLenS (dCons (dVar 0) dNil)) dNil)) (bName 4) L2_no_axis)
def L4_no_axis : Ds := (sFor (iRg1 (dCons (dBi gLenS (dCons (dVar 0) dNil)) dNil)) (bName 3) L3_no_axis)
def b_no_axis : Ds := (sSeq (sFor (iItems (dCall 2 c_rows_of_things (dCons (dBi gLenS (dCons (dOp2 (fun _ => gIx) (dVar 0) (dC (.int 0))) dNil)) (dCons (dC (.int 3)) dNil)))) (bName 1) L1_no_axis)
    (sSeq (sFor (iItems (dCall 2 c_rows_of_things (dCons (dBi gLenS (dCons (dOp2 (fun _ => gIx) (dVar 0) (dC (.int 0))) dNil)) (dCons (dC (.int 4)) dNil)))) (bName 1) L4_no_axis)
    (sRet (dC .non))))
def c_no_axis : Con := runD 5 b_no_axis
abbrev s_axis_verdict : Stmt := (top 33)
abbrev N_axis_verdict : List Str := ["panel", "orders", "axis"]
def b_axis_verdict : Ds := (sSeq (sAsg 1 (dCall 1 c_panel_told (dCons (dVar 0) dNil)))
    (sSeq (sAsg 2 (dCall 1 c_first_axis (dCons (dVar 1) dNil)))
    (sRet (dIf (dOp2 (fun _ => gIsN) (dVar 2) (dC .non)) (dCall 1 c_no_axis (dCons (dVar 1) dNil)) (dMake 1 1 c_in_Axis (dCons (dVar 2) dNil))))))
def c_axis_verdict : Con := runD 3 b_axis_verdict
abbrev s__law_pen : Stmt := (top 35)
abbrev N__law_pen : List Str := ["script", "fold", "cell"]
def L1__law_pen : Ds := (sAsg 1 (dOp2 (fun _ => gMod) (dBi gInt (dCons (dOp2 (fun _ => gAdd) (dOp2 (fun _ => gMulI) (dVar 1) (dC (.int 59))) (dVar 2)) dNil)) (dC (.int 1000000009))))
def b__law_pen : Ds := (sSeq (sAsg 1 (dC (.int 0)))
    (sSeq (sFor (iItems (dVar 0)) (bName 2) L1__law_pen)
    (sRet (dDispS (((dC (.str (Str.ofString "cells"))), (dBi gListOf (dCons (dVar 0) dNil))) :: (((dC (.str (Str.ofString "at"))), (dC (.int 0))) :: (((dC (.str (Str.ofString "digits"))), (dC (.int 0))) :: (((dC (.str (Str.ofString "count"))), (dC (.int 0))) :: (((dC (.str (Str.ofString "fold"))), (dVar 1)) :: [])))))))))
def c__law_pen : Con := runD 3 b__law_pen
abbrev s__law_draw : Stmt := (top 36)
abbrev N__law_draw : List Str := ["pen", "many", "cell", "digit", "blend"]
def b__law_draw : Ds := (sSeq (sDPutD (dVar 0) (dC (.str (Str.ofString "count"))) (dOp2 (fun _ => gAdd) (dOp2 gDGet (dVar 0) (dC (.str (Str.ofString "count")))) (dC (.int 1))))
    (sSeq (sIf (dAnd (dOp2 (fun _ => gEq) (dOp2 gDGet (dVar 0) (dC (.str (Str.ofString "digits")))) (dC (.int 0))) (dOp2 (fun _ => gLt) (dOp2 gDGet (dVar 0) (dC (.str (Str.ofString "at")))) (dBi gLenS (dCons (dOp2 gDGet (dVar 0) (dC (.str (Str.ofString "cells")))) dNil)))) (sSeq (sAsg 2 (dOp2 (fun _ => gIx) (dOp2 gDGet (dVar 0) (dC (.str (Str.ofString "cells")))) (dOp2 gDGet (dVar 0) (dC (.str (Str.ofString "at"))))))
    (sSeq (sDPutD (dVar 0) (dC (.str (Str.ofString "at"))) (dOp2 (fun _ => gAdd) (dOp2 gDGet (dVar 0) (dC (.str (Str.ofString "at")))) (dC (.int 1))))
    (sIf (dOp2 (fun _ => gGe) (dVar 2) (dOp2 (fun _ => gPow) (dC (.int 10)) (dC (.int 18)))) (sDPutD (dVar 0) (dC (.str (Str.ofString "digits"))) (dOp2 (fun _ => gSub) (dVar 2) (dOp2 (fun _ => gPow) (dC (.int 10)) (dC (.int 18))))) (sDPutD (dVar 0) (dC (.str (Str.ofString "fold"))) (dOp2 (fun _ => gMod) (dBi gInt (dCons (dOp2 (fun _ => gAdd) (dOp2 (fun _ => gMulI) (dOp2 gDGet (dVar 0) (dC (.str (Str.ofString "fold")))) (dC (.int 48271))) (dVar 2)) dNil)) (dC (.int 2147483563))))))) sNil)
    (sSeq (sIf (dOp2 (fun _ => gGt) (dOp2 gDGet (dVar 0) (dC (.str (Str.ofString "digits")))) (dC (.int 0))) (sSeq (sAsg 3 (dOp2 (fun _ => gMod) (dBi gInt (dCons (dOp2 gDGet (dVar 0) (dC (.str (Str.ofString "digits")))) dNil)) (dVar 1)))
    (sSeq (sDPutD (dVar 0) (dC (.str (Str.ofString "digits"))) (dOp2 (fun _ => gFdiv) (dOp2 gDGet (dVar 0) (dC (.str (Str.ofString "digits")))) (dVar 1)))
    (sRet (dVar 3)))) sNil)
    (sSeq (sAsg 4 (dOp2 (fun _ => gAdd) (dOp2 (fun _ => gAdd) (dOp2 gDGet (dVar 0) (dC (.str (Str.ofString "fold")))) (dOp2 (fun _ => gMulI) (dOp2 gDGet (dVar 0) (dC (.str (Str.ofString "count")))) (dC (.int 8513)))) (dC (.int 61))))
    (sRet (dOp2 (fun _ => gMod) (dOp2 (fun _ => gFdiv) (dBi gInt (dCons (dOp2 (fun _ => gMod) (dOp2 (fun _ => gPow) (dVar 4) (dC (.int 19))) (dC (.int 2305843009213693951))) dNil)) (dC (.int 256))) (dVar 1)))))))
def c__law_draw : Con := runD 5 b__law_draw
abbrev s__law_pick : Stmt := (top 37)
abbrev N__law_pick : List Str := ["pen", "some"]
def b__law_pick : Ds := (sRet (dOp2 (fun _ => gIx) (dVar 1) (dCall 2 c__law_draw (dCons (dVar 0) (dCons (dBi gLenS (dCons (dVar 1) dNil)) dNil)))))
def c__law_pick : Con := runD 2 b__law_pick
abbrev s__law_shuffled : Stmt := (top 38)
abbrev N__law_shuffled : List Str := ["pen", "some", "remain", "found", "lap"]
def L1__law_shuffled : Ds := (sExpr (dMth 3 gAppend (dCons (dMth 2 gPopAt (dCons (dCall 2 c__law_draw (dCons (dVar 0) (dCons (dLenV 2) dNil))) dNil)) dNil)))
def b__law_shuffled : Ds := (sSeq (sPar [2, 3] ((true, (dBi gListOf (dCons (dVar 1) dNil))) :: ((true, (dBi gLst dNil)) :: [])))
    (sSeq (sFor (iRg1 (dCons (dBi gLenS (dCons (dVar 1) dNil)) dNil)) (bName 4) L1__law_shuffled)
    (sRet (dVarF 3))))
def c__law_shuffled : Con := runD 5 b__law_shuffled
abbrev s__law_is_int : Stmt := (top 39)
abbrev N__law_is_int : List Str := ["thing"]
def b__law_is_int : Ds := (sRet (dAnd (dG1 (gIsi [(.b .int)]) (dVar 0)) (dNot (dG1 (gIsi [(.b .bl)]) (dVar 0)))))
def c__law_is_int : Con := runD 1 b__law_is_int
abbrev s__law_says_not : Stmt := (top 40)
abbrev N__law_says_not : List Str := ["told", "right"]
def b__law_says_not : Ds := (sRet (dOr (dNot (dG1 (gIsi [(.b .bl)]) (dVar 0))) (dOp2 (fun _ => gNe) (dVar 0) (dVar 1))))
def c__law_says_not : Con := runD 2 b__law_says_not
abbrev s__law_panel : Stmt := (top 41)
abbrev N__law_panel : List Str := ["pen", "things", "size", "axis", "panel", "way", "lap", "order", "low", "high", "down"]
def K1__law_panel : Dn := (dOp2 (fun _ => gLt) (dLenV 7) (dVar 1))
def L1__law_panel : Ds := (sSeq (sAsg 10 (dAnd (dOp2 (fun _ => gGt) (dVar 8) (dC (.int 0))) (dOr (dOp2 (fun _ => gEq) (dVar 9) (dOp2 (fun _ => gSub) (dVar 1) (dC (.int 1)))) (dOp2 (fun _ => gEq) (dCall 2 c__law_draw (dCons (dVar 0) (dCons (dC (.int 2)) dNil))) (dC (.int 0))))))
    (sSeq (sUnp [8, 9] (dIf (dVar 10) (dBi gTup (dCons (dOp2 (fun _ => gSub) (dVar 8) (dC (.int 1))) (dCons (dVar 9) dNil))) (dBi gTup (dCons (dVar 8) (dCons (dOp2 (fun _ => gAdd) (dVar 9) (dC (.int 1))) dNil)))))
    (sExpr (dMth 7 gAppend (dCons (dOp2 (fun _ => gIx) (dVar 3) (dIf (dVar 10) (dVar 8) (dVar 9))) dNil)))))
def L2__law_panel : Ds := (sSeq (sPar [7, 8] ((true, (dBi gLst dNil)) :: ((false, (dCall 2 c__law_draw (dCons (dVar 0) (dCons (dVar 1) dNil)))) :: [])))
    (sSeq (sAsg 9 (dVar 8))
    (sSeq (sOwl 7 (dBi gLst (dCons (dOp2 (fun _ => gIx) (dVar 3) (dVar 8)) dNil)))
    (sSeq (whL K1__law_panel L1__law_panel 64)
    (sSeq (sIf (dOr (dOp2 (fun _ => gEq) (dVar 5) (dC (.int 0))) (dAnd (dOp2 (fun _ => gEq) (dVar 5) (dC (.int 1))) (dOp2 (fun _ => gEq) (dVar 6) (dOp2 (fun _ => gSub) (dVar 2) (dC (.int 1)))))) (sAsg 7 (dCall 2 c__law_shuffled (dCons (dVar 0) (dCons (dVarF 7) dNil)))) sNil)
    (sExpr (dMth 4 gAppend (dCons (dBi gTupleOf (dCons (dVarF 7) dNil)) dNil))))))))
def b__law_panel : Ds := (sSeq (sPar [3, 4, 5] ((false, (dCall 2 c__law_shuffled (dCons (dVar 0) (dCons (dLstRg (rg1 (dVar 1))) dNil)))) :: ((true, (dBi gLst dNil)) :: ((false, (dCall 2 c__law_draw (dCons (dVar 0) (dCons (dC (.int 4)) dNil)))) :: []))))
    (sSeq (sFor (iRg1 (dCons (dVar 2) dNil)) (bName 6) L2__law_panel)
    (sRet (dBi gTupleOf (dCons (dVarF 4) dNil)))))
def c__law_panel : Con := runD 11 b__law_panel
abbrev s__law_ahead : Stmt := (top 42)
abbrev N__law_ahead : List Str := ["order", "one", "other"]
def b__law_ahead : Ds := (sRet (dOp2 (fun _ => gLt) (dIndex (dVar 0) (dCons (dVar 1) dNil)) (dIndex (dVar 0) (dCons (dVar 2) dNil))))
def c__law_ahead : Con := runD 3 b__law_ahead
abbrev s__law_falls : Stmt := (top 43)
abbrev N__law_falls : List Str := ["axis", "order", "at", "left", "right"]
def L1__law_falls : Ds := (sIf (dAnd (dCall 3 c__law_ahead (dCons (dVar 1) (dCons (dVar 3) (dCons (dOp2 (fun _ => gIx) (dVar 0) (dVar 2)) dNil)))) (dCall 3 c__law_ahead (dCons (dVar 1) (dCons (dVar 4) (dCons (dOp2 (fun _ => gIx) (dVar 0) (dVar 2)) dNil))))) (sRet (dC (.bl false))) sNil)
def L2__law_falls : Ds := (sFor (iItems (dSl (dVar 0) (dPart (dOp2 (fun _ => gAdd) (dVar 2) (dC (.int 1)))) (dC .non))) (bName 4) L1__law_falls)
def L3__law_falls : Ds := (sFor (iItems (dSl (dVar 0) (dC .non) (dPart (dVar 2)))) (bName 3) L2__law_falls)
def b__law_falls : Ds := (sSeq (sFor (iRg1 (dCons (dBi gLenS (dCons (dVar 0) dNil)) dNil)) (bName 2) L3__law_falls)
    (sRet (dC (.bl true))))
def c__law_falls : Con := runD 5 b__law_falls
abbrev s__law_is_whole : Stmt := (top 44)
abbrev N__law_is_whole : List Str := ["things", "value", "item"]
def E1__law_is_whole : Dn := (dCall 1 c__law_is_int (dCons (dVar 2) dNil))
def b__law_is_whole : Ds := (sRet (dAnd (dG1 (gIsi [(.b .tup)]) (dVar 1)) (dAnd (dBi gAll (dCons (dLc [2] (iItems (dVar 1)) (bName 2) (dC (.bl true)) E1__law_is_whole) dNil)) (dOp2 (fun _ => gEq) (dBi gSorted (dCons (dVar 1) dNil)) (dLstRg (rg1 (dVar 0)))))))
def c__law_is_whole : Con := runD 3 b__law_is_whole
abbrev s__law_numbered : Stmt := (top 45)
abbrev N__law_numbered : List Str := ["most", "many", "value", "item"]
def E1__law_numbered : Dn := (dAnd (dCall 1 c__law_is_int (dCons (dVar 3) dNil)) (dChain (fun _ => gLe) (fun _ => gLt) (dC (.int 0)) (dVar 3) (dVar 0)))
def b__law_numbered : Ds := (sRet (dAnd (dG1 (gIsi [(.b .tup)]) (dVar 2)) (dAnd (dOp2 (fun _ => gEq) (dBi gLenS (dCons (dVar 2) dNil)) (dVar 1)) (dBi gAll (dCons (dLc [3] (iItems (dVar 2)) (bName 3) (dC (.bl true)) E1__law_numbered) dNil)))))
def c__law_numbered : Con := runD 4 b__law_numbered
abbrev s__law_three_right : Stmt := (top 46)
abbrev N__law_three_right : List Str := ["panel", "things", "rows", "many", "other", "thing", "row"]
def E1__law_three_right : Dn := (dOr (dOp2 (fun _ => gEq) (dVar 4) (dVar 5)) (dCall 3 c__law_ahead (dCons (dOp2 (fun _ => gIx) (dVar 0) (dVar 6)) (dCons (dVar 4) (dCons (dVar 5) dNil)))))
def E2__law_three_right : Dn := (dBi gAll (dCons (dLc [4] (iItems (dVar 1)) (bName 4) (dC (.bl true)) E1__law_three_right) dNil))
def b__law_three_right : Ds := (sSeq (sAsg 3 (dBi gLenS (dCons (dOp2 (fun _ => gIx) (dVar 0) (dC (.int 0))) dNil)))
    (sSeq (sIf (dOr (dNot (dCall 3 c__law_numbered (dCons (dVar 3) (dCons (dC (.int 3)) (dCons (dVar 1) dNil))))) (dOr (dOp2 (fun _ => gLt) (dG1 gLenSet (dVar 1)) (dC (.int 3))) (dNot (dCall 3 c__law_numbered (dCons (dBi gLenS (dCons (dVar 0) dNil)) (dCons (dC (.int 3)) (dCons (dVar 2) dNil))))))) (sRet (dC (.bl false))) sNil)
    (sRet (dBi gAll (dCons (dLc [5, 6] (iZipD (dCons (dVar 1) (dCons (dVar 2) dNil))) (bTup [5, 6]) (dC (.bl true)) E2__law_three_right) dNil)))))
def c__law_three_right : Con := runD 7 b__law_three_right
abbrev s__law_four_right : Stmt := (top 47)
abbrev N__law_four_right : List Str := ["panel", "things", "rows", "many", "a", "b", "c", "d", "first", "second"]
def b__law_four_right : Ds := (sSeq (sAsg 3 (dBi gLenS (dCons (dOp2 (fun _ => gIx) (dVar 0) (dC (.int 0))) dNil)))
    (sSeq (sIf (dOr (dNot (dCall 3 c__law_numbered (dCons (dVar 3) (dCons (dC (.int 4)) (dCons (dVar 1) dNil))))) (dOr (dOp2 (fun _ => gLt) (dG1 gLenSet (dVar 1)) (dC (.int 4))) (dNot (dCall 3 c__law_numbered (dCons (dBi gLenS (dCons (dVar 0) dNil)) (dCons (dC (.int 2)) (dCons (dVar 2) dNil))))))) (sRet (dC (.bl false))) sNil)
    (sSeq (sUnp [4, 5, 6, 7] (dVar 1))
    (sSeq (sPar [8, 9] ((false, (dOp2 (fun _ => gIx) (dVar 0) (dOp2 (fun _ => gIx) (dVar 2) (dC (.int 0))))) :: ((false, (dOp2 (fun _ => gIx) (dVar 0) (dOp2 (fun _ => gIx) (dVar 2) (dC (.int 1))))) :: [])))
    (sSeq (sIf (dNot (dAnd (dCall 3 c__law_ahead (dCons (dVar 8) (dCons (dVar 4) (dCons (dVar 5) dNil)))) (dAnd (dCall 3 c__law_ahead (dCons (dVar 8) (dCons (dVar 5) (dCons (dVar 6) dNil)))) (dCall 3 c__law_ahead (dCons (dVar 8) (dCons (dVar 7) (dCons (dVar 5) dNil))))))) (sRet (dC (.bl false))) sNil)
    (sRet (dAnd (dCall 3 c__law_ahead (dCons (dVar 9) (dCons (dVar 6) (dCons (dVar 5) dNil)))) (dAnd (dCall 3 c__law_ahead (dCons (dVar 9) (dCons (dVar 5) (dCons (dVar 4) dNil)))) (dCall 3 c__law_ahead (dCons (dVar 9) (dCons (dVar 7) (dCons (dVar 5) dNil))))))))))))
def c__law_four_right : Con := runD 10 b__law_four_right
abbrev s__law_loose_panel : Stmt := (top 48)
abbrev N__law_loose_panel : List Str := ["pen", "panel", "order"]
def E1__law_loose_panel : Dn := (dBi gListOf (dCons (dVar 2) dNil))
def b__law_loose_panel : Ds := (sRet (dCall 2 c__law_pick (dCons (dVar 0) (dCons (dBi gLst (dCons (dVar 1) (dCons (dLc [2] (iItems (dVar 1)) (bName 2) (dC (.bl true)) E1__law_loose_panel) (dCons (dBi gListOf (dCons (dVar 1) dNil)) dNil)))) dNil))))
def c__law_loose_panel : Con := runD 3 b__law_loose_panel
abbrev s__law_bent : Stmt := (top 49)
abbrev N__law_bent : List Str := ["pen", "row", "many", "at", "odd"]
def b__law_bent : Ds := (sSeq (sAsg 3 (dCall 2 c__law_draw (dCons (dVar 0) (dCons (dOp2 (fun _ => gAdd) (dBi gLenS (dCons (dVar 1) dNil)) (dC (.int 1))) dNil))))
    (sSeq (sAsg 4 (dCall 2 c__law_pick (dCons (dVar 0) (dCons (dBi gLst (dCons (dC (.int 0)) (dCons (dVar 2) (dCons (dUn gNeg (dC (.int 1))) (dCons (dC .non) (dCons (dC (.bl true)) (dCons (dBi gTup (dCons (dC (.int 0)) dNil)) (dCons (dOp2 (fun _ => gSub) (dVar 2) (dC (.int 1))) dNil)))))))) dNil))))
    (sRet (dCall 2 c__law_pick (dCons (dVar 0) (dCons (dBi gLst (dCons (dOp2 (fun _ => gAdd) (dOp2 (fun _ => gAdd) (dSl (dVar 1) (dC .non) (dPart (dVar 3))) (dBi gTup (dCons (dVar 4) dNil))) (dSl (dVar 1) (dPart (dOp2 (fun _ => gAdd) (dVar 3) (dC (.int 1)))) (dC .non))) (dCons (dOp2 (fun _ => gAdd) (dOp2 (fun _ => gAdd) (dSl (dVar 1) (dC .non) (dPart (dVar 3))) (dBi gTup (dCons (dVar 4) dNil))) (dSl (dVar 1) (dPart (dVar 3)) (dC .non))) (dCons (dSl (dVar 1) (dPart (dC (.int 1))) (dC .non)) (dCons (dOp2 (fun _ => gAdd) (dVar 1) (dSl (dVar 1) (dC .non) (dPart (dC (.int 1))))) (dCons (dG1 gRev (dVar 1)) (dCons (dBi gListOf (dCons (dVar 1) dNil)) (dCons (dC .non) (dCons (dC (.int 0)) dNil))))))))) dNil))))))
def c__law_bent : Con := runD 5 b__law_bent
abbrev s__law_some_three : Stmt := (top 50)
abbrev N__law_some_three : List Str := ["pen", "panel", "things", "lot", "rows", "thing", "able", "at", "other"]
def E1__law_some_three : Dn := (dOr (dOp2 (fun _ => gEq) (dVar 8) (dVar 5)) (dCall 3 c__law_ahead (dCons (dOp2 (fun _ => gIx) (dVar 1) (dVar 7)) (dCons (dVar 8) (dCons (dVar 5) dNil)))))
def T1__law_some_three : Dn := (dBi gAll (dCons (dLc [8] (iItems (dVar 3)) (bName 8) (dC (.bl true)) E1__law_some_three) dNil))
def L1__law_some_three : Ds := (sSeq (sAsg 6 (dLc [7] (iRg1 (dCons (dBi gLenS (dCons (dVar 1) dNil)) dNil)) (bName 7) T1__law_some_three (dVar 7)))
    (sExpr (dMth 4 gAppend (dCons (dIf (dOp2 (fun _ => gNe) (dVar 6) (dBi gLst dNil)) (dCall 2 c__law_pick (dCons (dVar 0) (dCons (dVar 6) dNil))) (dCall 2 c__law_draw (dCons (dVar 0) (dCons (dBi gLenS (dCons (dVar 1) dNil)) dNil)))) dNil))))
def b__law_some_three : Ds := (sSeq (sAsg 3 (dBi gTupleOf (dCons (dSl (dCall 2 c__law_shuffled (dCons (dVar 0) (dCons (dLstRg (rg1 (dVar 2))) dNil))) (dC .non) (dPart (dC (.int 3)))) dNil)))
    (sSeq (sOwl 4 (dBi gLst dNil))
    (sSeq (sFor (iItems (dVar 3)) (bName 5) L1__law_some_three)
    (sRet (dBi gTup (dCons (dVar 3) (dCons (dBi gTupleOf (dCons (dVarF 4) dNil)) dNil)))))))
def c__law_some_three : Con := runD 9 b__law_some_three
abbrev s__law_some_four : Stmt := (top 51)
abbrev N__law_some_four : List Str := ["pen", "panel", "things", "found", "lap", "lot", "rows"]
def L1__law_some_four : Ds := (sSeq (sPar [5, 6] ((false, (dBi gTupleOf (dCons (dSl (dCall 2 c__law_shuffled (dCons (dVar 0) (dCons (dLstRg (rg1 (dVar 2))) dNil))) (dC .non) (dPart (dC (.int 4)))) dNil))) :: ((false, (dBi gTup (dCons (dCall 2 c__law_draw (dCons (dVar 0) (dCons (dBi gLenS (dCons (dVar 1) dNil)) dNil))) (dCons (dCall 2 c__law_draw (dCons (dVar 0) (dCons (dBi gLenS (dCons (dVar 1) dNil)) dNil))) dNil)))) :: [])))
    (sAsg 3 (dIf (dAnd (dOp2 (fun _ => gEq) (dBi gLenS (dCons (dVar 5) dNil)) (dC (.int 4))) (dCall 3 c__law_four_right (dCons (dVar 1) (dCons (dVar 5) (dCons (dVar 6) dNil))))) (dOp2 (fun _ => gAdd) (dBi gLst (dCons (dBi gTup (dCons (dVar 5) (dCons (dVar 6) dNil))) dNil)) (dVar 3)) (dOp2 (fun _ => gAdd) (dVar 3) (dBi gLst (dCons (dBi gTup (dCons (dVar 5) (dCons (dVar 6) dNil))) dNil))))))
def b__law_some_four : Ds := (sSeq (sAsg 3 (dBi gLst dNil))
    (sSeq (sFor (iRg1 (dCons (dC (.int 12)) dNil)) (bName 4) L1__law_some_four)
    (sRet (dOp2 (fun _ => gIx) (dVar 3) (dC (.int 0))))))
def c__law_some_four : Con := runD 7 b__law_some_four
abbrev s_law : Stmt := (top 52)
abbrev N_law : List Str := ["script", "pen", "things", "size", "panel", "paper", "lap", "given", "axis", "value", "due", "lot", "rows", "odd", "order"]
def E1_law : Dn := (dCall 2 c__law_falls (dCons (dG1 (gFld "things") (dVar 9)) (dCons (dVar 14) dNil)))
def L1_law : Ds := (sSeq (sAsg 7 (dCall 2 c__law_loose_panel (dCons (dVar 1) (dCons (dVar 4) dNil))))
    (sSeq (sAsg 8 (dIf (dAnd (dG1 (gIsi [(.o 1)]) (dVar 5)) (dOp2 (fun _ => gLt) (dVar 6) (dC (.int 6)))) (dG1 (gFld "things") (dVar 5)) (dBi gTupleOf (dCons (dCall 2 c__law_shuffled (dCons (dVar 1) (dCons (dLstRg (rg1 (dVar 2))) dNil))) dNil))))
    (sSeq (sAsg 8 (dCall 2 c__law_pick (dCons (dVar 1) (dCons (dBi gLst (dCons (dVar 8) (dCons (dG1 gRev (dVar 8)) (dCons (dCall 3 c__law_bent (dCons (dVar 1) (dCons (dVar 8) (dCons (dVar 2) dNil)))) (dCons (dBi gListOf (dCons (dVar 8) dNil)) dNil))))) dNil))))
    (sSeq (sAsg 9 (dMake 1 1 c_in_Axis (dCons (dVar 8) dNil)))
    (sSeq (sAsg 10 (dAnd (dCall 2 c__law_is_whole (dCons (dVar 2) (dCons (dG1 (gFld "things") (dVar 9)) dNil))) (dBi gAll (dCons (dLc [14] (iItems (dVar 4)) (bName 14) (dC (.bl true)) E1_law) dNil))))
    (sSeq (sIf (dCall 2 c__law_says_not (dCons (dCall 2 c_axis_holds (dCons (dVar 7) (dCons (dVar 9) dNil))) (dCons (dVar 10) dNil))) (sRet (dC (.bl false))) sNil)
    (sSeq (sUnp [11, 12] (dCall 3 c__law_some_three (dCons (dVar 1) (dCons (dVar 4) (dCons (dVar 2) dNil)))))
    (sSeq (sUnp [11, 12] (dCall 2 c__law_pick (dCons (dVar 1) (dCons (dBi gLst (dCons (dBi gTup (dCons (dVar 11) (dCons (dVar 12) dNil))) (dCons (dBi gTup (dCons (dVar 11) (dCons (dVar 12) dNil))) (dCons (dBi gTup (dCons (dCall 3 c__law_bent (dCons (dVar 1) (dCons (dVar 11) (dCons (dVar 2) dNil)))) (dCons (dVar 12) dNil))) (dCons (dBi gTup (dCons (dVar 11) (dCons (dCall 3 c__law_bent (dCons (dVar 1) (dCons (dVar 12) (dCons (dBi gLenS (dCons (dVar 4) dNil)) dNil)))) dNil))) (dCons (dBi gTup (dCons (dG1 gRev (dVar 11)) (dCons (dVar 12) dNil))) dNil)))))) dNil))))
    (sSeq (sAsg 9 (dMake 2 2 c_in_Three (dCons (dVar 11) (dCons (dVar 12) dNil))))
    (sSeq (sIf (dCall 2 c__law_says_not (dCons (dCall 2 c_three_holds (dCons (dVar 7) (dCons (dVar 9) dNil))) (dCons (dCall 3 c__law_three_right (dCons (dVar 4) (dCons (dG1 (gFld "things") (dVar 9)) (dCons (dG1 (gFld "rows") (dVar 9)) dNil)))) dNil))) (sRet (dC (.bl false))) sNil)
    (sSeq (sUnp [11, 12] (dCall 3 c__law_some_four (dCons (dVar 1) (dCons (dVar 4) (dCons (dVar 2) dNil)))))
    (sSeq (sIf (dAnd (dOp2 (fun _ => gGt) (dVar 2) (dC (.int 3))) (dAnd (dOp2 (fun _ => gEq) (dVar 6) (dC (.int 0))) (dOp2 (fun _ => gGt) (dBi gLenS (dCons (dVar 4) dNil)) (dVar 3)))) (sPar [11, 12] ((false, (dBi gTup (dCons (dC (.int 0)) (dCons (dC (.int 1)) (dCons (dC (.int 2)) (dCons (dC (.int 3)) dNil)))))) :: ((false, (dBi gTup (dCons (dVar 3) (dCons (dOp2 (fun _ => gAdd) (dVar 3) (dC (.int 1))) dNil)))) :: []))) sNil)
    (sSeq (sUnp [11, 12] (dCall 2 c__law_pick (dCons (dVar 1) (dCons (dBi gLst (dCons (dBi gTup (dCons (dVar 11) (dCons (dVar 12) dNil))) (dCons (dBi gTup (dCons (dVar 11) (dCons (dVar 12) dNil))) (dCons (dBi gTup (dCons (dCall 3 c__law_bent (dCons (dVar 1) (dCons (dVar 11) (dCons (dVar 2) dNil)))) (dCons (dVar 12) dNil))) (dCons (dBi gTup (dCons (dVar 11) (dCons (dCall 3 c__law_bent (dCons (dVar 1) (dCons (dVar 12) (dCons (dBi gLenS (dCons (dVar 4) dNil)) dNil)))) dNil))) (dCons (dBi gTup (dCons (dVar 11) (dCons (dG1 gRev (dVar 12)) dNil))) dNil)))))) dNil))))
    (sSeq (sAsg 9 (dMake 3 2 c_in_Four (dCons (dVar 11) (dCons (dVar 12) dNil))))
    (sIf (dCall 2 c__law_says_not (dCons (dCall 2 c_four_holds (dCons (dVar 7) (dCons (dVar 9) dNil))) (dCons (dCall 3 c__law_four_right (dCons (dVar 4) (dCons (dG1 (gFld "things") (dVar 9)) (dCons (dG1 (gFld "rows") (dVar 9)) dNil)))) dNil))) (sRet (dC (.bl false))) sNil)))))))))))))))
def L2_law : Ds := (sIf (dOr (dCall 2 c_axis_holds (dCons (dVar 4) (dCons (dVar 13) dNil))) (dOr (dCall 2 c_three_holds (dCons (dVar 4) (dCons (dVar 13) dNil))) (dCall 2 c_four_holds (dCons (dVar 4) (dCons (dVar 13) dNil))))) (sRet (dC (.bl false))) sNil)
def b_law : Ds := (sSeq (sAsg 1 (dCall 1 c__law_pen (dCons (dVar 0) dNil)))
    (sSeq (sPar [2, 3] ((false, (dCall 2 c__law_pick (dCons (dVar 1) (dCons (dBi gLst (dCons (dC (.int 4)) (dCons (dC (.int 3)) (dCons (dC (.int 5)) (dCons (dC (.int 6)) (dCons (dC (.int 2)) (dCons (dC (.int 4)) dNil))))))) dNil)))) :: ((false, (dCall 2 c__law_pick (dCons (dVar 1) (dCons (dBi gLst (dCons (dC (.int 2)) (dCons (dC (.int 3)) (dCons (dC (.int 4)) (dCons (dC (.int 6)) (dCons (dC (.int 1)) dNil)))))) dNil)))) :: [])))
    (sSeq (sAsg 4 (dCall 3 c__law_panel (dCons (dVar 1) (dCons (dVar 2) (dCons (dVar 3) dNil)))))
    (sSeq (sIf (dAnd (dOp2 (fun _ => gGt) (dVar 2) (dC (.int 3))) (dOp2 (fun _ => gEq) (dCall 2 c__law_draw (dCons (dVar 1) (dCons (dC (.int 2)) dNil))) (dC (.int 0)))) (sAsg 4 (dOp2 (fun _ => gAdd) (dVar 4) (dBi gTup (dCons (dOp2 (fun _ => gAdd) (dBi gTup (dCons (dC (.int 0)) (dCons (dC (.int 3)) (dCons (dC (.int 1)) (dCons (dC (.int 2)) dNil))))) (dTupRg (rg2 (dC (.int 4)) (dVar 2)))) (dCons (dOp2 (fun _ => gAdd) (dBi gTup (dCons (dC (.int 3)) (dCons (dC (.int 2)) (dCons (dC (.int 1)) (dCons (dC (.int 0)) dNil))))) (dTupRg (rg2 (dC (.int 4)) (dVar 2)))) dNil))))) sNil)
    (sSeq (sAsg 5 (dCall 1 c_axis_verdict (dCons (dVar 4) dNil)))
    (sSeq (sFor (iRg1 (dCons (dC (.int 12)) dNil)) (bName 6) L1_law)
    (sSeq (sFor (iItems (dBi gLst (dCons (dC .non) (dCons (dC (.int 0)) (dCons (dBi gTup dNil) (dCons (dC (.str (Str.ofString "x"))) (dCons (dDispV (((dC (.int 0)), (dC (.int 1))) :: [])) (dCons (dMake 1 1 c_in_Axis (dCons (dC .non) dNil)) (dCons (dMake 2 2 c_in_Three (dCons (dC .non) (dCons (dC .non) dNil))) (dCons (dMake 3 2 c_in_Four (dCons (dC .non) (dCons (dC .non) dNil))) (dCons (dMake 2 2 c_in_Three (dCons (dBi gTup (dCons (dC (.int 0)) (dCons (dC (.int 1)) (dCons (dC (.int 2)) dNil)))) (dCons (dC .non) dNil))) (dCons (dMake 3 2 c_in_Four (dCons (dBi gTup (dCons (dC (.int 0)) (dCons (dC (.int 1)) (dCons (dC (.int 2)) (dCons (dC (.int 3)) dNil))))) (dCons (dC .non) dNil))) (dCons (dMake 0 1 c_in_Turn (dCons (dBi gTup (dCons (dC (.int 0)) dNil)) dNil)) (dCons (dTupRg (rg1 (dVar 2))) dNil)))))))))))))) (bName 13) L2_law)
    (sSeq (sIf (dOr (dOwnEq true 1 c_eq_Axis (dMake 1 1 c_in_Axis (dCons (dBi gLst (dCons (dC (.int 1)) dNil)) dNil)) (dMake 1 1 c_in_Axis (dCons (dBi gTup (dCons (dC (.int 1)) dNil)) dNil))) (dOr (dOwnEq false 1 c_eq_Axis (dMake 1 1 c_in_Axis (dCons (dBi gTup (dCons (dC (.int 1)) dNil)) dNil)) (dMake 1 1 c_in_Axis (dCons (dBi gTup (dCons (dC (.int 2)) dNil)) dNil))) (dOr (dOwnEq true 2 c_eq_Three (dMake 2 2 c_in_Three (dCons (dBi gLst (dCons (dC (.int 1)) dNil)) (dCons (dC (.int 2)) dNil))) (dMake 2 2 c_in_Three (dCons (dBi gTup (dCons (dC (.int 1)) dNil)) (dCons (dC (.int 2)) dNil)))) (dOr (dOwnEq false 2 c_eq_Three (dMake 2 2 c_in_Three (dCons (dC (.int 1)) (dCons (dC (.int 2)) dNil))) (dMake 2 2 c_in_Three (dCons (dC (.int 1)) (dCons (dC (.int 3)) dNil)))) (dOwnEq false 2 c_eq_Three (dMake 2 2 c_in_Three (dCons (dC (.int 1)) (dCons (dC (.int 2)) dNil))) (dMake 2 2 c_in_Three (dCons (dC (.int 3)) (dCons (dC (.int 2)) dNil)))))))) (sRet (dC (.bl false))) sNil)
    (sRet (dAnd (dOwnEq false 3 c_eq_Four (dMake 3 2 c_in_Four (dCons (dC (.int 1)) (dCons (dBi gLst (dCons (dC (.int 2)) dNil)) dNil))) (dMake 3 2 c_in_Four (dCons (dC (.int 1)) (dCons (dBi gTup (dCons (dC (.int 2)) dNil)) dNil)))) (dAnd (dOwnEq true 3 c_eq_Four (dMake 3 2 c_in_Four (dCons (dC (.int 1)) (dCons (dC (.int 2)) dNil))) (dMake 3 2 c_in_Four (dCons (dC (.int 1)) (dCons (dC (.int 3)) dNil)))) (dAnd (dOwnEq true 3 c_eq_Four (dMake 3 2 c_in_Four (dCons (dC (.int 1)) (dCons (dC (.int 2)) dNil))) (dMake 3 2 c_in_Four (dCons (dC (.int 3)) (dCons (dC (.int 2)) dNil)))) (dOwnEq true 3 c_eq_Four (dMake 3 2 c_in_Four (dCons (dC (.int 1)) (dCons (dC (.int 2)) dNil))) (dMake 2 2 c_in_Three (dCons (dC (.int 1)) (dCons (dC (.int 2)) dNil))))))))))))))))
def c_law : Con := runD 15 b_law
structure Env0 (T : Tb) (mg : Str → Option Value) : Prop where
  b_all : mg "all" = none
  b_bool : mg "bool" = none
  b_int : mg "int" = none
  b_isinstance : mg "isinstance" = none
  b_len : mg "len" = none
  b_list : mg "list" = none
  b_range : mg "range" = none
  b_set : mg "set" = none
  b_sorted : mg "sorted" = none
  b_tuple : mg "tuple" = none
  b_zip : mg "zip" = none
  c_Turn : mg "Turn" = some (.ref (T.cl 0))
  lt_Turn : 0 < T.nc
  k_Turn : PySem.W.keepIn T.K (.ref (T.cl 0)) = true
  c_Axis : mg "Axis" = some (.ref (T.cl 1))
  lt_Axis : 1 < T.nc
  k_Axis : PySem.W.keepIn T.K (.ref (T.cl 1)) = true
  c_Three : mg "Three" = some (.ref (T.cl 2))
  lt_Three : 2 < T.nc
  k_Three : PySem.W.keepIn T.K (.ref (T.cl 2)) = true
  c_Four : mg "Four" = some (.ref (T.cl 3))
  lt_Four : 3 < T.nc
  k_Four : PySem.W.keepIn T.K (.ref (T.cl 3)) = true
  f_rows : ("rows" : Str) ∈ T.fl
  f_things : ("things" : Str) ∈ T.fl
section
variable {T : Tb} {P : Program} {w : World} {mg : Str → Option Value} {base : Heap}
theorem sc_frozen : FnScope N_frozen ["value"] (defScope s_frozen) := ⟨rfl, rfl, rfl, by decide +kernel, rfl, by decide +kernel, by decide +kernel⟩
theorem d_frozen {f : Addr} {k : Nat} {c : Con} (E : Env0 T mg) (F_frozen : FnD T P w mg base k "frozen" 0 1 c)  : Body T P w mg base k N_frozen "frozen" s_frozen f (b_frozen c) := fun cdv A outer s H EE ck =>
  (ss_cons (ss_if (st_val ck (se_isi2 ck E.b_isinstance (se_var 0) (.b .tup (by rfl) E.b_tuple (by decide +kernel) (by decide) (by decide)) (.b .lst (by rfl) E.b_list (by decide +kernel) (by decide) (by decide)))) (ss_one (ss_ret (se_tuple ck E.b_tuple (sa_cons (se_lc (own := [("item", 1)]) ck (si_seq ck (se_var 0)) (blk_of (by kernel_rfl)) (fun s1 H1 C1 cl1 fp1 => (sg_name 1 (ck.blk s1 H1 _ _ fp1))) (fun s1 H1 C1 cl1 fp1 => sts_nil) (fun s1 H1 C1 cl1 fp1 => (se_call (ck.blk s1 H1 _ _ fp1) F_frozen (sa_cons (se_var 1) sa_nil)))) sa_nil)))) ss_nil)
    (ss_one (ss_ret (se_var 0))))
theorem sc_is_whole : FnScope N_is_whole ["value"] (defScope s_is_whole) := ⟨rfl, rfl, rfl, by decide +kernel, rfl, by decide +kernel, by decide +kernel⟩
theorem d_is_whole {f : Addr} (E : Env0 T mg)  : Body T P w mg base 0 N_is_whole "is_whole" s_is_whole f b_is_whole := fun cdv A outer s H EE ck =>
  (ss_one (ss_ret (se_and ck (se_isi ck E.b_isinstance (se_var 0) (.b .int (by rfl) E.b_int (by decide +kernel) (by decide) (by decide))) (se_one (se_not ck (se_isi ck E.b_isinstance (se_var 0) (.b .bl (by rfl) E.b_bool (by decide +kernel) (by decide) (by decide))))))))
theorem sc_is_list : FnScope N_is_list ["value"] (defScope s_is_list) := ⟨rfl, rfl, rfl, by decide +kernel, rfl, by decide +kernel, by decide +kernel⟩
theorem d_is_list {f : Addr} (E : Env0 T mg)  : Body T P w mg base 0 N_is_list "is_list" s_is_list f b_is_list := fun cdv A outer s H EE ck =>
  (ss_one (ss_ret (se_isi2 ck E.b_isinstance (se_var 0) (.b .tup (by rfl) E.b_tuple (by decide +kernel) (by decide) (by decide)) (.b .lst (by rfl) E.b_list (by decide +kernel) (by decide) (by decide)))))
theorem sc_is_index : FnScope N_is_index ["many", "value"] (defScope s_is_index) := ⟨rfl, rfl, rfl, by decide +kernel, rfl, by decide +kernel, by decide +kernel⟩
theorem d_is_index {f : Addr} (E : Env0 T mg) (F_is_whole : FnD T P w mg base 1 "is_whole" 1 1 c_is_whole) : Body T P w mg base 1 N_is_index "is_index" s_is_index f b_is_index := fun cdv A outer s H EE ck =>
  (ss_one (ss_ret (se_and ck (se_call ck (F_is_whole.mono (by decide)) (sa_cons (se_var 1) sa_nil)) (se_one (se_lelt se_int (se_var 1) (se_var 0))))))
theorem sc_in_Turn : FnScope N_in_Turn ["self", "rows"] (defScope s_in_Turn) := ⟨rfl, rfl, rfl, by decide +kernel, rfl, by decide +kernel, by decide +kernel⟩
theorem d_in_Turn {f : Addr} (E : Env0 T mg) (F_frozen : FnD T P w mg base 6 "frozen" 0 1 c_frozen) : Body T P w mg base 6 N_in_Turn "Turn.__init__" s_in_Turn f b_in_Turn := fun cdv A outer s H EE ck =>
  (ss_one (ss_fldO 0 ck (se_call ck (F_frozen.mono (by decide)) (sa_cons (se_var 1) sa_nil)) E.f_rows))
theorem sc_is_all_things : FnScope N_is_all_things ["many", "value"] (defScope s_is_all_things) := ⟨rfl, rfl, rfl, by decide +kernel, rfl, by decide +kernel, by decide +kernel⟩
theorem d_is_all_things {f : Addr} (E : Env0 T mg) (F_is_index : FnD T P w mg base 2 "is_index" 3 2 c_is_index) (F_is_list : FnD T P w mg base 1 "is_list" 2 1 c_is_list) : Body T P w mg base 2 N_is_all_things "is_all_things" s_is_all_things f b_is_all_things := fun cdv A outer s H EE ck =>
  (ss_cons (ss_if (st_w (sw_or (st_not (st_val ck (se_call ck (F_is_list.mono (by decide)) (sa_cons (se_var 1) sa_nil)))) (sw_or1 (st_not (st_val ck (se_all ck E.b_all (sa_cons (se_lc (own := [("thing", 2)]) ck (si_seq ck (se_var 1)) (blk_of (by kernel_rfl)) (fun s1 H1 C1 cl1 fp1 => (sg_name 2 (ck.blk s1 H1 _ _ fp1))) (fun s1 H1 C1 cl1 fp1 => sts_nil) (fun s1 H1 C1 cl1 fp1 => (se_call (ck.blk s1 H1 _ _ fp1) (F_is_index.mono (by decide)) (sa_cons (se_var 0) (sa_cons (se_var 2) sa_nil))))) sa_nil))))))) (ss_one (ss_ret se_bl)) ss_nil)
    (ss_one (ss_ret (se_eq ck (se_sorted ck E.b_sorted (sa_cons (se_var 1) sa_nil)) (se_lstRg ck E.b_list (sr_1 E.b_range (se_var 0)))))))
theorem sc_in_Axis : FnScope N_in_Axis ["self", "things"] (defScope s_in_Axis) := ⟨rfl, rfl, rfl, by decide +kernel, rfl, by decide +kernel, by decide +kernel⟩
theorem d_in_Axis {f : Addr} (E : Env0 T mg) (F_frozen : FnD T P w mg base 6 "frozen" 0 1 c_frozen) : Body T P w mg base 6 N_in_Axis "Axis.__init__" s_in_Axis f b_in_Axis := fun cdv A outer s H EE ck =>
  (ss_one (ss_fldO 0 ck (se_call ck (F_frozen.mono (by decide)) (sa_cons (se_var 1) sa_nil)) E.f_things))
theorem sc_eq_Axis : FnScope N_eq_Axis ["self", "other"] (defScope s_eq_Axis) := ⟨rfl, rfl, rfl, by decide +kernel, rfl, by decide +kernel, by decide +kernel⟩
theorem d_eq_Axis {f : Addr} (E : Env0 T mg)  : Body T P w mg base 0 N_eq_Axis "Axis.__eq__" s_eq_Axis f b_eq_Axis := fun cdv A outer s H EE ck =>
  (ss_one (ss_ret (se_and ck (se_isi ck E.b_isinstance (se_var 1) (.o 1 (by rfl) E.c_Axis (by exact E.lt_Axis) (by decide))) (se_one (se_eq ck (se_fld "things" ck (se_var 0) E.f_things) (se_fld "things" ck (se_var 1) E.f_things))))))
theorem sc_in_Three : FnScope N_in_Three ["self", "things", "rows"] (defScope s_in_Three) := ⟨rfl, rfl, rfl, by decide +kernel, rfl, by decide +kernel, by decide +kernel⟩
theorem d_in_Three {f : Addr} (E : Env0 T mg) (F_frozen : FnD T P w mg base 6 "frozen" 0 1 c_frozen) : Body T P w mg base 6 N_in_Three "Three.__init__" s_in_Three f b_in_Three := fun cdv A outer s H EE ck =>
  (ss_cons (ss_fldO 0 ck (se_call ck (F_frozen.mono (by decide)) (sa_cons (se_var 1) sa_nil)) E.f_things)
    (ss_one (ss_fldO 0 ck (se_call ck (F_frozen.mono (by decide)) (sa_cons (se_var 2) sa_nil)) E.f_rows)))
theorem sc_eq_Three : FnScope N_eq_Three ["self", "other"] (defScope s_eq_Three) := ⟨rfl, rfl, rfl, by decide +kernel, rfl, by decide +kernel, by decide +kernel⟩
theorem d_eq_Three {f : Addr} (E : Env0 T mg)  : Body T P w mg base 0 N_eq_Three "Three.__eq__" s_eq_Three f b_eq_Three := fun cdv A outer s H EE ck =>
  (ss_one (ss_ret (se_and ck (se_isi ck E.b_isinstance (se_var 1) (.o 2 (by rfl) E.c_Three (by exact E.lt_Three) (by decide))) (se_and ck (se_eq ck (se_fld "things" ck (se_var 0) E.f_things) (se_fld "things" ck (se_var 1) E.f_things)) (se_one (se_eq ck (se_fld "rows" ck (se_var 0) E.f_rows) (se_fld "rows" ck (se_var 1) E.f_rows)))))))
theorem sc_in_Four : FnScope N_in_Four ["self", "things", "rows"] (defScope s_in_Four) := ⟨rfl, rfl, rfl, by decide +kernel, rfl, by decide +kernel, by decide +kernel⟩
theorem d_in_Four {f : Addr} (E : Env0 T mg) (F_frozen : FnD T P w mg base 6 "frozen" 0 1 c_frozen) : Body T P w mg base 6 N_in_Four "Four.__init__" s_in_Four f b_in_Four := fun cdv A outer s H EE ck =>
  (ss_cons (ss_fldO 0 ck (se_call ck (F_frozen.mono (by decide)) (sa_cons (se_var 1) sa_nil)) E.f_things)
    (ss_one (ss_fldO 0 ck (se_call ck (F_frozen.mono (by decide)) (sa_cons (se_var 2) sa_nil)) E.f_rows)))
theorem sc_eq_Four : FnScope N_eq_Four ["self", "other"] (defScope s_eq_Four) := ⟨rfl, rfl, rfl, by decide +kernel, rfl, by decide +kernel, by decide +kernel⟩
theorem d_eq_Four {f : Addr} (E : Env0 T mg)  : Body T P w mg base 0 N_eq_Four "Four.__eq__" s_eq_Four f b_eq_Four := fun cdv A outer s H EE ck =>
  (ss_one (ss_ret (se_and ck (se_isi ck E.b_isinstance (se_var 1) (.o 3 (by rfl) E.c_Four (by exact E.lt_Four) (by decide))) (se_and ck (se_eq ck (se_fld "things" ck (se_var 0) E.f_things) (se_fld "things" ck (se_var 1) E.f_things)) (se_one (se_eq ck (se_fld "rows" ck (se_var 0) E.f_rows) (se_fld "rows" ck (se_var 1) E.f_rows)))))))
theorem sc_panel_told : FnScope N_panel_told ["panel"] (defScope s_panel_told) := ⟨rfl, rfl, rfl, by decide +kernel, rfl, by decide +kernel, by decide +kernel⟩
theorem d_panel_told {f : Addr} (E : Env0 T mg) (F_is_all_things : FnD T P w mg base 3 "is_all_things" 4 2 c_is_all_things) (F_is_list : FnD T P w mg base 1 "is_list" 2 1 c_is_list) : Body T P w mg base 3 N_panel_told "panel_told" s_panel_told f b_panel_told := fun cdv A outer s H EE ck =>
  (ss_cons (ss_if (st_w (sw_or (st_not (st_val ck (se_call ck (F_is_list.mono (by decide)) (sa_cons (se_var 0) sa_nil)))) (sw_or (st_eq ck (se_len ck E.b_len (sa_cons (se_var 0) sa_nil)) se_int) (sw_or (st_not (st_val ck (se_call ck (F_is_list.mono (by decide)) (sa_cons (se_ix ck (se_var 0) se_int) sa_nil)))) (sw_or1 (st_eq ck (se_len ck E.b_len (sa_cons (se_ix ck (se_var 0) se_int) sa_nil)) se_int)))))) (ss_one ss_never) ss_nil)
    (ss_cons (ss_if (st_not (st_val ck (se_all ck E.b_all (sa_cons (se_lc (own := [("order", 1)]) ck (si_seq ck (se_var 0)) (blk_of (by kernel_rfl)) (fun s1 H1 C1 cl1 fp1 => (sg_name 1 (ck.blk s1 H1 _ _ fp1))) (fun s1 H1 C1 cl1 fp1 => sts_nil) (fun s1 H1 C1 cl1 fp1 => (se_call (ck.blk s1 H1 _ _ fp1) (F_is_all_things.mono (by decide)) (sa_cons (se_len (ck.blk s1 H1 _ _ fp1) E.b_len (sa_cons (se_ix (ck.blk s1 H1 _ _ fp1) (se_var 0) se_int) sa_nil)) (sa_cons (se_var 1) sa_nil))))) sa_nil)))) (ss_one ss_never) ss_nil)
    (ss_one (ss_ret (se_tuple ck E.b_tuple (sa_cons (se_lc (own := [("order", 1)]) ck (si_seq ck (se_var 0)) (blk_of (by kernel_rfl)) (fun s1 H1 C1 cl1 fp1 => (sg_name 1 (ck.blk s1 H1 _ _ fp1))) (fun s1 H1 C1 cl1 fp1 => sts_nil) (fun s1 H1 C1 cl1 fp1 => (se_tuple (ck.blk s1 H1 _ _ fp1) E.b_tuple (sa_cons (se_var 1) sa_nil)))) sa_nil))))))
theorem sc_is_ahead : FnScope N_is_ahead ["order", "one", "other"] (defScope s_is_ahead) := ⟨rfl, rfl, rfl, by decide +kernel, rfl, by decide +kernel, by decide +kernel⟩
theorem d_is_ahead {f : Addr} (E : Env0 T mg)  : Body T P w mg base 0 N_is_ahead "is_ahead" s_is_ahead f b_is_ahead := fun cdv A outer s H EE ck =>
  (ss_one (ss_ret (se_lt (se_index ck (se_var 0) (sa_cons (se_var 1) sa_nil)) (se_index ck (se_var 0) (sa_cons (se_var 2) sa_nil)))))
theorem sc_falls_on : FnScope N_falls_on ["axis", "order"] (defScope s_falls_on) := ⟨rfl, rfl, rfl, by decide +kernel, rfl, by decide +kernel, by decide +kernel⟩
theorem d_falls_on {f : Addr} (E : Env0 T mg) (F_is_ahead : FnD T P w mg base 1 "is_ahead" 6 3 c_is_ahead) : Body T P w mg base 1 N_falls_on "falls_on" s_falls_on f b_falls_on := fun cdv A outer s H EE ck =>
  (ss_cons (ss_asg 2 ck (se_len ck E.b_len (sa_cons (se_var 0) sa_nil)))
    (ss_cons (ss_for ck (si_range1 (by rfl) E.b_range (sa_cons (se_var 2) sa_nil)) (sg_name 3 ck) (ss_one (ss_for ck (si_range2 (by rfl) E.b_range (sa_cons (se_add ck (se_var 3) se_int) (sa_cons (se_var 2) sa_nil))) (sg_name 4 ck) (ss_one (ss_for ck (si_range2 (by rfl) E.b_range (sa_cons (se_add ck (se_var 4) se_int) (sa_cons (se_var 2) sa_nil))) (sg_name 5 ck) (ss_one (ss_if (st_w (sw_and (st_val ck (se_call ck (F_is_ahead.mono (by decide)) (sa_cons (se_var 1) (sa_cons (se_ix ck (se_var 0) (se_var 3)) (sa_cons (se_ix ck (se_var 0) (se_var 4)) sa_nil))))) (sw_and1 (st_val ck (se_call ck (F_is_ahead.mono (by decide)) (sa_cons (se_var 1) (sa_cons (se_ix ck (se_var 0) (se_var 5)) (sa_cons (se_ix ck (se_var 0) (se_var 4)) sa_nil)))))))) (ss_one (ss_ret se_bl)) ss_nil)))))))
    (ss_one (ss_ret se_bl))))
theorem sc_all_fall : FnScope N_all_fall ["orders", "axis"] (defScope s_all_fall) := ⟨rfl, rfl, rfl, by decide +kernel, rfl, by decide +kernel, by decide +kernel⟩
theorem d_all_fall {f : Addr} (E : Env0 T mg) (F_falls_on : FnD T P w mg base 2 "falls_on" 7 2 c_falls_on) : Body T P w mg base 2 N_all_fall "all_fall" s_all_fall f b_all_fall := fun cdv A outer s H EE ck =>
  (ss_one (ss_ret (se_all ck E.b_all (sa_cons (se_lc (own := [("order", 2)]) ck (si_seq ck (se_var 0)) (blk_of (by kernel_rfl)) (fun s1 H1 C1 cl1 fp1 => (sg_name 2 (ck.blk s1 H1 _ _ fp1))) (fun s1 H1 C1 cl1 fp1 => sts_nil) (fun s1 H1 C1 cl1 fp1 => (se_call (ck.blk s1 H1 _ _ fp1) (F_falls_on.mono (by decide)) (sa_cons (se_var 1) (sa_cons (se_var 2) sa_nil))))) sa_nil))))
theorem sc_axis_holds : FnScope N_axis_holds ["panel", "value"] (defScope s_axis_holds) := ⟨rfl, rfl, rfl, by decide +kernel, rfl, by decide +kernel, by decide +kernel⟩
theorem d_axis_holds {f : Addr} (E : Env0 T mg) (F_all_fall : FnD T P w mg base 3 "all_fall" 8 2 c_all_fall) (F_is_all_things : FnD T P w mg base 3 "is_all_things" 4 2 c_is_all_things) (F_panel_told : FnD T P w mg base 4 "panel_told" 5 1 c_panel_told) : Body T P w mg base 4 N_axis_holds "axis_holds" s_axis_holds f b_axis_holds := fun cdv A outer s H EE ck =>
  (ss_cons (ss_asg 2 ck (se_call ck (F_panel_told.mono (by decide)) (sa_cons (se_var 0) sa_nil)))
    (ss_cons (ss_if (st_w (sw_or (st_not (st_val ck (se_isi ck E.b_isinstance (se_var 1) (.o 1 (by rfl) E.c_Axis (by exact E.lt_Axis) (by decide))))) (sw_or1 (st_not (st_val ck (se_isi ck E.b_isinstance (se_fld "things" ck (se_var 1) E.f_things) (.b .tup (by rfl) E.b_tuple (by decide +kernel) (by decide) (by decide)))))))) (ss_one (ss_ret se_bl)) ss_nil)
    (ss_cons (ss_if (st_not (st_val ck (se_call ck (F_is_all_things.mono (by decide)) (sa_cons (se_len ck E.b_len (sa_cons (se_ix ck (se_var 2) se_int) sa_nil)) (sa_cons (se_fld "things" ck (se_var 1) E.f_things) sa_nil))))) (ss_one (ss_ret se_bl)) ss_nil)
    (ss_one (ss_ret (se_call ck (F_all_fall.mono (by decide)) (sa_cons (se_var 2) (sa_cons (se_fld "things" ck (se_var 1) E.f_things) sa_nil))))))))
theorem sc_are_unlike : FnScope N_are_unlike ["most", "many", "value"] (defScope s_are_unlike) := ⟨rfl, rfl, rfl, by decide +kernel, rfl, by decide +kernel, by decide +kernel⟩
theorem d_are_unlike {f : Addr} (E : Env0 T mg) (F_is_index : FnD T P w mg base 2 "is_index" 3 2 c_is_index) : Body T P w mg base 2 N_are_unlike "are_unlike" s_are_unlike f b_are_unlike := fun cdv A outer s H EE ck =>
  (ss_cons (ss_if (st_w (sw_or (st_not (st_val ck (se_isi ck E.b_isinstance (se_var 2) (.b .tup (by rfl) E.b_tuple (by decide +kernel) (by decide) (by decide))))) (sw_or (st_ne ck (se_len ck E.b_len (sa_cons (se_var 2) sa_nil)) (se_var 1)) (sw_or1 (st_not (st_val ck (se_all ck E.b_all (sa_cons (se_lc (own := [("item", 3)]) ck (si_seq ck (se_var 2)) (blk_of (by kernel_rfl)) (fun s1 H1 C1 cl1 fp1 => (sg_name 3 (ck.blk s1 H1 _ _ fp1))) (fun s1 H1 C1 cl1 fp1 => sts_nil) (fun s1 H1 C1 cl1 fp1 => (se_call (ck.blk s1 H1 _ _ fp1) (F_is_index.mono (by decide)) (sa_cons (se_var 0) (sa_cons (se_var 3) sa_nil))))) sa_nil)))))))) (ss_one (ss_ret se_bl)) ss_nil)
    (ss_one (ss_ret (se_eq ck (se_lenD ck E.b_len (sa_cons (se_dc (own := [("item", 3)]) ck (si_seq ck (se_var 2)) (blk_of (by kernel_rfl)) (fun s1 H1 C1 cl1 fp1 => (sg_name 3 (ck.blk s1 H1 _ _ fp1))) (fun s1 H1 C1 cl1 fp1 => sts_nil) (fun s1 H1 C1 cl1 fp1 => (se_var 3)) (fun s1 H1 C1 cl1 fp1 => se_bl)) sa_nil)) (se_var 1)))))
theorem sc_are_numbers : FnScope N_are_numbers ["most", "many", "value"] (defScope s_are_numbers) := ⟨rfl, rfl, rfl, by decide +kernel, rfl, by decide +kernel, by decide +kernel⟩
theorem d_are_numbers {f : Addr} (E : Env0 T mg) (F_is_index : FnD T P w mg base 2 "is_index" 3 2 c_is_index) : Body T P w mg base 2 N_are_numbers "are_numbers" s_are_numbers f b_are_numbers := fun cdv A outer s H EE ck =>
  (ss_one (ss_ret (se_and ck (se_isi ck E.b_isinstance (se_var 2) (.b .tup (by rfl) E.b_tuple (by decide +kernel) (by decide) (by decide))) (se_and ck (se_eq ck (se_len ck E.b_len (sa_cons (se_var 2) sa_nil)) (se_var 1)) (se_one (se_all ck E.b_all (sa_cons (se_lc (own := [("item", 3)]) ck (si_seq ck (se_var 2)) (blk_of (by kernel_rfl)) (fun s1 H1 C1 cl1 fp1 => (sg_name 3 (ck.blk s1 H1 _ _ fp1))) (fun s1 H1 C1 cl1 fp1 => sts_nil) (fun s1 H1 C1 cl1 fp1 => (se_call (ck.blk s1 H1 _ _ fp1) (F_is_index.mono (by decide)) (sa_cons (se_var 0) (sa_cons (se_var 3) sa_nil))))) sa_nil)))))))
theorem sc_is_last : FnScope N_is_last ["order", "thing", "things"] (defScope s_is_last) := ⟨rfl, rfl, rfl, by decide +kernel, rfl, by decide +kernel, by decide +kernel⟩
theorem d_is_last {f : Addr} (E : Env0 T mg) (F_is_ahead : FnD T P w mg base 1 "is_ahead" 6 3 c_is_ahead) : Body T P w mg base 1 N_is_last "is_last" s_is_last f b_is_last := fun cdv A outer s H EE ck =>
  (ss_one (ss_ret (se_all ck E.b_all (sa_cons (se_lc (own := [("other", 3)]) ck (si_seq ck (se_var 2)) (blk_of (by kernel_rfl)) (fun s1 H1 C1 cl1 fp1 => (sg_name 3 (ck.blk s1 H1 _ _ fp1))) (fun s1 H1 C1 cl1 fp1 => sts_nil) (fun s1 H1 C1 cl1 fp1 => (se_or (ck.blk s1 H1 _ _ fp1) (se_eq (ck.blk s1 H1 _ _ fp1) (se_var 3) (se_var 1)) (se_one (se_call (ck.blk s1 H1 _ _ fp1) (F_is_ahead.mono (by decide)) (sa_cons (se_var 0) (sa_cons (se_var 3) (sa_cons (se_var 1) sa_nil)))))))) sa_nil))))
theorem sc_three_holds : FnScope N_three_holds ["panel", "value"] (defScope s_three_holds) := ⟨rfl, rfl, rfl, by decide +kernel, rfl, by decide +kernel, by decide +kernel⟩
theorem d_three_holds {f : Addr} (E : Env0 T mg) (F_are_numbers : FnD T P w mg base 3 "are_numbers" 11 3 c_are_numbers) (F_are_unlike : FnD T P w mg base 3 "are_unlike" 10 3 c_are_unlike) (F_is_last : FnD T P w mg base 2 "is_last" 12 3 c_is_last) (F_panel_told : FnD T P w mg base 4 "panel_told" 5 1 c_panel_told) : Body T P w mg base 4 N_three_holds "three_holds" s_three_holds f b_three_holds := fun cdv A outer s H EE ck =>
  (ss_cons (ss_asg 2 ck (se_call ck (F_panel_told.mono (by decide)) (sa_cons (se_var 0) sa_nil)))
    (ss_cons (ss_if (st_w (sw_or (st_not (st_val ck (se_isi ck E.b_isinstance (se_var 1) (.o 2 (by rfl) E.c_Three (by exact E.lt_Three) (by decide))))) (sw_or1 (st_not (st_val ck (se_call ck (F_are_unlike.mono (by decide)) (sa_cons (se_len ck E.b_len (sa_cons (se_ix ck (se_var 2) se_int) sa_nil)) (sa_cons se_int (sa_cons (se_fld "things" ck (se_var 1) E.f_things) sa_nil))))))))) (ss_one (ss_ret se_bl)) ss_nil)
    (ss_cons (ss_if (st_not (st_val ck (se_call ck (F_are_numbers.mono (by decide)) (sa_cons (se_len ck E.b_len (sa_cons (se_var 2) sa_nil)) (sa_cons se_int (sa_cons (se_fld "rows" ck (se_var 1) E.f_rows) sa_nil)))))) (ss_one (ss_ret se_bl)) ss_nil)
    (ss_one (ss_ret (se_all ck E.b_all (sa_cons (se_lc (own := [("thing", 3), ("row", 4)]) ck (si_zip ck (by rfl) E.b_zip (sa_cons (se_fld "things" ck (se_var 1) E.f_things) (sa_cons (se_fld "rows" ck (se_var 1) E.f_rows) sa_nil))) (blk_of (by kernel_rfl)) (fun s1 H1 C1 cl1 fp1 => (sg_tup (ck.blk s1 H1 _ _ fp1) (sgs_cons 3 (ck.blk s1 H1 _ _ fp1) (sgs_cons 4 (ck.blk s1 H1 _ _ fp1) sgs_nil)))) (fun s1 H1 C1 cl1 fp1 => sts_nil) (fun s1 H1 C1 cl1 fp1 => (se_call (ck.blk s1 H1 _ _ fp1) (F_is_last.mono (by decide)) (sa_cons (se_ix (ck.blk s1 H1 _ _ fp1) (se_var 2) (se_var 4)) (sa_cons (se_var 3) (sa_cons (se_fld "things" (ck.blk s1 H1 _ _ fp1) (se_var 1) E.f_things) sa_nil)))))) sa_nil)))))))
theorem sc_is_four : FnScope N_is_four ["first", "second", "things"] (defScope s_is_four) := ⟨rfl, rfl, rfl, by decide +kernel, rfl, by decide +kernel, by decide +kernel⟩
theorem d_is_four {f : Addr} (E : Env0 T mg) (F_is_ahead : FnD T P w mg base 1 "is_ahead" 6 3 c_is_ahead) : Body T P w mg base 1 N_is_four "is_four" s_is_four f b_is_four := fun cdv A outer s H EE ck =>
  (ss_cons (ss_unp ck (se_var 2) (sg_tup ck (sgs_cons 3 ck (sgs_cons 4 ck (sgs_cons 5 ck (sgs_cons 6 ck sgs_nil))))))
    (ss_cons (ss_if (st_w (sw_or (st_not (st_val ck (se_call ck (F_is_ahead.mono (by decide)) (sa_cons (se_var 0) (sa_cons (se_var 3) (sa_cons (se_var 4) sa_nil)))))) (sw_or (st_not (st_val ck (se_call ck (F_is_ahead.mono (by decide)) (sa_cons (se_var 0) (sa_cons (se_var 4) (sa_cons (se_var 5) sa_nil)))))) (sw_or1 (st_not (st_val ck (se_call ck (F_is_ahead.mono (by decide)) (sa_cons (se_var 0) (sa_cons (se_var 6) (sa_cons (se_var 4) sa_nil)))))))))) (ss_one (ss_ret se_bl)) ss_nil)
    (ss_one (ss_ret (se_and ck (se_call ck (F_is_ahead.mono (by decide)) (sa_cons (se_var 1) (sa_cons (se_var 5) (sa_cons (se_var 4) sa_nil)))) (se_and ck (se_call ck (F_is_ahead.mono (by decide)) (sa_cons (se_var 1) (sa_cons (se_var 4) (sa_cons (se_var 3) sa_nil)))) (se_one (se_call ck (F_is_ahead.mono (by decide)) (sa_cons (se_var 1) (sa_cons (se_var 6) (sa_cons (se_var 4) sa_nil)))))))))))
theorem sc_four_holds : FnScope N_four_holds ["panel", "value"] (defScope s_four_holds) := ⟨rfl, rfl, rfl, by decide +kernel, rfl, by decide +kernel, by decide +kernel⟩
theorem d_four_holds {f : Addr} (E : Env0 T mg) (F_are_numbers : FnD T P w mg base 3 "are_numbers" 11 3 c_are_numbers) (F_are_unlike : FnD T P w mg base 3 "are_unlike" 10 3 c_are_unlike) (F_is_four : FnD T P w mg base 2 "is_four" 14 3 c_is_four) (F_panel_told : FnD T P w mg base 4 "panel_told" 5 1 c_panel_told) : Body T P w mg base 4 N_four_holds "four_holds" s_four_holds f b_four_holds := fun cdv A outer s H EE ck =>
  (ss_cons (ss_asg 2 ck (se_call ck (F_panel_told.mono (by decide)) (sa_cons (se_var 0) sa_nil)))
    (ss_cons (ss_if (st_w (sw_or (st_not (st_val ck (se_isi ck E.b_isinstance (se_var 1) (.o 3 (by rfl) E.c_Four (by exact E.lt_Four) (by decide))))) (sw_or1 (st_not (st_val ck (se_call ck (F_are_unlike.mono (by decide)) (sa_cons (se_len ck E.b_len (sa_cons (se_ix ck (se_var 2) se_int) sa_nil)) (sa_cons se_int (sa_cons (se_fld "things" ck (se_var 1) E.f_things) sa_nil))))))))) (ss_one (ss_ret se_bl)) ss_nil)
    (ss_cons (ss_if (st_not (st_val ck (se_call ck (F_are_numbers.mono (by decide)) (sa_cons (se_len ck E.b_len (sa_cons (se_var 2) sa_nil)) (sa_cons se_int (sa_cons (se_fld "rows" ck (se_var 1) E.f_rows) sa_nil)))))) (ss_one (ss_ret se_bl)) ss_nil)
    (ss_one (ss_ret (se_call ck (F_is_four.mono (by decide)) (sa_cons (se_ix ck (se_var 2) (se_ix ck (se_fld "rows" ck (se_var 1) E.f_rows) se_int)) (sa_cons (se_ix ck (se_var 2) (se_ix ck (se_fld "rows" ck (se_var 1) E.f_rows) se_int)) (sa_cons (se_fld "things" ck (se_var 1) E.f_things) sa_nil)))))))))
theorem sc_rows_of_things : FnScope N_rows_of_things ["many", "length"] (defScope s_rows_of_things) := ⟨rfl, rfl, rfl, by decide +kernel, rfl, by decide +kernel, by decide +kernel⟩
theorem d_rows_of_things {f : Addr} (E : Env0 T mg)  : Body T P w mg base 0 N_rows_of_things "rows_of_things" s_rows_of_things f b_rows_of_things := fun cdv A outer s H EE ck =>
  (ss_cons (ss_asg 2 ck (se_lst (sa_cons (se_tup sa_nil) sa_nil)))
    (ss_cons (ss_for ck (si_range1 (by rfl) E.b_range (sa_cons (se_var 1) sa_nil)) (sg_name 3 ck) (ss_one (ss_lc2Asg 2 (own := [("row", 4), ("thing", 5)]) ck (si_seq ck (se_var 2)) (blk_of (by kernel_rfl)) (by decide) (fun s1 H1 C1 cl1 fp1 => sg_wide (sg_name 4 (ck.blk s1 H1 _ _ fp1)) (by decide)) (fun s1 H1 C1 cl1 fp1 => sts_nil) (fun s1 H1 C1 cl1 fp1 => (si_range1 (by rfl) E.b_range (sa_cons (se_var 0) sa_nil))) (fun s1 H1 C1 cl1 fp1 => (sg_name 5 (ck.blk s1 H1 _ _ fp1))) (fun s1 H1 C1 cl1 fp1 => (sts_one (st_notin (ck.blk s1 H1 _ _ fp1) (se_var 5) (se_var 4)))) (fun s1 H1 C1 cl1 fp1 => (se_add (ck.blk s1 H1 _ _ fp1) (se_var 4) (se_tup (sa_cons (se_var 5) sa_nil)))) (sw_true (by rfl) (by rfl) (by rfl) (by rfl)))))
    (ss_one (ss_ret (se_var 2)))))
theorem sc_first_axis : FnScope N_first_axis ["orders"] (defScope s_first_axis) := ⟨rfl, rfl, rfl, by decide +kernel, rfl, by decide +kernel, by decide +kernel⟩
theorem d_first_axis {f : Addr} (E : Env0 T mg) (F_all_fall : FnD T P w mg base 3 "all_fall" 8 2 c_all_fall) (F_rows_of_things : FnD T P w mg base 1 "rows_of_things" 16 2 c_rows_of_things) : Body T P w mg base 3 N_first_axis "first_axis" s_first_axis f b_first_axis := fun cdv A outer s H EE ck =>
  (ss_cons (ss_for ck (si_seq ck (se_call ck (F_rows_of_things.mono (by decide)) (sa_cons (se_len ck E.b_len (sa_cons (se_ix ck (se_var 0) se_int) sa_nil)) (sa_cons (se_len ck E.b_len (sa_cons (se_ix ck (se_var 0) se_int) sa_nil)) sa_nil)))) (sg_name 1 ck) (ss_one (ss_if (st_val ck (se_call ck (F_all_fall.mono (by decide)) (sa_cons (se_var 0) (sa_cons (se_var 1) sa_nil)))) (ss_one (ss_ret (se_var 1))) ss_nil)))
    (ss_one (ss_ret se_non)))
theorem sc_last_rows : FnScope N_last_rows ["orders", "things"] (defScope s_last_rows) := ⟨rfl, rfl, rfl, by decide +kernel, rfl, by decide +kernel, by decide +kernel⟩
theorem d_last_rows {f : Addr} (E : Env0 T mg) (F_is_last : FnD T P w mg base 2 "is_last" 12 3 c_is_last) : Body T P w mg base 2 N_last_rows "last_rows" s_last_rows f b_last_rows := fun cdv A outer s H EE ck =>
  (ss_cons (ss_asg 2 ck (se_lst sa_nil))
    (ss_cons (ss_for ck (si_seq ck (se_var 1)) (sg_name 3 ck) (ss_one (ss_asg 2 ck (se_add ck (se_var 2) (se_slice ck (se_lc (own := [("row", 4)]) ck (si_range1 (by rfl) E.b_range (sa_cons (se_len ck E.b_len (sa_cons (se_var 0) sa_nil)) sa_nil)) (blk_of (by kernel_rfl)) (fun s1 H1 C1 cl1 fp1 => (sg_name 4 (ck.blk s1 H1 _ _ fp1))) (fun s1 H1 C1 cl1 fp1 => (sts_one (st_val (ck.blk s1 H1 _ _ fp1) (se_call (ck.blk s1 H1 _ _ fp1) (F_is_last.mono (by decide)) (sa_cons (se_ix (ck.blk s1 H1 _ _ fp1) (se_var 0) (se_var 4)) (sa_cons (se_var 3) (sa_cons (se_var 1) sa_nil))))))) (fun s1 H1 C1 cl1 fp1 => (se_var 4))) so_none (so_some se_int))))))
    (ss_one (ss_ret (se_var 2)))))
theorem sc_no_axis : FnScope N_no_axis ["orders"] (defScope s_no_axis) := ⟨rfl, rfl, rfl, by decide +kernel, rfl, by decide +kernel, by decide +kernel⟩
theorem d_no_axis {f : Addr} (E : Env0 T mg) (F_is_four : FnD T P w mg base 2 "is_four" 14 3 c_is_four) (F_last_rows : FnD T P w mg base 3 "last_rows" 18 2 c_last_rows) (F_rows_of_things : FnD T P w mg base 1 "rows_of_things" 16 2 c_rows_of_things) (F_in_Four : InD T P w mg base 7 "Four" 3 2 c_in_Four) (F_in_Three : InD T P w mg base 7 "Three" 2 2 c_in_Three) : Body T P w mg base 8 N_no_axis "no_axis" s_no_axis f b_no_axis := fun cdv A outer s H EE ck =>
  (ss_cons (ss_for ck (si_seq ck (se_call ck (F_rows_of_things.mono (by decide)) (sa_cons (se_len ck E.b_len (sa_cons (se_ix ck (se_var 0) se_int) sa_nil)) (sa_cons se_int sa_nil)))) (sg_name 1 ck) (ss_cons (ss_asg 2 ck (se_call ck (F_last_rows.mono (by decide)) (sa_cons (se_var 0) (sa_cons (se_var 1) sa_nil))))
    (ss_one (ss_if (st_eq ck (se_len ck E.b_len (sa_cons (se_var 2) sa_nil)) se_int) (ss_one (ss_ret (se_make ck (F_in_Three.mono (by decide)) E.k_Three (sa_cons (se_var 1) (sa_cons (se_var 2) sa_nil))))) ss_nil))))
    (ss_cons (ss_for ck (si_seq ck (se_call ck (F_rows_of_things.mono (by decide)) (sa_cons (se_len ck E.b_len (sa_cons (se_ix ck (se_var 0) se_int) sa_nil)) (sa_cons se_int sa_nil)))) (sg_name 1 ck) (ss_one (ss_for ck (si_range1 (by rfl) E.b_range (sa_cons (se_len ck E.b_len (sa_cons (se_var 0) sa_nil)) sa_nil)) (sg_name 3 ck) (ss_one (ss_for ck (si_range1 (by rfl) E.b_range (sa_cons (se_len ck E.b_len (sa_cons (se_var 0) sa_nil)) sa_nil)) (sg_name 4 ck) (ss_one (ss_if (st_val ck (se_call ck (F_is_four.mono (by decide)) (sa_cons (se_ix ck (se_var 0) (se_var 3)) (sa_cons (se_ix ck (se_var 0) (se_var 4)) (sa_cons (se_var 1) sa_nil))))) (ss_one (ss_ret (se_make ck (F_in_Four.mono (by decide)) E.k_Four (sa_cons (se_var 1) (sa_cons (se_tup (sa_cons (se_var 3) (sa_cons (se_var 4) sa_nil))) sa_nil))))) ss_nil)))))))
    (ss_one (ss_ret se_non))))
theorem sc_axis_verdict : FnScope N_axis_verdict ["panel"] (defScope s_axis_verdict) := ⟨rfl, rfl, rfl, by decide +kernel, rfl, by decide +kernel, by decide +kernel⟩
theorem d_axis_verdict {f : Addr} (E : Env0 T mg) (F_first_axis : FnD T P w mg base 4 "first_axis" 17 1 c_first_axis) (F_no_axis : FnD T P w mg base 9 "no_axis" 19 1 c_no_axis) (F_panel_told : FnD T P w mg base 4 "panel_told" 5 1 c_panel_told) (F_in_Axis : InD T P w mg base 7 "Axis" 1 1 c_in_Axis) : Body T P w mg base 9 N_axis_verdict "axis_verdict" s_axis_verdict f b_axis_verdict := fun cdv A outer s H EE ck =>
  (ss_cons (ss_asg 1 ck (se_call ck (F_panel_told.mono (by decide)) (sa_cons (se_var 0) sa_nil)))
    (ss_cons (ss_asg 2 ck (se_call ck (F_first_axis.mono (by decide)) (sa_cons (se_var 1) sa_nil)))
    (ss_one (ss_ret (se_if (st_isN (se_var 2) se_non) (se_call ck (F_no_axis.mono (by decide)) (sa_cons (se_var 1) sa_nil)) (se_make ck (F_in_Axis.mono (by decide)) E.k_Axis (sa_cons (se_var 2) sa_nil)))))))
theorem sc__law_pen : FnScope N__law_pen ["script"] (defScope s__law_pen) := ⟨rfl, rfl, rfl, by decide +kernel, rfl, by decide +kernel, by decide +kernel⟩
theorem d__law_pen {f : Addr} (E : Env0 T mg)  : Body T P w mg base 0 N__law_pen "_law_pen" s__law_pen f b__law_pen := fun cdv A outer s H EE ck =>
  (ss_cons (ss_asg 1 ck se_int)
    (ss_cons (ss_for ck (si_seq ck (se_var 0)) (sg_name 2 ck) (ss_one (ss_asg 1 ck (se_mod (se_intc E.b_int (sa_cons (se_add ck (se_mul (se_var 1) se_int) (se_var 2)) sa_nil)) se_int))))
    (ss_one (ss_ret (se_dispS (spr_cons se_str (se_list ck E.b_list (sa_cons (se_var 0) sa_nil)) (spr_cons se_str se_int (spr_cons se_str se_int (spr_cons se_str se_int (spr_cons se_str (se_var 1) spr_nil))))))))))
theorem sc__law_draw : FnScope N__law_draw ["pen", "many"] (defScope s__law_draw) := ⟨rfl, rfl, rfl, by decide +kernel, rfl, by decide +kernel, by decide +kernel⟩
theorem d__law_draw {f : Addr} (E : Env0 T mg)  : Body T P w mg base 0 N__law_draw "_law_draw" s__law_draw f b__law_draw := fun cdv A outer s H EE ck =>
  (ss_cons (ss_dput ck (se_var 0) se_str (se_add ck (se_dget ck (se_var 0) se_str) se_int))
    (ss_cons (ss_if (st_w (sw_and (st_eq ck (se_dget ck (se_var 0) se_str) se_int) (sw_and1 (st_lt (se_dget ck (se_var 0) se_str) (se_len ck E.b_len (sa_cons (se_dget ck (se_var 0) se_str) sa_nil)))))) (ss_cons (ss_asg 2 ck (se_ix ck (se_dget ck (se_var 0) se_str) (se_dget ck (se_var 0) se_str)))
    (ss_cons (ss_dput ck (se_var 0) se_str (se_add ck (se_dget ck (se_var 0) se_str) se_int))
    (ss_one (ss_if (st_ge (se_var 2) (se_pow se_int se_int)) (ss_one (ss_dput ck (se_var 0) se_str (se_sub (se_var 2) (se_pow se_int se_int)))) (ss_one (ss_dput ck (se_var 0) se_str (se_mod (se_intc E.b_int (sa_cons (se_add ck (se_mul (se_dget ck (se_var 0) se_str) se_int) (se_var 2)) sa_nil)) se_int))))))) ss_nil)
    (ss_cons (ss_if (st_gt (se_dget ck (se_var 0) se_str) se_int) (ss_cons (ss_asg 3 ck (se_mod (se_intc E.b_int (sa_cons (se_dget ck (se_var 0) se_str) sa_nil)) (se_var 1)))
    (ss_cons (ss_dput ck (se_var 0) se_str (se_fdiv (se_dget ck (se_var 0) se_str) (se_var 1)))
    (ss_one (ss_ret (se_var 3))))) ss_nil)
    (ss_cons (ss_asg 4 ck (se_add ck (se_add ck (se_dget ck (se_var 0) se_str) (se_mul (se_dget ck (se_var 0) se_str) se_int)) se_int))
    (ss_one (ss_ret (se_mod (se_fdiv (se_intc E.b_int (sa_cons (se_mod (se_pow (se_var 4) se_int) se_int) sa_nil)) se_int) (se_var 1))))))))
theorem sc__law_pick : FnScope N__law_pick ["pen", "some"] (defScope s__law_pick) := ⟨rfl, rfl, rfl, by decide +kernel, rfl, by decide +kernel, by decide +kernel⟩
theorem d__law_pick {f : Addr} (E : Env0 T mg) (F__law_draw : FnD T P w mg base 1 "_law_draw" 22 2 c__law_draw) : Body T P w mg base 1 N__law_pick "_law_pick" s__law_pick f b__law_pick := fun cdv A outer s H EE ck =>
  (ss_one (ss_ret (se_ix ck (se_var 1) (se_call ck (F__law_draw.mono (by decide)) (sa_cons (se_var 0) (sa_cons (se_len ck E.b_len (sa_cons (se_var 1) sa_nil)) sa_nil))))))
theorem sc__law_shuffled : FnScope N__law_shuffled ["pen", "some"] (defScope s__law_shuffled) := ⟨rfl, rfl, rfl, by decide +kernel, rfl, by decide +kernel, by decide +kernel⟩
theorem d__law_shuffled {f : Addr} (E : Env0 T mg) (F__law_draw : FnD T P w mg base 1 "_law_draw" 22 2 c__law_draw) : Body T P w mg base 1 N__law_shuffled "_law_shuffled" s__law_shuffled f b__law_shuffled := fun cdv A outer s H EE ck =>
  (ss_cons (ss_par 2 3 ck (sp_l (sel_list ck E.b_list (sa_cons (se_var 1) sa_nil)) (sp_l (sel_lst sa_nil) sp_nil)))
    (ss_cons (ss_for ck (si_range1 (by rfl) E.b_range (sa_cons (se_len ck E.b_len (sa_cons (se_var 1) sa_nil)) sa_nil)) (sg_name 4 ck) (ss_one (ss_expr (se_append 3 ck (sa_cons (se_popAt 2 ck (sa_cons (se_call ck (F__law_draw.mono (by decide)) (sa_cons (se_var 0) (sa_cons (se_lenV 2 ck E.b_len) sa_nil))) sa_nil)) sa_nil)))))
    (ss_one (ss_ret (se_varF 3)))))
theorem sc__law_is_int : FnScope N__law_is_int ["thing"] (defScope s__law_is_int) := ⟨rfl, rfl, rfl, by decide +kernel, rfl, by decide +kernel, by decide +kernel⟩
theorem d__law_is_int {f : Addr} (E : Env0 T mg)  : Body T P w mg base 0 N__law_is_int "_law_is_int" s__law_is_int f b__law_is_int := fun cdv A outer s H EE ck =>
  (ss_one (ss_ret (se_and ck (se_isi ck E.b_isinstance (se_var 0) (.b .int (by rfl) E.b_int (by decide +kernel) (by decide) (by decide))) (se_one (se_not ck (se_isi ck E.b_isinstance (se_var 0) (.b .bl (by rfl) E.b_bool (by decide +kernel) (by decide) (by decide))))))))
theorem sc__law_says_not : FnScope N__law_says_not ["told", "right"] (defScope s__law_says_not) := ⟨rfl, rfl, rfl, by decide +kernel, rfl, by decide +kernel, by decide +kernel⟩
theorem d__law_says_not {f : Addr} (E : Env0 T mg)  : Body T P w mg base 0 N__law_says_not "_law_says_not" s__law_says_not f b__law_says_not := fun cdv A outer s H EE ck =>
  (ss_one (ss_ret (se_or ck (se_not ck (se_isi ck E.b_isinstance (se_var 0) (.b .bl (by rfl) E.b_bool (by decide +kernel) (by decide) (by decide)))) (se_one (se_ne ck (se_var 0) (se_var 1))))))
theorem sc__law_panel : FnScope N__law_panel ["pen", "things", "size"] (defScope s__law_panel) := ⟨rfl, rfl, rfl, by decide +kernel, rfl, by decide +kernel, by decide +kernel⟩
theorem d__law_panel {f : Addr} (E : Env0 T mg) (F__law_draw : FnD T P w mg base 1 "_law_draw" 22 2 c__law_draw) (F__law_shuffled : FnD T P w mg base 2 "_law_shuffled" 24 2 c__law_shuffled) : Body T P w mg base 2 N__law_panel "_law_panel" s__law_panel f b__law_panel := fun cdv A outer s H EE ck =>
  (ss_cons (ss_par3 3 4 5 ck (sp_e (se_call ck (F__law_shuffled.mono (by decide)) (sa_cons (se_var 0) (sa_cons (se_lstRg ck E.b_list (sr_1 E.b_range (se_var 1))) sa_nil))) (sp_l (sel_lst sa_nil) (sp_e (se_call ck (F__law_draw.mono (by decide)) (sa_cons (se_var 0) (sa_cons se_int sa_nil))) sp_nil))))
    (ss_cons (ss_for ck (si_range1 (by rfl) E.b_range (sa_cons (se_var 2) sa_nil)) (sg_name 6 ck) (ss_cons (ss_par 7 8 ck (sp_l (sel_lst sa_nil) (sp_e (se_call ck (F__law_draw.mono (by decide)) (sa_cons (se_var 0) (sa_cons (se_var 1) sa_nil))) sp_nil)))
    (ss_cons (ss_asg 9 ck (se_var 8))
    (ss_cons (ss_owl 7 ck (sel_lst (sa_cons (se_ix ck (se_var 3) (se_var 8)) sa_nil)))
    (ss_cons (ss_while 64 ck (st_lt (se_lenV 7 ck E.b_len) (se_var 1)) (ss_cons (ss_asg 10 ck (se_and ck (se_gt (se_var 8) se_int) (se_one (se_or ck (se_eq ck (se_var 9) (se_sub (se_var 1) se_int)) (se_one (se_eq ck (se_call ck (F__law_draw.mono (by decide)) (sa_cons (se_var 0) (sa_cons se_int sa_nil))) se_int))))))
    (ss_cons (ss_unp ck (se_if (st_val ck (se_var 10)) (se_tup (sa_cons (se_sub (se_var 8) se_int) (sa_cons (se_var 9) sa_nil))) (se_tup (sa_cons (se_var 8) (sa_cons (se_add ck (se_var 9) se_int) sa_nil)))) (sg_tup ck (sgs_cons 8 ck (sgs_cons 9 ck sgs_nil))))
    (ss_one (ss_expr (se_append 7 ck (sa_cons (se_ix ck (se_var 3) (se_if (st_val ck (se_var 10)) (se_var 8) (se_var 9))) sa_nil)))))))
    (ss_cons (ss_if (st_w (sw_or (st_eq ck (se_var 5) se_int) (sw_or1 (st_w (sw_and (st_eq ck (se_var 5) se_int) (sw_and1 (st_eq ck (se_var 6) (se_sub (se_var 2) se_int)))))))) (ss_one (ss_asg 7 ck (se_call ck (F__law_shuffled.mono (by decide)) (sa_cons (se_var 0) (sa_cons (se_varF 7) sa_nil))))) ss_nil)
    (ss_one (ss_expr (se_append 4 ck (sa_cons (se_tuple ck E.b_tuple (sa_cons (se_varF 7) sa_nil)) sa_nil))))))))))
    (ss_one (ss_ret (se_tuple ck E.b_tuple (sa_cons (se_varF 4) sa_nil))))))
theorem sc__law_ahead : FnScope N__law_ahead ["order", "one", "other"] (defScope s__law_ahead) := ⟨rfl, rfl, rfl, by decide +kernel, rfl, by decide +kernel, by decide +kernel⟩
theorem d__law_ahead {f : Addr} (E : Env0 T mg)  : Body T P w mg base 0 N__law_ahead "_law_ahead" s__law_ahead f b__law_ahead := fun cdv A outer s H EE ck =>
  (ss_one (ss_ret (se_lt (se_index ck (se_var 0) (sa_cons (se_var 1) sa_nil)) (se_index ck (se_var 0) (sa_cons (se_var 2) sa_nil)))))
theorem sc__law_falls : FnScope N__law_falls ["axis", "order"] (defScope s__law_falls) := ⟨rfl, rfl, rfl, by decide +kernel, rfl, by decide +kernel, by decide +kernel⟩
theorem d__law_falls {f : Addr} (E : Env0 T mg) (F__law_ahead : FnD T P w mg base 1 "_law_ahead" 28 3 c__law_ahead) : Body T P w mg base 1 N__law_falls "_law_falls" s__law_falls f b__law_falls := fun cdv A outer s H EE ck =>
  (ss_cons (ss_for ck (si_range1 (by rfl) E.b_range (sa_cons (se_len ck E.b_len (sa_cons (se_var 0) sa_nil)) sa_nil)) (sg_name 2 ck) (ss_one (ss_for ck (si_seq ck (se_slice ck (se_var 0) so_none (so_some (se_var 2)))) (sg_name 3 ck) (ss_one (ss_for ck (si_seq ck (se_slice ck (se_var 0) (so_some (se_add ck (se_var 2) se_int)) so_none)) (sg_name 4 ck) (ss_one (ss_if (st_w (sw_and (st_val ck (se_call ck (F__law_ahead.mono (by decide)) (sa_cons (se_var 1) (sa_cons (se_var 3) (sa_cons (se_ix ck (se_var 0) (se_var 2)) sa_nil))))) (sw_and1 (st_val ck (se_call ck (F__law_ahead.mono (by decide)) (sa_cons (se_var 1) (sa_cons (se_var 4) (sa_cons (se_ix ck (se_var 0) (se_var 2)) sa_nil)))))))) (ss_one (ss_ret se_bl)) ss_nil)))))))
    (ss_one (ss_ret se_bl)))
theorem sc__law_is_whole : FnScope N__law_is_whole ["things", "value"] (defScope s__law_is_whole) := ⟨rfl, rfl, rfl, by decide +kernel, rfl, by decide +kernel, by decide +kernel⟩
theorem d__law_is_whole {f : Addr} (E : Env0 T mg) (F__law_is_int : FnD T P w mg base 1 "_law_is_int" 25 1 c__law_is_int) : Body T P w mg base 1 N__law_is_whole "_law_is_whole" s__law_is_whole f b__law_is_whole := fun cdv A outer s H EE ck =>
  (ss_one (ss_ret (se_and ck (se_isi ck E.b_isinstance (se_var 1) (.b .tup (by rfl) E.b_tuple (by decide +kernel) (by decide) (by decide))) (se_and ck (se_all ck E.b_all (sa_cons (se_lc (own := [("item", 2)]) ck (si_seq ck (se_var 1)) (blk_of (by kernel_rfl)) (fun s1 H1 C1 cl1 fp1 => (sg_name 2 (ck.blk s1 H1 _ _ fp1))) (fun s1 H1 C1 cl1 fp1 => sts_nil) (fun s1 H1 C1 cl1 fp1 => (se_call (ck.blk s1 H1 _ _ fp1) (F__law_is_int.mono (by decide)) (sa_cons (se_var 2) sa_nil)))) sa_nil)) (se_one (se_eq ck (se_sorted ck E.b_sorted (sa_cons (se_var 1) sa_nil)) (se_lstRg ck E.b_list (sr_1 E.b_range (se_var 0)))))))))
theorem sc__law_numbered : FnScope N__law_numbered ["most", "many", "value"] (defScope s__law_numbered) := ⟨rfl, rfl, rfl, by decide +kernel, rfl, by decide +kernel, by decide +kernel⟩
theorem d__law_numbered {f : Addr} (E : Env0 T mg) (F__law_is_int : FnD T P w mg base 1 "_law_is_int" 25 1 c__law_is_int) : Body T P w mg base 1 N__law_numbered "_law_numbered" s__law_numbered f b__law_numbered := fun cdv A outer s H EE ck =>
  (ss_one (ss_ret (se_and ck (se_isi ck E.b_isinstance (se_var 2) (.b .tup (by rfl) E.b_tuple (by decide +kernel) (by decide) (by decide))) (se_and ck (se_eq ck (se_len ck E.b_len (sa_cons (se_var 2) sa_nil)) (se_var 1)) (se_one (se_all ck E.b_all (sa_cons (se_lc (own := [("item", 3)]) ck (si_seq ck (se_var 2)) (blk_of (by kernel_rfl)) (fun s1 H1 C1 cl1 fp1 => (sg_name 3 (ck.blk s1 H1 _ _ fp1))) (fun s1 H1 C1 cl1 fp1 => sts_nil) (fun s1 H1 C1 cl1 fp1 => (se_and (ck.blk s1 H1 _ _ fp1) (se_call (ck.blk s1 H1 _ _ fp1) (F__law_is_int.mono (by decide)) (sa_cons (se_var 3) sa_nil)) (se_one (se_lelt se_int (se_var 3) (se_var 0)))))) sa_nil)))))))
theorem sc__law_three_right : FnScope N__law_three_right ["panel", "things", "rows"] (defScope s__law_three_right) := ⟨rfl, rfl, rfl, by decide +kernel, rfl, by decide +kernel, by decide +kernel⟩
theorem d__law_three_right {f : Addr} (E : Env0 T mg) (F__law_ahead : FnD T P w mg base 1 "_law_ahead" 28 3 c__law_ahead) (F__law_numbered : FnD T P w mg base 2 "_law_numbered" 31 3 c__law_numbered) : Body T P w mg base 2 N__law_three_right "_law_three_right" s__law_three_right f b__law_three_right := fun cdv A outer s H EE ck =>
  (ss_cons (ss_asg 3 ck (se_len ck E.b_len (sa_cons (se_ix ck (se_var 0) se_int) sa_nil)))
    (ss_cons (ss_if (st_w (sw_or (st_not (st_val ck (se_call ck (F__law_numbered.mono (by decide)) (sa_cons (se_var 3) (sa_cons se_int (sa_cons (se_var 1) sa_nil)))))) (sw_or (st_lt (se_lenSet ck E.b_len E.b_set (se_var 1)) se_int) (sw_or1 (st_not (st_val ck (se_call ck (F__law_numbered.mono (by decide)) (sa_cons (se_len ck E.b_len (sa_cons (se_var 0) sa_nil)) (sa_cons se_int (sa_cons (se_var 2) sa_nil)))))))))) (ss_one (ss_ret se_bl)) ss_nil)
    (ss_one (ss_ret (se_all ck E.b_all (sa_cons (se_lc (own := [("thing", 5), ("row", 6)]) ck (si_zip ck (by rfl) E.b_zip (sa_cons (se_var 1) (sa_cons (se_var 2) sa_nil))) (blk_of (by kernel_rfl)) (fun s1 H1 C1 cl1 fp1 => (sg_tup (ck.blk s1 H1 _ _ fp1) (sgs_cons 5 (ck.blk s1 H1 _ _ fp1) (sgs_cons 6 (ck.blk s1 H1 _ _ fp1) sgs_nil)))) (fun s1 H1 C1 cl1 fp1 => sts_nil) (fun s1 H1 C1 cl1 fp1 => (se_all (ck.blk s1 H1 _ _ fp1) E.b_all (sa_cons (se_lc (own := [("other", 4)]) (ck.blk s1 H1 _ _ fp1) (si_seq (ck.blk s1 H1 _ _ fp1) (se_var 1)) (blk_of (by kernel_rfl)) (fun s2 H2 C2 cl2 fp2 => (sg_name 4 ((ck.blk s1 H1 _ _ fp1).blk s2 H2 _ _ fp2))) (fun s2 H2 C2 cl2 fp2 => sts_nil) (fun s2 H2 C2 cl2 fp2 => (se_or ((ck.blk s1 H1 _ _ fp1).blk s2 H2 _ _ fp2) (se_eq ((ck.blk s1 H1 _ _ fp1).blk s2 H2 _ _ fp2) (se_var 4) (se_var 5)) (se_one (se_call ((ck.blk s1 H1 _ _ fp1).blk s2 H2 _ _ fp2) (F__law_ahead.mono (by decide)) (sa_cons (se_ix ((ck.blk s1 H1 _ _ fp1).blk s2 H2 _ _ fp2) (se_var 0) (se_var 6)) (sa_cons (se_var 4) (sa_cons (se_var 5) sa_nil)))))))) sa_nil)))) sa_nil))))))
theorem sc__law_four_right : FnScope N__law_four_right ["panel", "things", "rows"] (defScope s__law_four_right) := ⟨rfl, rfl, rfl, by decide +kernel, rfl, by decide +kernel, by decide +kernel⟩
theorem d__law_four_right {f : Addr} (E : Env0 T mg) (F__law_ahead : FnD T P w mg base 1 "_law_ahead" 28 3 c__law_ahead) (F__law_numbered : FnD T P w mg base 2 "_law_numbered" 31 3 c__law_numbered) : Body T P w mg base 2 N__law_four_right "_law_four_right" s__law_four_right f b__law_four_right := fun cdv A outer s H EE ck =>
  (ss_cons (ss_asg 3 ck (se_len ck E.b_len (sa_cons (se_ix ck (se_var 0) se_int) sa_nil)))
    (ss_cons (ss_if (st_w (sw_or (st_not (st_val ck (se_call ck (F__law_numbered.mono (by decide)) (sa_cons (se_var 3) (sa_cons se_int (sa_cons (se_var 1) sa_nil)))))) (sw_or (st_lt (se_lenSet ck E.b_len E.b_set (se_var 1)) se_int) (sw_or1 (st_not (st_val ck (se_call ck (F__law_numbered.mono (by decide)) (sa_cons (se_len ck E.b_len (sa_cons (se_var 0) sa_nil)) (sa_cons se_int (sa_cons (se_var 2) sa_nil)))))))))) (ss_one (ss_ret se_bl)) ss_nil)
    (ss_cons (ss_unp ck (se_var 1) (sg_tup ck (sgs_cons 4 ck (sgs_cons 5 ck (sgs_cons 6 ck (sgs_cons 7 ck sgs_nil))))))
    (ss_cons (ss_par 8 9 ck (sp_e (se_ix ck (se_var 0) (se_ix ck (se_var 2) se_int)) (sp_e (se_ix ck (se_var 0) (se_ix ck (se_var 2) se_int)) sp_nil)))
    (ss_cons (ss_if (st_not (st_w (sw_and (st_val ck (se_call ck (F__law_ahead.mono (by decide)) (sa_cons (se_var 8) (sa_cons (se_var 4) (sa_cons (se_var 5) sa_nil))))) (sw_and (st_val ck (se_call ck (F__law_ahead.mono (by decide)) (sa_cons (se_var 8) (sa_cons (se_var 5) (sa_cons (se_var 6) sa_nil))))) (sw_and1 (st_val ck (se_call ck (F__law_ahead.mono (by decide)) (sa_cons (se_var 8) (sa_cons (se_var 7) (sa_cons (se_var 5) sa_nil)))))))))) (ss_one (ss_ret se_bl)) ss_nil)
    (ss_one (ss_ret (se_and ck (se_call ck (F__law_ahead.mono (by decide)) (sa_cons (se_var 9) (sa_cons (se_var 6) (sa_cons (se_var 5) sa_nil)))) (se_and ck (se_call ck (F__law_ahead.mono (by decide)) (sa_cons (se_var 9) (sa_cons (se_var 5) (sa_cons (se_var 4) sa_nil)))) (se_one (se_call ck (F__law_ahead.mono (by decide)) (sa_cons (se_var 9) (sa_cons (se_var 7) (sa_cons (se_var 5) sa_nil))))))))))))))
theorem sc__law_loose_panel : FnScope N__law_loose_panel ["pen", "panel"] (defScope s__law_loose_panel) := ⟨rfl, rfl, rfl, by decide +kernel, rfl, by decide +kernel, by decide +kernel⟩
theorem d__law_loose_panel {f : Addr} (E : Env0 T mg) (F__law_pick : FnD T P w mg base 2 "_law_pick" 23 2 c__law_pick) : Body T P w mg base 2 N__law_loose_panel "_law_loose_panel" s__law_loose_panel f b__law_loose_panel := fun cdv A outer s H EE ck =>
  (ss_one (ss_ret (se_call ck (F__law_pick.mono (by decide)) (sa_cons (se_var 0) (sa_cons (se_lst (sa_cons (se_var 1) (sa_cons (se_lc (own := [("order", 2)]) ck (si_seq ck (se_var 1)) (blk_of (by kernel_rfl)) (fun s1 H1 C1 cl1 fp1 => (sg_name 2 (ck.blk s1 H1 _ _ fp1))) (fun s1 H1 C1 cl1 fp1 => sts_nil) (fun s1 H1 C1 cl1 fp1 => (se_list (ck.blk s1 H1 _ _ fp1) E.b_list (sa_cons (se_var 2) sa_nil)))) (sa_cons (se_list ck E.b_list (sa_cons (se_var 1) sa_nil)) sa_nil)))) sa_nil)))))
theorem sc__law_bent : FnScope N__law_bent ["pen", "row", "many"] (defScope s__law_bent) := ⟨rfl, rfl, rfl, by decide +kernel, rfl, by decide +kernel, by decide +kernel⟩
theorem d__law_bent {f : Addr} (E : Env0 T mg) (F__law_draw : FnD T P w mg base 1 "_law_draw" 22 2 c__law_draw) (F__law_pick : FnD T P w mg base 2 "_law_pick" 23 2 c__law_pick) : Body T P w mg base 2 N__law_bent "_law_bent" s__law_bent f b__law_bent := fun cdv A outer s H EE ck =>
  (ss_cons (ss_asg 3 ck (se_call ck (F__law_draw.mono (by decide)) (sa_cons (se_var 0) (sa_cons (se_add ck (se_len ck E.b_len (sa_cons (se_var 1) sa_nil)) se_int) sa_nil))))
    (ss_cons (ss_asg 4 ck (se_call ck (F__law_pick.mono (by decide)) (sa_cons (se_var 0) (sa_cons (se_lst (sa_cons se_int (sa_cons (se_var 2) (sa_cons (se_neg se_int) (sa_cons se_non (sa_cons se_bl (sa_cons (se_tup (sa_cons se_int sa_nil)) (sa_cons (se_sub (se_var 2) se_int) sa_nil)))))))) sa_nil))))
    (ss_one (ss_ret (se_call ck (F__law_pick.mono (by decide)) (sa_cons (se_var 0) (sa_cons (se_lst (sa_cons (se_add ck (se_add ck (se_slice ck (se_var 1) so_none (so_some (se_var 3))) (se_tup (sa_cons (se_var 4) sa_nil))) (se_slice ck (se_var 1) (so_some (se_add ck (se_var 3) se_int)) so_none)) (sa_cons (se_add ck (se_add ck (se_slice ck (se_var 1) so_none (so_some (se_var 3))) (se_tup (sa_cons (se_var 4) sa_nil))) (se_slice ck (se_var 1) (so_some (se_var 3)) so_none)) (sa_cons (se_slice ck (se_var 1) (so_some se_int) so_none) (sa_cons (se_add ck (se_var 1) (se_slice ck (se_var 1) so_none (so_some se_int))) (sa_cons (se_rev ck (se_var 1)) (sa_cons (se_list ck E.b_list (sa_cons (se_var 1) sa_nil)) (sa_cons se_non (sa_cons se_int sa_nil))))))))) sa_nil)))))))
theorem sc__law_some_three : FnScope N__law_some_three ["pen", "panel", "things"] (defScope s__law_some_three) := ⟨rfl, rfl, rfl, by decide +kernel, rfl, by decide +kernel, by decide +kernel⟩
theorem d__law_some_three {f : Addr} (E : Env0 T mg) (F__law_ahead : FnD T P w mg base 1 "_law_ahead" 28 3 c__law_ahead) (F__law_draw : FnD T P w mg base 1 "_law_draw" 22 2 c__law_draw) (F__law_pick : FnD T P w mg base 2 "_law_pick" 23 2 c__law_pick) (F__law_shuffled : FnD T P w mg base 2 "_law_shuffled" 24 2 c__law_shuffled) : Body T P w mg base 2 N__law_some_three "_law_some_three" s__law_some_three f b__law_some_three := fun cdv A outer s H EE ck =>
  (ss_cons (ss_asg 3 ck (se_tuple ck E.b_tuple (sa_cons (se_slice ck (se_call ck (F__law_shuffled.mono (by decide)) (sa_cons (se_var 0) (sa_cons (se_lstRg ck E.b_list (sr_1 E.b_range (se_var 2))) sa_nil))) so_none (so_some se_int)) sa_nil)))
    (ss_cons (ss_owl 4 ck (sel_lst sa_nil))
    (ss_cons (ss_for ck (si_seq ck (se_var 3)) (sg_name 5 ck) (ss_cons (ss_lcAsg 6 (own := [("at", 7)]) ck (si_range1 (by rfl) E.b_range (sa_cons (se_len ck E.b_len (sa_cons (se_var 1) sa_nil)) sa_nil)) (blk_of (by kernel_rfl)) (fun s1 H1 C1 cl1 fp1 => (sg_name 7 (ck.blk s1 H1 _ _ fp1))) (fun s1 H1 C1 cl1 fp1 => (sts_one (st_val (ck.blk s1 H1 _ _ fp1) (se_all (ck.blk s1 H1 _ _ fp1) E.b_all (sa_cons (se_lc (own := [("other", 8)]) (ck.blk s1 H1 _ _ fp1) (si_seq (ck.blk s1 H1 _ _ fp1) (se_var 3)) (blk_of (by kernel_rfl)) (fun s2 H2 C2 cl2 fp2 => (sg_name 8 ((ck.blk s1 H1 _ _ fp1).blk s2 H2 _ _ fp2))) (fun s2 H2 C2 cl2 fp2 => sts_nil) (fun s2 H2 C2 cl2 fp2 => (se_or ((ck.blk s1 H1 _ _ fp1).blk s2 H2 _ _ fp2) (se_eq ((ck.blk s1 H1 _ _ fp1).blk s2 H2 _ _ fp2) (se_var 8) (se_var 5)) (se_one (se_call ((ck.blk s1 H1 _ _ fp1).blk s2 H2 _ _ fp2) (F__law_ahead.mono (by decide)) (sa_cons (se_ix ((ck.blk s1 H1 _ _ fp1).blk s2 H2 _ _ fp2) (se_var 1) (se_var 7)) (sa_cons (se_var 8) (sa_cons (se_var 5) sa_nil)))))))) sa_nil))))) (fun s1 H1 C1 cl1 fp1 => (se_var 7)) (sw_true (by rfl) (by rfl) (by rfl) (by rfl)))
    (ss_one (ss_expr (se_append 4 ck (sa_cons (se_if (st_ne ck (se_var 6) (se_lst sa_nil)) (se_call ck (F__law_pick.mono (by decide)) (sa_cons (se_var 0) (sa_cons (se_var 6) sa_nil))) (se_call ck (F__law_draw.mono (by decide)) (sa_cons (se_var 0) (sa_cons (se_len ck E.b_len (sa_cons (se_var 1) sa_nil)) sa_nil)))) sa_nil))))))
    (ss_one (ss_ret (se_tup (sa_cons (se_var 3) (sa_cons (se_tuple ck E.b_tuple (sa_cons (se_varF 4) sa_nil)) sa_nil))))))))
theorem sc__law_some_four : FnScope N__law_some_four ["pen", "panel", "things"] (defScope s__law_some_four) := ⟨rfl, rfl, rfl, by decide +kernel, rfl, by decide +kernel, by decide +kernel⟩
theorem d__law_some_four {f : Addr} (E : Env0 T mg) (F__law_draw : FnD T P w mg base 1 "_law_draw" 22 2 c__law_draw) (F__law_four_right : FnD T P w mg base 3 "_law_four_right" 33 3 c__law_four_right) (F__law_shuffled : FnD T P w mg base 2 "_law_shuffled" 24 2 c__law_shuffled) : Body T P w mg base 3 N__law_some_four "_law_some_four" s__law_some_four f b__law_some_four := fun cdv A outer s H EE ck =>
  (ss_cons (ss_asg 3 ck (se_lst sa_nil))
    (ss_cons (ss_for ck (si_range1 (by rfl) E.b_range (sa_cons se_int sa_nil)) (sg_name 4 ck) (ss_cons (ss_par 5 6 ck (sp_e (se_tuple ck E.b_tuple (sa_cons (se_slice ck (se_call ck (F__law_shuffled.mono (by decide)) (sa_cons (se_var 0) (sa_cons (se_lstRg ck E.b_list (sr_1 E.b_range (se_var 2))) sa_nil))) so_none (so_some se_int)) sa_nil)) (sp_e (se_tup (sa_cons (se_call ck (F__law_draw.mono (by decide)) (sa_cons (se_var 0) (sa_cons (se_len ck E.b_len (sa_cons (se_var 1) sa_nil)) sa_nil))) (sa_cons (se_call ck (F__law_draw.mono (by decide)) (sa_cons (se_var 0) (sa_cons (se_len ck E.b_len (sa_cons (se_var 1) sa_nil)) sa_nil))) sa_nil))) sp_nil)))
    (ss_one (ss_asg 3 ck (se_if (st_w (sw_and (st_eq ck (se_len ck E.b_len (sa_cons (se_var 5) sa_nil)) se_int) (sw_and1 (st_val ck (se_call ck (F__law_four_right.mono (by decide)) (sa_cons (se_var 1) (sa_cons (se_var 5) (sa_cons (se_var 6) sa_nil)))))))) (se_add ck (se_lst (sa_cons (se_tup (sa_cons (se_var 5) (sa_cons (se_var 6) sa_nil))) sa_nil)) (se_var 3)) (se_add ck (se_var 3) (se_lst (sa_cons (se_tup (sa_cons (se_var 5) (sa_cons (se_var 6) sa_nil))) sa_nil))))))))
    (ss_one (ss_ret (se_ix ck (se_var 3) se_int)))))
theorem sc_law : FnScope N_law ["script"] (defScope s_law) := ⟨rfl, rfl, rfl, by decide +kernel, rfl, by decide +kernel, by decide +kernel⟩
theorem d_law {f : Addr} (E : Env0 T mg) (F__law_bent : FnD T P w mg base 3 "_law_bent" 35 3 c__law_bent) (F__law_draw : FnD T P w mg base 1 "_law_draw" 22 2 c__law_draw) (F__law_falls : FnD T P w mg base 2 "_law_falls" 29 2 c__law_falls) (F__law_four_right : FnD T P w mg base 3 "_law_four_right" 33 3 c__law_four_right) (F__law_is_whole : FnD T P w mg base 2 "_law_is_whole" 30 2 c__law_is_whole) (F__law_loose_panel : FnD T P w mg base 3 "_law_loose_panel" 34 2 c__law_loose_panel) (F__law_panel : FnD T P w mg base 3 "_law_panel" 27 3 c__law_panel) (F__law_pen : FnD T P w mg base 1 "_law_pen" 21 1 c__law_pen) (F__law_pick : FnD T P w mg base 2 "_law_pick" 23 2 c__law_pick) (F__law_says_not : FnD T P w mg base 1 "_law_says_not" 26 2 c__law_says_not) (F__law_shuffled : FnD T P w mg base 2 "_law_shuffled" 24 2 c__law_shuffled) (F__law_some_four : FnD T P w mg base 4 "_law_some_four" 37 3 c__law_some_four) (F__law_some_three : FnD T P w mg base 3 "_law_some_three" 36 3 c__law_some_three) (F__law_three_right : FnD T P w mg base 3 "_law_three_right" 32 3 c__law_three_right) (F_axis_holds : FnD T P w mg base 5 "axis_holds" 9 2 c_axis_holds) (F_axis_verdict : FnD T P w mg base 10 "axis_verdict" 20 1 c_axis_verdict) (F_four_holds : FnD T P w mg base 5 "four_holds" 15 2 c_four_holds) (F_three_holds : FnD T P w mg base 5 "three_holds" 13 2 c_three_holds) (F_in_Axis : InD T P w mg base 7 "Axis" 1 1 c_in_Axis) (F_in_Four : InD T P w mg base 7 "Four" 3 2 c_in_Four) (F_in_Three : InD T P w mg base 7 "Three" 2 2 c_in_Three) (F_in_Turn : InD T P w mg base 7 "Turn" 0 1 c_in_Turn) (F_eq_Axis : EqD T P w mg base 1 1 c_eq_Axis) (F_eq_Four : EqD T P w mg base 1 3 c_eq_Four) (F_eq_Three : EqD T P w mg base 1 2 c_eq_Three) : Body T P w mg base 10 N_law "law" s_law f b_law := fun cdv A outer s H EE ck =>
  (ss_cons (ss_asg 1 ck (se_call ck (F__law_pen.mono (by decide)) (sa_cons (se_var 0) sa_nil)))
    (ss_cons (ss_par 2 3 ck (sp_e (se_call ck (F__law_pick.mono (by decide)) (sa_cons (se_var 1) (sa_cons (se_lst (sa_cons se_int (sa_cons se_int (sa_cons se_int (sa_cons se_int (sa_cons se_int (sa_cons se_int sa_nil))))))) sa_nil))) (sp_e (se_call ck (F__law_pick.mono (by decide)) (sa_cons (se_var 1) (sa_cons (se_lst (sa_cons se_int (sa_cons se_int (sa_cons se_int (sa_cons se_int (sa_cons se_int sa_nil)))))) sa_nil))) sp_nil)))
    (ss_cons (ss_asg 4 ck (se_call ck (F__law_panel.mono (by decide)) (sa_cons (se_var 1) (sa_cons (se_var 2) (sa_cons (se_var 3) sa_nil)))))
    (ss_cons (ss_if (st_w (sw_and (st_gt (se_var 2) se_int) (sw_and1 (st_eq ck (se_call ck (F__law_draw.mono (by decide)) (sa_cons (se_var 1) (sa_cons se_int sa_nil))) se_int)))) (ss_one (ss_asg 4 ck (se_add ck (se_var 4) (se_tup (sa_cons (se_add ck (se_tup (sa_cons se_int (sa_cons se_int (sa_cons se_int (sa_cons se_int sa_nil))))) (se_tupRg ck E.b_tuple (sr_2 E.b_range se_int (se_var 2)))) (sa_cons (se_add ck (se_tup (sa_cons se_int (sa_cons se_int (sa_cons se_int (sa_cons se_int sa_nil))))) (se_tupRg ck E.b_tuple (sr_2 E.b_range se_int (se_var 2)))) sa_nil)))))) ss_nil)
    (ss_cons (ss_asg 5 ck (se_call ck (F_axis_verdict.mono (by decide)) (sa_cons (se_var 4) sa_nil)))
    (ss_cons (ss_for ck (si_range1 (by rfl) E.b_range (sa_cons se_int sa_nil)) (sg_name 6 ck) (ss_cons (ss_asg 7 ck (se_call ck (F__law_loose_panel.mono (by decide)) (sa_cons (se_var 1) (sa_cons (se_var 4) sa_nil))))
    (ss_cons (ss_asg 8 ck (se_if (st_w (sw_and (st_val ck (se_isi ck E.b_isinstance (se_var 5) (.o 1 (by rfl) E.c_Axis (by exact E.lt_Axis) (by decide)))) (sw_and1 (st_lt (se_var 6) se_int)))) (se_fld "things" ck (se_var 5) E.f_things) (se_tuple ck E.b_tuple (sa_cons (se_call ck (F__law_shuffled.mono (by decide)) (sa_cons (se_var 1) (sa_cons (se_lstRg ck E.b_list (sr_1 E.b_range (se_var 2))) sa_nil))) sa_nil))))
    (ss_cons (ss_asg 8 ck (se_call ck (F__law_pick.mono (by decide)) (sa_cons (se_var 1) (sa_cons (se_lst (sa_cons (se_var 8) (sa_cons (se_rev ck (se_var 8)) (sa_cons (se_call ck (F__law_bent.mono (by decide)) (sa_cons (se_var 1) (sa_cons (se_var 8) (sa_cons (se_var 2) sa_nil)))) (sa_cons (se_list ck E.b_list (sa_cons (se_var 8) sa_nil)) sa_nil))))) sa_nil))))
    (ss_cons (ss_asg 9 ck (se_make ck (F_in_Axis.mono (by decide)) E.k_Axis (sa_cons (se_var 8) sa_nil)))
    (ss_cons (ss_asg 10 ck (se_and ck (se_call ck (F__law_is_whole.mono (by decide)) (sa_cons (se_var 2) (sa_cons (se_fld "things" ck (se_var 9) E.f_things) sa_nil))) (se_one (se_all ck E.b_all (sa_cons (se_lc (own := [("order", 14)]) ck (si_seq ck (se_var 4)) (blk_of (by kernel_rfl)) (fun s1 H1 C1 cl1 fp1 => (sg_name 14 (ck.blk s1 H1 _ _ fp1))) (fun s1 H1 C1 cl1 fp1 => sts_nil) (fun s1 H1 C1 cl1 fp1 => (se_call (ck.blk s1 H1 _ _ fp1) (F__law_falls.mono (by decide)) (sa_cons (se_fld "things" (ck.blk s1 H1 _ _ fp1) (se_var 9) E.f_things) (sa_cons (se_var 14) sa_nil))))) sa_nil)))))
    (ss_cons (ss_if (st_val ck (se_call ck (F__law_says_not.mono (by decide)) (sa_cons (se_call ck (F_axis_holds.mono (by decide)) (sa_cons (se_var 7) (sa_cons (se_var 9) sa_nil))) (sa_cons (se_var 10) sa_nil)))) (ss_one (ss_ret se_bl)) ss_nil)
    (ss_cons (ss_unp ck (se_call ck (F__law_some_three.mono (by decide)) (sa_cons (se_var 1) (sa_cons (se_var 4) (sa_cons (se_var 2) sa_nil)))) (sg_tup ck (sgs_cons 11 ck (sgs_cons 12 ck sgs_nil))))
    (ss_cons (ss_unp ck (se_call ck (F__law_pick.mono (by decide)) (sa_cons (se_var 1) (sa_cons (se_lst (sa_cons (se_tup (sa_cons (se_var 11) (sa_cons (se_var 12) sa_nil))) (sa_cons (se_tup (sa_cons (se_var 11) (sa_cons (se_var 12) sa_nil))) (sa_cons (se_tup (sa_cons (se_call ck (F__law_bent.mono (by decide)) (sa_cons (se_var 1) (sa_cons (se_var 11) (sa_cons (se_var 2) sa_nil)))) (sa_cons (se_var 12) sa_nil))) (sa_cons (se_tup (sa_cons (se_var 11) (sa_cons (se_call ck (F__law_bent.mono (by decide)) (sa_cons (se_var 1) (sa_cons (se_var 12) (sa_cons (se_len ck E.b_len (sa_cons (se_var 4) sa_nil)) sa_nil)))) sa_nil))) (sa_cons (se_tup (sa_cons (se_rev ck (se_var 11)) (sa_cons (se_var 12) sa_nil))) sa_nil)))))) sa_nil))) (sg_tup ck (sgs_cons 11 ck (sgs_cons 12 ck sgs_nil))))
    (ss_cons (ss_asg 9 ck (se_make ck (F_in_Three.mono (by decide)) E.k_Three (sa_cons (se_var 11) (sa_cons (se_var 12) sa_nil))))
    (ss_cons (ss_if (st_val ck (se_call ck (F__law_says_not.mono (by decide)) (sa_cons (se_call ck (F_three_holds.mono (by decide)) (sa_cons (se_var 7) (sa_cons (se_var 9) sa_nil))) (sa_cons (se_call ck (F__law_three_right.mono (by decide)) (sa_cons (se_var 4) (sa_cons (se_fld "things" ck (se_var 9) E.f_things) (sa_cons (se_fld "rows" ck (se_var 9) E.f_rows) sa_nil)))) sa_nil)))) (ss_one (ss_ret se_bl)) ss_nil)
    (ss_cons (ss_unp ck (se_call ck (F__law_some_four.mono (by decide)) (sa_cons (se_var 1) (sa_cons (se_var 4) (sa_cons (se_var 2) sa_nil)))) (sg_tup ck (sgs_cons 11 ck (sgs_cons 12 ck sgs_nil))))
    (ss_cons (ss_if (st_w (sw_and (st_gt (se_var 2) se_int) (sw_and (st_eq ck (se_var 6) se_int) (sw_and1 (st_gt (se_len ck E.b_len (sa_cons (se_var 4) sa_nil)) (se_var 3)))))) (ss_one (ss_par 11 12 ck (sp_e (se_tup (sa_cons se_int (sa_cons se_int (sa_cons se_int (sa_cons se_int sa_nil))))) (sp_e (se_tup (sa_cons (se_var 3) (sa_cons (se_add ck (se_var 3) se_int) sa_nil))) sp_nil)))) ss_nil)
    (ss_cons (ss_unp ck (se_call ck (F__law_pick.mono (by decide)) (sa_cons (se_var 1) (sa_cons (se_lst (sa_cons (se_tup (sa_cons (se_var 11) (sa_cons (se_var 12) sa_nil))) (sa_cons (se_tup (sa_cons (se_var 11) (sa_cons (se_var 12) sa_nil))) (sa_cons (se_tup (sa_cons (se_call ck (F__law_bent.mono (by decide)) (sa_cons (se_var 1) (sa_cons (se_var 11) (sa_cons (se_var 2) sa_nil)))) (sa_cons (se_var 12) sa_nil))) (sa_cons (se_tup (sa_cons (se_var 11) (sa_cons (se_call ck (F__law_bent.mono (by decide)) (sa_cons (se_var 1) (sa_cons (se_var 12) (sa_cons (se_len ck E.b_len (sa_cons (se_var 4) sa_nil)) sa_nil)))) sa_nil))) (sa_cons (se_tup (sa_cons (se_var 11) (sa_cons (se_rev ck (se_var 12)) sa_nil))) sa_nil)))))) sa_nil))) (sg_tup ck (sgs_cons 11 ck (sgs_cons 12 ck sgs_nil))))
    (ss_cons (ss_asg 9 ck (se_make ck (F_in_Four.mono (by decide)) E.k_Four (sa_cons (se_var 11) (sa_cons (se_var 12) sa_nil))))
    (ss_one (ss_if (st_val ck (se_call ck (F__law_says_not.mono (by decide)) (sa_cons (se_call ck (F_four_holds.mono (by decide)) (sa_cons (se_var 7) (sa_cons (se_var 9) sa_nil))) (sa_cons (se_call ck (F__law_four_right.mono (by decide)) (sa_cons (se_var 4) (sa_cons (se_fld "things" ck (se_var 9) E.f_things) (sa_cons (se_fld "rows" ck (se_var 9) E.f_rows) sa_nil)))) sa_nil)))) (ss_one (ss_ret se_bl)) ss_nil)))))))))))))))))
    (ss_cons (ss_for ck (si_seq ck (se_lst (sa_cons se_non (sa_cons se_int (sa_cons (se_tup sa_nil) (sa_cons se_str (sa_cons (se_dispV (spr_cons se_int se_int spr_nil)) (sa_cons (se_make ck (F_in_Axis.mono (by decide)) E.k_Axis (sa_cons se_non sa_nil)) (sa_cons (se_make ck (F_in_Three.mono (by decide)) E.k_Three (sa_cons se_non (sa_cons se_non sa_nil))) (sa_cons (se_make ck (F_in_Four.mono (by decide)) E.k_Four (sa_cons se_non (sa_cons se_non sa_nil))) (sa_cons (se_make ck (F_in_Three.mono (by decide)) E.k_Three (sa_cons (se_tup (sa_cons se_int (sa_cons se_int (sa_cons se_int sa_nil)))) (sa_cons se_non sa_nil))) (sa_cons (se_make ck (F_in_Four.mono (by decide)) E.k_Four (sa_cons (se_tup (sa_cons se_int (sa_cons se_int (sa_cons se_int (sa_cons se_int sa_nil))))) (sa_cons se_non sa_nil))) (sa_cons (se_make ck (F_in_Turn.mono (by decide)) E.k_Turn (sa_cons (se_tup (sa_cons se_int sa_nil)) sa_nil)) (sa_cons (se_tupRg ck E.b_tuple (sr_1 E.b_range (se_var 2))) sa_nil)))))))))))))) (sg_name 13 ck) (ss_one (ss_if (st_w (sw_or (st_val ck (se_call ck (F_axis_holds.mono (by decide)) (sa_cons (se_var 4) (sa_cons (se_var 13) sa_nil)))) (sw_or (st_val ck (se_call ck (F_three_holds.mono (by decide)) (sa_cons (se_var 4) (sa_cons (se_var 13) sa_nil)))) (sw_or1 (st_val ck (se_call ck (F_four_holds.mono (by decide)) (sa_cons (se_var 4) (sa_cons (se_var 13) sa_nil)))))))) (ss_one (ss_ret se_bl)) ss_nil)))
    (ss_cons (ss_if (st_w (sw_or (st_ownNe ck (F_eq_Axis.mono (by decide)) (se_make ck (F_in_Axis.mono (by decide)) E.k_Axis (sa_cons (se_lst (sa_cons se_int sa_nil)) sa_nil)) (se_make ck (F_in_Axis.mono (by decide)) E.k_Axis (sa_cons (se_tup (sa_cons se_int sa_nil)) sa_nil))) (sw_or (st_ownEq ck (F_eq_Axis.mono (by decide)) (se_make ck (F_in_Axis.mono (by decide)) E.k_Axis (sa_cons (se_tup (sa_cons se_int sa_nil)) sa_nil)) (se_make ck (F_in_Axis.mono (by decide)) E.k_Axis (sa_cons (se_tup (sa_cons se_int sa_nil)) sa_nil))) (sw_or (st_ownNe ck (F_eq_Three.mono (by decide)) (se_make ck (F_in_Three.mono (by decide)) E.k_Three (sa_cons (se_lst (sa_cons se_int sa_nil)) (sa_cons se_int sa_nil))) (se_make ck (F_in_Three.mono (by decide)) E.k_Three (sa_cons (se_tup (sa_cons se_int sa_nil)) (sa_cons se_int sa_nil)))) (sw_or (st_ownEq ck (F_eq_Three.mono (by decide)) (se_make ck (F_in_Three.mono (by decide)) E.k_Three (sa_cons se_int (sa_cons se_int sa_nil))) (se_make ck (F_in_Three.mono (by decide)) E.k_Three (sa_cons se_int (sa_cons se_int sa_nil)))) (sw_or1 (st_ownEq ck (F_eq_Three.mono (by decide)) (se_make ck (F_in_Three.mono (by decide)) E.k_Three (sa_cons se_int (sa_cons se_int sa_nil))) (se_make ck (F_in_Three.mono (by decide)) E.k_Three (sa_cons se_int (sa_cons se_int sa_nil)))))))))) (ss_one (ss_ret se_bl)) ss_nil)
    (ss_one (ss_ret (se_and ck (se_ownEq ck (F_eq_Four.mono (by decide)) (se_make ck (F_in_Four.mono (by decide)) E.k_Four (sa_cons se_int (sa_cons (se_lst (sa_cons se_int sa_nil)) sa_nil))) (se_make ck (F_in_Four.mono (by decide)) E.k_Four (sa_cons se_int (sa_cons (se_tup (sa_cons se_int sa_nil)) sa_nil)))) (se_and ck (se_ownNe ck (F_eq_Four.mono (by decide)) (se_make ck (F_in_Four.mono (by decide)) E.k_Four (sa_cons se_int (sa_cons se_int sa_nil))) (se_make ck (F_in_Four.mono (by decide)) E.k_Four (sa_cons se_int (sa_cons se_int sa_nil)))) (se_and ck (se_ownNe ck (F_eq_Four.mono (by decide)) (se_make ck (F_in_Four.mono (by decide)) E.k_Four (sa_cons se_int (sa_cons se_int sa_nil))) (se_make ck (F_in_Four.mono (by decide)) E.k_Four (sa_cons se_int (sa_cons se_int sa_nil)))) (se_one (se_ownNe ck (F_eq_Four.mono (by decide)) (se_make ck (F_in_Four.mono (by decide)) E.k_Four (sa_cons se_int (sa_cons se_int sa_nil))) (se_make ck (F_in_Three.mono (by decide)) E.k_Three (sa_cons se_int (sa_cons se_int sa_nil))))))))))))))))))
end
-- levels: {"frozen": 6, "is_whole": 1, "is_list": 1, "is_index": 2, "in_Turn": 7, "is_all_things": 3, "in_Axis": 7, "eq_Axis": 1, "in_Three": 7, "eq_Three": 1, "in_Four": 7, "eq_Four": 1, "panel_told": 4, "is_ahead": 1, "falls_on": 2, "all_fall": 3, "axis_holds": 5, "are_unlike": 3, "are_numbers": 3, "is_last": 2, "three_holds": 5, "is_four": 2, "four_holds": 5, "rows_of_things": 1, "first_axis": 4, "last_rows": 3, "no_axis": 9, "axis_verdict": 10, "_law_pen": 1, "_law_draw": 1, "_law_pick": 2, "_law_shuffled": 2, "_law_is_int": 1, "_law_says_not": 1, "_law_panel": 3, "_law_ahead": 1, "_law_falls": 2, "_law_is_whole": 2, "_law_numbered": 2, "_law_three_right": 3, "_law_four_right": 3, "_law_loose_panel": 3, "_law_bent": 3, "_law_some_three": 3, "_law_some_four": 4, "law": 11}
theorem h_in_Turn : ∀ p ds W r, c_in_Turn ds W = some r → runI N_in_Turn.length 0 b_in_Turn p ds W = some r := by
  intro p ds W r h
  unfold c_in_Turn at h
  split at h
  · split at h
    · rename_i e1
      cases h
      simp (config := { decide := true }) [runI, b_in_Turn, Dl.envOf, sSeq, sFldO, dCall, dCons, dNil, dVar, e1, putFD]
    · cases h
  · cases h
theorem h_in_Axis : ∀ p ds W r, c_in_Axis ds W = some r → runI N_in_Axis.length 1 b_in_Axis p ds W = some r := by
  intro p ds W r h
  unfold c_in_Axis at h
  split at h
  · split at h
    · rename_i e1
      cases h
      simp (config := { decide := true }) [runI, b_in_Axis, Dl.envOf, sSeq, sFldO, dCall, dCons, dNil, dVar, e1, putFD]
    · cases h
  · cases h
theorem h_in_Three : ∀ p ds W r, c_in_Three ds W = some r → runI N_in_Three.length 2 b_in_Three p ds W = some r := by
  intro p ds W r h
  unfold c_in_Three at h
  split at h
  · split at h
    · rename_i e1
      split at h
      · rename_i e2
        cases h
        simp (config := { decide := true }) [runI, b_in_Three, Dl.envOf, sSeq, sFldO, dCall, dCons, dNil, dVar, e1, e2, putFD]
      · cases h
    · cases h
  · cases h
theorem h_in_Four : ∀ p ds W r, c_in_Four ds W = some r → runI N_in_Four.length 3 b_in_Four p ds W = some r := by
  intro p ds W r h
  unfold c_in_Four at h
  split at h
  · split at h
    · rename_i e1
      split at h
      · rename_i e2
        cases h
        simp (config := { decide := true }) [runI, b_in_Four, Dl.envOf, sSeq, sFldO, dCall, dCons, dNil, dVar, e1, e2, putFD]
      · cases h
    · cases h
  · cases h
end P82

set_option Elab.async false
set_option linter.all false
set_option maxRecDepth 100000
set_option maxHeartbeats 4000000
namespace P82
open PySem PySem.Spec PyProof.Rows L2 Dl

/-- a value that is no thing of the store -/
def nr : D → Bool
  | .ref _ => false
  | .fn _ => false
  | .sq _ => false
  | _ => true
theorem ty_nr {W : Sto} {d : D} (h : nr d = true) : ∃ t, tyD W d = some t := by
  cases d <;> first | exact ⟨_, rfl⟩ | cases h
def isI : D → Bool
  | .int _ => true
  | _ => false
def isT : D → Bool
  | .tup _ => true
  | .tp _ => true
  | _ => false
def isL : D → Bool
  | .lst _ => true
  | _ => false
def ixI (many : Int) : D → Bool
  | .int i => decide (0 ≤ i) && decide (i < many)
  | _ => false
theorem is_whole (W : Sto) {d : D} (h : nr d = true) : c_is_whole [d] W = .val (.bl (isI d)) W := by
  cases d <;> first | cases h; done | simp (config := { decide := true }) [c_is_whole, runD, Dl.envOf, b_is_whole, gIsi, tyD, isTy, isI]
theorem law_is_int (W : Sto) {d : D} (h : nr d = true) : c__law_is_int [d] W = .val (.bl (isI d)) W := by
  cases d <;> first | cases h; done | simp (config := { decide := true }) [c__law_is_int, runD, Dl.envOf, b__law_is_int, gIsi, tyD, isTy, isI]
theorem is_list (W : Sto) {d : D} (h : nr d = true) : c_is_list [d] W = .val (.bl (isT d || isL d)) W := by
  cases d <;> first | cases h; done | simp (config := { decide := true }) [c_is_list, runD, Dl.envOf, b_is_list, gIsi, tyD, isTy, isT, isL]
theorem is_index (W : Sto) {d : D} (many : Int) (h : nr d = true) : c_is_index [.int many, d] W = .val (.bl (ixI many d)) W := by
  have e := is_whole W h
  cases d <;> first | cases h; done | skip
  case int i =>
    by_cases h1 : 0 ≤ i <;> by_cases h2 : i < many <;> simp [c_is_index, runD, Dl.envOf, b_is_index, e, isI, ixI, gLe, gLt, g2, h1, h2]
  all_goals simp (config := { decide := true }) [c_is_index, runD, Dl.envOf, b_is_index, e, isI, ixI]
/-! ### frozen -/
/-- plain data, nested at most n deep, no long thing in it -/
def pv : Nat → D → Bool
  | _, .non => true
  | _, .bl _ => true
  | _, .int _ => true
  | n + 1, .tup xs => decide (xs.length ≤ 1000) && xs.all (pv n)
  | n + 1, .lst xs => decide (xs.length ≤ 1000) && xs.all (pv n)
  | _, _ => false
theorem pv_plain : ∀ (n : Nat) (d : D), pv n d = true → plain n d = true
  | _, .non, _ => by simp
  | _, .bl _, _ => by simp
  | _, .int _, _ => by simp
  | n + 1, .tup xs, h => by
    simp only [pv, Bool.and_eq_true, List.all_eq_true] at h
    simp only [plain_tup, List.all_eq_true]
    exact fun x hx => pv_plain n x (h.2 x hx)
  | n + 1, .lst xs, h => by
    simp only [pv, Bool.and_eq_true, List.all_eq_true] at h
    simp only [plain_lst, List.all_eq_true]
    exact fun x hx => pv_plain n x (h.2 x hx)
  | 0, .tup _, h => by simp [pv] at h
  | 0, .lst _, h => by simp [pv] at h
  | n, .str _, h => by cases n <;> simp [pv] at h
  | n, .obj _ _, h => by cases n <;> simp [pv] at h
  | n, .dct _, h => by cases n <;> simp [pv] at h
  | n, .fn _, h => by cases n <;> simp [pv] at h
  | n, .ref _, h => by cases n <;> simp [pv] at h
  | n, .tp _, h => by cases n <;> simp [pv] at h
  | n, .sq _, h => by cases n <;> simp [pv] at h
theorem pv_nr {n : Nat} {d : D} (h : pv n d = true) : nr d = true := by
  cases d <;> first | rfl | (cases n <;> simp [pv] at h)
theorem pv_mono : ∀ {n m : Nat} {d : D}, pv n d = true → n ≤ m → pv m d = true
  | _, _, .non, _, _ => by simp [pv]
  | _, _, .bl _, _, _ => by simp [pv]
  | _, _, .int _, _, _ => by simp [pv]
  | n + 1, m + 1, .tup xs, h, l => by
    simp only [pv, Bool.and_eq_true, List.all_eq_true] at h ⊢
    exact ⟨h.1, fun x hx => pv_mono (h.2 x hx) (Nat.le_of_succ_le_succ l)⟩
  | n + 1, m + 1, .lst xs, h, l => by
    simp only [pv, Bool.and_eq_true, List.all_eq_true] at h ⊢
    exact ⟨h.1, fun x hx => pv_mono (h.2 x hx) (Nat.le_of_succ_le_succ l)⟩
  | n + 1, 0, _, _, l => by omega
  | 0, m, .tup _, h, _ => by simp [pv] at h
  | 0, m, .lst _, h, _ => by simp [pv] at h
  | n, _, .str _, h, _ => by cases n <;> simp [pv] at h
  | n, _, .obj _ _, h, _ => by cases n <;> simp [pv] at h
  | n, _, .dct _, h, _ => by cases n <;> simp [pv] at h
  | n, _, .fn _, h, _ => by cases n <;> simp [pv] at h
  | n, _, .ref _, h, _ => by cases n <;> simp [pv] at h
  | n, _, .tp _, h, _ => by cases n <;> simp [pv] at h
  | n, _, .sq _, h, _ => by cases n <;> simp [pv] at h
/-- frozen: lists as tuples, n deep -/
def frz : Nat → D → D
  | n + 1, .tup xs => .tup (xs.map (frz n))
  | n + 1, .lst xs => .tup (xs.map (frz n))
  | _, d => d
theorem frz_pv : ∀ {n : Nat} {d : D}, pv n d = true → pv n (frz n d) = true
  | _, .non, _ => by simp [pv, frz]
  | _, .bl _, _ => by simp [pv, frz]
  | _, .int _, _ => by simp [pv, frz]
  | n + 1, .tup xs, h => by
    simp only [pv, Bool.and_eq_true, List.all_eq_true, frz, List.length_map, List.mem_map] at h ⊢
    exact ⟨h.1, by rintro _ ⟨x, hx, rfl⟩; exact frz_pv (h.2 x hx)⟩
  | n + 1, .lst xs, h => by
    simp only [pv, Bool.and_eq_true, List.all_eq_true, frz, List.length_map, List.mem_map] at h ⊢
    exact ⟨h.1, by rintro _ ⟨x, hx, rfl⟩; exact frz_pv (h.2 x hx)⟩
  | 0, .tup _, h => by simp [pv] at h
  | 0, .lst _, h => by simp [pv] at h
  | n, .str _, h => by cases n <;> simp [pv] at h
  | n, .obj _ _, h => by cases n <;> simp [pv] at h
  | n, .dct _, h => by cases n <;> simp [pv] at h
  | n, .fn _, h => by cases n <;> simp [pv] at h
  | n, .ref _, h => by cases n <;> simp [pv] at h
  | n, .tp _, h => by cases n <;> simp [pv] at h
  | n, .sq _, h => by cases n <;> simp [pv] at h
theorem frozen_n (W : Sto) : ∀ (n : Nat) (d : D), pv n d = true → cN_frozen (n + 1) [d] W = .val (frz n d) W := by
  intro n
  induction n with
  | zero =>
    intro d h
    cases d <;> first | (simp [pv] at h; done) | (simp (config := { decide := true }) [cN_frozen, runD, b_frozen, Dl.envOf, gIsi, tyD, isTy, frz]; done)
  | succ n ih =>
    intro d h
    have key : ∀ xs : List D, (∀ x ∈ xs, pv n x = true) → xs.length ≤ 1000 → ∀ s, (s = D.tup xs ∨ s = D.lst xs) → dLc [1] (iItems (dVar 0)) (bName 1) (dC (.bl true)) (E1_frozen (cN_frozen (n + 1))) [.sh s, .no] W = .val (.lst (xs.map (frz n))) [.sh s, .no] W := by
      intro xs h1 h2 s hs
      refine lc_val (ds := xs) (by rcases hs with rfl | rfl <;> simp) (by omega) fun d hd => ⟨_, [.sh s, .sh d], rfl, ?_⟩
      have hb : (blkE [.sh s, .no] [1]).set 1 (.sh d) = [.sh s, .sh d] := rfl
      rw [hb]
      simp [E1_frozen, ih d (h1 d hd)]
    cases d <;> first | (simp [pv] at h; done) | skip
    case non => rw [cN_frozen]; simp (config := { decide := true }) [runD, b_frozen, Dl.envOf, gIsi, tyD, isTy, frz]
    case bl => rw [cN_frozen]; simp (config := { decide := true }) [runD, b_frozen, Dl.envOf, gIsi, tyD, isTy, frz]
    case int => rw [cN_frozen]; simp (config := { decide := true }) [runD, b_frozen, Dl.envOf, gIsi, tyD, isTy, frz]
    case tup xs =>
      simp only [pv, Bool.and_eq_true, List.all_eq_true, decide_eq_true_eq] at h
      have e := key xs h.2 h.1 _ (.inl rfl)
      rw [cN_frozen]
      simp (config := { decide := true }) [runD, b_frozen, Dl.envOf, gIsi, tyD, isTy, frz, e, gTupleOf]
    case lst xs =>
      simp only [pv, Bool.and_eq_true, List.all_eq_true, decide_eq_true_eq] at h
      have e := key xs h.2 h.1 _ (.inr rfl)
      rw [cN_frozen]
      simp (config := { decide := true }) [runD, b_frozen, Dl.envOf, gIsi, tyD, isTy, frz, e, gTupleOf]
end P82

set_option Elab.async false
set_option linter.all false
set_option maxRecDepth 100000
set_option maxHeartbeats 4000000
namespace P82
open PySem PySem.Spec PyProof.Rows L2 Dl

/-! ### orders: tuples of ints -/
abbrev iT (ns : List Int) : D := .tup (ns.map .int)
theorem intsD_map : ∀ ns : List Int, intsD (ns.map .int) = some ns
  | [] => rfl
  | n :: ns => by simp only [List.map_cons, intsD, intsD_map ns, Option.map_some]
def pos (ns : List Int) (z : Int) : Nat := (firstI z ns).getD 0
theorem first_mem {z : Int} : ∀ {ns : List Int}, z ∈ ns → firstI z ns = some (pos ns z)
  | [], h => by cases h
  | n :: ns, h => by
    unfold pos
    by_cases e : n = z
    · simp [firstI, e]
    · have h2 : z ∈ ns := by
        rcases List.mem_cons.mp h with h | h
        · exact absurd h.symm e
        · exact h
      have := first_mem h2
      simp [firstI, e, this]
/-- is a ahead of b -/
def ah (od : List Int) (a b : Int) : Bool := decide (pos od a < pos od b)
theorem ahead_gen {b : Ds} (hb : b = b_is_ahead) (W : Sto) {od : List Int} {x y : Int} (hx : x ∈ od) (hy : y ∈ od) : runD 3 b [iT od, .int x, .int y] W = .val (.bl (ah od x y)) W := by
  subst hb
  have h1 := first_mem hx
  have h2 := first_mem hy
  simp [runD, Dl.envOf, b_is_ahead, dIndex, iT, intsD_map, h1, h2, gLt, g2, ah]
theorem is_ahead (W : Sto) {od : List Int} {x y : Int} (hx : x ∈ od) (hy : y ∈ od) : c_is_ahead [iT od, .int x, .int y] W = .val (.bl (ah od x y)) W := ahead_gen rfl W hx hy
theorem law_ahead (W : Sto) {od : List Int} {x y : Int} (hx : x ∈ od) (hy : y ∈ od) : c__law_ahead [iT od, .int x, .int y] W = .val (.bl (ah od x y)) W := ahead_gen rfl W hx hy

def at_ (ns : List Int) (i : Nat) : Int := ns.getD i 0
theorem at_mem {ns : List Int} {i : Nat} (h : i < ns.length) : at_ ns i ∈ ns := by
  unfold at_
  simp [List.getD, h]
theorem at_some {ns : List Int} {i : Nat} (h : i < ns.length) : ns[i]? = some (at_ ns i) := by
  unfold at_
  simp [List.getD, h]
theorem ix_iT {ns : List Int} {i : Nat} (h : i < ns.length) : gIx (iT ns) (.int (i : Nat)) = some (.int (at_ ns i)) := by
  have h2 := at_some h
  simp only [iT, gIx, atI, ixN, List.length_map]
  have h3 : ¬ ((i : Int) < 0) := by omega
  have h4 : ((i : Int) < (ns.length : Int)) := by omega
  simp [h3, h4, h2]
theorem rg_mem {lo : Int} {n : Nat} {d : D} (h : d ∈ rgD lo n) : ∃ i : Nat, i < n ∧ d = .int (lo + i) := by
  simp only [rgD, List.mem_map, List.mem_range] at h
  obtain ⟨i, h1, rfl⟩ := h
  exact ⟨i, h1, rfl⟩
theorem len_iT (W : Sto) (ns : List Int) : gLenS W [iT ns] = some (.int ns.length) := by simp [iT, gLenS]
/-- the three loops: a thing behind two others, one on each side -/
def sag (ax od : List Int) (l m r : Int) : Bool := ah od (at_ ax l.toNat) (at_ ax m.toNat) && ah od (at_ ax r.toNat) (at_ ax m.toNat)
def pI (p : Int → Bool) : D → Bool
  | .int i => p i
  | _ => false
def anySag (ax od : List Int) : Bool := (rgD 0 ax.length).any (pI fun l => (rgD (l + 1) ((ax.length : Int) - (l + 1)).toNat).any (pI fun m => (rgD (m + 1) ((ax.length : Int) - (m + 1)).toNat).any (pI fun r => sag ax od l m r)))
section
variable {ax od : List Int} {W : Sto}
abbrev fρ (ax od : List Int) (a b c : Slot) : Dl.Env := [.sh (iT ax), .sh (iT od), .sh (.int ax.length), a, b, c]
theorem rg_next {f : Dn} {ρ : Dl.Env} {lo n : Nat} (hn : n ≤ 1000) (hlo : lo < n) (hf : f ρ W = .val (.int ((lo : Nat) : Int)) ρ W) {g : Dn} (h2 : g ρ W = .val (.int (n : Nat)) ρ W) :
    iRg2 (dCons (dOp2 (fun _ => gAdd) f (dC (.int 1))) (dCons g dNil)) ρ W = .val (rgD ((lo : Int) + 1) ((n : Int) - ((lo : Int) + 1)).toNat) ρ W := by
  have h3 : cRg ((lo : Int) + 1) = true := by simp [cRg]; omega
  have h4 : cRg (n : Int) = true := by simp [cRg]; omega
  simp [iRg2, hf, h2, gAdd, gAddI, g2, h3, h4]
theorem fall_1 (hm : ∀ x ∈ ax, x ∈ od) {l m r : Nat} (hl : l < ax.length) (hm' : m < ax.length) (hr : r < ax.length) : 
    (sag ax od l m r = true ∧ ∃ ρ2, L1_falls_on (fρ ax od (.sh (.int (l : Nat))) (.sh (.int (m : Nat))) (.sh (.int (r : Nat)))) W = .rt (.bl false) ρ2 W) ∨
    (sag ax od l m r = false ∧ L1_falls_on (fρ ax od (.sh (.int (l : Nat))) (.sh (.int (m : Nat))) (.sh (.int (r : Nat)))) W = .nx (fρ ax od (.sh (.int (l : Nat))) (.sh (.int (m : Nat))) (.sh (.int (r : Nat)))) W) := by
  have e1 := is_ahead W (hm _ (at_mem hl)) (hm _ (at_mem hm'))
  have e2 := is_ahead W (hm _ (at_mem hr)) (hm _ (at_mem hm'))
  cases q : ah od (at_ ax l) (at_ ax m) <;> cases q2 : ah od (at_ ax r) (at_ ax m) <;> simp [L1_falls_on, ix_iT hl, ix_iT hm', ix_iT hr, e1, e2, sag, q, q2]
/-- the two kinds of end of a loop that asks -/
def Ask (q : Bool) (z : D) (I : Dl.Env → Prop) (W : Sto) (r : SRes) : Prop := (q = true ∧ ∃ ρ2, r = .rt z ρ2 W) ∨ (q = false ∧ ∃ ρ2, r = .nx ρ2 W ∧ I ρ2)
theorem forL_ask {bn : Bn} {fb : Ds} (I : Dl.Env → Prop) {p : D → Bool} {z : D} {W : Sto} {ds : List D} {ρ : Dl.Env} (hI : I ρ) (h : ∀ d ∈ ds, ∀ ρ, I ρ → ∃ ρ1, bn d ρ = some ρ1 ∧ Ask (p d) z I W (fb ρ1 W)) : Ask (ds.any p) z I W (forL bn fb ds ρ W) :=
  forL_any I hI h
theorem Ask.weak {q : Bool} {z : D} {I J : Dl.Env → Prop} {W : Sto} {r : SRes} (h : Ask q z I W r) (k : ∀ ρ, I ρ → J ρ) : Ask q z J W r := by
  rcases h with h | ⟨h, ρ, e, i⟩
  · exact .inl h
  · exact .inr ⟨h, ρ, e, k ρ i⟩
theorem fall_2 (hm : ∀ x ∈ ax, x ∈ od) (hL : ax.length ≤ 1000) {l m : Nat} (hl : l < ax.length) (hm' : m < ax.length) (c : Slot) :
    Ask ((rgD ((m : Int) + 1) ((ax.length : Int) - ((m : Int) + 1)).toNat).any (pI fun r => sag ax od l m r)) (.bl false) (fun ρ => ∃ c, ρ = fρ ax od (.sh (.int (l : Nat))) (.sh (.int (m : Nat))) c) W (L2_falls_on (fρ ax od (.sh (.int (l : Nat))) (.sh (.int (m : Nat))) c) W) := by
  have e := rg_next (W := W) (ρ := fρ ax od (.sh (.int (l : Nat))) (.sh (.int (m : Nat))) c) hL hm' (f := dVar 4) rfl (g := dVar 2) rfl
  unfold L2_falls_on
  rw [ev_for, e]
  refine forL_ask _ ⟨c, rfl⟩ fun d hd ρ hI => ?_
  obtain ⟨c', rfl⟩ := hI
  obtain ⟨i, hi, rfl⟩ := rg_mem hd
  have er : ((m : Int) + 1 + (i : Int)) = ((m + 1 + i : Nat) : Int) := by omega
  have hr : m + 1 + i < ax.length := by omega
  rw [er]
  refine ⟨_, rfl, ?_⟩
  rcases fall_1 (W := W) hm hl hm' hr with ⟨h1, ρ2, h2⟩ | ⟨h1, h2⟩
  · exact .inl ⟨h1, ρ2, h2⟩
  · exact .inr ⟨h1, _, h2, _, rfl⟩
theorem fall_3 (hm : ∀ x ∈ ax, x ∈ od) (hL : ax.length ≤ 1000) {l : Nat} (hl : l < ax.length) (b c : Slot) :
    Ask ((rgD ((l : Int) + 1) ((ax.length : Int) - ((l : Int) + 1)).toNat).any (pI fun m => (rgD (m + 1) ((ax.length : Int) - (m + 1)).toNat).any (pI fun r => sag ax od l m r))) (.bl false) (fun ρ => ∃ b c, ρ = fρ ax od (.sh (.int (l : Nat))) b c) W (L3_falls_on (fρ ax od (.sh (.int (l : Nat))) b c) W) := by
  have e := rg_next (W := W) (ρ := fρ ax od (.sh (.int (l : Nat))) b c) hL hl (f := dVar 3) rfl (g := dVar 2) rfl
  unfold L3_falls_on
  rw [ev_for, e]
  refine forL_ask _ ⟨b, c, rfl⟩ fun d hd ρ hI => ?_
  obtain ⟨b', c', rfl⟩ := hI
  obtain ⟨i, hi, rfl⟩ := rg_mem hd
  have er : ((l : Int) + 1 + (i : Int)) = ((l + 1 + i : Nat) : Int) := by omega
  have hr : l + 1 + i < ax.length := by omega
  rw [er]
  exact ⟨_, rfl, (fall_2 hm hL hl hr c').weak fun ρ ⟨c, h⟩ => ⟨_, c, h⟩⟩
theorem cRg_small {n : Nat} (h : n ≤ 1000) : cRg (n : Int) = true := by
  unfold cRg
  rw [Bool.and_eq_true, decide_eq_true_eq, decide_eq_true_eq]
  omega
theorem fall_4 (hm : ∀ x ∈ ax, x ∈ od) (hL : ax.length ≤ 1000) : Ask (anySag ax od) (.bl false) (fun ρ => ∃ a b c, ρ = fρ ax od a b c) W (forL (bName 3) L3_falls_on (rgD 0 ax.length) (fρ ax od .no .no .no) W) := by
  unfold anySag
  refine forL_ask _ ⟨_, _, _, rfl⟩ fun d hd ρ hI => ?_
  obtain ⟨a', b', c', rfl⟩ := hI
  obtain ⟨i, hi, rfl⟩ := rg_mem hd
  rw [Int.zero_add]
  exact ⟨_, rfl, (fall_3 hm hL hi b' c').weak fun ρ ⟨b, c, h⟩ => ⟨_, b, c, h⟩⟩
theorem fall_5 (hL : ax.length ≤ 1000) : iRg1 (dCons (dVar 2) dNil) (fρ ax od .no .no .no) W = .val (rgD 0 ax.length) (fρ ax od .no .no .no) W := by
  have h4 := cRg_small hL
  simp [iRg1, h4]
theorem fall_6 : sAsg 2 (dBi gLenS (dCons (dVar 0) dNil)) (Dl.envOf 6 [iT ax, iT od]) W = .nx (fρ ax od .no .no .no) W := by simp [Dl.envOf, len_iT]
theorem falls_onA (hm : ∀ x ∈ ax, x ∈ od) (hL : ax.length ≤ 1000) : b_falls_on (Dl.envOf 6 [iT ax, iT od]) W = (match forL (bName 3) L3_falls_on (rgD 0 ax.length) (fρ ax od .no .no .no) W with
  | .nx ρ W => sRet (dC (.bl true)) ρ W
  | r => r) := by
  unfold b_falls_on
  rw [ev_seq, fall_6]
  dsimp only
  rw [ev_seq, ev_for, fall_5 hL] <;> rfl
theorem falls_onB (hm : ∀ x ∈ ax, x ∈ od) (hL : ax.length ≤ 1000) : ∃ ρ, b_falls_on (Dl.envOf 6 [iT ax, iT od]) W = .rt (.bl (!anySag ax od)) ρ W := by
  rw [falls_onA hm hL]
  rcases fall_4 (W := W) hm hL with ⟨h1, ρ2, h2⟩ | ⟨h1, ρ2, h2, h3⟩
  · rw [h2, h1]
    exact ⟨_, rfl⟩
  · rw [h2, h1]
    exact ⟨_, rfl⟩
theorem falls_on (hm : ∀ x ∈ ax, x ∈ od) (hL : ax.length ≤ 1000) : c_falls_on [iT ax, iT od] W = .val (.bl (!anySag ax od)) W := by
  obtain ⟨ρ, h⟩ := falls_onB (W := W) hm hL
  exact run_rt h

/-! ### the law's own look -/
abbrev gρ (ax od : List Int) (a b c : Slot) : Dl.Env := [.sh (iT ax), .sh (iT od), a, b, c]
theorem lfall_1 (hm : ∀ x ∈ ax, x ∈ od) {m : Nat} {x y : Int} (hm' : m < ax.length) (hx : x ∈ ax) (hy : y ∈ ax) :
    Ask (ah od x (at_ ax m) && ah od y (at_ ax m)) (.bl false) (fun ρ => ρ = gρ ax od (.sh (.int (m : Nat))) (.sh (.int x)) (.sh (.int y))) W (L1__law_falls (gρ ax od (.sh (.int (m : Nat))) (.sh (.int x)) (.sh (.int y))) W) := by
  have e1 := law_ahead W (hm _ hx) (hm _ (at_mem hm'))
  have e2 := law_ahead W (hm _ hy) (hm _ (at_mem hm'))
  cases q : ah od x (at_ ax m) <;> cases q2 : ah od y (at_ ax m) <;> simp [Ask, L1__law_falls, ix_iT hm', e1, e2, q, q2]
theorem cut_from {ns : List Int} {m : Nat} (h : m < ns.length) : gSl (iT ns) (some ((m : Int) + 1)) none = some (iT (ns.drop (m + 1))) := by
  have h1 : ((m : Int) + 1) = ((m + 1 : Nat) : Int) := by omega
  simp only [iT, gSl, Dl.cutD, h1, HT.sIx_none, HT.sIx_nat, List.length_map]
  rw [Nat.min_eq_left (by omega), List.take_of_length_le (by simp), List.map_drop]
theorem cut_to {ns : List Int} {m : Nat} (h : m < ns.length) : gSl (iT ns) none (some (m : Int)) = some (iT (ns.take m)) := by
  simp only [iT, gSl, Dl.cutD, HT.sIx_none, HT.sIx_nat, List.length_map]
  rw [Nat.min_eq_left (by omega), List.drop_zero, Nat.sub_zero, List.map_take]
theorem lfall_2 (hm : ∀ x ∈ ax, x ∈ od) {m : Nat} {x : Int} (hm' : m < ax.length) (hx : x ∈ ax) (c : Slot) :
    Ask ((ax.drop (m + 1)).any fun y => ah od x (at_ ax m) && ah od y (at_ ax m)) (.bl false) (fun ρ => ∃ c, ρ = gρ ax od (.sh (.int (m : Nat))) (.sh (.int x)) c) W (L2__law_falls (gρ ax od (.sh (.int (m : Nat))) (.sh (.int x)) c) W) := by
  have e : iItems (dSl (dVar 0) (dPart (dOp2 (fun _ => gAdd) (dVar 2) (dC (.int 1)))) (dC .non)) (gρ ax od (.sh (.int (m : Nat))) (.sh (.int x)) c) W = .val ((ax.drop (m + 1)).map .int) (gρ ax od (.sh (.int (m : Nat))) (.sh (.int x)) c) W := by
    have := cut_from hm'
    simp [dSl, dPart, gAdd, gAddI, g2, oI, this]
  unfold L2__law_falls
  rw [ev_for, e]
  have key : (((ax.drop (m + 1)).map .int).any (pI fun y => ah od x (at_ ax m) && ah od y (at_ ax m))) = ((ax.drop (m + 1)).any fun y => ah od x (at_ ax m) && ah od y (at_ ax m)) := by
    rw [List.any_map]; rfl
  rw [← key]
  refine forL_ask _ ⟨c, rfl⟩ fun d hd ρ hI => ?_
  obtain ⟨c', rfl⟩ := hI
  obtain ⟨y, hy, rfl⟩ := List.mem_map.mp hd
  exact ⟨_, rfl, (lfall_1 hm hm' hx (List.mem_of_mem_drop hy)).weak fun ρ h => ⟨_, h⟩⟩
theorem lfall_3 (hm : ∀ x ∈ ax, x ∈ od) {m : Nat} (hm' : m < ax.length) (b c : Slot) :
    Ask ((ax.take m).any fun x => (ax.drop (m + 1)).any fun y => ah od x (at_ ax m) && ah od y (at_ ax m)) (.bl false) (fun ρ => ∃ b c, ρ = gρ ax od (.sh (.int (m : Nat))) b c) W (L3__law_falls (gρ ax od (.sh (.int (m : Nat))) b c) W) := by
  have e : iItems (dSl (dVar 0) (dC .non) (dPart (dVar 2))) (gρ ax od (.sh (.int (m : Nat))) b c) W = .val ((ax.take m).map .int) (gρ ax od (.sh (.int (m : Nat))) b c) W := by
    have := cut_to hm'
    simp [dSl, dPart, oI, this]
  unfold L3__law_falls
  rw [ev_for, e]
  have key : (((ax.take m).map .int).any (pI fun x => (ax.drop (m + 1)).any fun y => ah od x (at_ ax m) && ah od y (at_ ax m))) = ((ax.take m).any fun x => (ax.drop (m + 1)).any fun y => ah od x (at_ ax m) && ah od y (at_ ax m)) := by
    rw [List.any_map]; rfl
  rw [← key]
  refine forL_ask _ ⟨b, c, rfl⟩ fun d hd ρ hI => ?_
  obtain ⟨b', c', rfl⟩ := hI
  obtain ⟨x, hx, rfl⟩ := List.mem_map.mp hd
  exact ⟨_, rfl, (lfall_2 hm hm' (List.mem_of_mem_take hx) c').weak fun ρ ⟨c, h⟩ => ⟨_, c, h⟩⟩
def anySag2 (ax od : List Int) : Bool := (List.range ax.length).any fun m => (ax.take m).any fun x => (ax.drop (m + 1)).any fun y => ah od x (at_ ax m) && ah od y (at_ ax m)
theorem lfall_4 (hm : ∀ x ∈ ax, x ∈ od) : Ask (anySag2 ax od) (.bl false) (fun ρ => ∃ a b c, ρ = gρ ax od a b c) W (forL (bName 2) L3__law_falls (rgD 0 ax.length) (gρ ax od .no .no .no) W) := by
  have key : ((rgD 0 ax.length).any (pI fun m => (ax.take m.toNat).any fun x => (ax.drop (m.toNat + 1)).any fun y => ah od x (at_ ax m.toNat) && ah od y (at_ ax m.toNat))) = anySag2 ax od := by
    unfold anySag2 rgD
    rw [List.any_map]
    congr 1
    funext m
    simp [pI]
  rw [← key]
  refine forL_ask _ ⟨_, _, _, rfl⟩ fun d hd ρ hI => ?_
  obtain ⟨a', b', c', rfl⟩ := hI
  obtain ⟨i, hi, rfl⟩ := rg_mem hd
  rw [Int.zero_add]
  refine ⟨_, rfl, ?_⟩
  have := lfall_3 (W := W) hm hi b' c'
  simp only [pI, Int.toNat_natCast]
  exact this.weak fun ρ ⟨b, c, h⟩ => ⟨_, b, c, h⟩
theorem law_fallsA (hm : ∀ x ∈ ax, x ∈ od) (hL : ax.length ≤ 1000) : ∃ ρ, b__law_falls (Dl.envOf 5 [iT ax, iT od]) W = .rt (.bl (!anySag2 ax od)) ρ W := by
  have e : iRg1 (dCons (dBi gLenS (dCons (dVar 0) dNil)) dNil) (gρ ax od .no .no .no) W = .val (rgD 0 ax.length) (gρ ax od .no .no .no) W := by
    have h4 := cRg_small hL
    simp [iRg1, h4, len_iT]
  have e0 : Dl.envOf 5 [iT ax, iT od] = gρ ax od .no .no .no := rfl
  rw [e0]
  unfold b__law_falls
  rw [ev_seq, ev_for, e]
  dsimp only
  rcases lfall_4 (W := W) hm with ⟨h1, ρ2, h2⟩ | ⟨h1, ρ2, h2, h3⟩
  · rw [h2, h1]
    exact ⟨_, rfl⟩
  · rw [h2, h1]
    exact ⟨_, rfl⟩
theorem law_falls (hm : ∀ x ∈ ax, x ∈ od) (hL : ax.length ≤ 1000) : c__law_falls [iT ax, iT od] W = .val (.bl (!anySag2 ax od)) W := by
  obtain ⟨ρ, h⟩ := law_fallsA (W := W) hm hL
  exact run_rt h
theorem sag_iff (ax od : List Int) : anySag ax od = true ↔ ∃ l m r : Nat, l < m ∧ m < r ∧ r < ax.length ∧ ah od (at_ ax l) (at_ ax m) = true ∧ ah od (at_ ax r) (at_ ax m) = true := by
  unfold anySag
  simp only [List.any_eq_true]
  constructor
  · rintro ⟨d, hd, h⟩
    obtain ⟨l, hl, rfl⟩ := rg_mem hd
    simp only [pI, List.any_eq_true] at h
    obtain ⟨d, hd, h⟩ := h
    obtain ⟨m, hm, rfl⟩ := rg_mem hd
    simp only [pI, List.any_eq_true] at h
    obtain ⟨d, hd, h⟩ := h
    obtain ⟨r, hr, rfl⟩ := rg_mem hd
    simp only [pI, sag, Bool.and_eq_true] at h
    refine ⟨l, l + 1 + m, l + 1 + m + 1 + r, by omega, by omega, by omega, ?_⟩
    have e1 : ((0 : Int) + (l : Int)).toNat = l := by omega
    have e2 : ((0 : Int) + (l : Int) + 1 + (m : Int)).toNat = l + 1 + m := by omega
    have e3 : ((0 : Int) + (l : Int) + 1 + (m : Int) + 1 + (r : Int)).toNat = l + 1 + m + 1 + r := by omega
    rw [e1, e2, e3] at h
    exact h
  · rintro ⟨l, m, r, h1, h2, h3, h4, h5⟩
    have mk : ∀ (lo : Int) (n i : Nat), i < n → D.int (lo + i) ∈ rgD lo n := fun lo n i h => by
      simp only [rgD, List.mem_map, List.mem_range]
      exact ⟨i, h, rfl⟩
    refine ⟨_, mk 0 _ l (by omega), ?_⟩
    simp only [pI, List.any_eq_true]
    refine ⟨_, mk _ _ (m - (l + 1)) (by omega), ?_⟩
    simp only [pI, List.any_eq_true]
    refine ⟨_, mk _ _ (r - (m + 1)) (by omega), ?_⟩
    have e1 : ((0 : Int) + (l : Int)).toNat = l := by omega
    have e2 : ((0 : Int) + (l : Int) + 1 + ((m - (l + 1) : Nat) : Int)).toNat = m := by omega
    have e3 : ((0 : Int) + (l : Int) + 1 + ((m - (l + 1) : Nat) : Int) + 1 + ((r - (m + 1) : Nat) : Int)).toNat = r := by omega
    simp only [pI, sag, e1, e2, e3, h4, h5, Bool.and_self]
theorem mem_take_at {ns : List Int} {m : Nat} {x : Int} (h : x ∈ ns.take m) : ∃ l, l < m ∧ l < ns.length ∧ at_ ns l = x := by
  obtain ⟨l, hl, e⟩ := List.mem_iff_getElem.mp h
  simp only [List.length_take] at hl
  rw [List.getElem_take] at e
  exact ⟨l, by omega, by omega, by simp [at_, List.getD, show l < ns.length by omega, e]⟩
theorem mem_drop_at {ns : List Int} {m : Nat} {x : Int} (h : x ∈ ns.drop m) : ∃ l, m ≤ l ∧ l < ns.length ∧ at_ ns l = x := by
  obtain ⟨l, hl, e⟩ := List.mem_iff_getElem.mp h
  simp only [List.length_drop] at hl
  rw [List.getElem_drop] at e
  exact ⟨m + l, by omega, by omega, by simp [at_, List.getD, show m + l < ns.length by omega, e]⟩
theorem at_take {ns : List Int} {l m : Nat} (h : l < m) (h2 : l < ns.length) : at_ ns l ∈ ns.take m := by
  have : ns[l] ∈ ns.take m := List.mem_iff_getElem.mpr ⟨l, by simp; omega, by simp⟩
  simpa [at_, List.getD, h2] using this
theorem at_drop {ns : List Int} {l m : Nat} (h : m ≤ l) (h2 : l < ns.length) : at_ ns l ∈ ns.drop m := by
  have : ns[l] ∈ ns.drop m := List.mem_iff_getElem.mpr ⟨l - m, by simp; omega, by simp [show m + (l - m) = l by omega]⟩
  simpa [at_, List.getD, h2] using this
theorem sag2_iff (ax od : List Int) : anySag2 ax od = true ↔ ∃ l m r : Nat, l < m ∧ m < r ∧ r < ax.length ∧ ah od (at_ ax l) (at_ ax m) = true ∧ ah od (at_ ax r) (at_ ax m) = true := by
  unfold anySag2
  simp only [List.any_eq_true, List.mem_range, Bool.and_eq_true]
  constructor
  · rintro ⟨m, hm, x, hx, y, hy, h⟩
    obtain ⟨l, h1, h2, rfl⟩ := mem_take_at hx
    obtain ⟨r, h3, h4, rfl⟩ := mem_drop_at hy
    exact ⟨l, m, r, h1, by omega, h4, h⟩
  · rintro ⟨l, m, r, h1, h2, h3, h4⟩
    exact ⟨m, by omega, _, at_take h1 (by omega), _, at_drop (by omega) h3, h4⟩
theorem sag_eq (ax od : List Int) : anySag2 ax od = anySag ax od := by
  rw [Bool.eq_iff_iff, sag2_iff, sag_iff]
end
end P82

set_option Elab.async false
set_option linter.all false
set_option maxRecDepth 100000
set_option maxHeartbeats 4000000
namespace P82
open PySem PySem.Spec PyProof.Rows L2 Dl

/-! ### comparing -/
theorem eqds_ints : ∀ a b : List Int, eqds (a.map .int) (b.map .int) = decide (a = b)
  | [], [] => rfl
  | [], b :: bs => by simp [eqds]
  | a :: as, [] => by simp [eqds]
  | a :: as, b :: bs => by
    simp only [List.map_cons, eqds, eqd, eqds_ints as bs]
    by_cases h : a = b <;> simp [h]
theorem plain_ints (n : Nat) (a : List Int) : (a.map D.int).all (Dl.plain n) = true := by
  simp [List.all_map, List.all_eq_true]
theorem eq_lints (a b : List Int) : gEq (.lst (a.map .int)) (.lst (b.map .int)) = some (.bl (decide (a = b))) := by
  have h1 := plain_ints 15 a
  have h2 := plain_ints 15 b
  simp only [gEq, plain_lst, h1, h2, eqd, eqds_ints, Bool.and_self, if_true]
theorem eq_int (a b : Int) : gEq (.int a) (.int b) = some (.bl (decide (a = b))) := by
  simp only [gEq, Dl.plain, Bool.and_self, if_true, eqd]
  rfl
theorem ne_int (a b : Int) : gNe (.int a) (.int b) = some (.bl (!decide (a = b))) := by
  simp only [gNe, Dl.plain, Bool.and_self, if_true, eqd]
  rfl
theorem ne_bl (a b : Bool) : gNe (.bl a) (.bl b) = some (.bl (!decide (a = b))) := by
  simp only [gNe, Dl.plain, Bool.and_self, if_true, eqd]
  cases a <;> cases b <;> rfl

/-! ### the panel -/
def rgI (m : Nat) : List Int := (List.range m).map fun (i : Nat) => (i : Int)
abbrev pD (P : List (List Int)) : D := .tup (P.map iT)
structure Pnl (m : Nat) (P : List (List Int)) : Prop where
  ne : P ≠ []
  pm : ∀ od ∈ P, od.Perm (rgI m)
  m2 : 2 ≤ m
  m6 : m ≤ 6
  l8 : P.length ≤ 8
theorem mem_rgI {m : Nat} {x : Int} : x ∈ rgI m ↔ 0 ≤ x ∧ x < m := by
  simp only [rgI, List.mem_map, List.mem_range]
  constructor
  · rintro ⟨i, h, rfl⟩; omega
  · rintro ⟨h1, h2⟩; exact ⟨x.toNat, by omega, by omega⟩
theorem rgI_length (m : Nat) : (rgI m).length = m := by simp [rgI]
theorem rgI_map (m : Nat) : (rgI m).map D.int = rgD 0 m := by
  simp only [rgI, rgD, List.map_map]
  apply List.map_congr_left
  intro i _
  simp
theorem rgI_sorted (m : Nat) : (rgI m).Pairwise (· ≤ ·) := by
  simp only [rgI, List.pairwise_map]
  exact List.pairwise_lt_range.imp (fun h => by omega)
theorem Pnl.len {m : Nat} {P : List (List Int)} (h : Pnl m P) {od : List Int} (ho : od ∈ P) : od.length = m := by
  rw [(h.pm od ho).length_eq, rgI_length]
theorem Pnl.mem {m : Nat} {P : List (List Int)} (h : Pnl m P) {od : List Int} (ho : od ∈ P) {x : Int} (h0 : 0 ≤ x) (h1 : x < m) : x ∈ od :=
  (h.pm od ho).mem_iff.mpr (mem_rgI.mpr ⟨h0, h1⟩)

/-- the ints of a tuple -/
def unI (xs : List D) : List Int := (intsD xs).getD []
theorem unI_map (ns : List Int) : unI (ns.map .int) = ns := by simp [unI, intsD_map]
def unT : D → List Int
  | .tup xs => unI xs
  | _ => []
theorem unT_iT (ns : List Int) : unT (iT ns) = ns := unI_map ns
theorem ints_of {xs : List D} (h : xs.all isI = true) : ∃ ns : List Int, xs = ns.map .int := by
  induction xs with
  | nil => exact ⟨[], rfl⟩
  | cons x xs ih =>
    simp only [List.all_cons, Bool.and_eq_true] at h
    obtain ⟨ns, rfl⟩ := ih h.2
    cases x <;> first | (simp [isI] at h; done) | skip
    exact ⟨_ :: ns, rfl⟩
theorem ix_isI {m : Int} {d : D} (h : ixI m d = true) : isI d = true := by cases d <;> first | rfl | cases h
theorem all_ix_isI {m : Int} {xs : List D} (h : xs.all (ixI m) = true) : xs.all isI = true := by
  rw [List.all_eq_true] at h ⊢
  exact fun x hx => ix_isI (h x hx)
/-- all the things, each once -/
def isAll (m : Nat) (xs : List D) : Bool := xs.all (ixI m) && decide (isort (unI xs) = rgI m)
theorem sorted_ix {m : Nat} {ns : List Int} (h : isort ns = rgI m) : (ns.map D.int).all (ixI m) = true := by
  rw [List.all_eq_true]
  intro d hd
  obtain ⟨n, hn, rfl⟩ := List.mem_map.mp hd
  have : n ∈ rgI m := by rw [← h]; exact (isort_perm ns).mem_iff.mpr hn
  have := mem_rgI.mp this
  simp [ixI, this]
theorem isAll_perm {m : Nat} {ns : List Int} (h : isAll m (ns.map .int) = true) : ns.Perm (rgI m) := by
  simp only [isAll, Bool.and_eq_true, decide_eq_true_eq, unI_map] at h
  rw [← h.2]
  exact (isort_perm ns).symm
theorem perm_isAll {m : Nat} {ns : List Int} (h : ns.Perm (rgI m)) : isAll m (ns.map .int) = true := by
  have e : isort ns = rgI m := (isort_of h.symm (rgI_sorted m)).symm
  simp only [isAll, Bool.and_eq_true, decide_eq_true_eq, unI_map, e, and_true]
  exact sorted_ix e
theorem lstRg {W : Sto} {ρ : Dl.Env} {f : Dn} {m : Nat} (h : f ρ W = .val (.int m) ρ W) (hm : m ≤ 1000) : dLstRg (rg1 f) ρ W = .val (.lst ((rgI m).map .int)) ρ W := by
  have h2 : cRgOk 0 (m : Int) = true := by
    unfold cRgOk
    rw [cRg_small hm]
    have : cRg 0 = true := cRg_small (n := 0) (by omega)
    rw [this]
    simp
    omega
  rw [rgI_map]
  simp [dLstRg, rg1, h, h2]
theorem tupRg {W : Sto} {ρ : Dl.Env} {f : Dn} {m : Nat} (h : f ρ W = .val (.int m) ρ W) (hm : m ≤ 1000) : dTupRg (rg1 f) ρ W = .val (iT (rgI m)) ρ W := by
  have h2 : cRgOk 0 (m : Int) = true := by
    unfold cRgOk
    rw [cRg_small hm]
    have : cRg 0 = true := cRg_small (n := 0) (by omega)
    rw [this]
    simp
    omega
  rw [iT, rgI_map]
  simp [dTupRg, rg1, h, h2]
def wholeB (m : Nat) : D → Bool
  | .tup xs => isAll m xs
  | _ => false
section
variable {W : Sto}
theorem all_thingsA {m : Nat} {v : D} {xs : List D} (hm : m ≤ 1000) (hv : v = .tup xs ∨ v = .lst xs) (hn : ∀ x ∈ xs, nr x = true) (hl : xs.length < 64) : ∃ ρ, b_is_all_things (Dl.envOf 3 [.int m, v]) W = .rt (.bl (isAll m xs)) ρ W := by
  have e0 : Dl.envOf 3 [.int m, v] = [.sh (.int m), .sh v, .no] := rfl
  have e1 : c_is_list [v] W = .val (.bl true) W := by rcases hv with rfl | rfl <;> exact is_list W rfl
  have e2 : dBi gAll (dCons (dLc [2] (iItems (dVar 1)) (bName 2) (dC (.bl true)) E1_is_all_things) dNil) [.sh (.int m), .sh v, .no] W = .val (.bl (xs.all (ixI m))) [.sh (.int m), .sh v, .no] W := by
    refine allc (ds := xs) (by rcases hv with rfl | rfl <;> simp) (by omega) fun d hd => ⟨_, [.sh (.int m), .sh v, .sh d], rfl, ?_⟩
    have hb : (blkE [.sh (.int m), .sh v, .no] [2]).set 2 (.sh d) = [.sh (.int m), .sh v, .sh d] := rfl
    rw [hb]
    have := is_index W m (hn d hd)
    simp [E1_is_all_things, this]
  rw [e0]
  unfold b_is_all_things
  generalize dBi gAll (dCons (dLc [2] (iItems (dVar 1)) (bName 2) (dC (.bl true)) E1_is_all_things) dNil) = A at e2 ⊢
  cases q : xs.all (ixI m) with
  | false =>
    refine ⟨[.sh (.int m), .sh v, .no], ?_⟩
    simp [e1, e2, isAll, q]
  | true =>
    obtain ⟨ns, rfl⟩ := ints_of (all_ix_isI q)
    have hl2 : ns.length < 64 := by simpa using hl
    have e3 := lstRg (W := W) (ρ := [.sh (.int m), .sh v, .no]) (f := dVar 0) (m := m) rfl hm
    have e4 : gSorted W [v] = some (.lst ((isort ns).map .int)) := by
      rcases hv with rfl | rfl <;> simp [gSorted, intsD_map, hl2]
    refine ⟨[.sh (.int m), .sh v, .no], ?_⟩
    simp [e1, e2, isAll, q, e3, e4, eq_lints, unI_map]
theorem all_things {m : Nat} {v : D} {xs : List D} (hm : m ≤ 1000) (hv : v = .tup xs ∨ v = .lst xs) (hn : ∀ x ∈ xs, nr x = true) (hl : xs.length < 64) : c_is_all_things [.int m, v] W = .val (.bl (isAll m xs)) W := by
  obtain ⟨ρ, h⟩ := all_thingsA (W := W) hm hv hn hl
  exact run_rt h
theorem law_wholeA {m : Nat} {v : D} (hm : m ≤ 1000) (h1 : nr v = true) (htp : ∀ xs, v ≠ .tp xs) (hn : ∀ xs, v = .tup xs → (∀ x ∈ xs, nr x = true) ∧ xs.length < 64) : ∃ ρ, b__law_is_whole (Dl.envOf 3 [.int m, v]) W = .rt (.bl (wholeB m v)) ρ W := by
  have e0 : Dl.envOf 3 [.int m, v] = [.sh (.int m), .sh v, .no] := rfl
  rw [e0]
  unfold b__law_is_whole
  cases v <;> first | (cases h1; done) | (exact absurd rfl (htp _)) | (exact ⟨_, by simp (config := { decide := true }) [gIsi, tyD, isTy, wholeB]; rfl⟩) | skip
  rename_i xs
  obtain ⟨hn, hl⟩ := hn xs rfl
  have e2 : dBi gAll (dCons (dLc [2] (iItems (dVar 1)) (bName 2) (dC (.bl true)) E1__law_is_whole) dNil) [.sh (.int m), .sh (.tup xs), .no] W = .val (.bl (xs.all isI)) [.sh (.int m), .sh (.tup xs), .no] W := by
    refine allc (ds := xs) (by simp) (by omega) fun d hd => ⟨_, [.sh (.int m), .sh (.tup xs), .sh d], rfl, ?_⟩
    have hb : (blkE [.sh (.int m), .sh (.tup xs), .no] [2]).set 2 (.sh d) = [.sh (.int m), .sh (.tup xs), .sh d] := rfl
    rw [hb]
    have := law_is_int W (hn d hd)
    simp [E1__law_is_whole, this]
  generalize dBi gAll (dCons (dLc [2] (iItems (dVar 1)) (bName 2) (dC (.bl true)) E1__law_is_whole) dNil) = A at e2 ⊢
  cases q : xs.all isI with
  | false =>
    have q2 : isAll m xs = false := by
      cases q3 : xs.all (ixI m) with
      | false => simp [isAll, q3]
      | true => rw [all_ix_isI q3] at q; cases q
    refine ⟨[.sh (.int m), .sh (.tup xs), .no], ?_⟩
    simp (config := { decide := true }) [gIsi, tyD, isTy, wholeB, q2, e2, q]
  | true =>
    obtain ⟨ns, rfl⟩ := ints_of q
    have hl2 : ns.length < 64 := by simpa using hl
    have e3 := lstRg (W := W) (ρ := [.sh (.int m), .sh (.tup (ns.map .int)), .no]) (f := dVar 0) (m := m) rfl hm
    have e4 : gSorted W [.tup (ns.map .int)] = some (.lst ((isort ns).map .int)) := by simp [gSorted, intsD_map, hl2]
    have e5 : isAll m (ns.map .int) = decide (isort ns = rgI m) := by
      by_cases h : isort ns = rgI m
      · simp [isAll, unI_map, h, sorted_ix h]
      · simp [isAll, unI_map, h]
    refine ⟨[.sh (.int m), .sh (.tup (ns.map .int)), .no], ?_⟩
    simp (config := { decide := true }) [gIsi, tyD, isTy, wholeB, e2, q, e3, e4, eq_lints, e5]
theorem law_whole {m : Nat} {v : D} (hm : m ≤ 1000) (h1 : nr v = true) (htp : ∀ xs, v ≠ .tp xs) (hn : ∀ xs, v = .tup xs → (∀ x ∈ xs, nr x = true) ∧ xs.length < 64) : c__law_is_whole [.int m, v] W = .val (.bl (wholeB m v)) W := by
  obtain ⟨ρ, h⟩ := law_wholeA (W := W) hm h1 htp hn
  exact run_rt h
end
end P82

set_option Elab.async false
set_option linter.all false
set_option maxRecDepth 100000
set_option maxHeartbeats 4000000
namespace P82
open PySem PySem.Spec PyProof.Rows L2 Dl
section
variable {W : Sto}
/-- an order as a tuple or as a list -/
def lo (b : Bool) (ns : List Int) : D := if b then .lst (ns.map .int) else iT ns
/-- a panel in one of the loose forms -/
def lp (a b : Bool) (P : List (List Int)) : D := if a then .lst (P.map (lo b)) else .tup (P.map (lo b))
theorem len_lo (b : Bool) (ns : List Int) : gLenS W [lo b ns] = some (.int ns.length) := by cases b <;> simp [lo, iT, gLenS]
theorem len_lp (a b : Bool) (P : List (List Int)) : gLenS W [lp a b P] = some (.int P.length) := by cases a <;> simp [lp, gLenS]
theorem list_lo (b : Bool) (ns : List Int) : c_is_list [lo b ns] W = .val (.bl true) W := by cases b <;> exact is_list W rfl
theorem list_lp (a b : Bool) (P : List (List Int)) : c_is_list [lp a b P] W = .val (.bl true) W := by cases a <;> exact is_list W rfl
theorem ix0_lp (a b : Bool) (o : List Int) (P : List (List Int)) : gIx (lp a b (o :: P)) (.int 0) = some (lo b o) := by cases a <;> simp [lp, gIx, atI, ixN]
theorem items_lp (a b : Bool) (P : List (List Int)) {ρ : Dl.Env} {f : Dn} (h : f ρ W = .val (lp a b P) ρ W) : iItems f ρ W = .val (P.map (lo b)) ρ W := by
  cases a <;> simp [lp, h]
theorem all_lo {m : Nat} {b : Bool} {od : List Int} (hm : m ≤ 6) (h : od.Perm (rgI m)) : c_is_all_things [.int m, lo b od] W = .val (.bl true) W := by
  have hl : od.length = m := by rw [h.length_eq, rgI_length]
  have e := all_things (W := W) (m := m) (v := lo b od) (xs := od.map .int) (by omega) (by cases b <;> simp [lo, iT]) (fun x hx => by obtain ⟨n, _, rfl⟩ := List.mem_map.mp hx; rfl) (by simp; omega)
  rw [e, perm_isAll h]
theorem panel_toldA {m : Nat} {P : List (List Int)} (h : Pnl m P) (a b : Bool) : ∃ ρ, b_panel_told (Dl.envOf 2 [lp a b P]) W = .rt (pD P) ρ W := by
  obtain ⟨o, R, rfl⟩ : ∃ o R, P = o :: R := by
    cases P with
    | nil => exact absurd rfl h.ne
    | cons o R => exact ⟨o, R, rfl⟩
  have e0 : Dl.envOf 2 [lp a b (o :: R)] = [.sh (lp a b (o :: R)), .no] := rfl
  have ho := h.len List.mem_cons_self
  have hm2 := h.m2
  have hlp := len_lp (W := W) a b (o :: R)
  have hlo := len_lo (W := W) b o
  have hll := list_lp (W := W) a b (o :: R)
  have hol := list_lo (W := W) b o
  have hix := ix0_lp a b o R
  have x1 : sIf (dOr (dNot (dCall 1 c_is_list (dCons (dVar 0) dNil))) (dOr (dOp2 (fun _ => gEq) (dBi gLenS (dCons (dVar 0) dNil)) (dC (.int 0))) (dOr (dNot (dCall 1 c_is_list (dCons (dOp2 (fun _ => gIx) (dVar 0) (dC (.int 0))) dNil))) (dOp2 (fun _ => gEq) (dBi gLenS (dCons (dOp2 (fun _ => gIx) (dVar 0) (dC (.int 0))) dNil)) (dC (.int 0)))))) sStk sNil [.sh (lp a b (o :: R)), .no] W = .nx [.sh (lp a b (o :: R)), .no] W := by
    have y1 : ¬ (((R.length : Int) + 1) = 0) := by omega
    have y2 : ¬ (o = []) := fun e => by rw [e] at ho; simp at ho; omega
    simp [hll, hlp, hix, hol, hlo, eq_int, y1, y2]
  have x2 : dBi gAll (dCons (dLc [1] (iItems (dVar 0)) (bName 1) (dC (.bl true)) E1_panel_told) dNil) [.sh (lp a b (o :: R)), .no] W = .val (.bl true) [.sh (lp a b (o :: R)), .no] W := by
    have := allc (vs := [1]) (fi := iItems (dVar 0)) (bn := bName 1) (fe := E1_panel_told) (ρ := [.sh (lp a b (o :: R)), .no]) (ρ0 := [.sh (lp a b (o :: R)), .no]) (W := W) (ds := (o :: R).map (lo b)) (p := fun _ => true) (items_lp a b _ rfl) (by have := h.l8; simp at this ⊢; omega) fun d hd => by
      obtain ⟨od, hod, rfl⟩ := List.mem_map.mp hd
      refine ⟨_, [.sh (lp a b (o :: R)), .sh (lo b od)], rfl, ?_⟩
      have hb : (blkE [.sh (lp a b (o :: R)), .no] [1]).set 1 (.sh (lo b od)) = [.sh (lp a b (o :: R)), .sh (lo b od)] := rfl
      rw [hb]
      have e := all_lo (W := W) (b := b) h.m6 (h.pm od hod)
      rw [← ho] at e
      simp [E1_panel_told, hix, hlo, e]
    rw [this, List.all_eq_true.mpr fun _ _ => rfl]
  have x3 : dLc [1] (iItems (dVar 0)) (bName 1) (dC (.bl true)) E2_panel_told [.sh (lp a b (o :: R)), .no] W = .val (.lst ((o :: R).map iT)) [.sh (lp a b (o :: R)), .no] W := by
    have := lc_val (vs := [1]) (fi := iItems (dVar 0)) (bn := bName 1) (fe := E2_panel_told) (ρ := [.sh (lp a b (o :: R)), .no]) (ρ0 := [.sh (lp a b (o :: R)), .no]) (W := W) (ds := (o :: R).map (lo b)) (f := fun d => (gTupleOf [] [d]).getD .non) (items_lp a b _ rfl) (by have := h.l8; simp at this ⊢; omega) fun d hd => by
      obtain ⟨od, hod, rfl⟩ := List.mem_map.mp hd
      refine ⟨_, [.sh (lp a b (o :: R)), .sh (lo b od)], rfl, ?_⟩
      have hb : (blkE [.sh (lp a b (o :: R)), .no] [1]).set 1 (.sh (lo b od)) = [.sh (lp a b (o :: R)), .sh (lo b od)] := rfl
      rw [hb]
      cases b <;> simp [E2_panel_told, lo, iT, gTupleOf]
    rw [this]
    congr 2
    rw [List.map_map]
    refine List.map_congr_left fun od _ => ?_
    cases b <;> simp [lo, iT, gTupleOf]
  rw [e0]
  unfold b_panel_told
  rw [ev_seq, x1]
  dsimp only
  generalize dBi gAll (dCons (dLc [1] (iItems (dVar 0)) (bName 1) (dC (.bl true)) E1_panel_told) dNil) = A at x2 ⊢
  generalize dLc [1] (iItems (dVar 0)) (bName 1) (dC (.bl true)) E2_panel_told = B at x3 ⊢
  refine ⟨[.sh (lp a b (o :: R)), .no], ?_⟩
  simp [x2, x3, gTupleOf, pD]
theorem panel_told {m : Nat} {P : List (List Int)} (h : Pnl m P) (a b : Bool) : c_panel_told [lp a b P] W = .val (pD P) W := by
  obtain ⟨ρ, e⟩ := panel_toldA (W := W) h a b
  exact run_rt e
theorem len_pD (P : List (List Int)) : gLenS W [pD P] = some (.int P.length) := by simp [pD, gLenS]
/-- the order of a number -/
def oP (P : List (List Int)) (i : Nat) : List Int := P.getD i []
theorem ix_pD {P : List (List Int)} {i : Nat} (h : i < P.length) : gIx (pD P) (.int (i : Nat)) = some (iT (oP P i)) := by
  have h3 : ¬ ((i : Int) < 0) := by omega
  have h4 : ((i : Int) < (P.length : Int)) := by omega
  simp [pD, gIx, atI, ixN, h3, h4, oP, List.getD, h]
theorem getD_mem {P : List (List Int)} {i : Nat} (h : i < P.length) : oP P i ∈ P := by simp [oP, List.getD, h]
/-- do all orders fall on an axis -/
def allF (P : List (List Int)) (ax : List Int) : Bool := P.all fun od => !anySag ax od
theorem all_fall {m : Nat} {P : List (List Int)} (h : Pnl m P) {ax : List Int} (ha : ∀ x ∈ ax, 0 ≤ x ∧ x < m) (hL : ax.length ≤ 1000) : c_all_fall [pD P, iT ax] W = .val (.bl (allF P ax)) W := by
  have x : dBi gAll (dCons (dLc [2] (iItems (dVar 0)) (bName 2) (dC (.bl true)) E1_all_fall) dNil) [.sh (pD P), .sh (iT ax), .no] W = .val (.bl (allF P ax)) [.sh (pD P), .sh (iT ax), .no] W := by
    have := allc (vs := [2]) (fi := iItems (dVar 0)) (bn := bName 2) (fe := E1_all_fall) (ρ := [.sh (pD P), .sh (iT ax), .no]) (ρ0 := [.sh (pD P), .sh (iT ax), .no]) (W := W) (ds := P.map iT) (p := fun d => !anySag ax (unT d)) (by simp [pD]) (by have := h.l8; simp; omega) fun d hd => by
      obtain ⟨od, hod, rfl⟩ := List.mem_map.mp hd
      refine ⟨_, [.sh (pD P), .sh (iT ax), .sh (iT od)], rfl, ?_⟩
      have hb : (blkE [.sh (pD P), .sh (iT ax), .no] [2]).set 2 (.sh (iT od)) = [.sh (pD P), .sh (iT ax), .sh (iT od)] := rfl
      rw [hb]
      have e := falls_on (W := W) (ax := ax) (od := od) (fun x hx => h.mem hod (ha x hx).1 (ha x hx).2) hL
      simp [E1_all_fall, e, unT_iT]
    rw [this]
    have : (P.map iT).all (fun d => !anySag ax (unT d)) = allF P ax := by simp [allF, List.all_map, Function.comp_def, unT_iT]
    rw [this]
  have e0 : Dl.envOf 3 [pD P, iT ax] = [.sh (pD P), .sh (iT ax), .no] := rfl
  refine run_rt (ρ := [.sh (pD P), .sh (iT ax), .no]) ?_
  rw [e0]
  unfold b_all_fall
  rw [ev_ret, x]
  rfl
end
end P82

set_option Elab.async false
set_option linter.all false
set_option maxRecDepth 100000
set_option maxHeartbeats 4000000
namespace P82
open PySem PySem.Spec PyProof.Rows L2 Dl
section
variable {W : Sto}
/-! ### dicts of ints -/
theorem put_keys (acc : List (Key × D)) (k : Key) (x : D) : (k ∈ acc.map (·.1) ∧ (putD acc k x).map (·.1) = acc.map (·.1)) ∨ (k ∉ acc.map (·.1) ∧ (putD acc k x).map (·.1) = acc.map (·.1) ++ [k]) := by
  unfold putD
  have e : (acc.any fun kv => decide (kv.1 = k)) = true ↔ k ∈ acc.map (·.1) := by
    simp only [List.any_eq_true, decide_eq_true_eq, List.mem_map]
  cases h : acc.any fun kv => decide (kv.1 = k) with
  | true =>
    refine .inl ⟨e.mp h, ?_⟩
    rw [if_pos rfl, List.map_map]
    refine List.map_congr_left fun kv _ => ?_
    show (if kv.1 = k then (kv.1, x) else kv).1 = kv.1
    split <;> rfl
  | false =>
    refine .inr ⟨fun z => absurd ((e.mpr z).symm.trans h) (by decide), ?_⟩
    rw [if_neg Bool.false_ne_true]
    simp
theorem dc_ints {ρb : Dl.Env} (hρ : 3 < ρb.length) : ∀ (ns : List Int) (acc : List (Key × D)), (acc.map (·.1)).Nodup → ∃ acc', dcL (bName 3) (dC (.bl true)) (dVar 3) (dC (.bl true)) ρb (ns.map .int) W acc = some (acc', W) ∧ (acc'.map (·.1)).Nodup ∧ ∀ k, k ∈ acc'.map (·.1) ↔ k ∈ acc.map (·.1) ∨ ∃ n ∈ ns, k = .inl n
  | [], acc, h => ⟨acc, rfl, h, fun k => by simp⟩
  | n :: ns, acc, h => by
    have hn : ((putD acc (.inl n) (.bl true)).map (·.1)).Nodup := by
      rcases put_keys acc (.inl n) (.bl true) with ⟨_, e⟩ | ⟨h2, e⟩
      · rw [e]; exact h
      · rw [e]
        exact List.nodup_append.mpr ⟨h, by simp, fun x hx y hy => by simp at hy; subst hy; exact fun z => h2 (z ▸ hx)⟩
    obtain ⟨acc', e1, e2, e3⟩ := dc_ints hρ ns (putD acc (.inl n) (.bl true)) hn
    refine ⟨acc', ?_, e2, fun k => ?_⟩
    · have hv : dVar 3 (ρb.set 3 (.sh (.int n))) W = .val (.int n) (ρb.set 3 (.sh (.int n))) W := by
        simp [List.getElem?_set_self hρ]
      simp only [List.map_cons, dcL, ev_bname, ev_c, tru_bl, hv, toK]
      exact e1
    · rw [e3]
      rcases put_keys acc (.inl n) (.bl true) with ⟨h2, e⟩ | ⟨_, e⟩ <;> rw [e]
      · constructor
        · rintro (h3 | ⟨x, hx, rfl⟩)
          · exact .inl h3
          · exact .inr ⟨x, List.mem_cons_of_mem _ hx, rfl⟩
        · rintro (h3 | ⟨x, hx, rfl⟩)
          · exact .inl h3
          · rcases List.mem_cons.mp hx with rfl | hx
            · exact .inl h2
            · exact .inr ⟨x, hx, rfl⟩
      · constructor
        · rintro (h3 | ⟨x, hx, rfl⟩)
          · rcases List.mem_append.mp h3 with h3 | h3
            · exact .inl h3
            · simp at h3
              exact .inr ⟨n, List.mem_cons_self, h3⟩
          · exact .inr ⟨x, List.mem_cons_of_mem _ hx, rfl⟩
        · rintro (h3 | ⟨x, hx, rfl⟩)
          · exact .inl (List.mem_append_left _ h3)
          · rcases List.mem_cons.mp hx with rfl | hx
            · exact .inl (List.mem_append_right _ (by simp))
            · exact .inr ⟨x, hx, rfl⟩
theorem dc_len {ρb : Dl.Env} (hρ : 3 < ρb.length) (ns : List Int) : ∃ acc', dcL (bName 3) (dC (.bl true)) (dVar 3) (dC (.bl true)) ρb (ns.map .int) W [] = some (acc', W) ∧ acc'.length = (ddup ns).length := by
  obtain ⟨acc', e1, e2, e3⟩ := dc_ints (W := W) hρ ns [] (by simp)
  refine ⟨acc', e1, ?_⟩
  have p : (acc'.map (·.1)).Perm ((ddup ns).map Sum.inl) := by
    refine (List.perm_ext_iff_of_nodup e2 ?_).mpr fun k => ?_
    · exact List.pairwise_map.mpr ((ddup_nodup ns).imp fun h z => h (by cases z; rfl))
    · rw [e3]
      simp only [List.map_nil, List.not_mem_nil, false_or, List.mem_map]
      constructor
      · rintro ⟨n, hn, rfl⟩; exact ⟨n, ddup_mem.mpr hn, rfl⟩
      · rintro ⟨n, hn, rfl⟩; exact ⟨n, ddup_mem.mp hn, rfl⟩
  have := p.length_eq
  simpa using this
theorem ddup_le : ∀ ns : List Int, (ddup ns).length ≤ ns.length
  | [] => Nat.le_refl _
  | n :: ns => by
    have := ddup_le ns
    unfold ddup
    split <;> simp <;> omega

/-! ### numbers, unlike numbers -/
/-- a value that the judging asks: nothing of the store, its items as well -/
structure Vl (v : D) : Prop where
  nr : nr v = true
  tp : ∀ xs, v ≠ .tp xs
  it : ∀ xs, v = .tup xs → (∀ x ∈ xs, P82.nr x = true) ∧ xs.length < 64
def numB (most many : Int) : D → Bool
  | .tup xs => decide ((xs.length : Int) = many) && xs.all (ixI most)
  | _ => false
theorem allix {most many : Int} {xs : List D} (hn : ∀ x ∈ xs, nr x = true) (hl : xs.length < 64) (E : Dn) (hE : ∀ d, nr d = true → E [.sh (.int most), .sh (.int many), .sh (.tup xs), .sh d] W = .val (.bl (ixI most d)) [.sh (.int most), .sh (.int many), .sh (.tup xs), .sh d] W) :
    dBi gAll (dCons (dLc [3] (iItems (dVar 2)) (bName 3) (dC (.bl true)) E) dNil) [.sh (.int most), .sh (.int many), .sh (.tup xs), .no] W = .val (.bl (xs.all (ixI most))) [.sh (.int most), .sh (.int many), .sh (.tup xs), .no] W := by
  refine allc (ds := xs) (by simp) (by omega) fun d hd => ⟨_, [.sh (.int most), .sh (.int many), .sh (.tup xs), .sh d], rfl, ?_⟩
  have hb : (blkE [.sh (.int most), .sh (.int many), .sh (.tup xs), .no] [3]).set 3 (.sh d) = [.sh (.int most), .sh (.int many), .sh (.tup xs), .sh d] := rfl
  rw [hb]
  exact hE d (hn d hd)
theorem E_num {most many : Int} {v d : D} (h : nr d = true) : E1_are_numbers [.sh (.int most), .sh (.int many), .sh v, .sh d] W = .val (.bl (ixI most d)) [.sh (.int most), .sh (.int many), .sh v, .sh d] W := by
  have := is_index W most h
  simp [E1_are_numbers, this]
theorem E_unl {most many : Int} {v d : D} (h : nr d = true) : E1_are_unlike [.sh (.int most), .sh (.int many), .sh v, .sh d] W = .val (.bl (ixI most d)) [.sh (.int most), .sh (.int many), .sh v, .sh d] W := by
  have := is_index W most h
  simp [E1_are_unlike, this]
theorem E_law {most many : Int} {v d : D} (h : nr d = true) : E1__law_numbered [.sh (.int most), .sh (.int many), .sh v, .sh d] W = .val (.bl (ixI most d)) [.sh (.int most), .sh (.int many), .sh v, .sh d] W := by
  have e := law_is_int W h
  cases d <;> first | cases h; done | skip
  case int i => by_cases h1 : 0 ≤ i <;> by_cases h2 : i < most <;> simp [E1__law_numbered, e, isI, ixI, gLe, gLt, g2, h1, h2]
  all_goals simp [E1__law_numbered, e, isI, ixI]
theorem numbers {most many : Int} {v : D} (h : Vl v) : c_are_numbers [.int most, .int many, v] W = .val (.bl (numB most many v)) W := by
  refine run_rt (ρ := [.sh (.int most), .sh (.int many), .sh v, .no]) ?_
  have e0 : Dl.envOf 4 [.int most, .int many, v] = [.sh (.int most), .sh (.int many), .sh v, .no] := rfl
  rw [e0]
  unfold b_are_numbers
  obtain ⟨h1, h2, h3⟩ := h
  cases v <;> first | (cases h1; done) | (exact absurd rfl (h2 _)) | (simp (config := { decide := true }) [gIsi, tyD, isTy, numB]; done) | skip
  rename_i xs
  obtain ⟨hn, hl⟩ := h3 xs rfl
  have e2 := allix (W := W) (most := most) (many := many) hn hl E1_are_numbers fun d hd => E_num hd
  generalize dBi gAll (dCons (dLc [3] (iItems (dVar 2)) (bName 3) (dC (.bl true)) E1_are_numbers) dNil) = A at e2 ⊢
  by_cases q : (xs.length : Int) = many <;> simp (config := { decide := true }) [gIsi, tyD, isTy, numB, gLenS, eq_int, e2, q]
theorem law_numbered {most many : Int} {v : D} (h : Vl v) : c__law_numbered [.int most, .int many, v] W = .val (.bl (numB most many v)) W := by
  refine run_rt (ρ := [.sh (.int most), .sh (.int many), .sh v, .no]) ?_
  have e0 : Dl.envOf 4 [.int most, .int many, v] = [.sh (.int most), .sh (.int many), .sh v, .no] := rfl
  rw [e0]
  unfold b__law_numbered
  obtain ⟨h1, h2, h3⟩ := h
  cases v <;> first | (cases h1; done) | (exact absurd rfl (h2 _)) | (simp (config := { decide := true }) [gIsi, tyD, isTy, numB]; done) | skip
  rename_i xs
  obtain ⟨hn, hl⟩ := h3 xs rfl
  have e2 := allix (W := W) (most := most) (many := many) hn hl E1__law_numbered fun d hd => E_law hd
  generalize dBi gAll (dCons (dLc [3] (iItems (dVar 2)) (bName 3) (dC (.bl true)) E1__law_numbered) dNil) = A at e2 ⊢
  by_cases q : (xs.length : Int) = many <;> simp (config := { decide := true }) [gIsi, tyD, isTy, numB, gLenS, eq_int, e2, q]
def unlB (most many : Int) (v : D) : Bool := numB most many v && decide (((ddup (unT v)).length : Int) = many)
theorem unlikeA {most many : Int} {v : D} (h : Vl v) : ∃ ρ, b_are_unlike (Dl.envOf 4 [.int most, .int many, v]) W = .rt (.bl (unlB most many v)) ρ W := by
  have e0 : Dl.envOf 4 [.int most, .int many, v] = [.sh (.int most), .sh (.int many), .sh v, .no] := rfl
  rw [e0]
  refine ⟨[.sh (.int most), .sh (.int many), .sh v, .no], ?_⟩
  unfold b_are_unlike
  obtain ⟨h1, h2, h3⟩ := h
  cases v <;> first | (cases h1; done) | (exact absurd rfl (h2 _)) | (simp (config := { decide := true }) [gIsi, tyD, isTy, unlB, numB]; done) | skip
  rename_i xs
  obtain ⟨hn, hl⟩ := h3 xs rfl
  have e2 := allix (W := W) (most := most) (many := many) hn hl E1_are_unlike fun d hd => E_unl hd
  generalize dBi gAll (dCons (dLc [3] (iItems (dVar 2)) (bName 3) (dC (.bl true)) E1_are_unlike) dNil) = A at e2 ⊢
  by_cases q : (xs.length : Int) = many
  · cases q2 : xs.all (ixI most) with
    | false => simp (config := { decide := true }) [gIsi, tyD, isTy, unlB, numB, gLenS, ne_int, e2, q, q2]
    | true =>
      obtain ⟨ns, rfl⟩ := ints_of (all_ix_isI q2)
      obtain ⟨acc, e3, e4⟩ := dc_len (W := W) (ρb := blkE [.sh (.int most), .sh (.int many), .sh (.tup (ns.map .int)), .no] [3]) (by simp [blkE, wipeE]) ns
      have hl2 : (ns.map D.int).length < 16777216 := by omega
      have e5 : dDc [3] (iItems (dVar 2)) (bName 3) (dC (.bl true)) (dVar 3) (dC (.bl true)) [.sh (.int most), .sh (.int many), .sh (.tup (ns.map .int)), .no] W = .val (.dct acc) [.sh (.int most), .sh (.int many), .sh (.tup (ns.map .int)), .no] W := by
        have hi : iItems (dVar 2) [.sh (.int most), .sh (.int many), .sh (.tup (ns.map .int)), .no] W = .val (ns.map .int) [.sh (.int most), .sh (.int many), .sh (.tup (ns.map .int)), .no] W := by simp
        unfold dDc
        rw [hi]
        dsimp only
        rw [if_pos hl2, e3]
      generalize dDc [3] (iItems (dVar 2)) (bName 3) (dC (.bl true)) (dVar 3) (dC (.bl true)) = B at e5 ⊢
      have q' : (ns.length : Int) = many := by simpa using q
      simp (config := { decide := true }) [gIsi, tyD, isTy, unlB, numB, gLenS, gLenD, ne_int, eq_int, e2, e5, e4, q', q2, unT, unI_map]
  · simp (config := { decide := true }) [gIsi, tyD, isTy, unlB, numB, gLenS, ne_int, e2, q]
theorem unlike {most many : Int} {v : D} (h : Vl v) : c_are_unlike [.int most, .int many, v] W = .val (.bl (unlB most many v)) W := by
  obtain ⟨ρ, e⟩ := unlikeA (W := W) (most := most) (many := many) h
  exact run_rt e
end
end P82

set_option Elab.async false
set_option linter.all false
set_option maxRecDepth 100000
set_option maxHeartbeats 4000000
namespace P82
open PySem PySem.Spec PyProof.Rows L2 Dl
section
variable {W : Sto}
/-! ### objects -/
abbrev axis_ (t : D) : D := .obj 1 [("things", t)]
abbrev three_ (t r : D) : D := .obj 2 [("things", t), ("rows", r)]
abbrev four_ (t r : D) : D := .obj 3 [("things", t), ("rows", r)]
theorem look1 (t : D) (r : List (Str × D)) : List.lookup ("things" : Str) (("things", t) :: r) = some t := by
  rw [List.lookup_cons]; simp
theorem rt_ : ((("rows" : Str) == ("things" : Str))) = false := by decide +kernel
theorem look2 (t r : D) (l : List (Str × D)) : List.lookup ("rows" : Str) (("things", t) :: ("rows", r) :: l) = some r := by
  rw [List.lookup_cons, rt_]
  simp
theorem fld_a (t : D) : gFld "things" W [axis_ t] = some t := look1 t []
theorem fld_t (t r : D) : gFld "things" W [three_ t r] = some t := look1 t [("rows", r)]
theorem fld_r (t r : D) : gFld "rows" W [three_ t r] = some r := look2 t r []
theorem fld_ft (t r : D) : gFld "things" W [four_ t r] = some t := look1 t [("rows", r)]
theorem fld_fr (t r : D) : gFld "rows" W [four_ t r] = some r := look2 t r []
/-- no instance of the class c -/
def notI (c : Nat) : D → Bool
  | .obj d _ => !(d == c)
  | _ => true
theorem isi_not {c : Nat} {v : D} (h : nr v = true) (h2 : notI c v = true) : gIsi [.o c] W [v] = some (.bl false) := by
  cases v <;> first | (cases h; done) | (simp (config := { decide := true }) [gIsi, tyD, isTy]; done) | skip
  simp only [notI, Bool.not_eq_true'] at h2
  simp [gIsi, tyD, isTy, h2]
theorem isi_a (t : D) : gIsi [.o 1] W [axis_ t] = some (.bl true) := rfl
theorem isi_t (t r : D) : gIsi [.o 2] W [three_ t r] = some (.bl true) := rfl
theorem isi_f (t r : D) : gIsi [.o 3] W [four_ t r] = some (.bl true) := rfl
theorem isi_tup {v : D} (h : nr v = true) : gIsi [.b .tup] W [v] = some (.bl (isT v)) := by
  cases v <;> first | (cases h; done) | (simp (config := { decide := true }) [gIsi, tyD, isTy, isT]; done)

/-! ### an axis judged -/
def axB (m : Nat) (P : List (List Int)) (t : D) : Bool := wholeB m t && allF P (unT t)
theorem vl_things {m : Nat} {t : D} (hm : m ≤ 1000) (h : Vl t) {xs : List D} (e : t = .tup xs) : c_is_all_things [.int m, t] W = .val (.bl (isAll m xs)) W :=
  all_things hm (.inl e) (h.it xs e).1 (h.it xs e).2
theorem isAll_map {m : Nat} {xs : List D} (h : isAll m xs = true) : ∃ ns : List Int, xs = ns.map .int ∧ ns.Perm (rgI m) := by
  have h2 := h
  simp only [isAll, Bool.and_eq_true] at h2
  obtain ⟨ns, rfl⟩ := ints_of (all_ix_isI h2.1)
  exact ⟨ns, rfl, isAll_perm h⟩
theorem ix0_pD {m : Nat} {P : List (List Int)} (h : Pnl m P) : ∃ o, o ∈ P ∧ gIx (pD P) (.int 0) = some (iT o) ∧ o.length = m := by
  cases P with
  | nil => exact absurd rfl h.ne
  | cons o R => exact ⟨o, List.mem_cons_self, by simp [pD, gIx, atI, ixN], h.len List.mem_cons_self⟩
theorem axis_holdsA {m : Nat} {P : List (List Int)} (h : Pnl m P) (a b : Bool) {t : D} (ht : Vl t) : ∃ ρ, b_axis_holds (Dl.envOf 3 [lp a b P, axis_ t]) W = .rt (.bl (axB m P t)) ρ W := by
  have e0 : Dl.envOf 3 [lp a b P, axis_ t] = [.sh (lp a b P), .sh (axis_ t), .no] := rfl
  have e1 := panel_told (W := W) h a b
  obtain ⟨o, ho, e2, e3⟩ := ix0_pD h
  have e4 := len_iT W o
  rw [e3] at e4
  have e5 := isi_a (W := W) t
  have e6 := fld_a (W := W) t
  have e7 := isi_tup (W := W) ht.nr
  have hm : m ≤ 1000 := by have := h.m6; omega
  rw [e0]
  unfold b_axis_holds
  refine ⟨[.sh (lp a b P), .sh (axis_ t), .sh (pD P)], ?_⟩
  cases q : isT t with
  | false =>
    have q2 : wholeB m t = false := by cases t <;> first | rfl | cases q
    simp [e1, e5, e6, e7, q, axB, q2]
  | true =>
    obtain ⟨xs, rfl⟩ : ∃ xs, t = .tup xs := by
      cases t <;> first | exact ⟨_, rfl⟩ | (cases q; done) | exact absurd rfl (ht.tp _)
    have e8 := vl_things (W := W) hm ht rfl
    cases q3 : isAll m xs with
    | false => simp [e1, e2, e4, e5, e6, e7, e8, q, axB, wholeB, q3]
    | true =>
      obtain ⟨ns, rfl, hp⟩ := isAll_map q3
      have e9 := all_fall (W := W) h (ax := ns) (fun x hx => mem_rgI.mp (hp.mem_iff.mp hx)) (by rw [hp.length_eq, rgI_length]; exact hm)
      have e10 : D.tup (ns.map .int) = iT ns := rfl
      rw [← e10] at e9
      simp [e1, e2, e4, e5, e6, e7, e8, e9, q, axB, wholeB, q3, unT, unI_map]
theorem axis_holds {m : Nat} {P : List (List Int)} (h : Pnl m P) (a b : Bool) {t : D} (ht : Vl t) : c_axis_holds [lp a b P, axis_ t] W = .val (.bl (axB m P t)) W := by
  obtain ⟨ρ, e⟩ := axis_holdsA (W := W) h a b ht
  exact run_rt e
theorem axis_not {m : Nat} {P : List (List Int)} (h : Pnl m P) (a b : Bool) {v : D} (hv : nr v = true) (h2 : notI 1 v = true) : c_axis_holds [lp a b P, v] W = .val (.bl false) W := by
  refine run_rt (ρ := [.sh (lp a b P), .sh v, .sh (pD P)]) ?_
  have e0 : Dl.envOf 3 [lp a b P, v] = [.sh (lp a b P), .sh v, .no] := rfl
  have e1 := panel_told (W := W) h a b
  have e5 := isi_not (W := W) hv h2
  rw [e0]
  unfold b_axis_holds
  simp [e1, e5]

/-! ### the last of some things -/
def lastB (od : List Int) (th : Int) (ts : List Int) : Bool := ts.all fun o => decide (o = th) || ah od o th
theorem lastA {E : Dn} {n : Nat} {od ts : List Int} {th : Int} {ρ : Dl.Env} {vs : List Nat} {i : Nat} {f : Dn} (hf : f ρ W = .val (iT ts) ρ W) (hl : ts.length < 64) (hE : ∀ o ∈ ts, ∃ ρ2, E ((blkE ρ vs).set i (.sh (.int o))) W = .val (.bl (decide (o = th) || ah od o th)) ρ2 W) :
    dBi gAll (dCons (dLc vs (iItems f) (bName i) (dC (.bl true)) E) dNil) ρ W = .val (.bl (lastB od th ts)) ρ W := by
  have := allc (vs := vs) (fi := iItems f) (bn := bName i) (fe := E) (ρ := ρ) (ρ0 := ρ) (W := W) (ds := ts.map .int) (p := pI fun o => decide (o = th) || ah od o th) (by simp [hf, iT]) (by simp; omega) fun d hd => by
    obtain ⟨o, ho, rfl⟩ := List.mem_map.mp hd
    obtain ⟨ρ2, e⟩ := hE o ho
    exact ⟨_, ρ2, rfl, e⟩
  rw [this]
  have e2 : (ts.map D.int).all (pI fun o => decide (o = th) || ah od o th) = lastB od th ts := by
    rw [List.all_map]; rfl
  rw [e2]
theorem is_last {od ts : List Int} {th : Int} (h1 : th ∈ od) (h2 : ∀ o ∈ ts, o ∈ od) (hl : ts.length < 64) : c_is_last [iT od, .int th, iT ts] W = .val (.bl (lastB od th ts)) W := by
  refine run_rt (ρ := [.sh (iT od), .sh (.int th), .sh (iT ts), .no]) ?_
  have e0 : Dl.envOf 4 [iT od, .int th, iT ts] = [.sh (iT od), .sh (.int th), .sh (iT ts), .no] := rfl
  rw [e0]
  unfold b_is_last
  have e := lastA (W := W) (E := E1_is_last) (n := 0) (od := od) (ts := ts) (th := th) (ρ := [.sh (iT od), .sh (.int th), .sh (iT ts), .no]) (vs := [3]) (i := 3) (f := dVar 2) rfl hl fun o ho => by
    have hb : (blkE [.sh (iT od), .sh (.int th), .sh (iT ts), .no] [3]).set 3 (.sh (.int o)) = [.sh (iT od), .sh (.int th), .sh (iT ts), .sh (.int o)] := rfl
    rw [hb]
    have e := is_ahead W (h2 o ho) h1
    refine ⟨[.sh (iT od), .sh (.int th), .sh (iT ts), .sh (.int o)], ?_⟩
    by_cases q : o = th <;> simp [E1_is_last, eq_int, e, q]
  rw [ev_ret, e]
  rfl
end
end P82

set_option Elab.async false
set_option linter.all false
set_option maxRecDepth 100000
set_option maxHeartbeats 4000000
namespace P82
open PySem PySem.Spec PyProof.Rows L2 Dl
section
variable {W : Sto}
/-! ### numbers told by numB -/
theorem numB_map {most many : Int} {v : D} (h : numB most many v = true) : ∃ ns : List Int, v = iT ns ∧ (ns.length : Int) = many ∧ ∀ n ∈ ns, 0 ≤ n ∧ n < most := by
  cases v <;> first | (cases h; done) | skip
  rename_i xs
  simp only [numB, Bool.and_eq_true, decide_eq_true_eq] at h
  obtain ⟨ns, rfl⟩ := ints_of (all_ix_isI h.2)
  refine ⟨ns, rfl, by simpa using h.1, fun n hn => ?_⟩
  have := List.all_eq_true.mp h.2 (.int n) (List.mem_map.mpr ⟨n, hn, rfl⟩)
  simpa [ixI] using this
theorem unlB_num {most many : Int} {v : D} (h : unlB most many v = true) : numB most many v = true := by
  simp only [unlB, Bool.and_eq_true] at h
  exact h.1
theorem zip_mem {ts rs : List Int} {d : D} (h : d ∈ zipD (ts.map .int) (rs.map .int)) : ∃ t r, t ∈ ts ∧ r ∈ rs ∧ d = .tp [.int t, .int r] := by
  unfold zipD at h
  rw [List.zipWith_map] at h
  induction ts generalizing rs with
  | nil => simp at h
  | cons t ts ih =>
    cases rs with
    | nil => simp at h
    | cons r rs =>
      simp only [List.zipWith_cons_cons, List.mem_cons] at h
      rcases h with rfl | h
      · exact ⟨t, r, List.mem_cons_self, List.mem_cons_self, rfl⟩
      · obtain ⟨a, b, h1, h2, e⟩ := ih h
        exact ⟨a, b, List.mem_cons_of_mem _ h1, List.mem_cons_of_mem _ h2, e⟩
/-- one thing is last in its order -/
def pz (P : List (List Int)) (ts : List Int) : D → Bool
  | .tp [.int th, .int ro] => lastB (oP P ro.toNat) th ts
  | _ => false
def lastsB (P : List (List Int)) (ts rs : List Int) : Bool := (zipD (ts.map .int) (rs.map .int)).all (pz P ts)
def thB (m : Nat) (P : List (List Int)) (t r : D) : Bool := unlB m 3 t && (numB P.length 3 r && lastsB P (unT t) (unT r))
theorem pz_int (P : List (List Int)) (ts : List Int) (th : Int) (ro : Nat) : pz P ts (.tp [.int th, .int (ro : Nat)]) = lastB (oP P ro) th ts := by simp [pz]
theorem three_holdsA {m : Nat} {P : List (List Int)} (h : Pnl m P) (a b : Bool) {t r : D} (ht : Vl t) (hr : Vl r) : ∃ ρ, b_three_holds (Dl.envOf 5 [lp a b P, three_ t r]) W = .rt (.bl (thB m P t r)) ρ W := by
  have e0 : Dl.envOf 5 [lp a b P, three_ t r] = [.sh (lp a b P), .sh (three_ t r), .no, .no, .no] := rfl
  have e1 := panel_told (W := W) h a b
  obtain ⟨o, ho, e2, e3⟩ := ix0_pD h
  have e4 := len_iT W o
  rw [e3] at e4
  have e5 := isi_t (W := W) t r
  have e6 := fld_t (W := W) t r
  have e7 := fld_r (W := W) t r
  have e8 := unlike (W := W) (most := m) (many := 3) ht
  have e9 := numbers (W := W) (most := P.length) (many := 3) hr
  have e10 := len_pD (W := W) P
  rw [e0]
  unfold b_three_holds
  refine ⟨[.sh (lp a b P), .sh (three_ t r), .sh (pD P), .no, .no], ?_⟩
  cases q : unlB m 3 t with
  | false => simp [e1, e2, e4, e5, e6, e8, q, thB]
  | true =>
    cases q2 : numB P.length 3 r with
    | false => simp [e1, e2, e4, e5, e6, e7, e8, e9, e10, q, q2, thB]
    | true =>
      obtain ⟨ts, rfl, hts, htm⟩ := numB_map (unlB_num q)
      obtain ⟨rs, rfl, hrs, hrm⟩ := numB_map q2
      have e11 : dBi gAll (dCons (dLc [3, 4] (iZipD (dCons (dG1 (gFld "things") (dVar 1)) (dCons (dG1 (gFld "rows") (dVar 1)) dNil))) (bTup [3, 4]) (dC (.bl true)) E1_three_holds) dNil) [.sh (lp a b P), .sh (three_ (iT ts) (iT rs)), .sh (pD P), .no, .no] W = .val (.bl (lastsB P ts rs)) [.sh (lp a b P), .sh (three_ (iT ts) (iT rs)), .sh (pD P), .no, .no] W := by
        refine allc (ds := zipD (ts.map .int) (rs.map .int)) (p := pz P ts) (by simp [iZipD, e6, e7]) (by rw [zipD_length]; simp; omega) fun d hd => ?_
        obtain ⟨th, ro, h1, h2, rfl⟩ := zip_mem hd
        obtain ⟨hr0, hr1⟩ := hrm ro h2
        obtain ⟨i, rfl⟩ := Int.eq_ofNat_of_zero_le hr0
        have hi : i < P.length := by omega
        have e12 := is_last (W := W) (od := oP P i) (th := th) (ts := ts) (h.mem (getD_mem hi) (htm th h1).1 (htm th h1).2) (fun o ho => h.mem (getD_mem hi) (htm o ho).1 (htm o ho).2) (by omega)
        refine ⟨_, [.sh (lp a b P), .sh (three_ (iT ts) (iT rs)), .sh (pD P), .sh (.int th), .sh (.int (i : Nat))], rfl, ?_⟩
        have hb : bSets [3, 4] [.int th, .int (i : Nat)] (blkE [.sh (lp a b P), .sh (three_ (iT ts) (iT rs)), .sh (pD P), .no, .no] [3, 4]) = [.sh (lp a b P), .sh (three_ (iT ts) (iT rs)), .sh (pD P), .sh (.int th), .sh (.int (i : Nat))] := rfl
        rw [hb, pz_int]
        simp [E1_three_holds, e6, ix_pD hi, e12]
      generalize dBi gAll (dCons (dLc [3, 4] (iZipD (dCons (dG1 (gFld "things") (dVar 1)) (dCons (dG1 (gFld "rows") (dVar 1)) dNil))) (bTup [3, 4]) (dC (.bl true)) E1_three_holds) dNil) = A at e11 ⊢
      simp [e1, e2, e4, e5, e6, e7, e8, e9, e10, e11, q, q2, thB, unT_iT]
theorem three_holds {m : Nat} {P : List (List Int)} (h : Pnl m P) (a b : Bool) {t r : D} (ht : Vl t) (hr : Vl r) : c_three_holds [lp a b P, three_ t r] W = .val (.bl (thB m P t r)) W := by
  obtain ⟨ρ, e⟩ := three_holdsA (W := W) h a b ht hr
  exact run_rt e
theorem three_not {m : Nat} {P : List (List Int)} (h : Pnl m P) (a b : Bool) {v : D} (hv : nr v = true) (h2 : notI 2 v = true) : c_three_holds [lp a b P, v] W = .val (.bl false) W := by
  refine run_rt (ρ := [.sh (lp a b P), .sh v, .sh (pD P), .no, .no]) ?_
  have e0 : Dl.envOf 5 [lp a b P, v] = [.sh (lp a b P), .sh v, .no, .no, .no] := rfl
  have e1 := panel_told (W := W) h a b
  have e5 := isi_not (W := W) hv h2
  rw [e0]
  unfold b_three_holds
  simp [e1, e5]
theorem lenSet_iT (ns : List Int) (h : ns.length < 64) : gLenSet W [iT ns] = some (.int (ddup ns).length) := by
  have : ns.length < 4000 := by omega
  simp [gLenSet, iT, intsD_map, this]
theorem law_threeA {m : Nat} {P : List (List Int)} (h : Pnl m P) {t r : D} (ht : Vl t) (hr : Vl r) : ∃ ρ, b__law_three_right (Dl.envOf 7 [pD P, t, r]) W = .rt (.bl (thB m P t r)) ρ W := by
  have e0 : Dl.envOf 7 [pD P, t, r] = [.sh (pD P), .sh t, .sh r, .no, .no, .no, .no] := rfl
  obtain ⟨o, ho, e2, e3⟩ := ix0_pD h
  have e4 := len_iT W o
  rw [e3] at e4
  have e8 := law_numbered (W := W) (most := m) (many := 3) ht
  have e9 := law_numbered (W := W) (most := P.length) (many := 3) hr
  have e10 := len_pD (W := W) P
  rw [e0]
  unfold b__law_three_right
  refine ⟨[.sh (pD P), .sh t, .sh r, .sh (.int m), .no, .no, .no], ?_⟩
  cases q : numB m 3 t with
  | false => simp [e2, e4, e8, q, thB, unlB]
  | true =>
    obtain ⟨ts, rfl, hts, htm⟩ := numB_map q
    have e13 := lenSet_iT (W := W) ts (by omega)
    have hdd := ddup_le ts
    by_cases q3 : (ddup ts).length < 3
    · have q4 : ¬ (((ddup ts).length : Int) = 3) := by omega
      have q5 : (((ddup ts).length : Int) < 3) := by omega
      simp [e2, e4, e8, e13, q, q4, q5, thB, unlB, gLt, g2, unT_iT]
    · have q4 : (((ddup ts).length : Int) = 3) := by omega
      have q5 : ¬ (((ddup ts).length : Int) < 3) := by omega
      cases q2 : numB P.length 3 r with
      | false => simp [e2, e4, e8, e9, e10, e13, q, q2, q4, thB, unlB, gLt, g2, unT_iT]
      | true =>
        obtain ⟨rs, rfl, hrs, hrm⟩ := numB_map q2
        have e11 : dBi gAll (dCons (dLc [5, 6] (iZipD (dCons (dVar 1) (dCons (dVar 2) dNil))) (bTup [5, 6]) (dC (.bl true)) E2__law_three_right) dNil) [.sh (pD P), .sh (iT ts), .sh (iT rs), .sh (.int m), .no, .no, .no] W = .val (.bl (lastsB P ts rs)) [.sh (pD P), .sh (iT ts), .sh (iT rs), .sh (.int m), .no, .no, .no] W := by
          refine allc (ds := zipD (ts.map .int) (rs.map .int)) (p := pz P ts) (by simp [iZipD]) (by rw [zipD_length]; simp; omega) fun d hd => ?_
          obtain ⟨th, ro, h1, h2, rfl⟩ := zip_mem hd
          obtain ⟨hr0, hr1⟩ := hrm ro h2
          obtain ⟨i, rfl⟩ := Int.eq_ofNat_of_zero_le hr0
          have hi : i < P.length := by omega
          refine ⟨_, [.sh (pD P), .sh (iT ts), .sh (iT rs), .sh (.int m), .no, .sh (.int th), .sh (.int (i : Nat))], rfl, ?_⟩
          have hb : bSets [5, 6] [.int th, .int (i : Nat)] (blkE [.sh (pD P), .sh (iT ts), .sh (iT rs), .sh (.int m), .no, .no, .no] [5, 6]) = [.sh (pD P), .sh (iT ts), .sh (iT rs), .sh (.int m), .no, .sh (.int th), .sh (.int (i : Nat))] := rfl
          rw [hb, pz_int]
          unfold E2__law_three_right
          exact lastA (W := W) (n := 0) (od := oP P i) (ts := ts) (th := th) (f := dVar 1) rfl (by omega) fun o ho => by
            have hb2 : (blkE [.sh (pD P), .sh (iT ts), .sh (iT rs), .sh (.int m), .no, .sh (.int th), .sh (.int (i : Nat))] [4]).set 4 (.sh (.int o)) = [.sh (pD P), .sh (iT ts), .sh (iT rs), .sh (.int m), .sh (.int o), .sh (.int th), .sh (.int (i : Nat))] := rfl
            rw [hb2]
            have e := law_ahead W (od := oP P i) (h.mem (getD_mem hi) (htm o ho).1 (htm o ho).2) (h.mem (getD_mem hi) (htm th h1).1 (htm th h1).2)
            refine ⟨[.sh (pD P), .sh (iT ts), .sh (iT rs), .sh (.int m), .sh (.int o), .sh (.int th), .sh (.int (i : Nat))], ?_⟩
            by_cases q : o = th <;> simp [E1__law_three_right, eq_int, ix_pD hi, e, q]
        generalize dBi gAll (dCons (dLc [5, 6] (iZipD (dCons (dVar 1) (dCons (dVar 2) dNil))) (bTup [5, 6]) (dC (.bl true)) E2__law_three_right) dNil) = A at e11 ⊢
        simp [e2, e4, e8, e9, e10, e11, e13, q, q2, q4, thB, unlB, gLt, g2, unT_iT]
theorem law_three {m : Nat} {P : List (List Int)} (h : Pnl m P) {t r : D} (ht : Vl t) (hr : Vl r) : c__law_three_right [pD P, t, r] W = .val (.bl (thB m P t r)) W := by
  obtain ⟨ρ, e⟩ := law_threeA (W := W) h ht hr
  exact run_rt e
end
end P82

set_option Elab.async false
set_option linter.all false
set_option maxRecDepth 100000
set_option maxHeartbeats 4000000
namespace P82
open PySem PySem.Spec PyProof.Rows L2 Dl
section
variable {W : Sto}
def fourB (f s : List Int) (a b c d : Int) : Bool := (ah f a b && (ah f b c && ah f d b)) && (ah s c b && (ah s b a && ah s d b))
def fourL (P : List (List Int)) : List Int → List Int → Bool
  | [a, b, c, d], [x, y] => fourB (oP P x.toNat) (oP P y.toNat) a b c d
  | _, _ => false
def foB (m : Nat) (P : List (List Int)) (t r : D) : Bool := unlB m 4 t && (numB P.length 2 r && fourL P (unT t) (unT r))
theorem is_fourA {f s : List Int} {a b c d : Int} (h1 : ∀ x ∈ [a, b, c, d], x ∈ f) (h2 : ∀ x ∈ [a, b, c, d], x ∈ s) : ∃ ρ, b_is_four (Dl.envOf 7 [iT f, iT s, iT [a, b, c, d]]) W = .rt (.bl (fourB f s a b c d)) ρ W := by
  have e0 : Dl.envOf 7 [iT f, iT s, iT [a, b, c, d]] = [.sh (iT f), .sh (iT s), .sh (iT [a, b, c, d]), .no, .no, .no, .no] := rfl
  have x1 : sUnp [3, 4, 5, 6] (dVar 2) [.sh (iT f), .sh (iT s), .sh (iT [a, b, c, d]), .no, .no, .no, .no] W = .nx [.sh (iT f), .sh (iT s), .sh (iT [a, b, c, d]), .sh (.int a), .sh (.int b), .sh (.int c), .sh (.int d)] W := by
    simp [iT, bTup, bSets]
  have k1 := is_ahead W (h1 a (by simp)) (h1 b (by simp))
  have k2 := is_ahead W (h1 b (by simp)) (h1 c (by simp))
  have k3 := is_ahead W (h1 d (by simp)) (h1 b (by simp))
  have k4 := is_ahead W (h2 c (by simp)) (h2 b (by simp))
  have k5 := is_ahead W (h2 b (by simp)) (h2 a (by simp))
  have k6 := is_ahead W (h2 d (by simp)) (h2 b (by simp))
  rw [e0]
  unfold b_is_four
  rw [ev_seq, x1]
  dsimp only
  refine ⟨[.sh (iT f), .sh (iT s), .sh (iT [a, b, c, d]), .sh (.int a), .sh (.int b), .sh (.int c), .sh (.int d)], ?_⟩
  cases q1 : ah f a b with
  | false => simp [k1, q1, fourB]
  | true =>
    cases q2 : ah f b c with
    | false => simp [k1, k2, q1, q2, fourB]
    | true =>
      cases q3 : ah f d b with
      | false => simp [k1, k2, k3, q1, q2, q3, fourB]
      | true =>
        cases q4 : ah s c b with
        | false => simp [k1, k2, k3, k4, q1, q2, q3, q4, fourB]
        | true =>
          cases q5 : ah s b a <;> simp [k1, k2, k3, k4, k5, k6, q1, q2, q3, q4, q5, fourB]
theorem is_four {f s : List Int} {a b c d : Int} (h1 : ∀ x ∈ [a, b, c, d], x ∈ f) (h2 : ∀ x ∈ [a, b, c, d], x ∈ s) : c_is_four [iT f, iT s, iT [a, b, c, d]] W = .val (.bl (fourB f s a b c d)) W := by
  obtain ⟨ρ, e⟩ := is_fourA (W := W) h1 h2
  exact run_rt e
theorem four_of {ts : List Int} (h : (ts.length : Int) = 4) : ∃ a b c d, ts = [a, b, c, d] := by
  match ts, h with
  | [a, b, c, d], _ => exact ⟨a, b, c, d, rfl⟩
  | [], h => simp at h
  | [_], h => simp at h
  | [_, _], h => simp at h
  | [_, _, _], h => simp at h
  | _ :: _ :: _ :: _ :: _ :: _, h => simp at h; omega
theorem two_of {ts : List Int} (h : (ts.length : Int) = 2) : ∃ a b, ts = [a, b] := by
  match ts, h with
  | [a, b], _ => exact ⟨a, b, rfl⟩
  | [], h => simp at h
  | [_], h => simp at h
  | _ :: _ :: _ :: _, h => simp at h; omega
theorem ix_two0 (x y : Int) : gIx (iT [x, y]) (.int 0) = some (.int x) := by simp [iT, gIx, atI, ixN]
theorem ix_two1 (x y : Int) : gIx (iT [x, y]) (.int 1) = some (.int y) := by simp [iT, gIx, atI, ixN]
theorem four_holdsA {m : Nat} {P : List (List Int)} (h : Pnl m P) (a b : Bool) {t r : D} (ht : Vl t) (hr : Vl r) : ∃ ρ, b_four_holds (Dl.envOf 3 [lp a b P, four_ t r]) W = .rt (.bl (foB m P t r)) ρ W := by
  have e0 : Dl.envOf 3 [lp a b P, four_ t r] = [.sh (lp a b P), .sh (four_ t r), .no] := rfl
  have e1 := panel_told (W := W) h a b
  obtain ⟨o, ho, e2, e3⟩ := ix0_pD h
  have e4 := len_iT W o
  rw [e3] at e4
  have e5 := isi_f (W := W) t r
  have e6 := fld_ft (W := W) t r
  have e7 := fld_fr (W := W) t r
  have e8 := unlike (W := W) (most := m) (many := 4) ht
  have e9 := numbers (W := W) (most := P.length) (many := 2) hr
  have e10 := len_pD (W := W) P
  rw [e0]
  unfold b_four_holds
  refine ⟨[.sh (lp a b P), .sh (four_ t r), .sh (pD P)], ?_⟩
  cases q : unlB m 4 t with
  | false => simp [e1, e2, e4, e5, e6, e8, q, foB]
  | true =>
    cases q2 : numB P.length 2 r with
    | false => simp [e1, e2, e4, e5, e6, e7, e8, e9, e10, q, q2, foB]
    | true =>
      obtain ⟨ts, rfl, hts, htm⟩ := numB_map (unlB_num q)
      obtain ⟨rs, rfl, hrs, hrm⟩ := numB_map q2
      obtain ⟨x1, x2, x3, x4, rfl⟩ := four_of hts
      obtain ⟨y1, y2, rfl⟩ := two_of hrs
      obtain ⟨i, rfl⟩ := Int.eq_ofNat_of_zero_le (hrm y1 (by simp)).1
      obtain ⟨j, rfl⟩ := Int.eq_ofNat_of_zero_le (hrm y2 (by simp)).1
      have hi : i < P.length := by have := (hrm (i : Nat) (by simp)).2; omega
      have hj : j < P.length := by have := (hrm (j : Nat) (by simp)).2; omega
      have e11 := is_four (W := W) (f := oP P i) (s := oP P j) (a := x1) (b := x2) (c := x3) (d := x4) (fun x hx => h.mem (getD_mem hi) (htm x hx).1 (htm x hx).2) (fun x hx => h.mem (getD_mem hj) (htm x hx).1 (htm x hx).2)
      simp [e1, e2, e4, e5, e6, e7, e8, e9, e10, e11, ix_two0, ix_two1, ix_pD hi, ix_pD hj, q, q2, foB, unT_iT, fourL]
theorem four_holds {m : Nat} {P : List (List Int)} (h : Pnl m P) (a b : Bool) {t r : D} (ht : Vl t) (hr : Vl r) : c_four_holds [lp a b P, four_ t r] W = .val (.bl (foB m P t r)) W := by
  obtain ⟨ρ, e⟩ := four_holdsA (W := W) h a b ht hr
  exact run_rt e
theorem four_not {m : Nat} {P : List (List Int)} (h : Pnl m P) (a b : Bool) {v : D} (hv : nr v = true) (h2 : notI 3 v = true) : c_four_holds [lp a b P, v] W = .val (.bl false) W := by
  refine run_rt (ρ := [.sh (lp a b P), .sh v, .sh (pD P)]) ?_
  have e0 : Dl.envOf 3 [lp a b P, v] = [.sh (lp a b P), .sh v, .no] := rfl
  have e1 := panel_told (W := W) h a b
  have e5 := isi_not (W := W) hv h2
  rw [e0]
  unfold b_four_holds
  simp [e1, e5]
theorem law_fourA {m : Nat} {P : List (List Int)} (h : Pnl m P) {t r : D} (ht : Vl t) (hr : Vl r) : ∃ ρ, b__law_four_right (Dl.envOf 10 [pD P, t, r]) W = .rt (.bl (foB m P t r)) ρ W := by
  have e0 : Dl.envOf 10 [pD P, t, r] = [.sh (pD P), .sh t, .sh r, .no, .no, .no, .no, .no, .no, .no] := rfl
  obtain ⟨o, ho, e2, e3⟩ := ix0_pD h
  have e4 := len_iT W o
  rw [e3] at e4
  have e8 := law_numbered (W := W) (most := m) (many := 4) ht
  have e9 := law_numbered (W := W) (most := P.length) (many := 2) hr
  have e10 := len_pD (W := W) P
  have x1 : sAsg 3 (dBi gLenS (dCons (dOp2 (fun _ => gIx) (dVar 0) (dC (.int 0))) dNil)) [.sh (pD P), .sh t, .sh r, .no, .no, .no, .no, .no, .no, .no] W = .nx [.sh (pD P), .sh t, .sh r, .sh (.int m), .no, .no, .no, .no, .no, .no] W := by simp [e2, e4]
  rw [e0]
  unfold b__law_four_right
  rw [ev_seq, x1]
  dsimp only
  cases q : numB m 4 t with
  | false => exact ⟨[.sh (pD P), .sh t, .sh r, .sh (.int m), .no, .no, .no, .no, .no, .no], by simp [e8, q, foB, unlB]⟩
  | true =>
    obtain ⟨ts, rfl, hts, htm⟩ := numB_map q
    have e13 := lenSet_iT (W := W) ts (by omega)
    have hdd := ddup_le ts
    by_cases q3 : (ddup ts).length < 4
    · have q4 : ¬ (((ddup ts).length : Int) = 4) := by omega
      have q5 : (((ddup ts).length : Int) < 4) := by omega
      exact ⟨[.sh (pD P), .sh (iT ts), .sh r, .sh (.int m), .no, .no, .no, .no, .no, .no], by simp [e8, e13, q, q4, q5, foB, unlB, gLt, g2, unT_iT]⟩
    · have q4 : (((ddup ts).length : Int) = 4) := by omega
      have q5 : ¬ (((ddup ts).length : Int) < 4) := by omega
      cases q2 : numB P.length 2 r with
      | false => exact ⟨[.sh (pD P), .sh (iT ts), .sh r, .sh (.int m), .no, .no, .no, .no, .no, .no], by simp [e8, e9, e10, e13, q, q2, q4, foB, unlB, gLt, g2, unT_iT]⟩
      | true =>
        obtain ⟨rs, rfl, hrs, hrm⟩ := numB_map q2
        obtain ⟨z1, z2, z3, z4, rfl⟩ := four_of hts
        obtain ⟨y1, y2, rfl⟩ := two_of hrs
        obtain ⟨i, rfl⟩ := Int.eq_ofNat_of_zero_le (hrm y1 (by simp)).1
        obtain ⟨j, rfl⟩ := Int.eq_ofNat_of_zero_le (hrm y2 (by simp)).1
        have hi : i < P.length := by have := (hrm (i : Nat) (by simp)).2; omega
        have hj : j < P.length := by have := (hrm (j : Nat) (by simp)).2; omega
        have h1 : ∀ x ∈ [z1, z2, z3, z4], x ∈ oP P i := fun x hx => h.mem (getD_mem hi) (htm x hx).1 (htm x hx).2
        have h2 : ∀ x ∈ [z1, z2, z3, z4], x ∈ oP P j := fun x hx => h.mem (getD_mem hj) (htm x hx).1 (htm x hx).2
        have k1 := law_ahead W (h1 z1 (by simp)) (h1 z2 (by simp))
        have k2 := law_ahead W (h1 z2 (by simp)) (h1 z3 (by simp))
        have k3 := law_ahead W (h1 z4 (by simp)) (h1 z2 (by simp))
        have k4 := law_ahead W (h2 z3 (by simp)) (h2 z2 (by simp))
        have k5 := law_ahead W (h2 z2 (by simp)) (h2 z1 (by simp))
        have k6 := law_ahead W (h2 z4 (by simp)) (h2 z2 (by simp))
        have x2 : sUnp [4, 5, 6, 7] (dVar 1) [.sh (pD P), .sh (iT [z1, z2, z3, z4]), .sh (iT [(i : Int), (j : Int)]), .sh (.int m), .no, .no, .no, .no, .no, .no] W = .nx [.sh (pD P), .sh (iT [z1, z2, z3, z4]), .sh (iT [(i : Int), (j : Int)]), .sh (.int m), .sh (.int z1), .sh (.int z2), .sh (.int z3), .sh (.int z4), .no, .no] W := by
          simp [iT, bTup, bSets]
        refine ⟨[.sh (pD P), .sh (iT [z1, z2, z3, z4]), .sh (iT [(i : Int), (j : Int)]), .sh (.int m), .sh (.int z1), .sh (.int z2), .sh (.int z3), .sh (.int z4), .sh (iT (oP P i)), .sh (iT (oP P j))], ?_⟩
        have e14 : foB m P (iT [z1, z2, z3, z4]) (iT [(i : Int), (j : Int)]) = fourB (oP P i) (oP P j) z1 z2 z3 z4 := by
          simp [foB, unlB, q, q2, q4, unT_iT, fourL]
        rw [e14]
        have x3 : sIf (dOr (dNot (dCall 3 c__law_numbered (dCons (dVar 3) (dCons (dC (.int 4)) (dCons (dVar 1) dNil))))) (dOr (dOp2 (fun _ => gLt) (dG1 gLenSet (dVar 1)) (dC (.int 4))) (dNot (dCall 3 c__law_numbered (dCons (dBi gLenS (dCons (dVar 0) dNil)) (dCons (dC (.int 2)) (dCons (dVar 2) dNil))))))) (sRet (dC (.bl false))) sNil [.sh (pD P), .sh (iT [z1, z2, z3, z4]), .sh (iT [(i : Int), (j : Int)]), .sh (.int m), .no, .no, .no, .no, .no, .no] W = .nx [.sh (pD P), .sh (iT [z1, z2, z3, z4]), .sh (iT [(i : Int), (j : Int)]), .sh (.int m), .no, .no, .no, .no, .no, .no] W := by
          simp [e8, e9, e10, e13, q, q2, q4, gLt, g2]
        rw [ev_seq, x3]
        dsimp only
        rw [ev_seq, x2]
        dsimp only
        have x4 : sPar [8, 9] [(false, dOp2 (fun _ => gIx) (dVar 0) (dOp2 (fun _ => gIx) (dVar 2) (dC (.int 0)))), (false, dOp2 (fun _ => gIx) (dVar 0) (dOp2 (fun _ => gIx) (dVar 2) (dC (.int 1))))] [.sh (pD P), .sh (iT [z1, z2, z3, z4]), .sh (iT [(i : Int), (j : Int)]), .sh (.int m), .sh (.int z1), .sh (.int z2), .sh (.int z3), .sh (.int z4), .no, .no] W =
          .nx [.sh (pD P), .sh (iT [z1, z2, z3, z4]), .sh (iT [(i : Int), (j : Int)]), .sh (.int m), .sh (.int z1), .sh (.int z2), .sh (.int z3), .sh (.int z4), .sh (iT (oP P i)), .sh (iT (oP P j))] W := by
          simp [sPar, parL, ix_two0, ix_two1, ix_pD hi, ix_pD hj, setSl]
        rw [ev_seq, x4]
        dsimp only
        cases r1 : ah (oP P i) z1 z2 with
        | false => simp [k1, r1, fourB]
        | true =>
          cases r2 : ah (oP P i) z2 z3 with
          | false => simp [k1, k2, r1, r2, fourB]
          | true =>
            cases r3 : ah (oP P i) z4 z2 with
            | false => simp [k1, k2, k3, r1, r2, r3, fourB]
            | true =>
              cases r4 : ah (oP P j) z3 z2 with
              | false => simp [k1, k2, k3, k4, r1, r2, r3, r4, fourB]
              | true =>
                cases r5 : ah (oP P j) z2 z1 <;> simp [k1, k2, k3, k4, k5, k6, r1, r2, r3, r4, r5, fourB]
theorem law_four {m : Nat} {P : List (List Int)} (h : Pnl m P) {t r : D} (ht : Vl t) (hr : Vl r) : c__law_four_right [pD P, t, r] W = .val (.bl (foB m P t r)) W := by
  obtain ⟨ρ, e⟩ := law_fourA (W := W) h ht hr
  exact run_rt e
end
end P82

set_option Elab.async false
set_option linter.all false
set_option maxRecDepth 100000
set_option maxHeartbeats 4000000
namespace P82
open PySem PySem.Spec PyProof.Rows L2 Dl
/-! ### the pen -/
structure Pen where
  cells : List Int
  at_ : Int
  digits : Int
  count : Int
  fold : Int
abbrev kC : Key := .inr (Str.ofString "cells")
abbrev kA : Key := .inr (Str.ofString "at")
abbrev kD : Key := .inr (Str.ofString "digits")
abbrev kN : Key := .inr (Str.ofString "count")
abbrev kF : Key := .inr (Str.ofString "fold")
def Pen.kv (p : Pen) : List (Key × D) := [(kC, .lst (p.cells.map .int)), (kA, .int p.at_), (kD, .int p.digits), (kN, .int p.count), (kF, .int p.fold)]
def Pen.M (p : Pen) : MO := .dct p.kv
theorem nCA : ¬ (kC = kA) := by decide +kernel
theorem nCD : ¬ (kC = kD) := by decide +kernel
theorem nCN : ¬ (kC = kN) := by decide +kernel
theorem nCF : ¬ (kC = kF) := by decide +kernel
theorem nAC : ¬ (kA = kC) := by decide +kernel
theorem nAD : ¬ (kA = kD) := by decide +kernel
theorem nAN : ¬ (kA = kN) := by decide +kernel
theorem nAF : ¬ (kA = kF) := by decide +kernel
theorem nDC : ¬ (kD = kC) := by decide +kernel
theorem nDA : ¬ (kD = kA) := by decide +kernel
theorem nDN : ¬ (kD = kN) := by decide +kernel
theorem nDF : ¬ (kD = kF) := by decide +kernel
theorem nNC : ¬ (kN = kC) := by decide +kernel
theorem nNA : ¬ (kN = kA) := by decide +kernel
theorem nND : ¬ (kN = kD) := by decide +kernel
theorem nNF : ¬ (kN = kF) := by decide +kernel
theorem nFC : ¬ (kF = kC) := by decide +kernel
theorem nFA : ¬ (kF = kA) := by decide +kernel
theorem nFD : ¬ (kF = kD) := by decide +kernel
theorem nFN : ¬ (kF = kN) := by decide +kernel
theorem vC (p : Pen) : valD p.kv kC = some (.lst (p.cells.map .int)) := by simp only [valD, Pen.kv, List.find?_cons, decide_true, Option.map_some]
theorem vA (p : Pen) : valD p.kv kA = some (.int p.at_) := by simp only [valD, Pen.kv, List.find?_cons, decide_true, nCA, decide_false, Option.map_some]
theorem vD (p : Pen) : valD p.kv kD = some (.int p.digits) := by simp only [valD, Pen.kv, List.find?_cons, decide_true, nCD, nAD, decide_false, Option.map_some]
theorem vN (p : Pen) : valD p.kv kN = some (.int p.count) := by simp only [valD, Pen.kv, List.find?_cons, decide_true, nCN, nAN, nDN, decide_false, Option.map_some]
theorem vF (p : Pen) : valD p.kv kF = some (.int p.fold) := by simp only [valD, Pen.kv, List.find?_cons, decide_true, nCF, nAF, nDF, nNF, decide_false, Option.map_some]
theorem pA (p : Pen) (i : Int) : putD p.kv kA (.int i) = ({ p with at_ := i } : Pen).kv := by
  simp only [putD, Pen.kv, List.any_cons, List.any_nil, decide_true, Bool.true_or, Bool.or_true, if_true, List.map_cons, List.map_nil, nCA, nDA, nNA, nFA, if_false]
theorem pDg (p : Pen) (i : Int) : putD p.kv kD (.int i) = ({ p with digits := i } : Pen).kv := by
  simp only [putD, Pen.kv, List.any_cons, List.any_nil, decide_true, Bool.true_or, Bool.or_true, if_true, List.map_cons, List.map_nil, nCD, nAD, nND, nFD, if_false]
theorem pN (p : Pen) (i : Int) : putD p.kv kN (.int i) = ({ p with count := i } : Pen).kv := by
  simp only [putD, Pen.kv, List.any_cons, List.any_nil, decide_true, Bool.true_or, Bool.or_true, if_true, List.map_cons, List.map_nil, nCN, nAN, nDN, nFN, if_false]
theorem pF (p : Pen) (i : Int) : putD p.kv kF (.int i) = ({ p with fold := i } : Pen).kv := by
  simp only [putD, Pen.kv, List.any_cons, List.any_nil, decide_true, Bool.true_or, Bool.or_true, if_true, List.map_cons, List.map_nil, nCF, nAF, nDF, nNF, if_false]
theorem gC (p : Pen) : gDGet [p.M] (.ref 0) (.str (Str.ofString "cells")) = some (.lst (p.cells.map .int)) := vC p
theorem gA (p : Pen) : gDGet [p.M] (.ref 0) (.str (Str.ofString "at")) = some (.int p.at_) := vA p
theorem gDg (p : Pen) : gDGet [p.M] (.ref 0) (.str (Str.ofString "digits")) = some (.int p.digits) := vD p
theorem gN (p : Pen) : gDGet [p.M] (.ref 0) (.str (Str.ofString "count")) = some (.int p.count) := vN p
theorem gF (p : Pen) : gDGet [p.M] (.ref 0) (.str (Str.ofString "fold")) = some (.int p.fold) := vF p
theorem len_kv (p : Pen) : p.kv.length = 5 := rfl
/-- a store to the pen, that stands in the i-th name -/
theorem put_pen {i : Nat} {x : Str} {fv : Dn} {ρ : Dl.Env} {p p' : Pen} {v : D} (hv : fv ρ [p.M] = .val v ρ [p.M]) (hi : ρ[i]? = some (.sh (.ref 0))) (hp : putD p.kv (.inr x) v = p'.kv) : sDPutD (dVar i) (dC (.str x)) fv ρ [p.M] = .nx ρ [p'.M] := by
  have e : dVar i ρ [p.M] = .val (.ref 0) ρ [p.M] := by simp [hi]
  have e2 : ([p.M] : Sto)[0]? = some (.dct p.kv) := rfl
  have e3 : p.kv.length < 16777216 := by rw [len_kv]; omega
  unfold sDPutD
  rw [hv, Res.bindS_val, e, Res.bindS_val, ev_c, Res.bindS_val]
  simp only [toK, e2, e3, if_true, hp]
  rfl
structure PenOk (n : Nat) (p : Pen) : Prop where
  a : 0 ≤ p.at_
  d : 0 ≤ p.digits
  c0 : 0 ≤ p.count
  c : p.count ≤ n
  f0 : 0 ≤ p.fold
  f : p.fold < 2147483563
abbrev dρ (many : Int) (a b c : Slot) : Dl.Env := [.sh (.ref 0), .sh (.int many), a, b, c]
theorem get_pen {g : Sto → D → D → Option D} {ρ : Dl.Env} {p : Pen} {x : Str} {v : D} (hi : ρ[0]? = some (.sh (.ref 0))) (h : g [p.M] (.ref 0) (.str x) = some v) : dOp2 g (dVar 0) (dC (.str x)) ρ [p.M] = .val v ρ [p.M] := by
  simp [hi, h]
theorem le64 {i : Int} (h0 : 0 ≤ i) (h1 : i < 18446744073709551616) : cPow i 19 = true := by
  have : i.natAbs < 18446744073709551616 := by omega
  unfold cPow
  simp only [show (2 : Nat) ^ 64 = 18446744073709551616 by decide, this]
  decide
theorem cmul_r {i j : Int} (h0 : 0 ≤ j) (h1 : j < 1000000) : cMul i j = true := by
  unfold cMul
  rw [Bool.or_eq_true]
  refine .inr ?_
  rw [Bool.and_eq_true, decide_eq_true_eq, decide_eq_true_eq]
  constructor <;> omega
theorem ten18 {ρ : Dl.Env} {W : Sto} : dOp2 (fun _ => gPow) (dC (.int 10)) (dC (.int 18)) ρ W = .val (.int 1000000000000000000) ρ W := by
  have h : cPow 10 18 = true := by decide
  have h2 : (10 : Int) ^ (18 : Int).toNat = 1000000000000000000 := by decide
  simp only [ev_op2, ev_c, Res.bind_val, gPow, g2, h, if_true, h2]
theorem ge_int (a b : Int) : gGe (.int a) (.int b) = some (.bl (decide (b ≤ a))) := rfl
theorem gt_int (a b : Int) : gGt (.int a) (.int b) = some (.bl (decide (b < a))) := rfl
theorem lt_int (a b : Int) : gLt (.int a) (.int b) = some (.bl (decide (a < b))) := rfl
theorem add_int (a b : Int) : gAdd (.int a) (.int b) = some (.int (a + b)) := by simp [gAdd, gAddI, g2]
theorem sub_int (a b : Int) : Dl.gSub (.int a) (.int b) = some (.int (a - b)) := by simp [Dl.gSub, g2]
theorem mod_int {a b : Int} (h : 0 < b) : gMod (.int a) (.int b) = some (.int (a % b)) := by simp [gMod, g2, h]
theorem fdiv_int {a b : Int} (h : 0 < b) (h2 : b < 1073741824) : gFdiv (.int a) (.int b) = some (.int (a / b)) := by simp [gFdiv, g2, cDiv, h, h2]
theorem mul_int {a b : Int} (h0 : 0 ≤ b) (h1 : b < 1000000) : gMulI (.int a) (.int b) = some (.int (a * b)) := by
  simp only [gMulI, g2, cmul_r h0 h1, if_true]
theorem int_int {W : Sto} (a : Int) : gInt W [.int a] = some (.int a) := rfl
section
variable {n : Nat} {p : Pen} {many : Int} {a b c : Slot}
theorem draw_1 (h : PenOk n p) : sDPutD (dVar 0) (dC (.str (Str.ofString "count"))) (dOp2 (fun _ => gAdd) (dOp2 gDGet (dVar 0) (dC (.str (Str.ofString "count")))) (dC (.int 1))) (dρ many a b c) [p.M] = .nx (dρ many a b c) [({ p with count := p.count + 1 } : Pen).M] := by
  refine put_pen (v := .int (p.count + 1)) ?_ rfl (pN p _)
  rw [ev_op2, get_pen rfl (gN p)]
  simp [add_int]
theorem draw_cell (h : PenOk n p) (hl : p.at_ < p.cells.length) : sAsg 2 (dOp2 (fun _ => gIx) (dOp2 gDGet (dVar 0) (dC (.str (Str.ofString "cells")))) (dOp2 gDGet (dVar 0) (dC (.str (Str.ofString "at"))))) (dρ many a b c) [p.M] = .nx (dρ many (.sh (.int (p.cells.getD p.at_.toNat 0))) b c) [p.M] := by
  have e : gIx (.lst (p.cells.map .int)) (.int p.at_) = some (.int (p.cells.getD p.at_.toNat 0)) := by
    have h1 : 0 ≤ p.at_ := h.a
    have h2 : p.at_.toNat < p.cells.length := by omega
    simp [gIx, atI, ixN, h1, hl, List.getD, h2]
  rw [ev_asg, ev_op2, get_pen rfl (gC p), Res.bind_val, get_pen rfl (gA p), Res.bind_val, e]
  rfl
theorem draw_at (h : PenOk n p) : sDPutD (dVar 0) (dC (.str (Str.ofString "at"))) (dOp2 (fun _ => gAdd) (dOp2 gDGet (dVar 0) (dC (.str (Str.ofString "at")))) (dC (.int 1))) (dρ many a b c) [p.M] = .nx (dρ many a b c) [({ p with at_ := p.at_ + 1 } : Pen).M] := by
  refine put_pen (v := .int (p.at_ + 1)) ?_ rfl (pA p _)
  rw [ev_op2, get_pen rfl (gA p)]
  simp [add_int]
theorem draw_2 (h : PenOk n p) : ∃ a' p', sIf (dAnd (dOp2 (fun _ => gEq) (dOp2 gDGet (dVar 0) (dC (.str (Str.ofString "digits")))) (dC (.int 0))) (dOp2 (fun _ => gLt) (dOp2 gDGet (dVar 0) (dC (.str (Str.ofString "at")))) (dBi gLenS (dCons (dOp2 gDGet (dVar 0) (dC (.str (Str.ofString "cells")))) dNil)))) (sSeq (sAsg 2 (dOp2 (fun _ => gIx) (dOp2 gDGet (dVar 0) (dC (.str (Str.ofString "cells")))) (dOp2 gDGet (dVar 0) (dC (.str (Str.ofString "at"))))))
    (sSeq (sDPutD (dVar 0) (dC (.str (Str.ofString "at"))) (dOp2 (fun _ => gAdd) (dOp2 gDGet (dVar 0) (dC (.str (Str.ofString "at")))) (dC (.int 1))))
    (sIf (dOp2 (fun _ => gGe) (dVar 2) (dOp2 (fun _ => gPow) (dC (.int 10)) (dC (.int 18)))) (sDPutD (dVar 0) (dC (.str (Str.ofString "digits"))) (dOp2 (fun _ => Dl.gSub) (dVar 2) (dOp2 (fun _ => gPow) (dC (.int 10)) (dC (.int 18))))) (sDPutD (dVar 0) (dC (.str (Str.ofString "fold"))) (dOp2 (fun _ => gMod) (dBi gInt (dCons (dOp2 (fun _ => gAdd) (dOp2 (fun _ => gMulI) (dOp2 gDGet (dVar 0) (dC (.str (Str.ofString "fold")))) (dC (.int 48271))) (dVar 2)) dNil)) (dC (.int 2147483563))))))) sNil (dρ many a b c) [p.M] = .nx (dρ many a' b c) [Pen.M p'] ∧ PenOk n p' := by
  have e1 : dAnd (dOp2 (fun _ => gEq) (dOp2 gDGet (dVar 0) (dC (.str (Str.ofString "digits")))) (dC (.int 0))) (dOp2 (fun _ => gLt) (dOp2 gDGet (dVar 0) (dC (.str (Str.ofString "at")))) (dBi gLenS (dCons (dOp2 gDGet (dVar 0) (dC (.str (Str.ofString "cells")))) dNil))) (dρ many a b c) [p.M] = .val (.bl (decide (p.digits = 0) && decide (p.at_ < p.cells.length))) (dρ many a b c) [p.M] := by
    rw [ev_and, ev_op2, get_pen rfl (gDg p), Res.bind_val, ev_c, Res.bind_val, eq_int]
    dsimp only
    rw [Res.bind_val]
    by_cases q : p.digits = 0
    · simp only [q, decide_true, tru_bl, Bool.true_and]
      rw [ev_op2, get_pen rfl (gA p), Res.bind_val, ev_bi, ev_cons', get_pen rfl (gC p)]
      simp [gLenS, lt_int]
    · simp [q]
  rw [ev_sif, e1, Res.bindS_val, tru_bl]
  by_cases q : p.digits = 0 ∧ p.at_ < p.cells.length
  · have q' : (decide (p.digits = 0) && decide (p.at_ < p.cells.length)) = true := by simp [q]
    rw [q']
    dsimp only
    rw [ev_seq, draw_cell h q.2]
    dsimp only
    rw [ev_seq, draw_at h]
    dsimp only
    generalize p.cells.getD p.at_.toNat 0 = x
    by_cases r : (1000000000000000000 : Int) ≤ x
    · refine ⟨.sh (.int (x)), { p with at_ := p.at_ + 1, digits := x - 1000000000000000000 }, ?_, ⟨by have := h.a; show 0 ≤ p.at_ + 1; omega, by show (0 : Int) ≤ x - 1000000000000000000; omega, h.c0, h.c, h.f0, h.f⟩⟩
      have e2 : dOp2 (fun _ => gGe) (dVar 2) (dOp2 (fun _ => gPow) (dC (.int 10)) (dC (.int 18))) (dρ many (.sh (.int (x))) b c) [({ p with at_ := p.at_ + 1 } : Pen).M] = .val (.bl true) (dρ many (.sh (.int (x))) b c) [({ p with at_ := p.at_ + 1 } : Pen).M] := by
        rw [ev_op2, ev_var]
        show (Res.val _ _ _).bind _ = _
        rw [Res.bind_val, ten18, Res.bind_val, ge_int, decide_eq_true r]
      rw [ev_sif, e2, Res.bindS_val, tru_bl]
      refine put_pen (v := .int (x - 1000000000000000000)) ?_ rfl (pDg _ _)
      rw [ev_op2, ev_var]
      show (Res.val _ _ _).bind _ = _
      rw [Res.bind_val, ten18, Res.bind_val, sub_int]
    · refine ⟨.sh (.int (x)), { p with at_ := p.at_ + 1, fold := (p.fold * 48271 + x) % 2147483563 }, ?_, ⟨by have := h.a; show 0 ≤ p.at_ + 1; omega, h.d, h.c0, h.c, Int.emod_nonneg _ (by decide), Int.emod_lt_of_pos _ (by decide)⟩⟩
      have e2 : dOp2 (fun _ => gGe) (dVar 2) (dOp2 (fun _ => gPow) (dC (.int 10)) (dC (.int 18))) (dρ many (.sh (.int (x))) b c) [({ p with at_ := p.at_ + 1 } : Pen).M] = .val (.bl false) (dρ many (.sh (.int (x))) b c) [({ p with at_ := p.at_ + 1 } : Pen).M] := by
        rw [ev_op2, ev_var]
        show (Res.val _ _ _).bind _ = _
        rw [Res.bind_val, ten18, Res.bind_val, ge_int, decide_eq_false r]
      rw [ev_sif, e2, Res.bindS_val, tru_bl]
      refine put_pen (v := .int ((p.fold * 48271 + x) % 2147483563)) ?_ rfl (pF _ _)
      have e3 : dOp2 gDGet (dVar 0) (dC (.str (Str.ofString "fold"))) (dρ many (.sh (.int (x))) b c) [({ p with at_ := p.at_ + 1 } : Pen).M] = .val (.int p.fold) (dρ many (.sh (.int (x))) b c) [({ p with at_ := p.at_ + 1 } : Pen).M] := get_pen rfl (gF _)
      generalize dOp2 gDGet (dVar 0) (dC (.str (Str.ofString "fold"))) = A at e3 ⊢
      simp [e3, mul_int (a := p.fold) (b := 48271) (by decide) (by decide), add_int, int_int, mod_int (b := 2147483563) (by decide)]
  · have q' : (decide (p.digits = 0) && decide (p.at_ < p.cells.length)) = false := by
      rw [Bool.and_eq_false_iff]
      by_cases q1 : p.digits = 0
      · exact .inr (by simp; have := fun z => q ⟨q1, z⟩; omega)
      · exact .inl (by simp [q1])
    rw [q']
    exact ⟨a, p, rfl, h⟩
theorem PenOk.up {k : Nat} {p : Pen} (h : PenOk n p) (hk : n ≤ k) : PenOk k p := ⟨h.a, h.d, h.c0, by have := h.c; omega, h.f0, h.f⟩
theorem var_1 {W : Sto} : dVar 1 (dρ many a b c) W = .val (.int many) (dρ many a b c) W := by simp
theorem draw_3 (h : PenOk n p) (hm : 0 < many) (hm2 : many < 1073741824) (hd : 0 < p.digits) : ∃ r p' ρ, (sSeq (sAsg 3 (dOp2 (fun _ => gMod) (dBi gInt (dCons (dOp2 gDGet (dVar 0) (dC (.str (Str.ofString "digits")))) dNil)) (dVar 1)))
    (sSeq (sDPutD (dVar 0) (dC (.str (Str.ofString "digits"))) (dOp2 (fun _ => gFdiv) (dOp2 gDGet (dVar 0) (dC (.str (Str.ofString "digits")))) (dVar 1)))
    (sRet (dVar 3)))) (dρ many a b c) [p.M] = .rt (.int r) ρ [Pen.M p'] ∧ 0 ≤ r ∧ r < many ∧ PenOk n p' := by
  have x1 : sAsg 3 (dOp2 (fun _ => gMod) (dBi gInt (dCons (dOp2 gDGet (dVar 0) (dC (.str (Str.ofString "digits")))) dNil)) (dVar 1)) (dρ many a b c) [p.M] = .nx (dρ many a (.sh (.int (p.digits % many))) c) [p.M] := by
    have e3 : dOp2 gDGet (dVar 0) (dC (.str (Str.ofString "digits"))) (dρ many a b c) [p.M] = .val (.int p.digits) (dρ many a b c) [p.M] := get_pen rfl (gDg p)
    generalize dOp2 gDGet (dVar 0) (dC (.str (Str.ofString "digits"))) = A at e3 ⊢
    simp [e3, int_int, mod_int hm]
  have x2 : sDPutD (dVar 0) (dC (.str (Str.ofString "digits"))) (dOp2 (fun _ => gFdiv) (dOp2 gDGet (dVar 0) (dC (.str (Str.ofString "digits")))) (dVar 1)) (dρ many a (.sh (.int (p.digits % many))) c) [p.M] = .nx (dρ many a (.sh (.int (p.digits % many))) c) [({ p with digits := p.digits / many } : Pen).M] := by
    refine put_pen (v := .int (p.digits / many)) ?_ rfl (pDg _ _)
    have e3 : dOp2 gDGet (dVar 0) (dC (.str (Str.ofString "digits"))) (dρ many a (.sh (.int (p.digits % many))) c) [p.M] = .val (.int p.digits) (dρ many a (.sh (.int (p.digits % many))) c) [p.M] := get_pen rfl (gDg p)
    generalize dOp2 gDGet (dVar 0) (dC (.str (Str.ofString "digits"))) = A at e3 ⊢
    simp [e3, fdiv_int hm hm2]
  refine ⟨p.digits % many, { p with digits := p.digits / many }, dρ many a (.sh (.int (p.digits % many))) c, ?_, Int.emod_nonneg _ (by omega), Int.emod_lt_of_pos _ hm, ⟨h.a, Int.ediv_nonneg h.d (by omega), h.c0, h.c, h.f0, h.f⟩⟩
  rw [ev_seq, x1]
  dsimp only
  rw [ev_seq, x2]
  dsimp only
  simp
theorem draw_4 (h : PenOk n p) (hn : n ≤ 1000000000) (hm : 0 < many) (hm2 : many < 1073741824) : ∃ r ρ, (sSeq (sAsg 4 (dOp2 (fun _ => gAdd) (dOp2 (fun _ => gAdd) (dOp2 gDGet (dVar 0) (dC (.str (Str.ofString "fold")))) (dOp2 (fun _ => gMulI) (dOp2 gDGet (dVar 0) (dC (.str (Str.ofString "count")))) (dC (.int 8513)))) (dC (.int 61))))
    (sRet (dOp2 (fun _ => gMod) (dOp2 (fun _ => gFdiv) (dBi gInt (dCons (dOp2 (fun _ => gMod) (dOp2 (fun _ => gPow) (dVar 4) (dC (.int 19))) (dC (.int 2305843009213693951))) dNil)) (dC (.int 256))) (dVar 1)))) (dρ many a b c) [p.M] = .rt (.int r) ρ [p.M] ∧ 0 ≤ r ∧ r < many := by
  have x1 : sAsg 4 (dOp2 (fun _ => gAdd) (dOp2 (fun _ => gAdd) (dOp2 gDGet (dVar 0) (dC (.str (Str.ofString "fold")))) (dOp2 (fun _ => gMulI) (dOp2 gDGet (dVar 0) (dC (.str (Str.ofString "count")))) (dC (.int 8513)))) (dC (.int 61))) (dρ many a b c) [p.M] = .nx (dρ many a b (.sh (.int (p.fold + p.count * 8513 + 61)))) [p.M] := by
    have e3 : dOp2 gDGet (dVar 0) (dC (.str (Str.ofString "fold"))) (dρ many a b c) [p.M] = .val (.int p.fold) (dρ many a b c) [p.M] := get_pen rfl (gF p)
    have e4 : dOp2 gDGet (dVar 0) (dC (.str (Str.ofString "count"))) (dρ many a b c) [p.M] = .val (.int p.count) (dρ many a b c) [p.M] := get_pen rfl (gN p)
    generalize dOp2 gDGet (dVar 0) (dC (.str (Str.ofString "fold"))) = A at e3 ⊢
    generalize dOp2 gDGet (dVar 0) (dC (.str (Str.ofString "count"))) = B at e4 ⊢
    simp [e3, e4, mul_int (a := p.count) (b := 8513) (by decide) (by decide), add_int]
  have hp : cPow (p.fold + p.count * 8513 + 61) 19 = true := le64 (by have := h.f0; have := h.c0; omega) (by have := h.f; have := h.c; omega)
  rw [ev_seq, x1]
  dsimp only
  generalize p.fold + p.count * 8513 + 61 = y at hp ⊢
  refine ⟨y ^ 19 % 2305843009213693951 / 256 % many, dρ many a b (.sh (.int y)), ?_, Int.emod_nonneg _ (by omega), Int.emod_lt_of_pos _ hm⟩
  have e5 : gPow (.int y) (.int 19) = some (.int (y ^ 19)) := by
    have : (19 : Int).toNat = 19 := rfl
    simp only [gPow, g2, hp, if_true, this]
  rw [ev_ret]
  generalize hz : y ^ 19 = z at e5 ⊢
  simp [e5, mod_int (a := z) (b := 2305843009213693951) (by decide), int_int, fdiv_int (b := 256) (by decide) (by decide), mod_int hm]
theorem drawA (h : PenOk n p) (hn : n < 1000000000) (hm : 0 < many) (hm2 : many < 1073741824) : ∃ r p' ρ, b__law_draw (Dl.envOf 5 [.ref 0, .int many]) [p.M] = .rt (.int r) ρ [Pen.M p'] ∧ 0 ≤ r ∧ r < many ∧ PenOk (n + 1) p' := by
  have e0 : Dl.envOf 5 [.ref 0, .int many] = dρ many .no .no .no := rfl
  have h1 : PenOk (n + 1) ({ p with count := p.count + 1 } : Pen) := ⟨h.a, h.d, by have := h.c0; show 0 ≤ p.count + 1; omega, by have := h.c; show p.count + 1 ≤ ((n + 1 : Nat) : Int); omega, h.f0, h.f⟩
  obtain ⟨a', p1, e2, h2⟩ := draw_2 (many := many) (a := .no) (b := .no) (c := .no) h1
  rw [e0]
  unfold b__law_draw
  rw [ev_seq, draw_1 h]
  dsimp only
  rw [ev_seq, e2]
  dsimp only
  rw [ev_seq, ev_sif, ev_op2, get_pen rfl (gDg p1), Res.bind_val, ev_c, Res.bind_val, gt_int]
  dsimp only
  rw [Res.bindS_val, tru_bl]
  by_cases q : 0 < p1.digits
  · obtain ⟨r, p', ρ, e3, h3, h4, h5⟩ := draw_3 (many := many) (a := a') (b := .no) (c := .no) h2 hm hm2 q
    rw [decide_eq_true q]
    dsimp only
    rw [e3]
    exact ⟨r, p', ρ, rfl, h3, h4, h5⟩
  · obtain ⟨r, ρ, e3, h3, h4⟩ := draw_4 (many := many) (a := a') (b := .no) (c := .no) h2 (by omega) hm hm2
    rw [decide_eq_false q]
    dsimp only
    rw [ev_snil]
    dsimp only
    exact ⟨r, p1, ρ, e3, h3, h4, h2⟩
theorem draw (h : PenOk n p) (hn : n < 1000000000) (hm : 0 < many) (hm2 : many < 1073741824) : ∃ r p', c__law_draw [.ref 0, .int many] [p.M] = .val (.int r) [Pen.M p'] ∧ 0 ≤ r ∧ r < many ∧ PenOk (n + 1) p' := by
  obtain ⟨r, p', ρ, e, h1, h2, h3⟩ := drawA h hn hm hm2
  exact ⟨r, p', run_rt e, h1, h2, h3⟩
end
end P82

set_option Elab.async false
set_option linter.all false
set_option maxRecDepth 100000
set_option maxHeartbeats 4000000
namespace P82
open PySem PySem.Spec PyProof.Rows L2 Dl
section
variable {n : Nat} {p : Pen}
theorem pick (h : PenOk n p) (hn : n < 1000000000) {xs : List D} (hx : xs ≠ []) (hl : xs.length < 1000000) : ∃ x p', c__law_pick [.ref 0, .lst xs] [p.M] = .val x [Pen.M p'] ∧ x ∈ xs ∧ PenOk (n + 1) p' := by
  have hpos : 0 < xs.length := by cases xs with | nil => exact absurd rfl hx | cons _ _ => simp
  obtain ⟨r, p', e, h0, h1, h2⟩ := draw (many := (xs.length : Int)) h hn (by omega) (by omega)
  obtain ⟨i, rfl⟩ := Int.eq_ofNat_of_zero_le h0
  have hi : i < xs.length := by omega
  have e2 : gIx (.lst xs) (.int (i : Nat)) = some xs[i] := by
    have h3 : ¬ ((i : Int) < 0) := by omega
    simp [gIx, atI, ixN, hi]
  refine ⟨xs[i], p', ?_, List.getElem_mem hi, h2⟩
  refine run_rt (ρ := [.sh (.ref 0), .sh (.lst xs)]) ?_
  have e0 : Dl.envOf 2 [.ref 0, .lst xs] = [.sh (.ref 0), .sh (.lst xs)] := rfl
  rw [e0]
  unfold b__law_pick
  simp [gLenS, e, e2]
abbrev sρ (v : D) (rem fnd : List D) (a : Slot) : Dl.Env := [.sh (.ref 0), .sh v, .owl rem, .owl fnd, a]
theorem erase_perm {α : Type} : ∀ {l : List α} {i : Nat} (h : i < l.length), (l[i] :: l.eraseIdx i).Perm l
  | a :: l, 0, _ => .refl _
  | a :: l, i + 1, h => by
    have h2 : i < l.length := by simpa using h
    have ih := erase_perm h2
    simp only [List.getElem_cons_succ, List.eraseIdx_cons_succ]
    exact (List.Perm.swap a l[i] (l.eraseIdx i)).trans (ih.cons a)
theorem ev_mth {i : Nat} {g : List D → List D → Option (D × List D)} {fA : DnA} {ρ ρ1 : Dl.Env} {W W1 : Sto} {xs0 xs ds ys : List D} {z : D} (h0 : ρ[i]? = some (.owl xs0)) (h1 : fA ρ W = .val ds ρ1 W1) (h2 : ρ1[i]? = some (.owl xs)) (h3 : g xs ds = some (z, ys)) :
    dMth i g fA ρ W = .val z (ρ1.set i (.owl ys)) W1 := by
  unfold dMth
  rw [h0]
  dsimp only
  rw [h1, ResA.bind_val]
  rw [h2]
  dsimp only
  rw [h3]
theorem pop_eq' {xs : List D} {i : Nat} (hi : i < xs.length) (hl : xs.length < 1000000) : gPopAt xs [.int (i : Nat)] = some (xs[i], xs.eraseIdx i) := by
  unfold gPopAt
  dsimp only
  rw [if_pos (by omega), Int.toNat_natCast, List.getElem?_eq_getElem hi]
  rfl
theorem app_eq' {xs : List D} {d : D} (hl : xs.length < 1000000) : gAppend xs [d] = some (.non, xs ++ [d]) := by
  unfold gAppend
  dsimp only
  rw [if_pos (by omega)]
theorem shuf_1 (h : PenOk n p) (hn : n < 1000000000) (v : D) {rem fnd : List D} {a : Slot} (hr : rem ≠ []) (hl : rem.length < 1000000) (hf : fnd.length < 1000000) : ∃ x rem' p', L1__law_shuffled (sρ v rem fnd a) [p.M] = .nx (sρ v rem' (fnd ++ [x]) a) [Pen.M p'] ∧ (x :: rem').Perm rem ∧ PenOk (n + 1) p' := by
  have hpos : 0 < rem.length := by cases rem with | nil => exact absurd rfl hr | cons _ _ => simp
  obtain ⟨r, p', e, h0, h1, h2⟩ := draw (many := (rem.length : Int)) h hn (by omega) (by omega)
  obtain ⟨i, rfl⟩ := Int.eq_ofNat_of_zero_le h0
  have hi : i < rem.length := by omega
  have e0 : dCons (dCall 2 c__law_draw (dCons (dVar 0) (dCons (dLenV 2) dNil))) dNil (sρ v rem fnd a) [p.M] = .val [.int (i : Nat)] (sρ v rem fnd a) [Pen.M p'] := by
    have : dLenV 2 (sρ v rem fnd a) [p.M] = .val (.int rem.length) (sρ v rem fnd a) [p.M] := by
      unfold dLenV
      rfl
    generalize dLenV 2 = A at this ⊢
    simp [this, e]
  have e1 := ev_mth (i := 2) (g := gPopAt) (xs0 := rem) (xs := rem) rfl e0 rfl (pop_eq' hi hl)
  refine ⟨rem[i], rem.eraseIdx i, p', ?_, erase_perm hi, h2⟩
  have e2 : dCons (dMth 2 gPopAt (dCons (dCall 2 c__law_draw (dCons (dVar 0) (dCons (dLenV 2) dNil))) dNil)) dNil (sρ v rem fnd a) [p.M] = .val [rem[i]] (sρ v (rem.eraseIdx i) fnd a) [Pen.M p'] := ev_cons e1 (ev_nil _ _)
  have e3 := ev_mth (i := 3) (g := gAppend) (xs0 := fnd) (xs := fnd) rfl e2 rfl (app_eq' hf)
  unfold L1__law_shuffled
  rw [ev_expr, e3]
  rfl
theorem shuf_2 (hn : n + 1000000 < 1000000000) (v : D) {xs : List D} (hx : xs.length < 1000000) (h : PenOk n p) {ds : List D} (hds : ds.length = xs.length) : ∃ ρ2 W2, forL (bName 4) L1__law_shuffled ds (sρ v xs [] .no) [p.M] = .nx ρ2 W2 ∧ ∃ ys a p', ρ2 = sρ v [] ys a ∧ W2 = [Pen.M p'] ∧ ys.Perm xs ∧ PenOk (n + xs.length) p' := by
  obtain ⟨ρ2, W2, h1, h2⟩ := forL_inv (bn := bName 4) (fb := L1__law_shuffled) (ds := ds) (fun k ρ W => ∃ rem fnd a p', ρ = sρ v rem fnd a ∧ W = [Pen.M p'] ∧ (fnd ++ rem).Perm xs ∧ fnd.length = k ∧ PenOk (n + k) p') 0 (sρ v xs [] .no) [p.M] ⟨xs, [], .no, p, rfl, rfl, .refl _, rfl, h⟩ (by
    rintro i d ρ W hi ⟨rem, fnd, a, p', rfl, rfl, hp, hk, hok⟩
    have hil : i < ds.length := (List.getElem?_eq_some_iff.mp hi).1
    have hlen := hp.length_eq
    rw [List.length_append] at hlen
    have hrem : rem ≠ [] := fun z => by rw [z] at hlen; simp at hlen; omega
    obtain ⟨x, rem', p2, e, hp2, hok2⟩ := shuf_1 (n := n + (0 + i)) hok (by omega) v (rem := rem) (fnd := fnd) (a := .sh d) hrem (by omega) (by omega)
    refine ⟨sρ v rem fnd (.sh d), _, _, rfl, .inl e, rem', fnd ++ [x], .sh d, p2, rfl, rfl, ?_, by simp [hk], hok2⟩
    rw [List.append_assoc]
    exact (List.Perm.append_left fnd hp2).trans hp)
  obtain ⟨rem, fnd, a, p', rfl, rfl, hp, hk, hok⟩ := h2
  refine ⟨_, _, h1, fnd, a, p', ?_, rfl, ?_, ?_⟩
  · have hlen := hp.length_eq
    rw [List.length_append] at hlen
    have : rem = [] := List.length_eq_zero_iff.mp (by omega)
    rw [this]
  · have hlen := hp.length_eq
    rw [List.length_append] at hlen
    have : rem = [] := List.length_eq_zero_iff.mp (by omega)
    rw [this, List.append_nil] at hp
    exact hp
  · rw [hds] at hok
    simpa using hok
theorem shuffledA (hn : n + 1000000 < 1000000000) {v : D} {xs : List D} (hv : v = .lst xs ∨ v = .tup xs) (hx : xs.length ≤ 1000) (h : PenOk n p) : ∃ ys p' ρ, b__law_shuffled (Dl.envOf 5 [.ref 0, v]) [p.M] = .rt (.lst ys) ρ [Pen.M p'] ∧ ys.Perm xs ∧ PenOk (n + xs.length) p' := by
  have e0 : Dl.envOf 5 [.ref 0, v] = [.sh (.ref 0), .sh v, .no, .no, .no] := rfl
  have x1 : sPar [2, 3] [(true, dBi gListOf (dCons (dVar 1) dNil)), (true, dBi gLst dNil)] [.sh (.ref 0), .sh v, .no, .no, .no] [p.M] = .nx (sρ v xs [] .no) [p.M] := by
    rcases hv with rfl | rfl <;> simp [sPar, parL, dHid, hide, gListOf, gLst, setSl]
  have x2 : iRg1 (dCons (dBi gLenS (dCons (dVar 1) dNil)) dNil) (sρ v xs [] .no) [p.M] = .val (rgD 0 xs.length) (sρ v xs [] .no) [p.M] := by
    have h4 := cRg_small hx
    rcases hv with rfl | rfl <;> simp [iRg1, gLenS, h4]
  obtain ⟨ρ2, W2, e3, ys, a, p', rfl, rfl, hp, hok⟩ := shuf_2 (n := n) hn v (xs := xs) (by omega) h (ds := rgD 0 xs.length) (rgD_length _ _)
  refine ⟨ys, p', (sρ v [] ys a).set 3 (.sh (.lst ys)), ?_, hp, hok⟩
  rw [e0]
  unfold b__law_shuffled
  rw [ev_seq, x1]
  dsimp only
  rw [ev_seq, ev_for, x2]
  dsimp only
  rw [e3]
  dsimp only
  rw [ev_ret, ev_varF]
  rfl
theorem shuffled (hn : n + 1000000 < 1000000000) {v : D} {xs : List D} (hv : v = .lst xs ∨ v = .tup xs) (hx : xs.length ≤ 1000) (h : PenOk n p) : ∃ ys p', c__law_shuffled [.ref 0, v] [p.M] = .val (.lst ys) [Pen.M p'] ∧ ys.Perm xs ∧ PenOk (n + xs.length) p' := by
  obtain ⟨ys, p', ρ, e, h1, h2⟩ := shuffledA hn hv hx h
  exact ⟨ys, p', run_rt e, h1, h2⟩
end
end P82

set_option Elab.async false
set_option linter.all false
set_option maxRecDepth 100000
set_option maxHeartbeats 4000000
namespace P82
open PySem PySem.Spec PyProof.Rows L2 Dl
section
variable {n : Nat} {p : Pen} {W : Sto}
/-! ### cutting and joining tuples -/
theorem sl_to {xs : List D} {i : Nat} (h : i ≤ xs.length) : gSl (.tup xs) none (some (i : Int)) = some (.tup (xs.take i)) := by
  simp only [gSl, Dl.cutD, HT.sIx_none, HT.sIx_nat]
  rw [Nat.min_eq_left h, List.drop_zero, Nat.sub_zero]
theorem sl_from {xs : List D} {i : Nat} (h : i ≤ xs.length) : gSl (.tup xs) (some (i : Int)) none = some (.tup (xs.drop i)) := by
  simp only [gSl, Dl.cutD, HT.sIx_none, HT.sIx_nat]
  rw [Nat.min_eq_left h, List.take_of_length_le (by simp)]
theorem sl_from' {xs : List D} {i : Nat} : gSl (.tup xs) (some (i : Int)) none = some (.tup (xs.drop i)) := by
  by_cases h : i ≤ xs.length
  · exact sl_from h
  · simp only [gSl, Dl.cutD, HT.sIx_none, HT.sIx_nat]
    rw [Nat.min_eq_right (by omega), List.drop_of_length_le (Nat.le_refl _), List.drop_of_length_le (l := xs) (i := i) (by omega)]
    simp
theorem sl_to' {xs : List D} {i : Nat} : gSl (.tup xs) none (some (i : Int)) = some (.tup (xs.take i)) := by
  by_cases h : i ≤ xs.length
  · exact sl_to h
  · simp only [gSl, Dl.cutD, HT.sIx_none, HT.sIx_nat]
    rw [Nat.min_eq_right (by omega), List.drop_zero, Nat.sub_zero, List.take_of_length_le (Nat.le_refl _), List.take_of_length_le (l := xs) (i := i) (by omega)]
theorem add_tup {a b : List D} (h : a.length + b.length ≤ 1000) : gAdd (.tup a) (.tup b) = some (.tup (a ++ b)) := by
  have h2 : a.length + b.length ≤ 16777216 := by omega
  simp only [gAdd, gAddI, g2, gAddT, h2, if_true]
  rfl
theorem tup_lit {ds : List D} (h : ds.length ≤ 1000) : gTup W ds = some (.tup ds) := by
  unfold Dl.gTup
  rw [if_pos (by omega)]
theorem lst_lit {ds : List D} (h : ds.length ≤ 1000) : gLst W ds = some (.lst ds) := by
  unfold Dl.gLst
  rw [if_pos (by omega)]
theorem ev_sl {f l h : Dn} {ρ : Dl.Env} {d dl dh z : D} {lo hi : Option Int} (h1 : f ρ W = .val d ρ W) (h2 : l ρ W = .val dl ρ W) (h3 : oI dl = some lo) (h4 : h ρ W = .val dh ρ W) (h5 : oI dh = some hi) (h6 : gSl d lo hi = some z) : dSl f l h ρ W = .val z ρ W := by
  unfold dSl
  rw [h1, Res.bind_val, h2, Res.bind_val, h3]
  dsimp only
  rw [h4, Res.bind_val, h5]
  dsimp only
  rw [h6]
theorem ev_part {f : Dn} {ρ : Dl.Env} {i : Int} (h : f ρ W = .val (.int i) ρ W) : dPart f ρ W = .val (.int i) ρ W := by
  unfold dPart
  rw [h, Res.bind_val]
theorem ev_add {f g : Dn} {ρ : Dl.Env} {a b z : D} (h1 : f ρ W = .val a ρ W) (h2 : g ρ W = .val b ρ W) (h3 : gAdd a b = some z) : dOp2 (fun _ => gAdd) f g ρ W = .val z ρ W := by
  rw [ev_op2, h1, Res.bind_val, h2, Res.bind_val, h3]
theorem ev_tup1 {f : Dn} {ρ : Dl.Env} {a : D} (h1 : f ρ W = .val a ρ W) : dBi gTup (dCons f dNil) ρ W = .val (.tup [a]) ρ W := by
  rw [ev_bi, ev_cons h1 (ev_nil _ _), ResA.bind_val, tup_lit (by simp)]

/-! ### a panel in a loose form -/
theorem loose {P : List (List Int)} (h : PenOk n p) (hn : n < 1000000000) (hP : P.length ≤ 8) : ∃ a b p', c__law_loose_panel [.ref 0, pD P] [p.M] = .val (lp a b P) [Pen.M p'] ∧ PenOk (n + 1) p' := by
  obtain ⟨x, p', e, hx, hok⟩ := pick h hn (xs := [lp false false P, lp true true P, lp true false P]) (by simp) (by simp)
  have e0 : Dl.envOf 3 [.ref 0, pD P] = [.sh (.ref 0), .sh (pD P), .no] := rfl
  have hp : pD P = lp false false P := rfl
  have x1 : dLc [2] (iItems (dVar 1)) (bName 2) (dC (.bl true)) E1__law_loose_panel [.sh (.ref 0), .sh (pD P), .no] [p.M] = .val (lp true true P) [.sh (.ref 0), .sh (pD P), .no] [p.M] := by
    have := lc_val (vs := [2]) (fi := iItems (dVar 1)) (bn := bName 2) (fe := E1__law_loose_panel) (ρ := [.sh (.ref 0), .sh (pD P), .no]) (ρ0 := [.sh (.ref 0), .sh (pD P), .no]) (W := [p.M]) (ds := P.map iT) (f := fun d => (gListOf [] [d]).getD .non) (by simp [pD]) (by simp; omega) fun d hd => by
      obtain ⟨od, hod, rfl⟩ := List.mem_map.mp hd
      refine ⟨_, [.sh (.ref 0), .sh (pD P), .sh (iT od)], rfl, ?_⟩
      have hb : (blkE [.sh (.ref 0), .sh (pD P), .no] [2]).set 2 (.sh (iT od)) = [.sh (.ref 0), .sh (pD P), .sh (iT od)] := rfl
      rw [hb]
      simp [E1__law_loose_panel, iT, gListOf]
    rw [this]
    congr 2
    rw [List.map_map]
    exact List.map_congr_left fun od _ => rfl
  have x2 : dBi gListOf (dCons (dVar 1) dNil) [.sh (.ref 0), .sh (pD P), .no] [p.M] = .val (lp true false P) [.sh (.ref 0), .sh (pD P), .no] [p.M] := by
    simp [pD, gListOf, lp]
    exact fun _ _ => rfl
  have x3 : dBi gLst (dCons (dVar 1) (dCons (dLc [2] (iItems (dVar 1)) (bName 2) (dC (.bl true)) E1__law_loose_panel) (dCons (dBi gListOf (dCons (dVar 1) dNil)) dNil))) [.sh (.ref 0), .sh (pD P), .no] [p.M] = .val (.lst [lp false false P, lp true true P, lp true false P]) [.sh (.ref 0), .sh (pD P), .no] [p.M] := by
    have hv : dVar 1 [.sh (.ref 0), .sh (pD P), .no] [p.M] = .val (lp false false P) [.sh (.ref 0), .sh (pD P), .no] [p.M] := by simp [hp]
    rw [ev_bi, ev_cons hv (ev_cons x1 (ev_cons x2 (ev_nil _ _))), ResA.bind_val, lst_lit (by simp)]
  have hrun : c__law_loose_panel [.ref 0, pD P] [p.M] = .val x [Pen.M p'] := by
    refine run_rt (ρ := [.sh (.ref 0), .sh (pD P), .no]) ?_
    rw [e0]
    unfold b__law_loose_panel
    generalize dBi gLst (dCons (dVar 1) (dCons (dLc [2] (iItems (dVar 1)) (bName 2) (dC (.bl true)) E1__law_loose_panel) (dCons (dBi gListOf (dCons (dVar 1) dNil)) dNil))) = A at x3 ⊢
    simp [x3, e]
  simp only [List.mem_cons, List.not_mem_nil, or_false] at hx
  rcases hx with rfl | rfl | rfl
  · exact ⟨false, false, p', hrun, hok⟩
  · exact ⟨true, true, p', hrun, hok⟩
  · exact ⟨true, false, p', hrun, hok⟩
end
end P82

set_option Elab.async false
set_option linter.all false
set_option maxRecDepth 100000
set_option maxHeartbeats 4000000
namespace P82
open PySem PySem.Spec PyProof.Rows L2 Dl
/-- a value of the law's own hand: plain, no long thing at its top -/
structure Hv (x : D) : Prop where
  pv : pv 3 x = true
  ln : ∀ xs, (x = .tup xs ∨ x = .lst xs) → xs.length ≤ 40
theorem Hv.tup {xs : List D} (h : ∀ x ∈ xs, P82.pv 2 x = true) (l : xs.length ≤ 40) : Hv (.tup xs) :=
  ⟨by simp only [P82.pv, Bool.and_eq_true, decide_eq_true_eq, List.all_eq_true]; exact ⟨by omega, h⟩, fun ys e => by rcases e with e | e <;> cases e; exact l⟩
theorem Hv.lst {xs : List D} (h : ∀ x ∈ xs, P82.pv 2 x = true) (l : xs.length ≤ 40) : Hv (.lst xs) :=
  ⟨by simp only [P82.pv, Bool.and_eq_true, decide_eq_true_eq, List.all_eq_true]; exact ⟨by omega, h⟩, fun ys e => by rcases e with e | e <;> cases e; exact l⟩
theorem Hv.non : Hv .non := ⟨by simp [P82.pv], fun ys e => by rcases e with e | e <;> cases e⟩
theorem Hv.int (i : Int) : Hv (.int i) := ⟨by simp [P82.pv], fun ys e => by rcases e with e | e <;> cases e⟩
section
variable {n : Nat} {p : Pen} {W : Sto}
abbrev bρ (xs : List D) (m : Int) (a o : Slot) : Dl.Env := [.sh (.ref 0), .sh (.tup xs), .sh (.int m), a, o]
theorem bent_list {xs : List D} {m : Int} {i : Nat} {o : D} (hl : xs.length ≤ 10) (hi : i ≤ xs.length) :
    dBi Dl.gLst (dCons (dOp2 (fun _ => gAdd) (dOp2 (fun _ => gAdd) (dSl (dVar 1) (dC .non) (dPart (dVar 3))) (dBi Dl.gTup (dCons (dVar 4) dNil))) (dSl (dVar 1) (dPart (dOp2 (fun _ => gAdd) (dVar 3) (dC (.int 1)))) (dC .non))) (dCons (dOp2 (fun _ => gAdd) (dOp2 (fun _ => gAdd) (dSl (dVar 1) (dC .non) (dPart (dVar 3))) (dBi Dl.gTup (dCons (dVar 4) dNil))) (dSl (dVar 1) (dPart (dVar 3)) (dC .non))) (dCons (dSl (dVar 1) (dPart (dC (.int 1))) (dC .non)) (dCons (dOp2 (fun _ => gAdd) (dVar 1) (dSl (dVar 1) (dC .non) (dPart (dC (.int 1))))) (dCons (dG1 gRev (dVar 1)) (dCons (dBi gListOf (dCons (dVar 1) dNil)) (dCons (dC .non) (dCons (dC (.int 0)) dNil)))))))) (bρ xs m (.sh (.int (i : Nat))) (.sh o)) W =
      .val (.lst [.tup (xs.take i ++ [o] ++ xs.drop (i + 1)), .tup (xs.take i ++ [o] ++ xs.drop i), .tup (xs.drop 1), .tup (xs ++ xs.take 1), .tup xs.reverse, .lst xs, .non, .int 0]) (bρ xs m (.sh (.int (i : Nat))) (.sh o)) W := by
  have v1 : dVar 1 (bρ xs m (.sh (.int (i : Nat))) (.sh o)) W = .val (.tup xs) (bρ xs m (.sh (.int (i : Nat))) (.sh o)) W := by simp
  have v3 : dVar 3 (bρ xs m (.sh (.int (i : Nat))) (.sh o)) W = .val (.int (i : Nat)) (bρ xs m (.sh (.int (i : Nat))) (.sh o)) W := by simp
  have v4 : dVar 4 (bρ xs m (.sh (.int (i : Nat))) (.sh o)) W = .val o (bρ xs m (.sh (.int (i : Nat))) (.sh o)) W := by simp
  have c0 : dC .non (bρ xs m (.sh (.int (i : Nat))) (.sh o)) W = .val .non (bρ xs m (.sh (.int (i : Nat))) (.sh o)) W := ev_c _ _ _
  have c1 : dC (.int 1) (bρ xs m (.sh (.int (i : Nat))) (.sh o)) W = .val (.int ((1 : Nat) : Int)) (bρ xs m (.sh (.int (i : Nat))) (.sh o)) W := ev_c _ _ _
  have a1 := ev_sl v1 c0 rfl (ev_part v3) rfl (sl_to hi)
  have a2 := ev_add (ev_add a1 (ev_tup1 v4) (add_tup (by simp; omega))) (ev_sl v1 (ev_part (ev_add v3 c1 (by rw [add_int]; exact congrArg (fun z => some (D.int z)) (by omega : (i : Int) + ((1 : Nat) : Int) = ((i + 1 : Nat) : Int))))) rfl c0 rfl sl_from') (add_tup (by simp; omega))
  have a3 := ev_add (ev_add a1 (ev_tup1 v4) (add_tup (by simp; omega))) (ev_sl v1 (ev_part v3) rfl c0 rfl (sl_from hi)) (add_tup (by simp; omega))
  have a4 := ev_sl v1 (ev_part c1) rfl c0 rfl sl_from'
  have a5 := ev_add v1 (ev_sl v1 c0 rfl (ev_part c1) rfl sl_to') (add_tup (by simp; omega))
  have a6 : dG1 gRev (dVar 1) (bρ xs m (.sh (.int (i : Nat))) (.sh o)) W = .val (.tup xs.reverse) (bρ xs m (.sh (.int (i : Nat))) (.sh o)) W := by rw [ev_g1, v1, Res.bind_val]; rfl
  have a7 : dBi gListOf (dCons (dVar 1) dNil) (bρ xs m (.sh (.int (i : Nat))) (.sh o)) W = .val (.lst xs) (bρ xs m (.sh (.int (i : Nat))) (.sh o)) W := by rw [ev_bi, ev_cons v1 (ev_nil _ _), ResA.bind_val]; rfl
  have a8 := ev_cons a2 (ev_cons a3 (ev_cons a4 (ev_cons a5 (ev_cons a6 (ev_cons a7 (ev_cons c0 (ev_cons (ev_c (.int 0) _ _) (ev_nil _ _))))))))
  rw [ev_bi, a8, ResA.bind_val, lst_lit (by simp)]
theorem bent_mem {xs : List D} {i : Nat} {o x : D} (hx : ∀ y ∈ xs, pv 2 y = true) (hl : xs.length ≤ 10) (ho : pv 2 o = true)
    (h : x ∈ [D.tup (xs.take i ++ [o] ++ xs.drop (i + 1)), .tup (xs.take i ++ [o] ++ xs.drop i), .tup (xs.drop 1), .tup (xs ++ xs.take 1), .tup xs.reverse, .lst xs, .non, .int 0]) : Hv x := by
  have t : ∀ k, ∀ y ∈ xs.take k, pv 2 y = true := fun k y hy => hx y (List.mem_of_mem_take hy)
  have d : ∀ k, ∀ y ∈ xs.drop k, pv 2 y = true := fun k y hy => hx y (List.mem_of_mem_drop hy)
  simp only [List.mem_cons, List.not_mem_nil, or_false] at h
  rcases h with rfl | rfl | rfl | rfl | rfl | rfl | rfl | rfl
  · refine .tup (fun y hy => ?_) (by simp; omega)
    simp only [List.mem_append, List.mem_singleton] at hy
    rcases hy with (hy | rfl) | hy
    · exact t _ y hy
    · exact ho
    · exact d _ y hy
  · refine .tup (fun y hy => ?_) (by simp; omega)
    simp only [List.mem_append, List.mem_singleton] at hy
    rcases hy with (hy | rfl) | hy
    · exact t _ y hy
    · exact ho
    · exact d _ y hy
  · exact .tup (d 1) (by simp; omega)
  · refine .tup (fun y hy => ?_) (by simp; omega)
    rcases List.mem_append.mp hy with hy | hy
    · exact hx y hy
    · exact t _ y hy
  · exact .tup (fun y hy => hx y (List.mem_reverse.mp hy)) (by simp; omega)
  · exact .lst hx (by omega)
  · exact .non
  · exact .int 0
theorem bent {xs : List D} {m : Int} (h : PenOk n p) (hn : n + 10 < 1000000000) (hx : ∀ y ∈ xs, pv 2 y = true) (hl : xs.length ≤ 10) : ∃ x p', c__law_bent [.ref 0, .tup xs, .int m] [p.M] = .val x [Pen.M p'] ∧ Hv x ∧ PenOk (n + 3) p' := by
  have e0 : Dl.envOf 5 [.ref 0, .tup xs, .int m] = bρ xs m .no .no := rfl
  obtain ⟨r, p1, e1, h0, h1, h2⟩ := draw (many := ((xs.length + 1 : Nat) : Int)) h (by omega) (by omega) (by omega)
  obtain ⟨i, rfl⟩ := Int.eq_ofNat_of_zero_le h0
  have hi : i ≤ xs.length := by omega
  have s1 : sAsg 3 (dCall 2 c__law_draw (dCons (dVar 0) (dCons (dOp2 (fun _ => gAdd) (dBi gLenS (dCons (dVar 1) dNil)) (dC (.int 1))) dNil))) (bρ xs m .no .no) [p.M] = .nx (bρ xs m (.sh (.int (i : Nat))) .no) [p1.M] := by
    have : dOp2 (fun _ => gAdd) (dBi gLenS (dCons (dVar 1) dNil)) (dC (.int 1)) (bρ xs m .no .no) [p.M] = .val (.int ((xs.length + 1 : Nat) : Int)) (bρ xs m .no .no) [p.M] := by
      have hlen : dBi gLenS (dCons (dVar 1) dNil) (bρ xs m .no .no) [p.M] = .val (.int (xs.length : Nat)) (bρ xs m .no .no) [p.M] := by simp [gLenS]
      exact ev_add hlen (ev_c _ _ _) (by rw [add_int]; exact congrArg (fun z => some (D.int z)) (by omega))
    generalize dOp2 (fun _ => gAdd) (dBi gLenS (dCons (dVar 1) dNil)) (dC (.int 1)) = A at this ⊢
    generalize ((xs.length + 1 : Nat) : Int) = k at this e1 ⊢
    simp [this, e1]
  obtain ⟨o, p2, e2, ho, h3⟩ := pick h2 (by omega) (xs := [.int 0, .int m, .int (-1), .non, .bl true, .tup [.int 0], .int (m - 1)]) (by simp) (by simp)
  have ho2 : pv 2 o = true := by
    simp only [List.mem_cons, List.not_mem_nil, or_false] at ho
    rcases ho with rfl | rfl | rfl | rfl | rfl | rfl | rfl <;> simp [pv]
  have s2 : sAsg 4 (dCall 2 c__law_pick (dCons (dVar 0) (dCons (dBi Dl.gLst (dCons (dC (.int 0)) (dCons (dVar 2) (dCons (dUn gNeg (dC (.int 1))) (dCons (dC .non) (dCons (dC (.bl true)) (dCons (dBi Dl.gTup (dCons (dC (.int 0)) dNil)) (dCons (dOp2 (fun _ => Dl.gSub) (dVar 2) (dC (.int 1))) dNil)))))))) dNil))) (bρ xs m (.sh (.int (i : Nat))) .no) [p1.M] = .nx (bρ xs m (.sh (.int (i : Nat))) (.sh o)) [p2.M] := by
    have v2 : dVar 2 (bρ xs m (.sh (.int (i : Nat))) .no) [p1.M] = .val (.int m) (bρ xs m (.sh (.int (i : Nat))) .no) [p1.M] := by simp
    have u : dUn gNeg (dC (.int 1)) (bρ xs m (.sh (.int (i : Nat))) .no) [p1.M] = .val (.int (-1)) (bρ xs m (.sh (.int (i : Nat))) .no) [p1.M] := by unfold dUn; rw [ev_c, Res.bind_val]; rfl
    have sb : dOp2 (fun _ => Dl.gSub) (dVar 2) (dC (.int 1)) (bρ xs m (.sh (.int (i : Nat))) .no) [p1.M] = .val (.int (m - 1)) (bρ xs m (.sh (.int (i : Nat))) .no) [p1.M] := by rw [ev_op2, v2, Res.bind_val, ev_c, Res.bind_val, sub_int]
    have l := ev_cons (ev_c (.int 0) _ _) (ev_cons v2 (ev_cons u (ev_cons (ev_c .non _ _) (ev_cons (ev_c (.bl true) _ _) (ev_cons (ev_tup1 (ev_c (.int 0) _ _)) (ev_cons sb (ev_nil _ _)))))))
    have l2 : dBi Dl.gLst (dCons (dC (.int 0)) (dCons (dVar 2) (dCons (dUn gNeg (dC (.int 1))) (dCons (dC .non) (dCons (dC (.bl true)) (dCons (dBi Dl.gTup (dCons (dC (.int 0)) dNil)) (dCons (dOp2 (fun _ => Dl.gSub) (dVar 2) (dC (.int 1))) dNil))))))) (bρ xs m (.sh (.int (i : Nat))) .no) [p1.M] = .val (.lst [.int 0, .int m, .int (-1), .non, .bl true, .tup [.int 0], .int (m - 1)]) (bρ xs m (.sh (.int (i : Nat))) .no) [p1.M] := by
      rw [ev_bi, l, ResA.bind_val, lst_lit (by simp)]
    generalize dBi Dl.gLst (dCons (dC (.int 0)) (dCons (dVar 2) (dCons (dUn gNeg (dC (.int 1))) (dCons (dC .non) (dCons (dC (.bl true)) (dCons (dBi Dl.gTup (dCons (dC (.int 0)) dNil)) (dCons (dOp2 (fun _ => Dl.gSub) (dVar 2) (dC (.int 1))) dNil))))))) = A at l2 ⊢
    simp [l2, e2]
  have s3 := bent_list (W := [p2.M]) (xs := xs) (m := m) (i := i) (o := o) hl hi
  obtain ⟨x, p3, e3, hx3, h4⟩ := pick h3 (by omega) (xs := [.tup (xs.take i ++ [o] ++ xs.drop (i + 1)), .tup (xs.take i ++ [o] ++ xs.drop i), .tup (xs.drop 1), .tup (xs ++ xs.take 1), .tup xs.reverse, .lst xs, .non, .int 0]) (by simp) (by simp)
  refine ⟨x, p3, run_rt (ρ := bρ xs m (.sh (.int (i : Nat))) (.sh o)) ?_, bent_mem hx hl ho2 hx3, h4⟩
  rw [e0]
  unfold b__law_bent
  rw [ev_seq, s1]
  dsimp only
  rw [ev_seq, s2]
  dsimp only
  generalize hB : dBi Dl.gLst (dCons (dOp2 (fun _ => gAdd) (dOp2 (fun _ => gAdd) (dSl (dVar 1) (dC .non) (dPart (dVar 3))) (dBi Dl.gTup (dCons (dVar 4) dNil))) (dSl (dVar 1) (dPart (dOp2 (fun _ => gAdd) (dVar 3) (dC (.int 1)))) (dC .non))) (dCons (dOp2 (fun _ => gAdd) (dOp2 (fun _ => gAdd) (dSl (dVar 1) (dC .non) (dPart (dVar 3))) (dBi Dl.gTup (dCons (dVar 4) dNil))) (dSl (dVar 1) (dPart (dVar 3)) (dC .non))) (dCons (dSl (dVar 1) (dPart (dC (.int 1))) (dC .non)) (dCons (dOp2 (fun _ => gAdd) (dVar 1) (dSl (dVar 1) (dC .non) (dPart (dC (.int 1))))) (dCons (dG1 gRev (dVar 1)) (dCons (dBi gListOf (dCons (dVar 1) dNil)) (dCons (dC .non) (dCons (dC (.int 0)) dNil)))))))) = B at s3 ⊢
  generalize D.lst [.tup (xs.take i ++ [o] ++ xs.drop (i + 1)), .tup (xs.take i ++ [o] ++ xs.drop i), .tup (xs.drop 1), .tup (xs ++ xs.take 1), .tup xs.reverse, .lst xs, .non, .int 0] = LL at s3 e3
  simp [s3, e3]
end
end P82

set_option Elab.async false
set_option linter.all false
set_option maxRecDepth 100000
set_option maxHeartbeats 4000000
namespace P82
open PySem PySem.Spec PyProof.Rows L2 Dl
section
variable {n : Nat} {p : Pen} {W : Sto} {m : Nat} {P : List (List Int)}
theorem perm_ints {ys : List D} {ns : List Int} (h : ys.Perm (ns.map .int)) : ∃ ms : List Int, ys = ms.map .int ∧ ms.Perm ns := by
  have h1 : ys.all isI = true := List.all_eq_true.mpr fun y hy => by
    obtain ⟨k, _, rfl⟩ := List.mem_map.mp (h.mem_iff.mp hy)
    rfl
  obtain ⟨ms, rfl⟩ := ints_of h1
  refine ⟨ms, rfl, ?_⟩
  have := h.map fun d => match d with | .int i => i | _ => 0
  simpa [List.map_map, Function.comp_def] using this
theorem lst_to {xs : List D} {i : Nat} : gSl (.lst xs) none (some (i : Int)) = some (.lst (xs.take i)) := by
  simp only [gSl, Dl.cutD, HT.sIx_none, HT.sIx_nat]
  rw [List.drop_zero, Nat.sub_zero]
  by_cases h : i ≤ xs.length
  · rw [Nat.min_eq_left h]
  · rw [Nat.min_eq_right (by omega), List.take_of_length_le (Nat.le_refl _), List.take_of_length_le (l := xs) (i := i) (by omega)]
/-- tuple(_law_shuffled(pen, list(range(things)))[:k]) -/
theorem lot {ρ : Dl.Env} {k : Nat} (h : PenOk n p) (hn : n + 1000000 < 1000000000) (hm : m ≤ 6) (h0 : ρ[0]? = some (.sh (.ref 0))) (h2 : ρ[2]? = some (.sh (.int m))) : ∃ (ns : List Int) (p' : Pen), dBi gTupleOf (dCons (dSl (dCall 2 c__law_shuffled (dCons (dVar 0) (dCons (dLstRg (rg1 (dVar 2))) dNil))) (dC .non) (dPart (dC (.int (k : Nat))))) dNil) ρ [p.M] = .val (iT (ns.take k)) ρ [Pen.M p'] ∧ ns.Perm (rgI m) ∧ PenOk (n + 6) p' := by
  have v0 : dVar 0 ρ [p.M] = .val (.ref 0) ρ [p.M] := by simp [h0]
  have v2 : dVar 2 ρ [p.M] = .val (.int m) ρ [p.M] := by simp [h2]
  obtain ⟨ys, p', e, hp, hok⟩ := shuffled (n := n) hn (v := .lst ((rgI m).map .int)) (xs := (rgI m).map .int) (.inl rfl) (by simp [rgI_length]; omega) h
  obtain ⟨ns, rfl, hns⟩ := perm_ints hp
  have e1 := ev_cons v0 (ev_cons (lstRg (W := [p.M]) (ρ := ρ) (f := dVar 2) v2 (by omega)) (ev_nil _ _))
  have e2 : dCall 2 c__law_shuffled (dCons (dVar 0) (dCons (dLstRg (rg1 (dVar 2))) dNil)) ρ [p.M] = .val (.lst (ns.map .int)) ρ [Pen.M p'] := by
    rw [ev_call, e1, ResA.bind_val, if_pos (by rfl), e]
  have e3 : dSl (dCall 2 c__law_shuffled (dCons (dVar 0) (dCons (dLstRg (rg1 (dVar 2))) dNil))) (dC .non) (dPart (dC (.int (k : Nat)))) ρ [p.M] = .val (.lst ((ns.map D.int).take k)) ρ [Pen.M p'] := by
    unfold dSl
    rw [e2, Res.bind_val, ev_c, Res.bind_val]
    dsimp only [oI]
    rw [ev_part (ev_c _ _ _), Res.bind_val]
    dsimp only [oI]
    rw [lst_to]
  refine ⟨ns, p', ?_, hns, hok.up (by simp [rgI_length]; omega)⟩
  rw [ev_bi, ev_cons e3 (ev_nil _ _), ResA.bind_val]
  simp [gTupleOf, iT]
/-! ### four things and two orders -/
theorem draw_call {ρ : Dl.Env} (h : PenOk n p) (hn : n < 1000000000) (h0 : ρ[0]? = some (.sh (.ref 0))) {f : Dn} {k : Nat} (hf : f ρ [p.M] = .val (.int (k : Nat)) ρ [p.M]) (hk : 0 < k) (hk2 : k < 1000000) : ∃ (r : Nat) (p' : Pen), dCall 2 c__law_draw (dCons (dVar 0) (dCons f dNil)) ρ [p.M] = .val (.int (r : Nat)) ρ [p'.M] ∧ r < k ∧ PenOk (n + 1) p' := by
  have v0 : dVar 0 ρ [p.M] = .val (.ref 0) ρ [p.M] := by simp [h0]
  obtain ⟨r, p', e, h1, h2, h3⟩ := draw (many := ((k : Nat) : Int)) h hn (by omega) (by omega)
  obtain ⟨i, rfl⟩ := Int.eq_ofNat_of_zero_le h1
  refine ⟨i, p', ?_, by omega, h3⟩
  rw [ev_call, ev_cons v0 (ev_cons hf (ev_nil _ _)), ResA.bind_val, if_pos (by rfl), e]
theorem vl_iT {ns : List Int} (h : ns.length < 64) : Vl (iT ns) :=
  ⟨rfl, (fun xs e => by cases e), fun xs e => by
    cases e
    exact ⟨fun x hx => by obtain ⟨k, _, rfl⟩ := List.mem_map.mp hx; rfl, by simpa using h⟩⟩
/-- a lot and its rows -/
def GP (m : Nat) (P : List (List Int)) (d : D) : Prop := ∃ lot rows : List Int, d = .tup [iT lot, iT rows] ∧ lot.length ≤ 4 ∧ (∀ x ∈ lot, 0 ≤ x ∧ x < m) ∧ rows.length ≤ 4 ∧ ∀ r ∈ rows, 0 ≤ r ∧ r < P.length
theorem add_lst {a b : List D} (h : a.length + b.length ≤ 1000) : gAdd (.lst a) (.lst b) = some (.lst (a ++ b)) := by
  have h2 : a.length + b.length ≤ 16777216 := by omega
  simp only [gAdd, gAddI, g2, gAddT, gAddL, h2, if_true]
  rfl
theorem take_mem_rg {ns : List Int} {k : Nat} (h : ns.Perm (rgI m)) : ∀ x ∈ ns.take k, 0 ≤ x ∧ x < m := fun x hx => mem_rgI.mp (h.mem_iff.mp (List.mem_of_mem_take hx))
abbrev fρ4 (P : List (List Int)) (m : Nat) (found : List D) (a b c : Slot) : Dl.Env := [.sh (.ref 0), .sh (pD P), .sh (.int m), .sh (.lst found), a, b, c]
theorem ev_par2 {f g : Dn} {ρ : Dl.Env} {W1 W2 : Sto} {d e : D} {i j : Nat} (h1 : f ρ W = .val d ρ W1) (h2 : g ρ W1 = .val e ρ W2) : sPar [i, j] [(false, f), (false, g)] ρ W = .nx ((ρ.set i (.sh d)).set j (.sh e)) W2 := by
  unfold sPar
  simp only [parL, Bool.false_eq_true, if_false, h1, Bool.or_false, h2]
  rfl
theorem four_turn (hP : Pnl m P) (h : PenOk n p) (hn : n + 2000000 < 1000000000) {found : List D} {a b c : Slot} (hf : found.length ≤ 100) (hg : ∀ d ∈ found, GP m P d) : ∃ found' b' c' p', L1__law_some_four (fρ4 P m found a b c) [p.M] = .nx (fρ4 P m found' a b' c') [Pen.M p'] ∧ found'.length = found.length + 1 ∧ (∀ d ∈ found', GP m P d) ∧ PenOk (n + 8) p' := by
  obtain ⟨ns, p1, e1, hns, h1⟩ := lot (k := 4) (ρ := fρ4 P m found a b c) h (by omega) hP.m6 rfl rfl
  have hpos : 0 < P.length := by
    cases P with
    | nil => exact absurd rfl hP.ne
    | cons _ _ => simp
  have hl8 := hP.l8
  have lenv : ∀ W, dBi gLenS (dCons (dVar 1) dNil) (fρ4 P m found a b c) W = .val (.int P.length) (fρ4 P m found a b c) W := fun W => by
    have : dVar 1 (fρ4 P m found a b c) W = .val (pD P) (fρ4 P m found a b c) W := by simp
    rw [ev_bi, ev_cons this (ev_nil _ _), ResA.bind_val, len_pD]
  obtain ⟨r1, p2, e2, hr1, h2⟩ := draw_call (ρ := fρ4 P m found a b c) h1 (by omega) rfl (lenv _) hpos (by omega)
  obtain ⟨r2, p3, e3, hr2, h3⟩ := draw_call (ρ := fρ4 P m found a b c) h2 (by omega) rfl (lenv _) hpos (by omega)
  have e4 : dBi Dl.gTup (dCons (dCall 2 c__law_draw (dCons (dVar 0) (dCons (dBi gLenS (dCons (dVar 1) dNil)) dNil))) (dCons (dCall 2 c__law_draw (dCons (dVar 0) (dCons (dBi gLenS (dCons (dVar 1) dNil)) dNil))) dNil)) (fρ4 P m found a b c) [p1.M] = .val (iT [(r1 : Int), (r2 : Int)]) (fρ4 P m found a b c) [p3.M] := by
    rw [ev_bi, ev_cons e2 (ev_cons e3 (ev_nil _ _)), ResA.bind_val, tup_lit (by simp)]
    rfl
  have x1 := ev_par2 (i := 5) (j := 6) e1 e4
  have hlot : (ns.take 4).length ≤ 4 := by simp; omega
  have gp : GP m P (.tup [iT (ns.take 4), iT [(r1 : Int), (r2 : Int)]]) := ⟨_, _, rfl, hlot, take_mem_rg hns, by simp, fun r hr => by
    simp only [List.mem_cons, List.not_mem_nil, or_false] at hr
    rcases hr with rfl | rfl <;> omega⟩
  have e5 := law_four (W := [p3.M]) hP (t := iT (ns.take 4)) (r := iT [(r1 : Int), (r2 : Int)]) (vl_iT (by omega)) (vl_iT (by simp))
  generalize hL : ns.take 4 = L at x1 gp e5 hlot
  generalize hR : [(r1 : Int), (r2 : Int)] = R at x1 gp e5
  have v3 : ∀ W, dVar 3 (fρ4 P m found a (.sh (iT L)) (.sh (iT R))) W = .val (.lst found) (fρ4 P m found a (.sh (iT L)) (.sh (iT R))) W := fun W => by simp
  have v5 : ∀ W, dVar 5 (fρ4 P m found a (.sh (iT L)) (.sh (iT R))) W = .val (iT L) (fρ4 P m found a (.sh (iT L)) (.sh (iT R))) W := fun W => by simp
  have v6 : ∀ W, dVar 6 (fρ4 P m found a (.sh (iT L)) (.sh (iT R))) W = .val (iT R) (fρ4 P m found a (.sh (iT L)) (.sh (iT R))) W := fun W => by simp
  have v1 : ∀ W, dVar 1 (fρ4 P m found a (.sh (iT L)) (.sh (iT R))) W = .val (pD P) (fρ4 P m found a (.sh (iT L)) (.sh (iT R))) W := fun W => by simp
  have pair : ∀ W, dBi Dl.gLst (dCons (dBi Dl.gTup (dCons (dVar 5) (dCons (dVar 6) dNil))) dNil) (fρ4 P m found a (.sh (iT L)) (.sh (iT R))) W = .val (.lst [.tup [iT L, iT R]]) (fρ4 P m found a (.sh (iT L)) (.sh (iT R))) W := fun W => by
    have : dBi Dl.gTup (dCons (dVar 5) (dCons (dVar 6) dNil)) (fρ4 P m found a (.sh (iT L)) (.sh (iT R))) W = .val (.tup [iT L, iT R]) (fρ4 P m found a (.sh (iT L)) (.sh (iT R))) W := by
      rw [ev_bi, ev_cons (v5 W) (ev_cons (v6 W) (ev_nil _ _)), ResA.bind_val, tup_lit (by simp)]
    rw [ev_bi, ev_cons this (ev_nil _ _), ResA.bind_val, lst_lit (by simp)]
  have y1 := ev_add (pair [p3.M]) (v3 _) (add_lst (a := [.tup [iT L, iT R]]) (b := found) (by simp; omega))
  have y2 := ev_add (v3 _) (pair [p3.M]) (add_lst (a := found) (b := [.tup [iT L, iT R]]) (by simp; omega))
  have test : ∃ q : Bool, dAnd (dOp2 (fun _ => gEq) (dBi gLenS (dCons (dVar 5) dNil)) (dC (.int 4))) (dCall 3 c__law_four_right (dCons (dVar 1) (dCons (dVar 5) (dCons (dVar 6) dNil)))) (fρ4 P m found a (.sh (iT L)) (.sh (iT R))) [p3.M] = .val (.bl q) (fρ4 P m found a (.sh (iT L)) (.sh (iT R))) [p3.M] := by
    have l5 : dBi gLenS (dCons (dVar 5) dNil) (fρ4 P m found a (.sh (iT L)) (.sh (iT R))) [p3.M] = .val (.int L.length) (fρ4 P m found a (.sh (iT L)) (.sh (iT R))) [p3.M] := by
      rw [ev_bi, ev_cons (v5 _) (ev_nil _ _), ResA.bind_val, len_iT]
    rw [ev_and, ev_op2, l5, Res.bind_val, ev_c, Res.bind_val, eq_int]
    dsimp only
    rw [Res.bind_val, tru_bl]
    cases decide ((L.length : Int) = 4) with
    | false => exact ⟨false, rfl⟩
    | true =>
      refine ⟨foB m P (iT L) (iT R), ?_⟩
      dsimp only
      rw [ev_call, ev_cons (v1 _) (ev_cons (v5 _) (ev_cons (v6 _) (ev_nil _ _))), ResA.bind_val, if_pos (by rfl), e5]
  obtain ⟨q, hq⟩ := test
  have x1' : sPar [5, 6] [(false, dBi gTupleOf (dCons (dSl (dCall 2 c__law_shuffled (dCons (dVar 0) (dCons (dLstRg (rg1 (dVar 2))) dNil))) (dC .non) (dPart (dC (.int 4)))) dNil)), (false, dBi Dl.gTup (dCons (dCall 2 c__law_draw (dCons (dVar 0) (dCons (dBi gLenS (dCons (dVar 1) dNil)) dNil))) (dCons (dCall 2 c__law_draw (dCons (dVar 0) (dCons (dBi gLenS (dCons (dVar 1) dNil)) dNil))) dNil)))] (fρ4 P m found a b c) [p.M] = .nx (fρ4 P m found a (.sh (iT L)) (.sh (iT R))) [p3.M] := x1
  cases q with
  | true =>
    refine ⟨[.tup [iT L, iT R]] ++ found, .sh (iT L), .sh (iT R), p3, ?_, by simp, fun d hd => ?_, h3⟩
    · unfold L1__law_some_four
      rw [ev_seq, x1']
      dsimp only
      rw [ev_asg, ev_if, hq, Res.bind_val, tru_bl]
      dsimp only
      rw [y1]
      rfl
    · rcases List.mem_append.mp hd with hd | hd
      · rw [List.mem_singleton.mp hd]; exact gp
      · exact hg d hd
  | false =>
    refine ⟨found ++ [.tup [iT L, iT R]], .sh (iT L), .sh (iT R), p3, ?_, by simp, fun d hd => ?_, h3⟩
    · unfold L1__law_some_four
      rw [ev_seq, x1']
      dsimp only
      rw [ev_asg, ev_if, hq, Res.bind_val, tru_bl]
      dsimp only
      rw [y2]
      rfl
    · rcases List.mem_append.mp hd with hd | hd
      · exact hg d hd
      · rw [List.mem_singleton.mp hd]; exact gp
end
end P82

set_option Elab.async false
set_option linter.all false
set_option maxRecDepth 100000
set_option maxHeartbeats 4000000
namespace P82
open PySem PySem.Spec PyProof.Rows L2 Dl
section
variable {n : Nat} {p : Pen} {W : Sto} {m : Nat} {P : List (List Int)}
theorem four_loop (hP : Pnl m P) (h : PenOk n p) (hn : n + 3000000 < 1000000000) : ∃ ρ2 W2, forL (bName 4) L1__law_some_four (rgD 0 12) (fρ4 P m [] .no .no .no) [p.M] = .nx ρ2 W2 ∧ ∃ found a b c p', ρ2 = fρ4 P m found a b c ∧ W2 = [Pen.M p'] ∧ found.length = 12 ∧ (∀ d ∈ found, GP m P d) ∧ PenOk (n + 96) p' := by
  obtain ⟨ρ2, W2, h1, h2⟩ := forL_inv (bn := bName 4) (fb := L1__law_some_four) (ds := rgD 0 12) (fun k ρ W => k ≤ 12 ∧ ∃ found a b c p', ρ = fρ4 P m found a b c ∧ W = [Pen.M p'] ∧ found.length = k ∧ (∀ d ∈ found, GP m P d) ∧ PenOk (n + 8 * k) p') 0 (fρ4 P m [] .no .no .no) [p.M] ⟨by omega, [], .no, .no, .no, p, rfl, rfl, rfl, (fun d hd => by cases hd), h⟩ (by
    rintro i d ρ W hi ⟨hk, found, a, b, c, p', rfl, rfl, hl, hg, hok⟩
    have hil : i < 12 := by
      have := (List.getElem?_eq_some_iff.mp hi).1
      rw [rgD_length] at this
      exact this
    obtain ⟨f2, b2, c2, p2, e, hl2, hg2, hok2⟩ := four_turn (n := n + 8 * (0 + i)) hP hok (by omega) (found := found) (a := .sh d) (b := b) (c := c) (by omega) hg
    exact ⟨fρ4 P m found (.sh d) b c, _, _, rfl, .inl e, by omega, f2, .sh d, b2, c2, p2, rfl, rfl, by omega, hg2, hok2.up (by omega)⟩)
  obtain ⟨hk, found, a, b, c, p', rfl, rfl, hl, hg, hok⟩ := h2
  rw [rgD_length] at hl hok
  exact ⟨_, _, h1, found, a, b, c, p', rfl, rfl, by omega, hg, hok.up (by omega)⟩
theorem some4_x1 : sAsg 3 (dBi Dl.gLst dNil) [.sh (.ref 0), .sh (pD P), .sh (.int m), .no, .no, .no, .no] W = .nx (fρ4 P m [] .no .no .no) W := by
  rw [ev_asg, ev_bi, ev_nil, ResA.bind_val, lst_lit (by simp)]
  rfl
theorem cRg12 : cRg 12 = true := by decide
theorem some4_x2 {ρ : Dl.Env} : iRg1 (dCons (dC (.int 12)) dNil) ρ W = .val (rgD 0 12) ρ W := by
  have e := ev_cons (ev_c (.int 12) ρ W) (ev_nil _ _)
  unfold iRg1
  rw [e]
  dsimp only
  rw [if_pos cRg12]
  rfl
theorem some4_ret {d : D} {R : List D} {a b c : Slot} : sRet (dOp2 (fun _ => gIx) (dVar 3) (dC (.int 0))) (fρ4 P m (d :: R) a b c) W = .rt d (fρ4 P m (d :: R) a b c) W := by
  have v3 : dVar 3 (fρ4 P m (d :: R) a b c) W = .val (.lst (d :: R)) (fρ4 P m (d :: R) a b c) W := by simp
  have e4 : gIx (.lst (d :: R)) (.int 0) = some d := by simp [gIx, atI, ixN]
  rw [ev_ret, ev_op2, v3, Res.bind_val, ev_c, Res.bind_val, e4]
  rfl
theorem join4 {A C LB : Ds} {B : DnA} {ds : List D} {ρ0 ρ1 ρ2 ρ3 : Dl.Env} {W1 W2 : Sto} {d : D} {bn : Bn} (x1 : A ρ0 W1 = .nx ρ1 W1) (x2 : B ρ1 W1 = .val ds ρ1 W1) (e3 : forL bn LB ds ρ1 W1 = .nx ρ2 W2) (x3 : C ρ2 W2 = .rt d ρ3 W2) : sSeq A (sSeq (sFor B bn LB) C) ρ0 W1 = .rt d ρ3 W2 := by
  rw [ev_seq, x1]
  dsimp only
  rw [ev_seq, ev_for, x2]
  dsimp only
  rw [e3]
  exact x3
theorem some_fourA (hP : Pnl m P) (h : PenOk n p) (hn : n + 3000000 < 1000000000) : ∃ d p' ρ, b__law_some_four [.sh (.ref 0), .sh (pD P), .sh (.int m), .no, .no, .no, .no] [p.M] = .rt d ρ [Pen.M p'] ∧ GP m P d ∧ PenOk (n + 96) p' := by
  obtain ⟨ρ2, W2, e3, found, a, b, c, p', rfl, rfl, hl, hg, hok⟩ := four_loop (n := n) hP h hn
  cases found with
  | nil => simp at hl
  | cons d R => exact ⟨d, p', fρ4 P m (d :: R) a b c, join4 some4_x1 some4_x2 e3 some4_ret, hg d List.mem_cons_self, hok⟩
theorem some_four (hP : Pnl m P) (h : PenOk n p) (hn : n + 3000000 < 1000000000) : ∃ d p', c__law_some_four [.ref 0, pD P, .int m] [p.M] = .val d [Pen.M p'] ∧ GP m P d ∧ PenOk (n + 96) p' := by
  obtain ⟨d, p', ρ, e, h1, h2⟩ := some_fourA hP h hn
  have e0 : Dl.envOf 7 [.ref 0, pD P, .int m] = [.sh (.ref 0), .sh (pD P), .sh (.int m), .no, .no, .no, .no] := rfl
  exact ⟨d, p', run_rt (by rw [e0]; exact e), h1, h2⟩
end
end P82

set_option Elab.async false
set_option linter.all false
set_option maxRecDepth 100000
set_option maxHeartbeats 4000000
namespace P82
open PySem PySem.Spec PyProof.Rows L2 Dl
section
variable {n : Nat} {p : Pen} {W : Sto} {m : Nat} {P : List (List Int)}
/-- a comprehension that keeps some of its items -/
theorem lcL_filter {bn : Bn} {ft fe : Dn} {ρb : Dl.Env} {W : Sto} {q : D → Bool} : ∀ {ds acc : List D}, (∀ d ∈ ds, ∃ ρ1 ρ2 ρ3, bn d ρb = some ρ1 ∧ ft ρ1 W = .val (.bl (q d)) ρ2 W ∧ fe ρ2 W = .val d ρ3 W) → lcL bn ft fe ρb ds W acc = some (acc ++ ds.filter q, W)
  | [], acc, _ => by simp [lcL]
  | d :: ds, acc, h => by
    obtain ⟨ρ1, ρ2, ρ3, h1, h2, h3⟩ := h d List.mem_cons_self
    cases hq : q d with
    | true =>
      rw [hq] at h2
      have ih := lcL_filter (acc := acc ++ [d]) fun x hx => h x (List.mem_cons_of_mem _ hx)
      simp only [lcL, h1, h2, tru_bl, h3, ih, List.filter_cons, hq, if_true]
      simp
    | false =>
      rw [hq] at h2
      have ih := lcL_filter (acc := acc) fun x hx => h x (List.mem_cons_of_mem _ hx)
      simp only [lcL, h1, h2, tru_bl, ih, List.filter_cons, hq, Bool.false_eq_true, if_false]
theorem lc_filter {vs : List Nat} {fi : DnA} {bn : Bn} {ft fe : Dn} {ρ ρ0 : Dl.Env} {W : Sto} {ds : List D} {q : D → Bool} (hi : fi ρ W = .val ds ρ0 W) (hl : ds.length < 16777216) (h : ∀ d ∈ ds, ∃ ρ1 ρ2 ρ3, bn d (blkE ρ0 vs) = some ρ1 ∧ ft ρ1 W = .val (.bl (q d)) ρ2 W ∧ fe ρ2 W = .val d ρ3 W) :
    dLc vs fi bn ft fe ρ W = .val (.lst (ds.filter q)) ρ0 W := by
  unfold dLc
  rw [hi]
  dsimp only
  rw [if_pos hl, lcL_filter h]
  simp
abbrev tρ (P : List (List Int)) (m : Nat) (lot : List Int) (rows : List D) (th able a b : Slot) : Dl.Env := [.sh (.ref 0), .sh (pD P), .sh (.int m), .sh (iT lot), .owl rows, th, able, a, b]
theorem able_ok (hP : Pnl m P) {lot : List Int} {th : Int} {rows : List D} {able : Slot} (hl : lot.length ≤ 10) (hlm : ∀ x ∈ lot, 0 ≤ x ∧ x < m) (hth : th ∈ lot) :
    dLc [7] (iRg1 (dCons (dBi gLenS (dCons (dVar 1) dNil)) dNil)) (bName 7) T1__law_some_three (dVar 7) (tρ P m lot rows (.sh (.int th)) able .no .no) W = .val (.lst ((rgD 0 P.length).filter (pI fun i => lastB (oP P i.toNat) th lot))) (tρ P m lot rows (.sh (.int th)) able .no .no) W := by
  have hl8 := hP.l8
  have hi : iRg1 (dCons (dBi gLenS (dCons (dVar 1) dNil)) dNil) (tρ P m lot rows (.sh (.int th)) able .no .no) W = .val (rgD 0 P.length) (tρ P m lot rows (.sh (.int th)) able .no .no) W := by
    have h4 := cRg_small (n := P.length) (by omega)
    simp [iRg1, len_pD, h4]
  refine lc_filter hi (by rw [rgD_length]; omega) fun d hd => ?_
  obtain ⟨i, hi2, rfl⟩ := rg_mem hd
  rw [Int.zero_add]
  refine ⟨_, [.sh (.ref 0), .sh (pD P), .sh (.int m), .sh (iT lot), .no, .sh (.int th), hide able, .sh (.int (i : Nat)), .no], [.sh (.ref 0), .sh (pD P), .sh (.int m), .sh (iT lot), .no, .sh (.int th), hide able, .sh (.int (i : Nat)), .no], rfl, ?_, by simp⟩
  have hb : (blkE (tρ P m lot rows (.sh (.int th)) able .no .no) [7]).set 7 (.sh (.int (i : Nat))) = [.sh (.ref 0), .sh (pD P), .sh (.int m), .sh (iT lot), .no, .sh (.int th), hide able, .sh (.int (i : Nat)), .no] := rfl
  rw [hb]
  unfold T1__law_some_three
  have ei : pI (fun i => lastB (oP P i.toNat) th lot) (.int (i : Nat)) = lastB (oP P i) th lot := by simp [pI]
  rw [ei]
  refine lastA (W := W) (n := 0) (od := oP P i) (ts := lot) (th := th) (f := dVar 3) rfl (by omega) fun o ho => ?_
  have hb2 : (blkE [.sh (.ref 0), .sh (pD P), .sh (.int m), .sh (iT lot), .no, .sh (.int th), hide able, .sh (.int (i : Nat)), .no] [8]).set 8 (.sh (.int o)) = [.sh (.ref 0), .sh (pD P), .sh (.int m), .sh (iT lot), .no, .sh (.int th), hide (hide able), .sh (.int (i : Nat)), .sh (.int o)] := rfl
  rw [hb2]
  have e := law_ahead W (od := oP P i) (hP.mem (getD_mem hi2) (hlm o ho).1 (hlm o ho).2) (hP.mem (getD_mem hi2) (hlm th hth).1 (hlm th hth).2)
  refine ⟨[.sh (.ref 0), .sh (pD P), .sh (.int m), .sh (iT lot), .no, .sh (.int th), hide (hide able), .sh (.int (i : Nat)), .sh (.int o)], ?_⟩
  by_cases q : o = th <;> simp [E1__law_some_three, eq_int, ix_pD hi2, e, q]
end
end P82

set_option Elab.async false
set_option linter.all false
set_option maxRecDepth 100000
set_option maxHeartbeats 4000000
namespace P82
open PySem PySem.Spec PyProof.Rows L2 Dl
/-! ### steps, told in terms -/
theorem seq_nx {A B : Ds} {ρ ρ1 : Dl.Env} {W W1 : Sto} {r : SRes} (x1 : A ρ W = .nx ρ1 W1) (x2 : B ρ1 W1 = r) : sSeq A B ρ W = r := by
  rw [ev_seq, x1]; exact x2
theorem seq_rt {A B : Ds} {ρ ρ1 : Dl.Env} {W W1 : Sto} {d : D} (x1 : A ρ W = .rt d ρ1 W1) : sSeq A B ρ W = .rt d ρ1 W1 := by
  rw [ev_seq, x1]
theorem asg_nx {i : Nat} {f : Dn} {ρ ρ1 : Dl.Env} {W W1 : Sto} {d : D} (h : f ρ W = .val d ρ1 W1) : sAsg i f ρ W = .nx (ρ1.set i (.sh d)) W1 := by
  rw [ev_asg, h]; rfl
theorem expr_nx {f : Dn} {ρ ρ1 : Dl.Env} {W W1 : Sto} {d : D} (h : f ρ W = .val d ρ1 W1) : sExpr f ρ W = .nx ρ1 W1 := by
  rw [ev_expr, h]; rfl
theorem owl_nx {i : Nat} {f : Dn} {ρ ρ1 : Dl.Env} {W W1 : Sto} {xs : List D} (h : f ρ W = .val (.lst xs) ρ1 W1) : sOwl i f ρ W = .nx (ρ1.set i (.owl xs)) W1 := by
  rw [ev_owl, h]
theorem ret_rt {f : Dn} {ρ ρ1 : Dl.Env} {W W1 : Sto} {d : D} (h : f ρ W = .val d ρ1 W1) : sRet f ρ W = .rt d ρ1 W1 := by
  rw [ev_ret, h]; rfl
theorem sif_t {c : Dn} {A B : Ds} {ρ ρ1 : Dl.Env} {W W1 : Sto} {d : D} (h : c ρ W = .val d ρ1 W1) (t : tru W1 d = some true) {r : SRes} (h2 : A ρ1 W1 = r) : sIf c A B ρ W = r := by
  rw [ev_sif, h, Res.bindS_val, t]; exact h2
theorem sif_f {c : Dn} {A B : Ds} {ρ ρ1 : Dl.Env} {W W1 : Sto} {d : D} (h : c ρ W = .val d ρ1 W1) (t : tru W1 d = some false) {r : SRes} (h2 : B ρ1 W1 = r) : sIf c A B ρ W = r := by
  rw [ev_sif, h, Res.bindS_val, t]; exact h2
theorem if_t {c f g : Dn} {ρ ρ1 : Dl.Env} {W W1 : Sto} {d : D} (h : c ρ W = .val d ρ1 W1) (t : tru W1 d = some true) {r : Res} (h2 : f ρ1 W1 = r) : dIf c f g ρ W = r := by
  rw [ev_if, h, Res.bind_val, t]; exact h2
theorem if_f {c f g : Dn} {ρ ρ1 : Dl.Env} {W W1 : Sto} {d : D} (h : c ρ W = .val d ρ1 W1) (t : tru W1 d = some false) {r : Res} (h2 : g ρ1 W1 = r) : dIf c f g ρ W = r := by
  rw [ev_if, h, Res.bind_val, t]; exact h2
theorem and_t {f g : Dn} {ρ ρ1 : Dl.Env} {W W1 : Sto} {d : D} (h : f ρ W = .val d ρ1 W1) (t : tru W1 d = some true) {r : Res} (h2 : g ρ1 W1 = r) : dAnd f g ρ W = r := by
  rw [ev_and, h, Res.bind_val, t]; exact h2
theorem and_f {f g : Dn} {ρ ρ1 : Dl.Env} {W W1 : Sto} {d : D} (h : f ρ W = .val d ρ1 W1) (t : tru W1 d = some false) : dAnd f g ρ W = .val d ρ1 W1 := by
  rw [ev_and, h, Res.bind_val, t]
theorem or_t {f g : Dn} {ρ ρ1 : Dl.Env} {W W1 : Sto} {d : D} (h : f ρ W = .val d ρ1 W1) (t : tru W1 d = some true) : dOr f g ρ W = .val d ρ1 W1 := by
  rw [ev_or, h, Res.bind_val, t]
theorem or_f {f g : Dn} {ρ ρ1 : Dl.Env} {W W1 : Sto} {d : D} (h : f ρ W = .val d ρ1 W1) (t : tru W1 d = some false) {r : Res} (h2 : g ρ1 W1 = r) : dOr f g ρ W = r := by
  rw [ev_or, h, Res.bind_val, t]; exact h2
theorem not_v {f : Dn} {ρ ρ1 : Dl.Env} {W W1 : Sto} {d : D} {k : Bool} (h : f ρ W = .val d ρ1 W1) (t : tru W1 d = some k) : dNot f ρ W = .val (.bl (!k)) ρ1 W1 := by
  rw [ev_not, h, Res.bind_val, t]
theorem call_v {n : Nat} {Φ : Con} {fA : DnA} {ρ ρ1 : Dl.Env} {W W1 W2 : Sto} {ds : List D} {d : D} (h : fA ρ W = .val ds ρ1 W1) (hl : ds.length = n) (h2 : Φ ds W1 = .val d W2) : dCall n Φ fA ρ W = .val d ρ1 W2 := by
  rw [ev_call, h, ResA.bind_val, if_pos hl, h2]
theorem bi_v {g : Sto → List D → Option D} {fA : DnA} {ρ ρ1 : Dl.Env} {W W1 : Sto} {ds : List D} {d : D} (h : fA ρ W = .val ds ρ1 W1) (h2 : g W1 ds = some d) : dBi g fA ρ W = .val d ρ1 W1 := by
  rw [ev_bi, h, ResA.bind_val, h2]
theorem g1_v {g : Sto → List D → Option D} {f : Dn} {ρ ρ1 : Dl.Env} {W W1 : Sto} {d e : D} (h : f ρ W = .val d ρ1 W1) (h2 : g W1 [d] = some e) : dG1 g f ρ W = .val e ρ1 W1 := by
  rw [ev_g1, h, Res.bind_val, h2]
theorem op2_v {g : Sto → D → D → Option D} {f h : Dn} {ρ ρ1 ρ2 : Dl.Env} {W W1 W2 : Sto} {d e z : D} (h1 : f ρ W = .val d ρ1 W1) (h2 : h ρ1 W1 = .val e ρ2 W2) (h3 : g W2 d e = some z) : dOp2 g f h ρ W = .val z ρ2 W2 := by
  rw [ev_op2, h1, Res.bind_val, h2, Res.bind_val, h3]
theorem var_v {i : Nat} {ρ : Dl.Env} {W : Sto} {d : D} (h : ρ[i]? = some (.sh d)) : dVar i ρ W = .val d ρ W := by
  rw [ev_var, h]
theorem varF_o {i : Nat} {ρ : Dl.Env} {W : Sto} {xs : List D} (h : ρ[i]? = some (.owl xs)) : dVarF i ρ W = .val (.lst xs) (ρ.set i (.sh (.lst xs))) W := by
  rw [ev_varF, h]
theorem for_nx {fi : DnA} {bn : Bn} {fb : Ds} {ρ ρ1 : Dl.Env} {W W1 : Sto} {ds : List D} {r : SRes} (h : fi ρ W = .val ds ρ1 W1) (h2 : forL bn fb ds ρ1 W1 = r) : sFor fi bn fb ρ W = r := by
  rw [ev_for, h]; exact h2
theorem c1 {f : Dn} {ρ ρ1 : Dl.Env} {W W1 : Sto} {d : D} (h : f ρ W = .val d ρ1 W1) : dCons f dNil ρ W = .val [d] ρ1 W1 := ev_cons h (ev_nil _ _)
theorem c2 {f g : Dn} {ρ ρ1 ρ2 : Dl.Env} {W W1 W2 : Sto} {d e : D} (h : f ρ W = .val d ρ1 W1) (h2 : g ρ1 W1 = .val e ρ2 W2) : dCons f (dCons g dNil) ρ W = .val [d, e] ρ2 W2 := ev_cons h (c1 h2)
theorem c3 {f g k : Dn} {ρ ρ1 ρ2 ρ3 : Dl.Env} {W W1 W2 W3 : Sto} {d e z : D} (h : f ρ W = .val d ρ1 W1) (h2 : g ρ1 W1 = .val e ρ2 W2) (h3 : k ρ2 W2 = .val z ρ3 W3) : dCons f (dCons g (dCons k dNil)) ρ W = .val [d, e, z] ρ3 W3 := ev_cons h (c2 h2 h3)
theorem ne_lints (a b : List Int) : gNe (.lst (a.map .int)) (.lst (b.map .int)) = some (.bl (!decide (a = b))) := by
  have h1 := plain_ints 15 a
  have h2 := plain_ints 15 b
  simp only [gNe, plain_lst, h1, h2, eqd, eqds_ints, Bool.and_self, if_true]
section
variable {n : Nat} {p : Pen} {W : Sto} {m : Nat} {P : List (List Int)}
theorem filter_ints (q : Int → Bool) (k : Nat) : (rgD 0 k).filter (pI q) = ((rgI k).filter q).map .int := by
  rw [← rgI_map, List.filter_map]
  rfl
theorem three_turn (hP : Pnl m P) (h : PenOk n p) (hn : n + 1000 < 1000000000) {lot rows : List Int} {th : Int} {able : Slot} (hl : lot.length ≤ 10) (hlm : ∀ x ∈ lot, 0 ≤ x ∧ x < m) (hth : th ∈ lot) (hr : rows.length ≤ 100) :
    ∃ (r : Int) (able' : Slot) (p' : Pen), L1__law_some_three (tρ P m lot (rows.map .int) (.sh (.int th)) able .no .no) [p.M] = .nx (tρ P m lot ((rows ++ [r]).map .int) (.sh (.int th)) able' .no .no) [p'.M] ∧ 0 ≤ r ∧ r < P.length ∧ PenOk (n + 1) p' := by
  have x1 := asg_nx (i := 6) (able_ok (W := [p.M]) (rows := rows.map .int) (able := able) hP hl hlm hth)
  rw [filter_ints] at x1
  generalize hA : (rgI P.length).filter (fun i => lastB (oP P i.toNat) th lot) = A at x1
  have hAm : ∀ i ∈ A, 0 ≤ i ∧ i < P.length := fun i hi => by
    rw [← hA] at hi
    exact mem_rgI.mp (List.mem_filter.mp hi).1
  have hAl : A.length < 1000000 := by
    have e1 : A.length ≤ (rgI P.length).length := by rw [← hA]; exact List.length_filter_le _ _
    rw [rgI_length] at e1
    have := hP.l8
    omega
  have x1' : sAsg 6 (dLc [7] (iRg1 (dCons (dBi gLenS (dCons (dVar 1) dNil)) dNil)) (bName 7) T1__law_some_three (dVar 7)) (tρ P m lot (rows.map .int) (.sh (.int th)) able .no .no) [p.M] = .nx (tρ P m lot (rows.map .int) (.sh (.int th)) (.sh (.lst (A.map .int))) .no .no) [p.M] := x1
  have hpos : 0 < P.length := by
    cases P with
    | nil => exact absurd rfl hP.ne
    | cons _ _ => simp
  have hl8 := hP.l8
  have v0 : ∀ W, dVar 0 (tρ P m lot (rows.map .int) (.sh (.int th)) (.sh (.lst (A.map .int))) .no .no) W = .val (.ref 0) (tρ P m lot (rows.map .int) (.sh (.int th)) (.sh (.lst (A.map .int))) .no .no) W := fun W => var_v rfl
  have v6 : ∀ W, dVar 6 (tρ P m lot (rows.map .int) (.sh (.int th)) (.sh (.lst (A.map .int))) .no .no) W = .val (.lst (A.map .int)) (tρ P m lot (rows.map .int) (.sh (.int th)) (.sh (.lst (A.map .int))) .no .no) W := fun W => var_v rfl
  have l0 : dBi Dl.gLst dNil (tρ P m lot (rows.map .int) (.sh (.int th)) (.sh (.lst (A.map .int))) .no .no) [p.M] = .val (.lst (([] : List Int).map .int)) (tρ P m lot (rows.map .int) (.sh (.int th)) (.sh (.lst (A.map .int))) .no .no) [p.M] := bi_v (ev_nil _ _) (lst_lit (by simp))
  have lenv : dBi gLenS (dCons (dVar 1) dNil) (tρ P m lot (rows.map .int) (.sh (.int th)) (.sh (.lst (A.map .int))) .no .no) [p.M] = .val (.int P.length) (tρ P m lot (rows.map .int) (.sh (.int th)) (.sh (.lst (A.map .int))) .no .no) [p.M] := bi_v (c1 (var_v rfl)) (len_pD P)
  have t := op2_v (g := fun _ => gNe) (v6 [p.M]) l0 (ne_lints A [])
  have key : ∃ (r : Int) (p' : Pen), dIf (dOp2 (fun _ => gNe) (dVar 6) (dBi Dl.gLst dNil)) (dCall 2 c__law_pick (dCons (dVar 0) (dCons (dVar 6) dNil))) (dCall 2 c__law_draw (dCons (dVar 0) (dCons (dBi gLenS (dCons (dVar 1) dNil)) dNil))) (tρ P m lot (rows.map .int) (.sh (.int th)) (.sh (.lst (A.map .int))) .no .no) [p.M] = .val (.int r) (tρ P m lot (rows.map .int) (.sh (.int th)) (.sh (.lst (A.map .int))) .no .no) [p'.M] ∧ 0 ≤ r ∧ r < P.length ∧ PenOk (n + 1) p' := by
    by_cases q : A = []
    · obtain ⟨r, p', e, h1, h2⟩ := draw_call (ρ := tρ P m lot (rows.map .int) (.sh (.int th)) (.sh (.lst (A.map .int))) .no .no) h (by omega) rfl lenv hpos (by omega)
      exact ⟨r, p', if_f t (by simp [q]) e, by omega, by omega, h2⟩
    · obtain ⟨x, p', e, h1, h2⟩ := pick (n := n) h (by omega) (xs := A.map .int) (fun z => q (List.map_eq_nil_iff.mp z)) (by simpa using hAl)
      obtain ⟨r, hr, rfl⟩ := List.mem_map.mp h1
      exact ⟨r, p', if_t t (by simp [q]) (call_v (c2 (v0 _) (v6 _)) rfl e), (hAm r hr).1, (hAm r hr).2, h2⟩
  obtain ⟨r, p', e, h1, h2, h3⟩ := key
  refine ⟨r, .sh (.lst (A.map .int)), p', ?_, h1, h2, h3⟩
  unfold L1__law_some_three
  refine seq_nx x1' (expr_nx (d := .non) ?_)
  have a := ev_mth (i := 4) (g := gAppend) (xs0 := rows.map .int) (xs := rows.map .int) rfl (c1 e) rfl (app_eq' (by simp; omega))
  have e2 : (rows ++ [r]).map D.int = rows.map D.int ++ [.int r] := by simp
  rw [e2]
  exact a
end
end P82

set_option Elab.async false
set_option linter.all false
set_option maxRecDepth 100000
set_option maxHeartbeats 4000000
namespace P82
open PySem PySem.Spec PyProof.Rows L2 Dl
section
variable {n : Nat} {p : Pen} {W : Sto} {m : Nat} {P : List (List Int)}
theorem three_loop (hP : Pnl m P) {lot : List Int} (hl : lot.length ≤ 3) (hlm : ∀ x ∈ lot, 0 ≤ x ∧ x < m) (h : PenOk n p) (hn : n + 2000 < 1000000000) : ∃ ρ2 W2, forL (bName 5) L1__law_some_three (lot.map .int) (tρ P m lot [] .no .no .no .no) [p.M] = .nx ρ2 W2 ∧ ∃ (rows : List Int) (th able : Slot) (p' : Pen), ρ2 = tρ P m lot (rows.map .int) th able .no .no ∧ W2 = [p'.M] ∧ rows.length = lot.length ∧ (∀ r ∈ rows, 0 ≤ r ∧ r < P.length) ∧ PenOk (n + lot.length) p' := by
  obtain ⟨ρ2, W2, h1, h2⟩ := forL_inv (bn := bName 5) (fb := L1__law_some_three) (ds := lot.map .int) (fun k ρ W => ∃ (rows : List Int) (th able : Slot) (p' : Pen), ρ = tρ P m lot (rows.map .int) th able .no .no ∧ W = [p'.M] ∧ rows.length = k ∧ (∀ r ∈ rows, 0 ≤ r ∧ r < P.length) ∧ PenOk (n + k) p') 0 (tρ P m lot [] .no .no .no .no) [p.M] ⟨[], .no, .no, p, rfl, rfl, rfl, (fun r hr => by cases hr), h⟩ (by
    rintro i d ρ W hi ⟨rows, th, able, p', rfl, rfl, hk, hr, hok⟩
    have hd : d ∈ lot.map D.int := List.mem_of_getElem? hi
    have hil : i < lot.length := by
      have := (List.getElem?_eq_some_iff.mp hi).1
      simpa using this
    obtain ⟨t, ht, rfl⟩ := List.mem_map.mp hd
    obtain ⟨r, able', p2, e, h1, h2, hok2⟩ := three_turn (n := n + (0 + i)) hP hok (by omega) (lot := lot) (rows := rows) (th := t) (able := able) (by omega) hlm ht (by omega)
    refine ⟨tρ P m lot (rows.map .int) (.sh (.int t)) able .no .no, _, _, rfl, .inl e, rows ++ [r], _, able', p2, rfl, rfl, by simp [hk], fun x hx => ?_, hok2⟩
    rcases List.mem_append.mp hx with hx | hx
    · exact hr x hx
    · rw [List.mem_singleton.mp hx]; exact ⟨h1, h2⟩)
  obtain ⟨rows, th, able, p', rfl, rfl, hk, hr, hok⟩ := h2
  simp only [List.length_map, Nat.zero_add] at hk hok
  exact ⟨_, _, h1, rows, th, able, p', rfl, rfl, hk, hr, hok⟩
theorem some_threeA (hP : Pnl m P) (h : PenOk n p) (hn : n + 3000000 < 1000000000) : ∃ d p' ρ, b__law_some_three (Dl.envOf 9 [.ref 0, pD P, .int m]) [p.M] = .rt d ρ [Pen.M p'] ∧ GP m P d ∧ PenOk (n + 20) p' := by
  have e0 : Dl.envOf 9 [.ref 0, pD P, .int m] = [.sh (.ref 0), .sh (pD P), .sh (.int m), .no, .no, .no, .no, .no, .no] := rfl
  obtain ⟨ns, p1, e1, hns, h1⟩ := lot (k := 3) (ρ := [.sh (.ref 0), .sh (pD P), .sh (.int m), .no, .no, .no, .no, .no, .no]) h (by omega) hP.m6 rfl rfl
  have hlot : (ns.take 3).length ≤ 3 := by simp; omega
  have hlm := take_mem_rg (k := 3) hns
  generalize ns.take 3 = L at e1 hlot hlm
  obtain ⟨ρ2, W2, e2, rows, th, able, p', rfl, rfl, hk, hr, hok⟩ := three_loop (n := n + 6) (p := p1) hP (lot := L) hlot hlm h1 (by omega)
  refine ⟨.tup [iT L, iT rows], p', (tρ P m L (rows.map .int) th able .no .no).set 4 (.sh (.lst (rows.map .int))), ?_, ⟨L, rows, rfl, by omega, hlm, by omega, hr⟩, hok.up (by omega)⟩
  rw [e0]
  unfold b__law_some_three
  refine seq_nx (asg_nx e1) (seq_nx (owl_nx (bi_v (ev_nil _ _) (lst_lit (by simp)))) (seq_nx (ρ1 := tρ P m L (rows.map .int) th able .no .no) (W1 := [p'.M]) (for_nx (ds := L.map .int) (ρ1 := tρ P m L [] .no .no .no .no) (W1 := [p1.M]) ?_ e2) (ret_rt (bi_v (c2 (var_v rfl) (bi_v (c1 (varF_o rfl)) rfl)) (tup_lit (by simp))))))
  rw [ev_items, var_v (d := iT L) rfl]
  rfl
theorem some_three (hP : Pnl m P) (h : PenOk n p) (hn : n + 3000000 < 1000000000) : ∃ d p', c__law_some_three [.ref 0, pD P, .int m] [p.M] = .val d [Pen.M p'] ∧ GP m P d ∧ PenOk (n + 20) p' := by
  obtain ⟨d, p', ρ, e, h1, h2⟩ := some_threeA hP h hn
  exact ⟨d, p', run_rt e, h1, h2⟩
end
end P82

set_option Elab.async false
set_option linter.all false
set_option maxRecDepth 100000
set_option maxHeartbeats 4000000
/-! What holds behind a step: one rule for each form of a denotation. -/
namespace Dl
open PySem PySem.Spec PyProof.Rows L2
abbrev XP := Nat → List (Str × D) → Env → Sto → Prop
abbrev VP := D → Env → Sto → Prop
abbrev NP := Env → Sto → Prop
@[irreducible] def wD (f : Dn) (ρ : Env) (W : Sto) (X : XP) (Q : VP) : Prop := match f ρ W with
  | .val d ρ W => Q d ρ W
  | .exc c fs ρ W => X c fs ρ W
  | .stk => False
@[irreducible] def wA (f : DnA) (ρ : Env) (W : Sto) (X : XP) (Q : List D → Env → Sto → Prop) : Prop := match f ρ W with
  | .val d ρ W => Q d ρ W
  | .exc c fs ρ W => X c fs ρ W
  | .stk => False
@[irreducible] def wC (r : CRes) (X : Nat → List (Str × D) → Sto → Prop) (Q : D → Sto → Prop) : Prop := match r with
  | .val d W => Q d W
  | .exc c fs W => X c fs W
  | .stk => False
@[irreducible] def wS (f : Ds) (ρ : Env) (W : Sto) (X : XP) (R : D → Sto → Prop) (B C N : NP) : Prop := match f ρ W with
  | .nx ρ W => N ρ W
  | .rt d _ W => R d W
  | .bk ρ W => B ρ W
  | .ct ρ W => C ρ W
  | .exc c fs ρ W => X c fs ρ W
  | .stk => False
@[irreducible] def wB (W : Sto) (d : D) (A B : D → Prop) : Prop := match tru W d with
  | some true => A d
  | some false => B d
  | none => False
@[irreducible] def wR1 (ds : List D) (k : Int → Prop) : Prop := ∃ j, ds = [.int j] ∧ cRg j = true ∧ k j
@[irreducible] def wR2 (ds : List D) (k : Int → Int → Prop) : Prop := ∃ i j, ds = [.int i, .int j] ∧ (cRg i && cRg j) = true ∧ k i j
@[irreducible] def wR3 (ds : List D) (k : Int → Int → Prop) : Prop := ∃ i j, ds = [.int i, .int j] ∧ cRgOk i j = true ∧ k i j
def wO {α : Type} (o : Option α) (k : α → Prop) : Prop := ∃ z, o = some z ∧ k z
theorem wD_eq {f : Dn} {ρ ρ' : Env} {W W' : Sto} {d : D} {X : XP} {Q : VP} (h : f ρ W = .val d ρ' W') (k : Q d ρ' W') : wD f ρ W X Q := by unfold wD; rw [h]; exact k
theorem wA_eq {f : DnA} {ρ ρ' : Env} {W W' : Sto} {d : List D} {X : XP} {Q : List D → Env → Sto → Prop} (h : f ρ W = .val d ρ' W') (k : Q d ρ' W') : wA f ρ W X Q := by unfold wA; rw [h]; exact k
theorem wC_eq {r : CRes} {d : D} {W : Sto} {X : Nat → List (Str × D) → Sto → Prop} {Q : D → Sto → Prop} (h : r = .val d W) (k : Q d W) : wC r X Q := by subst h; unfold wC; exact k
theorem wC_exc {r : CRes} {c : Nat} {fs : List (Str × D)} {W : Sto} {X : Nat → List (Str × D) → Sto → Prop} {Q : D → Sto → Prop} (h : r = .exc c fs W) (k : X c fs W) : wC r X Q := by subst h; unfold wC; exact k
theorem wC_ex {r : CRes} {Q : D → Sto → Prop} (h : wC r (fun _ _ _ => False) Q) : ∃ d W, r = .val d W ∧ Q d W := by
  unfold wC at h
  split at h
  · exact ⟨_, _, rfl, h⟩
  · exact h.elim
  · exact h.elim
theorem wC_mono {r : CRes} {X X' : Nat → List (Str × D) → Sto → Prop} {Q Q' : D → Sto → Prop} (h : wC r X Q) (kx : ∀ c fs W, X c fs W → X' c fs W) (k : ∀ d W, Q d W → Q' d W) : wC r X' Q' := by
  unfold wC at h ⊢
  split at h
  · exact k _ _ h
  · exact kx _ _ _ h
  · exact h.elim
theorem wD_mono {f : Dn} {ρ : Env} {W : Sto} {X X' : XP} {Q Q' : VP} (h : wD f ρ W X Q) (kx : ∀ c fs ρ W, X c fs ρ W → X' c fs ρ W) (k : ∀ d ρ W, Q d ρ W → Q' d ρ W) : wD f ρ W X' Q' := by
  unfold wD at h ⊢
  split at h
  · exact k _ _ _ h
  · exact kx _ _ _ _ h
  · exact h.elim
theorem wD_to {f : Dn} {ρ : Env} {W : Sto} {X : XP} {Q Q' : VP} (h : wD f ρ W X Q) (k : ∀ d ρ W, Q d ρ W → Q' d ρ W) : wD f ρ W X Q' := wD_mono h (fun _ _ _ _ z => z) k
theorem wC_to {r : CRes} {X : Nat → List (Str × D) → Sto → Prop} {Q Q' : D → Sto → Prop} (h : wC r X Q) (k : ∀ d W, Q d W → Q' d W) : wC r X Q' := wC_mono h (fun _ _ _ z => z) k
theorem wD_ex {f : Dn} {ρ : Env} {W : Sto} {Q : VP} (h : wD f ρ W (fun _ _ _ _ => False) Q) : ∃ d ρ' W', f ρ W = .val d ρ' W' ∧ Q d ρ' W' := by
  unfold wD at h
  split at h
  · next e => exact ⟨_, _, _, e, h⟩
  · exact h.elim
  · exact h.elim
section
variable {ρ : Env} {W : Sto} {X : XP} {Q : VP} {QA : List D → Env → Sto → Prop} {R : D → Sto → Prop} {B C N : NP}
/-! ### values -/
theorem w_var {i : Nat} {d : D} (h : ρ[i]? = some (.sh d)) (k : Q d ρ W) : wD (dVar i) ρ W X Q := by unfold wD; rw [ev_var, h]; with_unfolding_all exact k
theorem w_varF {i : Nat} {d : D} (h : ρ[i]? = some (.sh d)) (k : Q d ρ W) : wD (dVarF i) ρ W X Q := by unfold wD; rw [ev_varF, h]; with_unfolding_all exact k
theorem w_varFo {i : Nat} {xs : List D} (h : ρ[i]? = some (.owl xs)) (k : Q (.lst xs) (ρ.set i (.sh (.lst xs))) W) : wD (dVarF i) ρ W X Q := by unfold wD; rw [ev_varF, h]; with_unfolding_all exact k
theorem w_lenVo {i : Nat} {xs : List D} (h : ρ[i]? = some (.owl xs)) (k : Q (.int xs.length) ρ W) : wD (dLenV i) ρ W X Q := by unfold wD dLenV; rw [h]; with_unfolding_all exact k
theorem w_lenV {i : Nat} {d : D} (h : ρ[i]? = some (.sh d)) (k : wO (gLenS W [d]) fun z => Q z ρ W) : wD (dLenV i) ρ W X Q := by
  obtain ⟨z, e, k⟩ := k
  unfold wD dLenV; rw [h]; dsimp only; rw [e]; with_unfolding_all exact k
theorem w_c {d : D} (k : Q d ρ W) : wD (dC d) ρ W X Q := by unfold wD; with_unfolding_all exact k
theorem w_op2 {g : Sto → D → D → Option D} {fa fb : Dn} (k : wD fa ρ W X fun d ρ W => wD fb ρ W X fun e ρ W => wO (g W d e) fun z => Q z ρ W) : wD (dOp2 g fa fb) ρ W X Q := by
  unfold wD at k ⊢
  rw [ev_op2]
  cases h : fa ρ W with
  | val d ρ1 W1 =>
    rw [h] at k
    dsimp only at k
    rw [Res.bind_val]
    cases h2 : fb ρ1 W1 with
    | val e ρ2 W2 =>
      rw [h2] at k
      dsimp only at k
      obtain ⟨z, e, k⟩ := k
      rw [Res.bind_val, e]
      with_unfolding_all exact k
    | exc => rw [h2] at k; with_unfolding_all exact k
    | stk => rw [h2] at k; with_unfolding_all exact k
  | exc => rw [h] at k; with_unfolding_all exact k
  | stk => rw [h] at k; with_unfolding_all exact k
theorem w_bi {g : Sto → List D → Option D} {fA : DnA} (k : wA fA ρ W X fun ds ρ W => wO (g W ds) fun z => Q z ρ W) : wD (dBi g fA) ρ W X Q := by
  unfold wA at k
  unfold wD
  rw [ev_bi]
  cases h : fA ρ W with
  | val d ρ1 W1 =>
    rw [h] at k
    obtain ⟨z, e, k⟩ := k
    rw [ResA.bind_val, e]
    with_unfolding_all exact k
  | exc => rw [h] at k; with_unfolding_all exact k
  | stk => rw [h] at k; with_unfolding_all exact k
theorem w_g1 {g : Sto → List D → Option D} {f : Dn} (k : wD f ρ W X fun d ρ W => wO (g W [d]) fun z => Q z ρ W) : wD (dG1 g f) ρ W X Q := by
  unfold wD at k ⊢
  rw [ev_g1]
  cases h : f ρ W with
  | val d ρ1 W1 =>
    rw [h] at k
    obtain ⟨z, e, k⟩ := k
    rw [Res.bind_val, e]
    with_unfolding_all exact k
  | exc => rw [h] at k; with_unfolding_all exact k
  | stk => rw [h] at k; with_unfolding_all exact k
theorem w_un {g : D → Option D} {f : Dn} (k : wD f ρ W X fun d ρ W => wO (g d) fun z => Q z ρ W) : wD (dUn g f) ρ W X Q := by
  unfold wD at k ⊢
  unfold dUn
  cases h : f ρ W with
  | val d ρ1 W1 =>
    rw [h] at k
    obtain ⟨z, e, k⟩ := k
    rw [Res.bind_val, e]
    with_unfolding_all exact k
  | exc => rw [h] at k; with_unfolding_all exact k
  | stk => rw [h] at k; with_unfolding_all exact k
theorem w_bool {f : Dn} {k : D → Env → Sto → Res} {A : D → Env → Sto → Prop} (h : wD f ρ W X A) (hk : ∀ d ρ W, A d ρ W → wD (k d) ρ W X Q) : wD (fun ρ W => (f ρ W).bind k) ρ W X Q := by
  unfold wD at h ⊢
  dsimp only
  cases e : f ρ W with
  | val d ρ1 W1 => rw [e] at h; rw [Res.bind_val]; with_unfolding_all exact hk _ _ _ h
  | exc => rw [e] at h; with_unfolding_all exact h
  | stk => rw [e] at h; with_unfolding_all exact h
theorem w_and {fa fb : Dn} (k : wD fa ρ W X fun d ρ W => wB W d (fun _ => wD fb ρ W X Q) (fun d => Q d ρ W)) : wD (dAnd fa fb) ρ W X Q := by
  with_unfolding_all refine w_bool k fun d ρ W h => ?_
  unfold wB at h
  unfold wD
  dsimp only
  cases e : tru W d with
  | none => rw [e] at h; with_unfolding_all exact h
  | some b => cases b <;> (rw [e] at h; with_unfolding_all exact h)
theorem w_or {fa fb : Dn} (k : wD fa ρ W X fun d ρ W => wB W d (fun d => Q d ρ W) (fun _ => wD fb ρ W X Q)) : wD (dOr fa fb) ρ W X Q := by
  with_unfolding_all refine w_bool k fun d ρ W h => ?_
  unfold wB at h
  unfold wD
  dsimp only
  cases e : tru W d with
  | none => rw [e] at h; with_unfolding_all exact h
  | some b => cases b <;> (rw [e] at h; with_unfolding_all exact h)
theorem w_if {fc fa fb : Dn} (k : wD fc ρ W X fun d ρ W => wB W d (fun _ => wD fa ρ W X Q) (fun _ => wD fb ρ W X Q)) : wD (dIf fc fa fb) ρ W X Q := by
  with_unfolding_all refine w_bool k fun d ρ W h => ?_
  unfold wB at h
  unfold wD
  dsimp only
  cases e : tru W d with
  | none => rw [e] at h; with_unfolding_all exact h
  | some b => cases b <;> (rw [e] at h; with_unfolding_all exact h)
theorem w_not {fa : Dn} (k : wD fa ρ W X fun d ρ W => wO (tru W d) fun b => Q (.bl (!b)) ρ W) : wD (dNot fa) ρ W X Q := by
  with_unfolding_all refine w_bool k fun d ρ W h => ?_
  obtain ⟨b, e, h⟩ := h
  unfold wD
  dsimp only
  rw [e]
  with_unfolding_all exact h
theorem w_chain {g g' : Sto → D → D → Option D} {fa fb fc : Dn} (k : wD fa ρ W X fun d ρ W => wD fb ρ W X fun e ρ W => wO (g W d e) fun z => ∃ b, z = .bl b ∧ (b = true → wD fc ρ W X fun f ρ W => wO (g' W e f) fun z => Q z ρ W) ∧ (b = false → Q (.bl false) ρ W)) : wD (dChain g g' fa fb fc) ρ W X Q := by
  with_unfolding_all refine w_bool k fun d ρ W h => ?_
  with_unfolding_all refine w_bool h fun e ρ W h => ?_
  obtain ⟨z, e1, b, rfl, h1, h2⟩ := h
  unfold wD
  dsimp only
  rw [e1]
  cases b with
  | false => with_unfolding_all exact h2 rfl
  | true =>
    with_unfolding_all refine w_bool (h1 rfl) fun f ρ W h => ?_
    obtain ⟨z, e1, h⟩ := h
    unfold wD
    dsimp only
    rw [e1]
    with_unfolding_all exact h
/-! ### arguments -/
theorem w_nil (k : QA [] ρ W) : wA dNil ρ W X QA := by unfold wA; with_unfolding_all exact k
theorem w_cons {f : Dn} {r : DnA} (k : wD f ρ W X fun d ρ W => wA r ρ W X fun ds ρ W => QA (d :: ds) ρ W) : wA (dCons f r) ρ W X QA := by
  unfold wD at k
  unfold wA
  rw [ev_cons']
  cases e : f ρ W with
  | val d ρ1 W1 =>
    rw [e] at k
    dsimp only at k ⊢
    unfold wA at k
    cases e2 : r ρ1 W1 with
    | val ds ρ2 W2 => rw [e2] at k; with_unfolding_all exact k
    | exc => rw [e2] at k; with_unfolding_all exact k
    | stk => rw [e2] at k; with_unfolding_all exact k
  | exc => rw [e] at k; with_unfolding_all exact k
  | stk => rw [e] at k; with_unfolding_all exact k
theorem w_abind {fA : DnA} {k : List D → Env → Sto → Res} {A : List D → Env → Sto → Prop} (h : wA fA ρ W X A) (hk : ∀ d ρ W, A d ρ W → wD (k d) ρ W X Q) : wD (fun ρ W => (fA ρ W).bind k) ρ W X Q := by
  unfold wA at h
  unfold wD
  dsimp only
  cases e : fA ρ W with
  | val d ρ1 W1 => rw [e] at h; rw [ResA.bind_val]; with_unfolding_all exact hk _ _ _ h
  | exc => rw [e] at h; with_unfolding_all exact h
  | stk => rw [e] at h; with_unfolding_all exact h
theorem w_call {n : Nat} {Φ : Con} {fA : DnA} (k : wA fA ρ W X fun ds ρ W => ds.length = n ∧ wC (Φ ds W) (fun c fs W => X c fs ρ W) fun d W => Q d ρ W) : wD (dCall n Φ fA) ρ W X Q := by
  with_unfolding_all refine w_abind k fun ds ρ W h => ?_
  obtain ⟨hl, h⟩ := h
  unfold wC at h
  unfold wD
  dsimp only
  rw [if_pos hl]
  cases e : Φ ds W with
  | val => rw [e] at h; with_unfolding_all exact h
  | exc => rw [e] at h; with_unfolding_all exact h
  | stk => rw [e] at h; with_unfolding_all exact h
theorem w_make {c n : Nat} {Ψ : ConI} {fA : DnA} (k : wA fA ρ W X fun ds ρ W => ds.length = n ∧ wO (Ψ ds W) fun z => Q (.obj c z.1) ρ z.2) : wD (dMake c n Ψ fA) ρ W X Q := by
  with_unfolding_all refine w_abind k fun ds ρ W h => ?_
  obtain ⟨hl, ⟨fs, W'⟩, e, h⟩ := h
  unfold wD
  dsimp only
  rw [if_pos hl, e]
  with_unfolding_all exact h
theorem w_ownEq {neg : Bool} {c : Nat} {Φ : Con} {fa fb : Dn} (k : wD fa ρ W X fun d ρ W => wD fb ρ W X fun e ρ W => ∃ fs d' gs, d = .obj c fs ∧ e = .obj d' gs ∧ wC (Φ [d, e] W) (fun _ _ _ => False) fun z W => ∃ b, z = .bl b ∧ Q (.bl (if neg then !b else b)) ρ W) : wD (dOwnEq neg c Φ fa fb) ρ W X Q := by
  with_unfolding_all refine w_bool k fun d ρ W h => ?_
  with_unfolding_all refine w_bool h fun e ρ W h => ?_
  obtain ⟨fs, d', gs, rfl, rfl, h⟩ := h
  obtain ⟨z, W', e, b, rfl, h⟩ := wC_ex h
  unfold wD
  dsimp only
  rw [if_pos rfl, e]
  with_unfolding_all exact h
theorem w_part {f : Dn} (k : wD f ρ W X fun d ρ W => ∃ i, d = .int i ∧ Q (.int i) ρ W) : wD (dPart f) ρ W X Q := by
  with_unfolding_all refine w_bool k fun d ρ W h => ?_
  obtain ⟨i, rfl, h⟩ := h
  with_unfolding_all exact h
theorem w_sl {f l h : Dn} (k : wD f ρ W X fun d ρ W => wD l ρ W X fun dl ρ W => wO (oI dl) fun lo => wD h ρ W X fun dh ρ W => wO (oI dh) fun hi => wO (gSl d lo hi) fun z => Q z ρ W) : wD (dSl f l h) ρ W X Q := by
  with_unfolding_all refine w_bool k fun d ρ W h1 => ?_
  with_unfolding_all refine w_bool h1 fun dl ρ W h1 => ?_
  obtain ⟨lo, e1, h1⟩ := h1
  unfold wD
  dsimp only
  rw [e1]
  with_unfolding_all refine w_bool h1 fun dh ρ W h1 => ?_
  obtain ⟨hi, e2, z, e3, h1⟩ := h1
  unfold wD
  dsimp only
  rw [e2]
  dsimp only
  rw [e3]
  with_unfolding_all exact h1
theorem w_index {f : Dn} {fA : DnA} (k : wD f ρ W X fun d ρ W => ∃ xs, d = .tup xs ∧ wA fA ρ W X fun ds ρ W => ∃ ns z j, ds = [.int z] ∧ intsD xs = some ns ∧ firstI z ns = some j ∧ Q (.int (j : Nat)) ρ W) : wD (dIndex f fA) ρ W X Q := by
  unfold dIndex
  with_unfolding_all refine w_bool k fun d ρ W h => ?_
  obtain ⟨xs, rfl, h⟩ := h
  with_unfolding_all refine w_abind h fun ds ρ W h => ?_
  obtain ⟨ns, z, j, rfl, e1, e2, h⟩ := h
  unfold wD
  dsimp only
  rw [e1, Option.bind_some, e2]
  with_unfolding_all exact h
theorem w_hid {f : Dn} (k : wD f (ρ.map hide) W (fun c fs _ W => X c fs ρ W) fun d _ W => Q d ρ W) : wD (dHid f) ρ W X Q := by
  unfold wD at k ⊢
  unfold dHid
  cases e : f (ρ.map hide) W with
  | val => rw [e] at k; with_unfolding_all exact k
  | exc => rw [e] at k; with_unfolding_all exact k
  | stk => rw [e] at k; with_unfolding_all exact k
theorem w_mth {i : Nat} {g : List D → List D → Option (D × List D)} {fA : DnA} {xs0 : List D} (h0 : ρ[i]? = some (.owl xs0)) (k : wA fA ρ W X fun ds ρ W => ∃ xs, ρ[i]? = some (.owl xs) ∧ wO (g xs ds) fun z => Q z.1 (ρ.set i (.owl z.2)) W) : wD (dMth i g fA) ρ W X Q := by
  have : dMth i g fA ρ W = (fA ρ W).bind fun ds ρ W => (match ρ[i]? with
    | some (.owl xs) => (match g xs ds with
      | some (z, ys) => .val z (ρ.set i (.owl ys)) W
      | none => .stk)
    | _ => .stk) := by unfold dMth; rw [h0] <;> rfl
  unfold wD
  rw [this]
  with_unfolding_all refine w_abind k fun ds ρ W h => ?_
  obtain ⟨xs, e1, ⟨z, ys⟩, e2, h⟩ := h
  unfold wD
  dsimp only
  rw [e1]
  dsimp only
  rw [e2]
  with_unfolding_all exact h
/-! ### what is gone through -/
def itemsD : D → Option (List D)
  | .lst xs => some xs
  | .tup xs => some xs
  | .sq xs => some xs
  | _ => none
theorem w_items {f : Dn} (k : wD f ρ W X fun d ρ W => wO (itemsD d) fun xs => QA xs ρ W) : wA (iItems f) ρ W X QA := by
  unfold wD at k
  unfold wA
  rw [ev_items]
  cases e : f ρ W with
  | val d ρ1 W1 =>
    rw [e] at k
    obtain ⟨xs, e2, k⟩ := k
    cases d <;> first | (cases e2; done) | (cases e2; with_unfolding_all exact k)
  | exc => rw [e] at k; with_unfolding_all exact k
  | stk => rw [e] at k; with_unfolding_all exact k.elim
theorem w_rg1 {fA : DnA} (k : wA fA ρ W X fun ds ρ W => wR1 ds fun j => QA (rgD 0 j.toNat) ρ W) : wA (iRg1 fA) ρ W X QA := by
  unfold wA at k ⊢
  unfold iRg1
  cases e : fA ρ W with
  | val d ρ1 W1 =>
    rw [e] at k
    unfold wR1 at k
    obtain ⟨j, rfl, e2, k⟩ := k
    dsimp only
    rw [if_pos e2]
    with_unfolding_all exact k
  | exc => rw [e] at k; with_unfolding_all exact k
  | stk => rw [e] at k; with_unfolding_all exact k.elim
theorem w_rg2 {fA : DnA} (k : wA fA ρ W X fun ds ρ W => wR2 ds fun i j => QA (rgD i (j - i).toNat) ρ W) : wA (iRg2 fA) ρ W X QA := by
  unfold wA at k ⊢
  unfold iRg2
  cases e : fA ρ W with
  | val d ρ1 W1 =>
    rw [e] at k
    unfold wR2 at k
    obtain ⟨i, j, rfl, e2, k⟩ := k
    dsimp only
    rw [if_pos e2]
    with_unfolding_all exact k
  | exc => rw [e] at k; with_unfolding_all exact k
  | stk => rw [e] at k; with_unfolding_all exact k.elim
theorem w_zip {fA : DnA} (k : wA fA ρ W X fun ds ρ W => ∃ xs ys, (ds = [.lst xs, .lst ys] ∨ ds = [.tup xs, .tup ys]) ∧ QA (zipD xs ys) ρ W) : wA (iZipD fA) ρ W X QA := by
  unfold wA at k ⊢
  unfold iZipD
  cases e : fA ρ W with
  | val d ρ1 W1 =>
    rw [e] at k
    obtain ⟨xs, ys, rfl | rfl, k⟩ := k
    · with_unfolding_all exact k
    · with_unfolding_all exact k
  | exc => rw [e] at k; with_unfolding_all exact k
  | stk => rw [e] at k; with_unfolding_all exact k.elim
theorem w_r1 {f : Dn} (k : wD f ρ W X fun d ρ W => ∃ n, d = .int n ∧ QA [.int 0, .int n] ρ W) : wA (rg1 f) ρ W X QA := by
  unfold wD at k
  unfold wA rg1
  cases e : f ρ W with
  | val d ρ1 W1 =>
    rw [e] at k
    obtain ⟨n, rfl, k⟩ := k
    with_unfolding_all exact k
  | exc => rw [e] at k; with_unfolding_all exact k
  | stk => rw [e] at k; with_unfolding_all exact k.elim
theorem w_r2 {f g : Dn} (k : wD f ρ W X fun d ρ W => ∃ i, d = .int i ∧ wD g ρ W X fun d ρ W => ∃ j, d = .int j ∧ QA [.int i, .int j] ρ W) : wA (rg2 f g) ρ W X QA := by
  unfold wD at k
  unfold wA rg2
  cases e : f ρ W with
  | val d ρ1 W1 =>
    rw [e] at k
    obtain ⟨i, rfl, k⟩ := k
    dsimp only at k ⊢
    cases e2 : g ρ1 W1 with
    | val d2 ρ2 W2 =>
      rw [e2] at k
      obtain ⟨j, rfl, k⟩ := k
      with_unfolding_all exact k
    | exc => rw [e2] at k; with_unfolding_all exact k
    | stk => rw [e2] at k; with_unfolding_all exact k.elim
  | exc => rw [e] at k; with_unfolding_all exact k
  | stk => rw [e] at k; with_unfolding_all exact k.elim
theorem w_lstRg {fR : DnA} (k : wA fR ρ W X fun ds ρ W => wR3 ds fun i j => Q (.lst (rgD i (j - i).toNat)) ρ W) : wD (dLstRg fR) ρ W X Q := by
  unfold wA at k
  unfold wD dLstRg
  cases e : fR ρ W with
  | val d ρ1 W1 =>
    rw [e] at k
    unfold wR3 at k
    obtain ⟨i, j, rfl, e2, k⟩ := k
    dsimp only
    rw [if_pos e2]
    with_unfolding_all exact k
  | exc => rw [e] at k; with_unfolding_all exact k
  | stk => rw [e] at k; with_unfolding_all exact k.elim
theorem w_tupRg {fR : DnA} (k : wA fR ρ W X fun ds ρ W => wR3 ds fun i j => Q (.tup (rgD i (j - i).toNat)) ρ W) : wD (dTupRg fR) ρ W X Q := by
  unfold wA at k
  unfold wD dTupRg
  cases e : fR ρ W with
  | val d ρ1 W1 =>
    rw [e] at k
    unfold wR3 at k
    obtain ⟨i, j, rfl, e2, k⟩ := k
    dsimp only
    rw [if_pos e2]
    with_unfolding_all exact k
  | exc => rw [e] at k; with_unfolding_all exact k
  | stk => rw [e] at k; with_unfolding_all exact k.elim
/-! ### comprehensions -/
abbrev X0 : XP := fun _ _ _ _ => False
def wL (bn : Bn) (ft fe : Dn) (ρb : Env) (ds : List D) (W : Sto) (acc : List D) (K : List D → Sto → Prop) : Prop := wO (lcL bn ft fe ρb ds W acc) fun z => K z.1 z.2
theorem w_lc {vs : List Nat} {fi : DnA} {bn : Bn} {ft fe : Dn} (k : wA fi ρ W X fun ds ρ1 W1 => ds.length < 16777216 ∧ wL bn ft fe (blkE ρ1 vs) ds W1 [] fun acc W2 => Q (.lst acc) ρ1 W2) : wD (dLc vs fi bn ft fe) ρ W X Q := by
  unfold wA at k
  unfold wD dLc
  cases e : fi ρ W with
  | val d ρ1 W1 =>
    rw [e] at k
    obtain ⟨hl, ⟨acc, W2⟩, e2, k⟩ := k
    dsimp only
    rw [if_pos hl, e2]
    with_unfolding_all exact k
  | exc => rw [e] at k; with_unfolding_all exact k
  | stk => rw [e] at k; with_unfolding_all exact k.elim
/-- by an invariant of what was gathered -/
theorem wL_inv {bn : Bn} {ft fe : Dn} {ρb : Env} {K : List D → Sto → Prop} (I : Nat → List D → Sto → Prop) {ds : List D} : ∀ (k : Nat) {W : Sto} {acc : List D}, I k acc W →
    (∀ (i : Nat) d acc W, ds[i]? = some d → I (k + i) acc W → ∃ ρ1, bn d ρb = some ρ1 ∧ wD ft ρ1 W X0 fun t ρ2 W2 => wB W2 t (fun _ => wD fe ρ2 W2 X0 fun x _ W3 => I (k + i + 1) (acc ++ [x]) W3) (fun _ => I (k + i + 1) acc W2)) →
    (∀ acc W, I (k + ds.length) acc W → K acc W) → wL bn ft fe ρb ds W acc K := by
  induction ds with
  | nil => exact fun k W acc h _ hK => ⟨(acc, W), rfl, hK _ _ h⟩
  | cons d ds ih =>
    intro k W acc h st hK
    obtain ⟨ρ1, h1, h2⟩ := st 0 d acc W rfl h
    obtain ⟨t, ρ2, W2, e2, h2⟩ := wD_ex h2
    have st' : ∀ (i : Nat) x acc W, ds[i]? = some x → I (k + 1 + i) acc W → ∃ ρ1, bn x ρb = some ρ1 ∧ wD ft ρ1 W X0 fun t ρ2 W2 => wB W2 t (fun _ => wD fe ρ2 W2 X0 fun x _ W3 => I (k + 1 + i + 1) (acc ++ [x]) W3) (fun _ => I (k + 1 + i + 1) acc W2) := fun i x acc W hx hI => by
      have := st (i + 1) x acc W (by simpa using hx) (by rw [← Nat.add_assoc]; rwa [Nat.add_right_comm])
      rwa [← Nat.add_assoc, Nat.add_right_comm k i 1] at this
    have hK' : ∀ acc W, I (k + 1 + ds.length) acc W → K acc W := fun acc W h => hK acc W (by rw [List.length_cons, Nat.add_comm ds.length 1, ← Nat.add_assoc]; with_unfolding_all exact h)
    unfold wB at h2
    unfold wL
    cases e3 : tru W2 t with
    | none => rw [e3] at h2; with_unfolding_all exact h2.elim
    | some b =>
      cases b with
      | true =>
        rw [e3] at h2
        obtain ⟨x, ρ3, W3, e4, h3⟩ := wD_ex h2
        simp only [lcL, h1, e2, e3, e4]
        with_unfolding_all exact ih (k + 1) (by simpa using h3) st' hK'
      | false =>
        rw [e3] at h2
        simp only [lcL, h1, e2, e3]
        with_unfolding_all exact ih (k + 1) (by simpa using h2) st' hK'
/-- one value of each item, nothing else changed -/
theorem wL_map {bn : Bn} {fe : Dn} {ρb : Env} {K : List D → Sto → Prop} {ds : List D} (f : D → D) (st : ∀ d ∈ ds, ∃ ρ1, bn d ρb = some ρ1 ∧ wD fe ρ1 W X0 fun x _ W3 => x = f d ∧ W3 = W) (hK : K (ds.map f) W) : wL bn (dC (.bl true)) fe ρb ds W [] K := by
  refine ⟨(ds.map f, W), ?_, hK⟩
  have := lcL_map (bn := bn) (fe := fe) (ρb := ρb) (W := W) (f := f) (ds := ds) (acc := []) fun d hd => by
    obtain ⟨ρ1, h1, h2⟩ := st d hd
    obtain ⟨x, ρ2, W2, e, rfl, rfl⟩ := wD_ex h2
    with_unfolding_all exact ⟨ρ1, ρ2, h1, e⟩
  simpa using this
/-- some of the items, one value of each -/
theorem wL_fmap {bn : Bn} {ft fe : Dn} {ρb : Env} {K : List D → Sto → Prop} {ds : List D} (q : D → Bool) (f : D → D) (st : ∀ d ∈ ds, ∃ ρ1, bn d ρb = some ρ1 ∧ wD ft ρ1 W X0 fun t ρ2 W2 => t = .bl (q d) ∧ W2 = W ∧ (q d = true → wD fe ρ2 W X0 fun x _ W3 => x = f d ∧ W3 = W)) (hK : K ((ds.filter q).map f) W) : wL bn ft fe ρb ds W [] K := by
  have key : ∀ (ds acc : List D), (∀ d ∈ ds, ∃ ρ1, bn d ρb = some ρ1 ∧ wD ft ρ1 W X0 fun t ρ2 W2 => t = .bl (q d) ∧ W2 = W ∧ (q d = true → wD fe ρ2 W X0 fun x _ W3 => x = f d ∧ W3 = W)) → lcL bn ft fe ρb ds W acc = some (acc ++ (ds.filter q).map f, W) := by
    intro ds
    induction ds with
    | nil => intro acc _; simp [lcL]
    | cons d ds ih =>
      intro acc h
      obtain ⟨ρ1, h1, h2⟩ := h d List.mem_cons_self
      obtain ⟨t, ρ2, W2, e, rfl, rfl, h3⟩ := wD_ex h2
      cases hq : q d with
      | true =>
        rw [hq] at e
        obtain ⟨x, ρ3, W3, e2, rfl, rfl⟩ := wD_ex (h3 hq)
        have := ih (acc ++ [f d]) fun x hx => h x (List.mem_cons_of_mem _ hx)
        simp only [lcL, h1, e, tru_bl, e2, this, List.filter_cons, hq, if_true]
        simp
      | false =>
        rw [hq] at e
        have := ih acc fun x hx => h x (List.mem_cons_of_mem _ hx)
        simp only [lcL, h1, e, tru_bl, this, List.filter_cons, hq, Bool.false_eq_true, if_false]
  with_unfolding_all exact ⟨(_, W), by simpa using key ds [] st, hK⟩
theorem w_lc2 {vs vs1 : List Nat} {fi fi1 : DnA} {bn bn1 : Bn} {ft ft1 fe : Dn} (k : wA fi ρ W X fun ds ρ1 W1 => wO (lc2L bn ft fi1 vs1 bn1 ft1 fe (blkE ρ1 vs) ds W1 []) fun z => Q (.lst z.1) ρ1 z.2) : wD (dLc2 vs vs1 fi bn ft fi1 bn1 ft1 fe) ρ W X Q := by
  unfold wA at k
  unfold wD dLc2
  cases e : fi ρ W with
  | val d ρ1 W1 =>
    rw [e] at k
    obtain ⟨⟨acc, W2⟩, e2, k⟩ := k
    dsimp only
    rw [e2]
    with_unfolding_all exact k
  | exc => rw [e] at k; with_unfolding_all exact k
  | stk => rw [e] at k; with_unfolding_all exact k.elim
/-- two fors, nothing but the outcome changed: for each item of the first a list -/
theorem w2L_map {bn bn1 : Bn} {ft ft1 fe : Dn} {fi1 : DnA} {vs1 : List Nat} {ρb : Env} {W : Sto} (f : D → List D) (m : Nat) : ∀ (ds acc : List D), acc.length + ds.length * m < 16777216 →
    (∀ d ∈ ds, (f d).length ≤ m ∧ ∃ ρ1, bn d ρb = some ρ1 ∧ wD ft ρ1 W X0 fun t ρ2 W2 => wB W2 t (fun _ => W2 = W ∧ wA fi1 ρ2 W X0 fun es ρ3 W3 => W3 = W ∧ es.length ≤ m ∧ ∀ acc, lcL bn1 ft1 fe (blkE ρ3 vs1) es W acc = some (acc ++ f d, W)) (fun _ => W2 = W ∧ f d = [])) →
    lc2L bn ft fi1 vs1 bn1 ft1 fe ρb ds W acc = some (acc ++ ds.flatMap f, W)
  | [], acc, _, _ => by simp [lc2L]
  | d :: ds, acc, hl, h => by
    obtain ⟨hm, ρ1, h1, h2⟩ := h d List.mem_cons_self
    obtain ⟨t, ρ2, W2, e2, h5⟩ := wD_ex h2
    have hl2 : (acc ++ f d).length + ds.length * m < 16777216 := by
      rw [List.length_append]; rw [List.length_cons, Nat.succ_mul] at hl; omega
    have ih := w2L_map f m ds (acc ++ f d) hl2 fun x hx => h x (List.mem_cons_of_mem _ hx)
    unfold wB at h5
    cases e3 : tru W2 t with
    | none => rw [e3] at h5; with_unfolding_all exact h5.elim
    | some b =>
      cases b with
      | true =>
        rw [e3] at h5
        obtain ⟨hw, h5⟩ := h5
        subst hw
        unfold wA at h5
        cases e4 : fi1 ρ2 W2 with
        | val es ρ3 W3 =>
          rw [e4] at h5
          obtain ⟨hw, hes, h3⟩ := h5
          subst hw
          have hl3 : acc.length + es.length < 16777216 := by
            rw [List.length_cons, Nat.succ_mul] at hl; omega
          simp only [lc2L, h1, e2, e3, e4, if_pos hl3, h3, ih]
          simp
        | exc => rw [e4] at h5; with_unfolding_all exact h5.elim
        | stk => rw [e4] at h5; with_unfolding_all exact h5.elim
      | false =>
        rw [e3] at h5
        obtain ⟨hw, h5⟩ := h5
        subst hw
        rw [h5, List.append_nil] at ih
        simp only [lc2L, h1, e2, e3, ih, List.flatMap_cons, h5, List.nil_append]
/-! ### statements -/
theorem w_snil (k : N ρ W) : wS sNil ρ W X R B C N := by unfold wS; with_unfolding_all exact k
theorem w_pass (k : N ρ W) : wS sPass ρ W X R B C N := by unfold wS; with_unfolding_all exact k
theorem w_brk (k : B ρ W) : wS sBrk ρ W X R B C N := by unfold wS; with_unfolding_all exact k
theorem w_cont (k : C ρ W) : wS sCont ρ W X R B C N := by unfold wS; with_unfolding_all exact k
theorem w_retN (k : R .non W) : wS sRetN ρ W X R B C N := by unfold wS; with_unfolding_all exact k
theorem w_seq {f g : Ds} (k : wS f ρ W X R B C fun ρ W => wS g ρ W X R B C N) : wS (sSeq f g) ρ W X R B C N := by
  unfold wS at k ⊢
  rw [ev_seq]
  cases e : f ρ W <;> (rw [e] at k; with_unfolding_all exact k)
theorem w_sbind {f : Dn} {k : D → Ds} {A : VP} (h : wD f ρ W X A) (hk : ∀ d ρ W, A d ρ W → wS (k d) ρ W X R B C N) : wS (fun ρ W => (f ρ W).bindS k) ρ W X R B C N := by
  unfold wD at h
  unfold wS
  dsimp only
  cases e : f ρ W with
  | val d ρ1 W1 => rw [e] at h; rw [Res.bindS_val]; with_unfolding_all exact hk _ _ _ h
  | exc => rw [e] at h; with_unfolding_all exact h
  | stk => rw [e] at h; with_unfolding_all exact h
theorem w_ret {f : Dn} (k : wD f ρ W X fun d _ W => R d W) : wS (sRet f) ρ W X R B C N := w_sbind k fun _ _ _ h => by unfold wS; with_unfolding_all exact h
theorem w_expr {f : Dn} (k : wD f ρ W X fun _ ρ W => N ρ W) : wS (sExpr f) ρ W X R B C N := w_sbind k fun _ _ _ h => by unfold wS; with_unfolding_all exact h
theorem w_asg {i : Nat} {f : Dn} (k : wD f ρ W X fun d ρ W => N (ρ.set i (.sh d)) W) : wS (sAsg i f) ρ W X R B C N := w_sbind k fun _ _ _ h => by unfold wS; with_unfolding_all exact h
theorem w_sif {fc : Dn} {f g : Ds} (k : wD fc ρ W X fun d ρ W => wB W d (fun _ => wS f ρ W X R B C N) (fun _ => wS g ρ W X R B C N)) : wS (sIf fc f g) ρ W X R B C N := by
  refine w_sbind k fun d ρ W h => ?_
  unfold wB at h
  unfold wS
  dsimp only
  cases e : tru W d with
  | none => rw [e] at h; with_unfolding_all exact h
  | some b => cases b <;> (rw [e] at h; with_unfolding_all exact h)
theorem w_owl {i : Nat} {f : Dn} (k : wD f ρ W X fun d ρ W => ∃ xs, d = .lst xs ∧ N (ρ.set i (.owl xs)) W) : wS (sOwl i f) ρ W X R B C N := by
  unfold wD at k
  unfold wS
  rw [ev_owl]
  cases e : f ρ W with
  | val d ρ1 W1 =>
    rw [e] at k
    obtain ⟨xs, rfl, k⟩ := k
    with_unfolding_all exact k
  | exc => rw [e] at k; with_unfolding_all exact k
  | stk => rw [e] at k; with_unfolding_all exact k.elim
theorem w_unp {is : List Nat} {f : Dn} (k : wD f ρ W X fun d ρ W => wO (bTup is d ρ) fun ρ' => N ρ' W) : wS (sUnp is f) ρ W X R B C N := by
  refine w_sbind k fun d ρ W h => ?_
  obtain ⟨ρ', e, h⟩ := h
  unfold wS
  dsimp only
  rw [e]
  with_unfolding_all exact h
@[irreducible] def wP (pd : Bool) (cs : List (Bool × Dn)) (ρ : Env) (W : Sto) (X : XP) (K : List Slot → Env → Sto → Prop) : Prop := match parL pd cs ρ W with
  | .val sls ρ W => K sls ρ W
  | .exc c fs ρ W => X c fs ρ W
  | .stk => False
theorem wP_nil {pd : Bool} {K : List Slot → Env → Sto → Prop} (k : K [] ρ W) : wP pd [] ρ W X K := by unfold wP; with_unfolding_all exact k
theorem wP_sh {f : Dn} {r : List (Bool × Dn)} {K : List Slot → Env → Sto → Prop} (k : wD f ρ W X fun d ρ W => wP false r ρ W X fun sls ρ W => K (.sh d :: sls) ρ W) : wP false ((false, f) :: r) ρ W X K := by
  unfold wD at k
  unfold wP
  simp only [parL, Bool.false_eq_true, if_false, Bool.or_self]
  cases e : f ρ W with
  | val d ρ1 W1 =>
    rw [e] at k
    dsimp only at k ⊢
    unfold wP at k
    cases e2 : parL false r ρ1 W1 <;> (rw [e2] at k; with_unfolding_all exact k)
  | exc => rw [e] at k; with_unfolding_all exact k
  | stk => rw [e] at k; with_unfolding_all exact k.elim
theorem wP_shp {f : Dn} {r : List (Bool × Dn)} {K : List Slot → Env → Sto → Prop} (k : wD (dHid f) ρ W X fun d ρ W => wP true r ρ W X fun sls ρ W => K (.sh d :: sls) ρ W) : wP true ((false, f) :: r) ρ W X K := by
  unfold wD at k
  unfold wP
  simp only [parL, Bool.false_eq_true, if_false, if_true, Bool.or_false]
  cases e : dHid f ρ W with
  | val d ρ1 W1 =>
    rw [e] at k
    dsimp only at k ⊢
    unfold wP at k
    cases e2 : parL true r ρ1 W1 <;> (rw [e2] at k; with_unfolding_all exact k)
  | exc => rw [e] at k; with_unfolding_all exact k
  | stk => rw [e] at k; with_unfolding_all exact k.elim
theorem wP_ow {f : Dn} {r : List (Bool × Dn)} {K : List Slot → Env → Sto → Prop} (k : wD f ρ W X fun d ρ W => ∃ xs, d = .lst xs ∧ wP true r ρ W X fun sls ρ W => K (.owl xs :: sls) ρ W) : wP false ((true, f) :: r) ρ W X K := by
  unfold wD at k
  unfold wP
  simp only [parL, Bool.false_eq_true, if_false, if_true, Bool.or_true]
  cases e : f ρ W with
  | val d ρ1 W1 =>
    rw [e] at k
    obtain ⟨xs, rfl, k⟩ := k
    dsimp only
    unfold wP at k
    cases e2 : parL true r ρ1 W1 <;> (rw [e2] at k; with_unfolding_all exact k)
  | exc => rw [e] at k; with_unfolding_all exact k
  | stk => rw [e] at k; with_unfolding_all exact k.elim
theorem wP_owp {f : Dn} {r : List (Bool × Dn)} {K : List Slot → Env → Sto → Prop} (k : wD (dHid f) ρ W X fun d ρ W => ∃ xs, d = .lst xs ∧ wP true r ρ W X fun sls ρ W => K (.owl xs :: sls) ρ W) : wP true ((true, f) :: r) ρ W X K := by
  unfold wD at k
  unfold wP
  simp only [parL, if_true, Bool.or_true]
  cases e : dHid f ρ W with
  | val d ρ1 W1 =>
    rw [e] at k
    obtain ⟨xs, rfl, k⟩ := k
    dsimp only
    unfold wP at k
    cases e2 : parL true r ρ1 W1 <;> (rw [e2] at k; with_unfolding_all exact k)
  | exc => rw [e] at k; with_unfolding_all exact k
  | stk => rw [e] at k; with_unfolding_all exact k.elim
theorem w_par {is : List Nat} {cs : List (Bool × Dn)} (k : wP false cs ρ W X fun sls ρ W => sls.length = is.length ∧ N (setSl is sls ρ) W) : wS (sPar is cs) ρ W X R B C N := by
  unfold wP at k
  unfold wS sPar
  cases e : parL false cs ρ W with
  | val sls ρ1 W1 =>
    rw [e] at k
    obtain ⟨hl, k⟩ := k
    dsimp only
    rw [if_pos hl]
    with_unfolding_all exact k
  | exc => rw [e] at k; with_unfolding_all exact k
  | stk => rw [e] at k; with_unfolding_all exact k.elim
theorem w_for {fi : DnA} {bn : Bn} {fb : Ds} (k : wA fi ρ W X fun ds ρ W => wS (forL bn fb ds) ρ W X R B C N) : wS (sFor fi bn fb) ρ W X R B C N := by
  unfold wA at k
  unfold wS
  rw [ev_for]
  cases e : fi ρ W with
  | val d ρ1 W1 => rw [e] at k; with_unfolding_all exact k
  | exc => rw [e] at k; with_unfolding_all exact k
  | stk => rw [e] at k; with_unfolding_all exact k.elim
/-- a loop by an invariant -/
theorem w_forI (I : Nat → Env → Sto → Prop) {bn : Bn} {fb : Ds} {ds : List D} : ∀ (k : Nat) {ρ : Env} {W : Sto}, I k ρ W →
    (∀ (i : Nat) d ρ W, ds[i]? = some d → I (k + i) ρ W → ∃ ρ1, bn d ρ = some ρ1 ∧ wS fb ρ1 W X R N (I (k + i + 1)) (I (k + i + 1))) →
    (∀ ρ W, I (k + ds.length) ρ W → N ρ W) → wS (forL bn fb ds) ρ W X R B C N := by
  induction ds with
  | nil => with_unfolding_all exact fun k ρ W h _ hK => hK _ _ h
  | cons d ds ih =>
    intro k ρ W h st hK
    obtain ⟨ρ1, h1, h2⟩ := st 0 d ρ W rfl h
    have st' : ∀ (i : Nat) x ρ W, ds[i]? = some x → I (k + 1 + i) ρ W → ∃ ρ1, bn x ρ = some ρ1 ∧ wS fb ρ1 W X R N (I (k + 1 + i + 1)) (I (k + 1 + i + 1)) := fun i x ρ W hx hI => by
      have := st (i + 1) x ρ W (by simpa using hx) (by rw [← Nat.add_assoc]; rwa [Nat.add_right_comm])
      rwa [← Nat.add_assoc, Nat.add_right_comm k i 1] at this
    have hK' : ∀ ρ W, I (k + 1 + ds.length) ρ W → N ρ W := fun ρ W h => hK ρ W (by rw [List.length_cons, Nat.add_comm ds.length 1, ← Nat.add_assoc]; with_unfolding_all exact h)
    unfold wS at h2 ⊢
    simp only [forL, h1]
    cases e : fb ρ1 W with
    | nx ρ2 W2 => rw [e] at h2; with_unfolding_all exact ih (k + 1) (by simpa using h2) st' hK'
    | ct ρ2 W2 => rw [e] at h2; with_unfolding_all exact ih (k + 1) (by simpa using h2) st' hK'
    | bk ρ2 W2 => rw [e] at h2; with_unfolding_all exact h2
    | rt => rw [e] at h2; with_unfolding_all exact h2
    | exc => rw [e] at h2; with_unfolding_all exact h2
    | stk => rw [e] at h2; with_unfolding_all exact h2
/-- a loop over what is known: each item at its place -/
theorem w_forP (I : List D → Env → Sto → Prop) {bn : Bn} {fb : Ds} {ds : List D} : ∀ (pre : List D) {ρ : Env} {W : Sto}, I pre ρ W →
    (∀ (pre : List D) d ρ W, I pre ρ W → d ∈ ds → ∃ ρ1, bn d ρ = some ρ1 ∧ wS fb ρ1 W X R N (I (pre ++ [d])) (I (pre ++ [d]))) →
    (∀ ρ W, I (pre ++ ds) ρ W → N ρ W) → wS (forL bn fb ds) ρ W X R B C N := by
  induction ds with
  | nil => with_unfolding_all exact fun k ρ W h _ hK => hK _ _ (by simpa using h)
  | cons d ds ih =>
    intro pre ρ W h st hK
    obtain ⟨ρ1, h1, h2⟩ := st pre d ρ W h List.mem_cons_self
    unfold wS at h2 ⊢
    simp only [forL, h1]
    have hK' : ∀ ρ W, I (pre ++ [d] ++ ds) ρ W → N ρ W := fun ρ W h => hK ρ W (by simpa using h)
    cases e : fb ρ1 W with
    | nx ρ2 W2 => rw [e] at h2; with_unfolding_all exact ih (pre ++ [d]) h2 (fun p x ρ W hI hx => st p x ρ W hI (List.mem_cons_of_mem _ hx)) hK'
    | ct ρ2 W2 => rw [e] at h2; with_unfolding_all exact ih (pre ++ [d]) h2 (fun p x ρ W hI hx => st p x ρ W hI (List.mem_cons_of_mem _ hx)) hK'
    | bk ρ2 W2 => rw [e] at h2; with_unfolding_all exact h2
    | rt => rw [e] at h2; with_unfolding_all exact h2
    | exc => rw [e] at h2; with_unfolding_all exact h2
    | stk => rw [e] at h2; with_unfolding_all exact h2
/-- a while loop by an invariant that counts the turns left -/
theorem w_while (I : Nat → Env → Sto → Prop) {fc : Dn} {fb : Ds} (st : ∀ k ρ W, I k ρ W → wD fc ρ W X fun d ρ1 W1 => wB W1 d (fun _ => 0 < k ∧ wS fb ρ1 W1 X R N (I (k - 1)) (I (k - 1))) (fun _ => N ρ1 W1)) : ∀ (n m : Nat) {ρ : Env} {W : Sto}, m < n → I m ρ W → wS (whL fc fb n) ρ W X R B C N := by
  intro n
  induction n with
  | zero => exact fun m ρ W h => absurd h (Nat.not_lt_zero _)
  | succ n ih =>
    intro m ρ W hm hI
    have := st m ρ W hI
    refine w_sbind this fun d ρ W h => ?_
    unfold wB at h
    unfold wS
    dsimp only
    cases e : tru W d with
    | none => rw [e] at h; with_unfolding_all exact h.elim
    | some b =>
      rw [e] at h
      cases b with
      | false => with_unfolding_all exact h
      | true =>
        obtain ⟨hk, h⟩ := h
        dsimp only at h ⊢
        unfold wS at h
        cases e2 : fb ρ W with
        | nx ρ2 W2 => rw [e2] at h; with_unfolding_all exact ih (m - 1) (by omega) h
        | ct ρ2 W2 => rw [e2] at h; with_unfolding_all exact ih (m - 1) (by omega) h
        | bk ρ2 W2 => rw [e2] at h; with_unfolding_all exact h
        | rt => rw [e2] at h; with_unfolding_all exact h
        | exc => rw [e2] at h; with_unfolding_all exact h
        | stk => rw [e2] at h; with_unfolding_all exact h
/-- a def -/
theorem w_run {n : Nat} {fb : Ds} {ds : List D} {ρ0 : Env} {XC : Nat → List (Str × D) → Sto → Prop} {QC : D → Sto → Prop} (he : envOf n ds = ρ0) (k : wS fb ρ0 W (fun c fs _ W => XC c fs W) QC (fun _ _ => False) (fun _ _ => False) (fun _ W => QC .non W)) : wC (runD n fb ds W) XC QC := by
  subst he
  unfold wS at k
  unfold wC runD
  cases e : fb (envOf n ds) W <;> (rw [e] at k; with_unfolding_all exact k)
end
/-! ### what a test chooses -/
section
variable {W : Sto} {A B : D → Prop}
theorem wB_t (k : A (.bl true)) : wB W (.bl true) A B := by with_unfolding_all exact k
theorem wB_f (k : B (.bl false)) : wB W (.bl false) A B := by with_unfolding_all exact k
theorem wB_dec {p : Prop} [Decidable p] (h1 : p → A (.bl true)) (h2 : ¬ p → B (.bl false)) : wB W (.bl (decide p)) A B := by
  by_cases h : p
  · rw [decide_eq_true h]; with_unfolding_all exact wB_t (h1 h)
  · rw [decide_eq_false h]; with_unfolding_all exact wB_f (h2 h)
theorem wB_bl {b : Bool} (h1 : b = true → A (.bl true)) (h2 : b = false → B (.bl false)) : wB W (.bl b) A B := by
  cases b
  · with_unfolding_all exact wB_f (h2 rfl)
  · with_unfolding_all exact wB_t (h1 rfl)
theorem wB_ndec {p : Prop} [Decidable p] (h1 : ¬ p → A (.bl true)) (h2 : p → B (.bl false)) : wB W (.bl (!decide p)) A B := by
  by_cases h : p
  · rw [decide_eq_true h]; with_unfolding_all exact wB_f (h2 h)
  · rw [decide_eq_false h]; with_unfolding_all exact wB_t (h1 h)
theorem wB_nbl {b : Bool} (h1 : b = false → A (.bl true)) (h2 : b = true → B (.bl false)) : wB W (.bl (!b)) A B := by
  cases b
  · with_unfolding_all exact wB_t (h1 rfl)
  · with_unfolding_all exact wB_f (h2 rfl)
theorem wB_nt (k : B (.bl false)) : wB W (.bl (!true)) A B := by with_unfolding_all exact k
theorem wB_nf (k : A (.bl true)) : wB W (.bl (!false)) A B := by with_unfolding_all exact k
theorem wB_non (k : B .non) : wB W .non A B := by with_unfolding_all exact k
theorem wB_int {i : Int} (h1 : i ≠ 0 → A (.int i)) (h2 : i = 0 → B (.int i)) : wB W (.int i) A B := by
  unfold wB
  rw [tru_int]
  by_cases h : i = 0
  · subst h; with_unfolding_all exact h2 rfl
  · have : (i != 0) = true := by simp [h]
    rw [this]
    with_unfolding_all exact h1 h
end
end Dl

set_option Elab.async false
set_option linter.all false
set_option maxRecDepth 100000
set_option maxHeartbeats 4000000
/-! What the builtins give, and the stepper. -/
namespace Dl
open PySem PySem.Spec PyProof.Rows L2
theorem o_rfl {α : Type} {o : Option α} {z : α} {k : α → Prop} (h : o = some z) (hk : k z) : wO o k := ⟨z, h, hk⟩
theorem o_items {d : D} {xs : List D} {k : List D → Prop} (h : itemsD d = some xs) (hk : k xs) : wO (itemsD d) k := ⟨xs, h, hk⟩
theorem o_bt {is : List Nat} {d : D} {ρ ρ' : Env} {k : Env → Prop} (h : bTup is d ρ = some ρ') (hk : k ρ') : wO (bTup is d ρ) k := ⟨ρ', h, hk⟩
theorem wO_mono {α : Type} {o : Option α} {k k' : α → Prop} (h : wO o k) (m : ∀ z, k z → k' z) : wO o k' := by
  obtain ⟨z, e, h⟩ := h
  exact ⟨z, e, m z h⟩
section
variable {W : Sto} {k : D → Prop}
theorem o_sub {a b : Int} (h : k (.int (a - b))) : wO (gSub (.int a) (.int b)) k := ⟨_, by simp [gSub, g2], h⟩
theorem o_add {a b : Int} (h : k (.int (a + b))) : wO (gAdd (.int a) (.int b)) k := ⟨_, by simp [gAdd, gAddI, g2], h⟩
theorem o_lt {a b : Int} (h : k (.bl (decide (a < b)))) : wO (gLt (.int a) (.int b)) k := ⟨_, rfl, h⟩
theorem o_le {a b : Int} (h : k (.bl (decide (a ≤ b)))) : wO (gLe (.int a) (.int b)) k := ⟨_, rfl, h⟩
theorem o_gt {a b : Int} (h : k (.bl (decide (b < a)))) : wO (gGt (.int a) (.int b)) k := ⟨_, rfl, h⟩
theorem o_ge {a b : Int} (h : k (.bl (decide (b ≤ a)))) : wO (gGe (.int a) (.int b)) k := ⟨_, rfl, h⟩
theorem o_eqI {a b : Int} (h : k (.bl (decide (a = b)))) : wO (gEq (.int a) (.int b)) k := ⟨_, by simp only [gEq, plain, Bool.and_self, if_true, eqd]; rfl, h⟩
theorem o_neI {a b : Int} (h : k (.bl (!decide (a = b)))) : wO (gNe (.int a) (.int b)) k := ⟨_, by simp only [gNe, plain, Bool.and_self, if_true, eqd]; rfl, h⟩
theorem o_eqB {a b : Bool} (h : k (.bl (a == b))) : wO (gEq (.bl a) (.bl b)) k := ⟨_, by simp only [gEq, plain, Bool.and_self, if_true, eqd], h⟩
theorem o_neB {a b : Bool} (h : k (.bl (!(a == b)))) : wO (gNe (.bl a) (.bl b)) k := ⟨_, by simp only [gNe, plain, Bool.and_self, if_true, eqd], h⟩
theorem o_eqP {d e : D} (h1 : plain 16 d = true) (h2 : plain 16 e = true) (h : k (.bl (eqd d e))) : wO (gEq d e) k := ⟨_, by simp only [gEq, h1, h2, Bool.and_self, if_true], h⟩
theorem o_neP {d e : D} (h1 : plain 16 d = true) (h2 : plain 16 e = true) (h : k (.bl (!eqd d e))) : wO (gNe d e) k := ⟨_, by simp only [gNe, h1, h2, Bool.and_self, if_true], h⟩
theorem o_mod {a b : Int} (h0 : 0 < b) (h : k (.int (a % b))) : wO (gMod (.int a) (.int b)) k := ⟨_, by simp [gMod, g2, h0], h⟩
theorem o_fdiv {a b : Int} (h0 : 0 < b) (h1 : b < 1073741824) (h : k (.int (a / b))) : wO (gFdiv (.int a) (.int b)) k := ⟨_, by simp [gFdiv, g2, cDiv, h0, h1], h⟩
theorem cMul_r {i j : Int} (h0 : -18446744073709551616 < j) (h1 : j < 18446744073709551616) : cMul i j = true := by
  unfold cMul
  rw [Bool.or_eq_true]
  refine .inr ?_
  rw [Bool.and_eq_true, decide_eq_true_eq, decide_eq_true_eq]
  have e : (2 : Int) ^ 64 = 18446744073709551616 := by decide
  rw [e]
  exact ⟨h0, h1⟩
theorem cMul_l {i j : Int} (h0 : -18446744073709551616 < i) (h1 : i < 18446744073709551616) : cMul i j = true := by
  unfold cMul
  rw [Bool.or_eq_true]
  refine .inl ?_
  rw [Bool.and_eq_true, decide_eq_true_eq, decide_eq_true_eq]
  have e : (2 : Int) ^ 64 = 18446744073709551616 := by decide
  rw [e]
  exact ⟨h0, h1⟩
theorem o_mulR {a b : Int} (h0 : -18446744073709551616 < b) (h1 : b < 18446744073709551616) (h : k (.int (a * b))) : wO (gMulI (.int a) (.int b)) k := ⟨_, by simp only [gMulI, g2, cMul_r h0 h1, if_true], h⟩
theorem o_mulL {a b : Int} (h0 : -18446744073709551616 < a) (h1 : a < 18446744073709551616) (h : k (.int (a * b))) : wO (gMulI (.int a) (.int b)) k := ⟨_, by simp only [gMulI, g2, cMul_l h0 h1, if_true], h⟩
theorem o_isN {d : D} (h : k (.bl (isNon d))) : wO (gIsN d .non) k := ⟨_, by cases d <;> rfl, h⟩
theorem o_notN {d : D} (h : k (.bl (!isNon d))) : wO (gNotN d .non) k := ⟨_, by cases d <;> rfl, h⟩
theorem o_tup {ds : List D} (hl : ds.length ≤ 1000) (h : k (.tup ds)) : wO (gTup W ds) k := ⟨_, by unfold gTup; rw [if_pos (by omega)], h⟩
theorem o_lst {ds : List D} (hl : ds.length ≤ 1000) (h : k (.lst ds)) : wO (gLst W ds) k := ⟨_, by unfold gLst; rw [if_pos (by omega)], h⟩
theorem o_addT {a b : List D} (hl : a.length + b.length ≤ 1000000) (h : k (.tup (a ++ b))) : wO (gAdd (.tup a) (.tup b)) k := ⟨_, by
  have h2 : a.length + b.length ≤ 16777216 := by omega
  simp only [gAdd, gAddI, g2, gAddT, h2, if_true]
  rfl, h⟩
theorem o_addL {a b : List D} (hl : a.length + b.length ≤ 1000000) (h : k (.lst (a ++ b))) : wO (gAdd (.lst a) (.lst b)) k := ⟨_, by
  have h2 : a.length + b.length ≤ 16777216 := by omega
  simp only [gAdd, gAddI, g2, gAddT, gAddL, h2, if_true]
  rfl, h⟩
theorem o_lenT {xs : List D} (h : k (.int xs.length)) : wO (gLenS W [.tup xs]) k := ⟨_, rfl, h⟩
theorem o_lenL {xs : List D} (h : k (.int xs.length)) : wO (gLenS W [.lst xs]) k := ⟨_, rfl, h⟩
theorem o_tupT {xs : List D} (h : k (.tup xs)) : wO (gTupleOf W [.tup xs]) k := ⟨_, rfl, h⟩
theorem o_tupL {xs : List D} (h : k (.tup xs)) : wO (gTupleOf W [.lst xs]) k := ⟨_, rfl, h⟩
theorem o_lstT {xs : List D} (h : k (.lst xs)) : wO (gListOf W [.tup xs]) k := ⟨_, rfl, h⟩
theorem o_lstL {xs : List D} (h : k (.lst xs)) : wO (gListOf W [.lst xs]) k := ⟨_, rfl, h⟩
theorem o_lstS {xs : List D} (h : k (.lst xs)) : wO (gListOf W [.sq xs]) k := ⟨_, rfl, h⟩
theorem o_intI {i : Int} (h : k (.int i)) : wO (gInt W [.int i]) k := ⟨_, rfl, h⟩
theorem o_neg {i : Int} (h : k (.int (-i))) : wO (gNeg (.int i)) k := ⟨_, rfl, h⟩
theorem o_abs {i : Int} (h : k (.int (if i < 0 then -i else i))) : wO (gAbs W [.int i]) k := ⟨_, rfl, h⟩
theorem o_revT {xs : List D} (h : k (.tup xs.reverse)) : wO (gRev W [.tup xs]) k := ⟨_, rfl, h⟩
theorem o_revL {xs : List D} (h : k (.lst xs.reverse)) : wO (gRev W [.lst xs]) k := ⟨_, rfl, h⟩
theorem atI_nat {α : Type} {xs : List α} {i : Int} {d : α} (h0 : 0 ≤ i) (h : xs[i.toNat]? = some d) : atI xs i = some d := by
  have hl : i.toNat < xs.length := (List.getElem?_eq_some_iff.mp h).1
  have h1 : i < xs.length := by omega
  simp only [atI, ixN, if_pos h0, if_pos h1, Option.bind_some, h]
theorem atI_neg {α : Type} {xs : List α} {i : Int} {d : α} (h0 : i < 0) (h1 : 0 ≤ i + xs.length) (h : xs[(i + xs.length).toNat]? = some d) : atI xs i = some d := by
  have h2 : ¬ 0 ≤ i := by omega
  have h3 : -(xs.length : Int) ≤ i := by omega
  simp only [atI, ixN, if_neg h2, if_pos h3, Option.bind_some, h]
theorem o_ixT {xs : List D} {i : Int} {d : D} (h0 : 0 ≤ i) (h : xs[i.toNat]? = some d) (q : k d) : wO (gIx (.tup xs) (.int i)) k := ⟨d, by simp only [gIx, atI_nat h0 h], q⟩
theorem o_ixL {xs : List D} {i : Int} {d : D} (h0 : 0 ≤ i) (h : xs[i.toNat]? = some d) (q : k d) : wO (gIx (.lst xs) (.int i)) k := ⟨d, by simp only [gIx, atI_nat h0 h], q⟩
theorem o_ixTn {xs : List D} {i : Int} {d : D} (h0 : i < 0) (h1 : 0 ≤ i + xs.length) (h : xs[(i + xs.length).toNat]? = some d) (q : k d) : wO (gIx (.tup xs) (.int i)) k := ⟨d, by simp only [gIx, atI_neg h0 h1 h], q⟩
theorem o_ixLn {xs : List D} {i : Int} {d : D} (h0 : i < 0) (h1 : 0 ≤ i + xs.length) (h : xs[(i + xs.length).toNat]? = some d) (q : k d) : wO (gIx (.lst xs) (.int i)) k := ⟨d, by simp only [gIx, atI_neg h0 h1 h], q⟩
theorem bools_bl : ∀ bs : List Bool, bools (bs.map .bl) = some bs
  | [] => rfl
  | b :: bs => by simp only [List.map_cons, bools, bools_bl bs, Option.map_some]
theorem o_allB {bs : List Bool} (h : k (.bl (bs.all id))) : wO (gAll W [.lst (bs.map .bl)]) k := ⟨_, by simp only [gAll, bools_bl, Option.map_some], h⟩
theorem o_anyB {bs : List Bool} (h : k (.bl (bs.any id))) : wO (gAny W [.lst (bs.map .bl)]) k := ⟨_, by simp only [gAny, bools_bl, Option.map_some], h⟩
theorem o_all {ds : List D} {p : D → Bool} (h : k (.bl (ds.all p))) : wO (gAll W [.lst (ds.map fun d => .bl (p d))]) k := ⟨_, by
  simp only [gAll, bools_map, Option.map_some, List.all_map]
  rfl, h⟩
theorem o_any {ds : List D} {p : D → Bool} (h : k (.bl (ds.any p))) : wO (gAny W [.lst (ds.map fun d => .bl (p d))]) k := ⟨_, by
  simp only [gAny, bools_map, Option.map_some, List.any_map]
  rfl, h⟩
theorem o_isi {us : List Ty} {d : D} {t : Ty} (h : tyD W d = some t) (q : k (.bl (us.any fun u => isTy t u))) : wO (gIsi us W [d]) k := ⟨_, by simp only [gIsi, h, Option.map_some], q⟩
theorem o_isiT {us : List Ty} {d : D} {t : Ty} (h : tyD W d = some t) (h2 : (us.any fun u => isTy t u) = true) (q : k (.bl true)) : wO (gIsi us W [d]) k := ⟨_, by simp only [gIsi, h, Option.map_some, h2], q⟩
theorem o_isiF {us : List Ty} {d : D} {t : Ty} (h : tyD W d = some t) (h2 : (us.any fun u => isTy t u) = false) (q : k (.bl false)) : wO (gIsi us W [d]) k := ⟨_, by simp only [gIsi, h, Option.map_some, h2], q⟩
theorem o_app {xs : List D} {d : D} {k : D × List D → Prop} (hl : xs.length < 1000000) (h : k (.non, xs ++ [d])) : wO (gAppend xs [d]) k := ⟨_, by
  unfold gAppend
  dsimp only
  rw [if_pos (by omega)], h⟩
theorem o_popAt {xs : List D} {i : Int} {k : D × List D → Prop} (h0 : 0 ≤ i) (hi : i.toNat < xs.length) (hl : xs.length < 1000000) (h : k (xs[i.toNat], xs.eraseIdx i.toNat)) : wO (gPopAt xs [.int i]) k := ⟨_, by
  unfold gPopAt
  dsimp only
  rw [if_pos (by omega), List.getElem?_eq_getElem hi]
  rfl, h⟩
theorem cutD_to (xs : List D) (i : Nat) : cutD xs none (some (i : Int)) = xs.take i := by
  simp only [cutD, HT.sIx_none, HT.sIx_nat]
  by_cases h : i ≤ xs.length
  · rw [Nat.min_eq_left h, List.drop_zero, Nat.sub_zero]
  · rw [Nat.min_eq_right (by omega), List.drop_zero, Nat.sub_zero, List.take_of_length_le (Nat.le_refl _), List.take_of_length_le (l := xs) (i := i) (by omega)]
theorem cutD_from (xs : List D) (i : Nat) : cutD xs (some (i : Int)) none = xs.drop i := by
  simp only [cutD, HT.sIx_none, HT.sIx_nat]
  by_cases h : i ≤ xs.length
  · rw [Nat.min_eq_left h, List.take_of_length_le (by simp)]
  · rw [Nat.min_eq_right (by omega), List.drop_of_length_le (Nat.le_refl _), List.drop_of_length_le (l := xs) (i := i) (by omega)]
    simp
theorem o_slToT {xs : List D} {i : Int} (h0 : 0 ≤ i) (h : k (.tup (xs.take i.toNat))) : wO (gSl (.tup xs) none (some i)) k := by
  obtain ⟨n, rfl⟩ := Int.eq_ofNat_of_zero_le h0
  exact ⟨_, by simp only [gSl, cutD_to, Int.toNat_natCast], h⟩
theorem o_slToL {xs : List D} {i : Int} (h0 : 0 ≤ i) (h : k (.lst (xs.take i.toNat))) : wO (gSl (.lst xs) none (some i)) k := by
  obtain ⟨n, rfl⟩ := Int.eq_ofNat_of_zero_le h0
  exact ⟨_, by simp only [gSl, cutD_to, Int.toNat_natCast], h⟩
theorem o_slFromT {xs : List D} {i : Int} (h0 : 0 ≤ i) (h : k (.tup (xs.drop i.toNat))) : wO (gSl (.tup xs) (some i) none) k := by
  obtain ⟨n, rfl⟩ := Int.eq_ofNat_of_zero_le h0
  exact ⟨_, by simp only [gSl, cutD_from, Int.toNat_natCast], h⟩
theorem o_slFromL {xs : List D} {i : Int} (h0 : 0 ≤ i) (h : k (.lst (xs.drop i.toNat))) : wO (gSl (.lst xs) (some i) none) k := by
  obtain ⟨n, rfl⟩ := Int.eq_ofNat_of_zero_le h0
  exact ⟨_, by simp only [gSl, cutD_from, Int.toNat_natCast], h⟩
theorem oI_n {k : Option Int → Prop} (h : k none) : wO (oI .non) k := ⟨_, rfl, h⟩
theorem oI_i {i : Int} {k : Option Int → Prop} (h : k (some i)) : wO (oI (.int i)) k := ⟨_, rfl, h⟩
end
theorem cRg_nat {n : Nat} (h : n ≤ 1000000) : cRg (n : Int) = true := by
  unfold cRg
  rw [Bool.and_eq_true, decide_eq_true_eq, decide_eq_true_eq]
  omega
theorem cRg_i {n : Int} (h0 : -1000000 ≤ n) (h : n ≤ 1000000) : cRg n = true := by
  unfold cRg
  rw [Bool.and_eq_true, decide_eq_true_eq, decide_eq_true_eq]
  omega
theorem cRg2_i {a b : Int} (h0 : -1000000 ≤ a) (h1 : a ≤ 1000000) (h2 : -1000000 ≤ b) (h3 : b ≤ 1000000) : (cRg a && cRg b) = true := by
  rw [cRg_i h0 h1, cRg_i h2 h3]; rfl
theorem cRgOk_i {a b : Int} (h0 : -1000000 ≤ a) (h1 : a ≤ 1000000) (h2 : -1000000 ≤ b) (h3 : b ≤ 1000000) : cRgOk a b = true := by
  unfold cRgOk
  rw [cRg_i h0 h1, cRg_i h2 h3]
  simp
  omega
theorem listOf_sq {W : Sto} {xs : List D} : gListOf W [.sq xs] = some (.lst xs) := rfl
theorem wS_to {f : Ds} {ρ : Env} {W : Sto} {X : XP} {R : D → Sto → Prop} {B C N N' : NP} (h : wS f ρ W X R B C N') (k : ∀ ρ W, N' ρ W → N ρ W) : wS f ρ W X R B C N := by
  unfold wS at h ⊢
  cases e : f ρ W <;> (rw [e] at h; first | exact k _ _ h | exact h)
theorem wR1_i {n : Int} {k : Int → Prop} (h0 : -1000000 ≤ n) (h1 : n ≤ 1000000) (h : k n) : wR1 [.int n] k := by with_unfolding_all exact ⟨n, rfl, cRg_i h0 h1, h⟩
theorem wR2_i {a b : Int} {k : Int → Int → Prop} (h0 : -1000000 ≤ a) (h1 : a ≤ 1000000) (h2 : -1000000 ≤ b) (h3 : b ≤ 1000000) (h : k a b) : wR2 [.int a, .int b] k := by with_unfolding_all exact ⟨a, b, rfl, cRg2_i h0 h1 h2 h3, h⟩
theorem wR3_i {a b : Int} {k : Int → Int → Prop} (h0 : -1000000 ≤ a) (h1 : a ≤ 1000000) (h2 : -1000000 ≤ b) (h3 : b ≤ 1000000) (h : k a b) : wR3 [.int a, .int b] k := by with_unfolding_all exact ⟨a, b, rfl, cRgOk_i h0 h1 h2 h3, h⟩
end Dl

set_option Elab.async false
set_option linter.all false
set_option maxRecDepth 100000
set_option maxHeartbeats 4000000
namespace P82
open PySem PySem.Spec PyProof.Rows L2 Dl
local macro_rules | `(tactic| infer_instance) => `(tactic| first
  | with_reducible refine w_seq ?_ | with_reducible refine w_asg ?_ | ((with_reducible apply w_var); focus exact rfl) | ((with_reducible apply w_varF); focus exact rfl) | ((with_reducible apply w_varFo); focus exact rfl) | with_reducible refine w_c ?_ | with_reducible refine w_cons ?_ | with_reducible refine w_nil ?_ | with_reducible refine w_op2 ?_ | with_reducible refine w_bi ?_ | with_reducible refine w_g1 ?_
  | with_reducible refine w_call ?_ | with_reducible refine w_and ?_ | with_reducible refine w_or ?_ | with_reducible refine w_not ?_ | with_reducible refine w_if ?_ | with_reducible refine w_sif ?_ | with_reducible refine w_ret ?_ | with_reducible refine w_retN ?_ | with_reducible refine w_expr ?_ | with_reducible refine w_snil ?_ | with_reducible refine w_pass ?_ | with_reducible refine w_brk ?_ | with_reducible refine w_cont ?_
  | with_reducible refine w_owl ?_ | with_reducible refine w_unp ?_ | with_reducible refine w_par ?_ | with_reducible refine wP_nil ?_ | with_reducible refine wP_sh ?_ | with_reducible refine wP_shp ?_ | with_reducible refine wP_ow ?_ | with_reducible refine wP_owp ?_ | with_reducible refine w_hid ?_ | with_reducible refine w_for ?_ | with_reducible refine w_items ?_ | with_reducible refine w_rg1 ?_ | with_reducible refine w_rg2 ?_ | with_reducible refine w_zip ?_ | with_reducible refine w_r1 ?_ | with_reducible refine w_r2 ?_
  | with_reducible refine w_lstRg ?_ | with_reducible refine w_tupRg ?_ | with_reducible refine w_lc ?_ | with_reducible refine w_lc2 ?_ | ((with_reducible apply w_mth); focus exact rfl) | with_reducible refine w_make ?_ | with_reducible refine w_ownEq ?_ | with_reducible refine w_part ?_ | with_reducible refine w_sl ?_ | with_reducible refine w_index ?_ | with_reducible refine w_un ?_ | with_reducible refine w_chain ?_ | ((with_reducible apply w_lenVo); focus exact rfl) | ((with_reducible apply w_lenV); focus exact rfl)
  | with_reducible refine o_sub ?_ | with_reducible refine o_add ?_ | with_reducible refine o_lt ?_ | with_reducible refine o_le ?_ | with_reducible refine o_gt ?_ | with_reducible refine o_ge ?_ | with_reducible refine o_eqI ?_ | with_reducible refine o_neI ?_ | with_reducible refine o_eqB ?_ | with_reducible refine o_neB ?_ | with_reducible refine o_isN ?_ | with_reducible refine o_notN ?_
  | with_reducible refine o_tup (by simp) ?_ | with_reducible refine o_lst (by simp) ?_ | with_reducible refine o_lenT ?_ | with_reducible refine o_lenL ?_ | with_reducible refine o_tupT ?_ | with_reducible refine o_tupL ?_ | with_reducible refine o_lstT ?_ | with_reducible refine o_lstL ?_ | with_reducible refine o_lstS ?_ | with_reducible refine o_intI ?_ | with_reducible refine o_neg ?_ | with_reducible refine o_abs ?_ | with_reducible refine o_revT ?_ | with_reducible refine o_revL ?_ | with_reducible refine oI_n ?_ | with_reducible refine oI_i ?_
  | with_reducible refine wB_t ?_ | with_reducible refine wB_f ?_ | with_reducible refine wB_non ?_ | with_reducible refine wB_nt ?_ | with_reducible refine wB_nf ?_ | ((with_reducible apply And.intro (a := List.length _ = _)); focus exact rfl) | with_reducible refine wR1_i (by omega) (by omega) ?_ | with_reducible refine wR2_i (by omega) (by omega) (by omega) (by omega) ?_ | with_reducible refine wR3_i (by omega) (by omega) (by omega) (by omega) ?_ | ((with_reducible apply Exists.intro); (with_reducible apply And.intro); focus exact rfl) | with_reducible refine o_rfl (tru_bl _ _) ?_
  | ((with_reducible apply o_isiT); (focus exact rfl); (focus exact rfl)) | ((with_reducible apply o_isiF); (focus exact rfl); (focus exact rfl)) | ((with_reducible apply o_items); focus exact rfl) | ((with_reducible apply o_bt); focus exact rfl)
)

section
variable {n : Nat} {p : Pen} {W : Sto} {m : Nat} {P : List (List Int)}
/-- a drawn number, as a promise -/
theorem s_draw {many : Int} {X : Nat → List (Str × D) → Sto → Prop} {Q : D → Sto → Prop} (h : PenOk n p) (hn : n < 1000000000) (hm : 0 < many) (hm2 : many < 1073741824) (k : ∀ r p', 0 ≤ r → r < many → PenOk (n + 1) p' → Q (.int r) [Pen.M p']) : wC (c__law_draw [.ref 0, .int many] [p.M]) X Q := by
  obtain ⟨r, p', e, h1, h2, h3⟩ := draw h hn hm hm2
  exact wC_eq e (k r p' h1 h2 h3)
theorem s_pick {xs : List D} {X : Nat → List (Str × D) → Sto → Prop} {Q : D → Sto → Prop} (h : PenOk n p) (hn : n < 1000000000) (hx : xs ≠ []) (hl : xs.length < 1000000) (k : ∀ x p', x ∈ xs → PenOk (n + 1) p' → Q x [Pen.M p']) : wC (c__law_pick [.ref 0, .lst xs] [p.M]) X Q := by
  obtain ⟨x, p', e, h1, h2⟩ := pick h hn hx hl
  exact wC_eq e (k x p' h1 h2)
theorem s_shuf {X : Nat → List (Str × D) → Sto → Prop} {Q : D → Sto → Prop} {v : D} (ns : List Int) (h : PenOk n p) (hn : n + 1000000 < 1000000000) (hv : v = .lst (ns.map .int) ∨ v = .tup (ns.map .int)) (hl : ns.length ≤ 1000) (k : ∀ (ms : List Int) p', ms.Perm ns → PenOk (n + ns.length) p' → Q (.lst (ms.map .int)) [Pen.M p']) : wC (c__law_shuffled [.ref 0, v] [p.M]) X Q := by
  obtain ⟨ys, p', e, h1, h2⟩ := shuffled hn hv (by simpa using hl) h
  obtain ⟨ms, rfl, h3⟩ := perm_ints h1
  exact wC_eq e (k ms p' h3 (by simpa using h2))
theorem rgD_m (m : Nat) : rgD 0 ((m : Int) - 0).toNat = (rgI m).map .int := by
  rw [rgI_map]; congr 1
abbrev pρ (m s : Nat) (ax : List Int) (pn : List D) (way lap : Slot) (od : List Int) (lo hi : Nat) (dn : Slot) : Dl.Env := [.sh (.ref 0), .sh (.int m), .sh (.int s), .sh (.lst (ax.map .int)), .owl pn, way, lap, .owl (od.map .int), .sh (.int lo), .sh (.int hi), dn]
theorem pan_down {s : Nat} {ax : List Int} {pn : List D} {way lap : Slot} {od : List Int} {lo hi : Nat} {dn : Slot} {X : XP} (h : PenOk n p) (hn : n < 1000000000) (h1 : lo ≤ hi) (h3 : lo = 0 → hi + 1 < m) (h4 : hi < m) :
    wD (dAnd (dOp2 (fun _ => gGt) (dVar 8) (dC (.int 0))) (dOr (dOp2 (fun _ => gEq) (dVar 9) (dOp2 (fun _ => Dl.gSub) (dVar 1) (dC (.int 1)))) (dOp2 (fun _ => gEq) (dCall 2 c__law_draw (dCons (dVar 0) (dCons (dC (.int 2)) dNil))) (dC (.int 0))))) (pρ m s ax pn way lap od lo hi dn) [p.M] X
      fun d ρ' W' => ∃ b p', d = .bl b ∧ ρ' = pρ m s ax pn way lap od lo hi dn ∧ W' = [Pen.M p'] ∧ PenOk (n + 1) p' ∧ (b = true → 0 < lo) ∧ (b = false → hi + 1 < m) := by
  repeat infer_instance
  refine wB_dec (fun q => ?_) fun q => ?_
  · repeat infer_instance
    refine wB_dec (fun q => ?_) fun q => ?_
    · exact ⟨_, p, rfl, rfl, rfl, h.up (by omega), fun _ => by omega, fun z => by simp at z⟩
    · repeat infer_instance
      refine s_draw h hn (by decide) (by decide) fun r p' hr0 hr h' => ?_
      repeat infer_instance
      exact ⟨_, p', rfl, rfl, rfl, h', fun _ => by omega, fun _ => by omega⟩
  · exact ⟨_, p, rfl, rfl, rfl, h.up (by omega), fun z => by simp at z, fun _ => h3 (by omega)⟩
theorem seg_down {ax od : List Int} {lo hi : Nat} (h0 : 0 < lo) (h1 : lo ≤ hi) (h2 : hi < ax.length) (hp : od.Perm ((ax.drop lo).take (hi - lo + 1))) : (od ++ [at_ ax (lo - 1)]).Perm ((ax.drop (lo - 1)).take (hi - (lo - 1) + 1)) := by
  obtain ⟨k, rfl⟩ : ∃ k, lo = k + 1 := ⟨lo - 1, by omega⟩
  have e : ax.drop k = at_ ax k :: ax.drop (k + 1) := by
    rw [List.drop_eq_getElem_cons (by omega)]
    simp [at_, List.getD, show k < ax.length by omega]
  simp only [Nat.add_sub_cancel]
  rw [show hi - k + 1 = (hi - (k + 1) + 1) + 1 by omega, e, List.take_succ_cons]
  exact (List.perm_append_comm).trans (hp.cons _)
theorem seg_up {ax od : List Int} {lo hi : Nat} (h1 : lo ≤ hi) (h2 : hi + 1 < ax.length) (hp : od.Perm ((ax.drop lo).take (hi - lo + 1))) : (od ++ [at_ ax (hi + 1)]).Perm ((ax.drop lo).take (hi + 1 - lo + 1)) := by
  have e : (ax.drop lo).take (hi + 1 - lo + 1) = (ax.drop lo).take (hi - lo + 1) ++ [at_ ax (hi + 1)] := by
    rw [show hi + 1 - lo + 1 = (hi - lo + 1) + 1 by omega, List.take_succ]
    congr 1
    simp [at_, List.getD, show lo + (hi - lo + 1) = hi + 1 by omega, show hi + 1 < ax.length by omega]
  rw [e]
  exact hp.append_right _
def PanI (n m s : Nat) (ax : List Int) (pn : List D) (way lap : Slot) (k : Nat) (ρ : Dl.Env) (W : Sto) : Prop := ∃ (od : List Int) (lo hi : Nat) (dn : Slot) (p' : Pen), ρ = pρ m s ax pn way lap od lo hi dn ∧ W = [Pen.M p'] ∧ k + od.length = m ∧ lo ≤ hi ∧ hi < m ∧ od.Perm ((ax.drop lo).take (hi - lo + 1)) ∧ PenOk (n + 10 - k) p'
theorem ix_ints {ax : List Int} {i : Int} {k : D → Prop} (h0 : 0 ≤ i) (h : i.toNat < ax.length) (q : k (.int (at_ ax i.toNat))) : wO (gIx (.lst (ax.map .int)) (.int i)) k :=
  o_ixL h0 (by simp [at_, List.getD, h]) q
theorem pan_while {s : Nat} {ax : List Int} {pn : List D} {way lap : Slot} {k0 : Nat} {ρ : Dl.Env} {X : XP} {R : D → Sto → Prop} {B C N : NP} (hm : ax.length = m) (h6 : m ≤ 6) (hn : n + 100 < 1000000000) (hk : k0 < 10) (h : PanI n m s ax pn way lap k0 ρ W) (k : ∀ ρ W, (∃ (od : List Int) (lo hi : Nat) (dn : Slot) (p' : Pen), ρ = pρ m s ax pn way lap od lo hi dn ∧ W = [Pen.M p'] ∧ od.Perm ax ∧ PenOk (n + 10) p') → N ρ W) :
    wS (whL K1__law_panel L1__law_panel 64) ρ W X R B C N := by
  refine w_while (PanI n m s ax pn way lap) (fun k1 ρ W hI => ?_) 64 k0 (by omega) h
  obtain ⟨od, lo, hi, dn, p', rfl, rfl, h1, h2, h3, h4, h5⟩ := hI
  have hod := h4.length_eq
  rw [List.length_take, List.length_drop] at hod
  unfold K1__law_panel
  repeat infer_instance
  simp only [List.length_map]
  refine wB_dec (fun q => ?_) fun q => ?_
  · refine ⟨by omega, ?_⟩
    unfold L1__law_panel
    refine w_seq (w_asg (wD_to (pan_down (n := n + 10 - k1) h5 (by omega) h2 (by omega) h3) fun d ρ W z => ?_))
    obtain ⟨b, p2, rfl, rfl, rfl, g1, g2, g3⟩ := z
    cases b with
    | true =>
      have g2 := g2 rfl
      repeat infer_instance
      refine ix_ints (by omega) (by omega) ?_
      repeat infer_instance
      refine o_app (by simp; omega) ?_
      repeat infer_instance
      refine ⟨od ++ [at_ ax (lo - 1)], lo - 1, hi, .sh (.bl true), p2, ?_, rfl, by simp; omega, by omega, h3, seg_down g2 h2 (by omega) h4, by rw [show n + 10 - (k1 - 1) = n + 10 - k1 + 1 by omega]; exact g1⟩
      have e1 : ((lo : Int) - 1) = ((lo - 1 : Nat) : Int) := by omega
      have e2 : ((lo : Int) - 1).toNat = lo - 1 := by omega
      simp only [pρ, bSets, List.set, e1, e2, List.map_append, List.map_cons, List.map_nil, Int.toNat_natCast]
    | false =>
      have g3 := g3 rfl
      repeat infer_instance
      refine ix_ints (by omega) (by omega) ?_
      repeat infer_instance
      refine o_app (by simp; omega) ?_
      repeat infer_instance
      refine ⟨od ++ [at_ ax (hi + 1)], lo, hi + 1, .sh (.bl false), p2, ?_, rfl, by simp; omega, by omega, by omega, seg_up h2 (by omega) h4, by rw [show n + 10 - (k1 - 1) = n + 10 - k1 + 1 by omega]; exact g1⟩
      have e1 : ((hi : Int) + 1) = ((hi + 1 : Nat) : Int) := by omega
      have e2 : ((hi : Int) + 1).toNat = hi + 1 := by omega
      simp only [pρ, bSets, List.set, e1, e2, List.map_append, List.map_cons, List.map_nil, Int.toNat_natCast]
  · refine k _ _ ⟨od, lo, hi, dn, p', rfl, rfl, ?_, h5.up (by omega)⟩
    have e1 : lo = 0 := by omega
    subst e1
    rw [List.drop_zero, List.take_of_length_le (by omega)] at h4
    exact h4

theorem pan_lap {s : Nat} {ax : List Int} {pn : List D} {way : Int} {lap : Int} {a b c d : Slot} {X : XP} {R : D → Sto → Prop} {B C N : NP} (hax : ax.Perm (rgI m)) (h2 : 2 ≤ m) (h6 : m ≤ 6) (hn : n + 2000000 < 1000000000) (hpn : pn.length ≤ 100) (h : PenOk n p) (k : ∀ (od : List Int) (p' : Pen) (a b c d : Slot), od.Perm ax → PenOk (n + 100) p' →
    N [.sh (.ref 0), .sh (.int m), .sh (.int s), .sh (.lst (ax.map .int)), .owl (pn ++ [iT od]), .sh (.int way), .sh (.int lap), a, b, c, d] [Pen.M p']) :
    wS L2__law_panel [.sh (.ref 0), .sh (.int m), .sh (.int s), .sh (.lst (ax.map .int)), .owl pn, .sh (.int way), .sh (.int lap), a, b, c, d] [p.M] X R B C N := by
  have hl : ax.length = m := by rw [hax.length_eq, rgI_length]
  unfold L2__law_panel
  repeat infer_instance
  refine s_draw h (by omega) (by omega) (by omega) fun r p1 hr0 hr1 h1 => ?_
  obtain ⟨r, rfl⟩ := Int.eq_ofNat_of_zero_le hr0
  repeat infer_instance
  refine ix_ints (by omega) (by omega) ?_
  repeat infer_instance
  refine pan_while (n := n + 11) (k0 := m - 1) (s := s) (ax := ax) (pn := pn) (way := .sh (.int way)) (lap := .sh (.int lap)) hl h6 (by omega) (by omega) ⟨[at_ ax r], r, r, d, p1, rfl, rfl, by simp; omega, Nat.le_refl _, by omega, ?_, h1.up (by omega)⟩ ?_
  · have e : ax.drop r = at_ ax r :: ax.drop (r + 1) := by
      rw [List.drop_eq_getElem_cons (by omega)]
      simp [at_, List.getD, show r < ax.length by omega]
    rw [e, Nat.sub_self, Nat.zero_add, List.take_succ_cons, List.take_zero]
  · rintro ρ W ⟨od, lo, hi, dn, p2, rfl, rfl, g1, g2⟩
    have hodl : od.length = m := by rw [g1.length_eq, hl]
    have last : ∀ (v : Slot) (od2 : List Int) (p3 : Pen), (v = .owl (od2.map .int) ∨ v = .sh (.lst (od2.map .int))) → od2.Perm ax → PenOk (n + 100) p3 → wS (sExpr (dMth 4 gAppend (dCons (dBi gTupleOf (dCons (dVarF 7) dNil)) dNil))) [.sh (.ref 0), .sh (.int m), .sh (.int s), .sh (.lst (ax.map .int)), .owl pn, .sh (.int way), .sh (.int lap), v, .sh (.int lo), .sh (.int hi), dn] [Pen.M p3] X R B C N := by
      intro v od2 p3 hv q1 q2
      rcases hv with rfl | rfl
      · repeat infer_instance
        refine o_app (by omega) ?_
        repeat infer_instance
        exact k od2 p3 _ _ _ _ q1 q2
      · repeat infer_instance
        refine o_app (by omega) ?_
        repeat infer_instance
        exact k od2 p3 _ _ _ _ q1 q2
    have shuf : wS (sAsg 7 (dCall 2 c__law_shuffled (dCons (dVar 0) (dCons (dVarF 7) dNil)))) (pρ m s ax pn (.sh (.int way)) (.sh (.int lap)) od lo hi dn) [Pen.M p2] X R B C fun ρ W => wS (sExpr (dMth 4 gAppend (dCons (dBi gTupleOf (dCons (dVarF 7) dNil)) dNil))) ρ W X R B C N := by
      repeat infer_instance
      refine s_shuf od g2 (by omega) (.inl rfl) (by omega) fun ms p3 q1 q2 => ?_
      exact last _ ms p3 (.inr rfl) (q1.trans g1) (q2.up (by omega))
    repeat infer_instance
    refine wB_dec (fun q => wB_t shuf) fun q => ?_
    repeat infer_instance
    refine wB_dec (fun q => ?_) fun q => ?_
    · repeat infer_instance
      refine wB_dec (fun q => shuf) fun q => ?_
      repeat infer_instance
      refine o_app (by omega) ?_
      repeat infer_instance
      exact k od p2 _ _ _ _ g1 (g2.up (by omega))
    · repeat infer_instance
      refine o_app (by omega) ?_
      repeat infer_instance
      exact k od p2 _ _ _ _ g1 (g2.up (by omega))
theorem s_panel {X : Nat → List (Str × D) → Sto → Prop} {Q : D → Sto → Prop} {s : Nat} (h : PenOk n p) (hn : n + 3000000 < 1000000000) (h2 : 2 ≤ m) (h6 : m ≤ 6) (hs : 0 < s) (hs6 : s ≤ 6) (k : ∀ P p', Pnl m P → P.length = s → PenOk (n + 1000) p' → Q (pD P) [Pen.M p']) : wC (c__law_panel [.ref 0, .int m, .int s] [p.M]) X Q := by
  unfold c__law_panel
  refine w_run rfl ?_
  unfold b__law_panel
  repeat infer_instance
  rw [rgD_m]
  refine s_shuf (rgI m) h (by omega) (.inl rfl) (by rw [rgI_length]; omega) fun ax p1 hax h1 => ?_
  repeat infer_instance
  refine s_draw h1 (by rw [rgI_length]; omega) (by omega) (by omega) fun way p2 hr0 hr1 h3 => ?_
  rw [rgI_length] at h3
  repeat infer_instance
  refine w_forI (fun i ρ W => ∃ (P : List (List Int)) (p' : Pen) (a b c d e : Slot), ρ = [.sh (.ref 0), .sh (.int m), .sh (.int s), .sh (.lst (ax.map .int)), .owl (P.map iT), .sh (.int way), a, b, c, d, e] ∧ W = [Pen.M p'] ∧ P.length = i ∧ (∀ od ∈ P, od.Perm (rgI m)) ∧ PenOk (n + 10 + 100 * i) p') 0 ⟨[], p2, .no, .no, .no, .no, .no, rfl, rfl, rfl, (fun _ z => nomatch z), h3.up (by omega)⟩ ?_ ?_
  · rintro i d ρ W hi ⟨P, p', a, b, c, d', e, rfl, rfl, g1, g2, g3⟩
    obtain ⟨j, hj, rfl⟩ := rg_mem (List.mem_of_getElem? hi)
    have hil : i < s := by
      have := (List.getElem?_eq_some_iff.mp hi).1
      rw [rgD_length] at this
      simpa using this
    refine ⟨_, rfl, ?_⟩
    refine pan_lap (n := n + 10 + 100 * (0 + i)) hax h2 h6 (by omega) (by simp; omega) g3 fun od p3 a b c d q1 q2 => ?_
    refine ⟨P ++ [od], p3, _, _, _, _, _, (by rw [List.map_append]; rfl), rfl, by simp; omega, fun x hx => ?_, by rw [show n + 10 + 100 * (0 + i + 1) = n + 10 + 100 * (0 + i) + 100 by omega]; exact q2⟩
    rcases List.mem_append.mp hx with hx | hx
    · exact g2 x hx
    · rw [List.mem_singleton.mp hx]; exact q1.trans hax
  · rintro ρ W ⟨P, p', a, b, c, d', e, rfl, rfl, g1, g2, g3⟩
    rw [rgD_length] at g1 g3
    repeat infer_instance
    have e1 : 0 + (s : Int).toNat = s := by simp
    rw [e1] at g1 g3
    exact k P p' ⟨fun z => by rw [z] at g1; simp at g1; omega, g2, h2, h6, by omega⟩ g1 (g3.up (by omega))
end

end P82

set_option Elab.async false
set_option linter.all false
set_option maxRecDepth 100000
set_option maxHeartbeats 4000000
namespace P82
open PySem PySem.Spec PyProof.Rows L2 Dl
local macro_rules | `(tactic| infer_instance) => `(tactic| first
  | with_reducible refine w_seq ?_ | with_reducible refine w_asg ?_ | ((with_reducible apply w_var); focus exact rfl) | ((with_reducible apply w_varF); focus exact rfl) | ((with_reducible apply w_varFo); focus exact rfl) | with_reducible refine w_c ?_ | with_reducible refine w_cons ?_ | with_reducible refine w_nil ?_ | with_reducible refine w_op2 ?_ | with_reducible refine w_bi ?_ | with_reducible refine w_g1 ?_
  | with_reducible refine w_call ?_ | with_reducible refine w_and ?_ | with_reducible refine w_or ?_ | with_reducible refine w_not ?_ | with_reducible refine w_if ?_ | with_reducible refine w_sif ?_ | with_reducible refine w_ret ?_ | with_reducible refine w_retN ?_ | with_reducible refine w_expr ?_ | with_reducible refine w_snil ?_ | with_reducible refine w_pass ?_ | with_reducible refine w_brk ?_ | with_reducible refine w_cont ?_
  | with_reducible refine w_owl ?_ | with_reducible refine w_unp ?_ | with_reducible refine w_par ?_ | with_reducible refine wP_nil ?_ | with_reducible refine wP_sh ?_ | with_reducible refine wP_shp ?_ | with_reducible refine wP_ow ?_ | with_reducible refine wP_owp ?_ | with_reducible refine w_hid ?_ | with_reducible refine w_for ?_ | with_reducible refine w_items ?_ | with_reducible refine w_rg1 ?_ | with_reducible refine w_rg2 ?_ | with_reducible refine w_zip ?_ | with_reducible refine w_r1 ?_ | with_reducible refine w_r2 ?_
  | with_reducible refine w_lstRg ?_ | with_reducible refine w_tupRg ?_ | with_reducible refine w_lc ?_ | with_reducible refine w_lc2 ?_ | ((with_reducible apply w_mth); focus exact rfl) | with_reducible refine w_make ?_ | with_reducible refine w_ownEq ?_ | with_reducible refine w_part ?_ | with_reducible refine w_sl ?_ | with_reducible refine w_index ?_ | with_reducible refine w_un ?_ | with_reducible refine w_chain ?_ | ((with_reducible apply w_lenVo); focus exact rfl) | ((with_reducible apply w_lenV); focus exact rfl)
  | with_reducible refine o_sub ?_ | with_reducible refine o_add ?_ | with_reducible refine o_lt ?_ | with_reducible refine o_le ?_ | with_reducible refine o_gt ?_ | with_reducible refine o_ge ?_ | with_reducible refine o_eqI ?_ | with_reducible refine o_neI ?_ | with_reducible refine o_eqB ?_ | with_reducible refine o_neB ?_ | with_reducible refine o_isN ?_ | with_reducible refine o_notN ?_
  | with_reducible refine o_tup (by simp) ?_ | with_reducible refine o_lst (by simp) ?_ | with_reducible refine o_lenT ?_ | with_reducible refine o_lenL ?_ | with_reducible refine o_tupT ?_ | with_reducible refine o_tupL ?_ | with_reducible refine o_lstT ?_ | with_reducible refine o_lstL ?_ | with_reducible refine o_lstS ?_ | with_reducible refine o_intI ?_ | with_reducible refine o_neg ?_ | with_reducible refine o_abs ?_ | with_reducible refine o_revT ?_ | with_reducible refine o_revL ?_ | with_reducible refine oI_n ?_ | with_reducible refine oI_i ?_
  | with_reducible refine wB_t ?_ | with_reducible refine wB_f ?_ | with_reducible refine wB_non ?_ | with_reducible refine wB_nt ?_ | with_reducible refine wB_nf ?_ | ((with_reducible apply And.intro (a := List.length _ = _)); focus exact rfl) | with_reducible refine wR1_i (by omega) (by omega) ?_ | with_reducible refine wR2_i (by omega) (by omega) (by omega) (by omega) ?_ | with_reducible refine wR3_i (by omega) (by omega) (by omega) (by omega) ?_ | ((with_reducible apply Exists.intro); (with_reducible apply And.intro); focus exact rfl) | with_reducible refine o_rfl (tru_bl _ _) ?_
  | ((with_reducible apply o_isiT); (focus exact rfl); (focus exact rfl)) | ((with_reducible apply o_isiF); (focus exact rfl); (focus exact rfl)) | ((with_reducible apply o_items); focus exact rfl) | ((with_reducible apply o_bt); focus exact rfl)
)

theorem lcL_fm {bn : Bn} {ft fe : Dn} {ρb : Dl.Env} {W : Sto} (q : D → Bool) (f : D → D) : ∀ (ds acc : List D), (∀ d ∈ ds, ∃ ρ1, bn d ρb = some ρ1 ∧ wD ft ρ1 W X0 fun t ρ2 W2 => t = .bl (q d) ∧ W2 = W ∧ (q d = true → wD fe ρ2 W X0 fun x _ W3 => x = f d ∧ W3 = W)) → lcL bn ft fe ρb ds W acc = some (acc ++ (ds.filter q).map f, W) := by
  intro ds
  induction ds with
  | nil => intro acc _; simp [lcL]
  | cons d ds ih =>
    intro acc h
    obtain ⟨ρ1, h1, h2⟩ := h d List.mem_cons_self
    obtain ⟨t, ρ2, W2, e, rfl, rfl, h3⟩ := wD_ex h2
    cases hq : q d with
    | true =>
      rw [hq] at e
      obtain ⟨x, ρ3, W3, e2, rfl, rfl⟩ := wD_ex (h3 hq)
      have := ih (acc ++ [f d]) fun x hx => h x (List.mem_cons_of_mem _ hx)
      simp only [lcL, h1, e, tru_bl, e2, this, List.filter_cons, hq, if_true]
      simp
    | false =>
      rw [hq] at e
      have := ih acc fun x hx => h x (List.mem_cons_of_mem _ hx)
      simp only [lcL, h1, e, tru_bl, this, List.filter_cons, hq, Bool.false_eq_true, if_false]
/-- a loop that ends at the first of its items that is so -/
theorem w_forFind {X : XP} {R : D → Sto → Prop} {B C N : NP} {bn : Bn} {fb : Ds} {ds : List D} (p : D → Bool) (I : NP) : ∀ {ρ : Dl.Env} {W : Sto}, I ρ W →
    (∀ d ∈ ds, p d = false → ∀ ρ W, I ρ W → ∃ ρ1, bn d ρ = some ρ1 ∧ wS fb ρ1 W X (fun _ _ => False) (fun _ _ => False) I I) →
    (∀ d ∈ ds, p d = true → ds.find? p = some d → ∀ ρ W, I ρ W → ∃ ρ1, bn d ρ = some ρ1 ∧ wS fb ρ1 W X R N (fun _ _ => False) (fun _ _ => False)) →
    (ds.find? p = none → ∀ ρ W, I ρ W → N ρ W) → wS (forL bn fb ds) ρ W X R B C N := by
  induction ds with
  | nil => exact fun h _ _ hN => by unfold wS forL; exact hN rfl _ _ h
  | cons d ds ih =>
    intro ρ W h hm hh hN
    cases hp : p d with
    | true =>
      obtain ⟨ρ1, h1, h2⟩ := hh d List.mem_cons_self hp (by simp [hp]) ρ W h
      unfold wS at h2 ⊢
      simp only [forL, h1]
      cases e : fb ρ1 W with
      | nx => rw [e] at h2; exact h2.elim
      | ct => rw [e] at h2; exact h2.elim
      | bk => rw [e] at h2; exact h2
      | rt => rw [e] at h2; exact h2
      | exc => rw [e] at h2; exact h2
      | stk => rw [e] at h2; exact h2
    | false =>
      obtain ⟨ρ1, h1, h2⟩ := hm d List.mem_cons_self hp ρ W h
      have ef : (d :: ds).find? p = ds.find? p := by simp [hp]
      rw [ef] at hN hh
      have k := fun {ρ W} (g : I ρ W) => ih (ρ := ρ) (W := W) g (fun x hx => hm x (List.mem_cons_of_mem _ hx)) (fun x hx => hh x (List.mem_cons_of_mem _ hx)) hN
      unfold wS at h2 ⊢
      simp only [forL, h1]
      cases e : fb ρ1 W with
      | nx ρ2 W2 => rw [e] at h2; have := k h2; unfold wS at this; exact this
      | ct ρ2 W2 => rw [e] at h2; have := k h2; unfold wS at this; exact this
      | bk => rw [e] at h2; exact h2.elim
      | rt => rw [e] at h2; exact h2.elim
      | exc => rw [e] at h2; exact h2
      | stk => rw [e] at h2; exact h2
section
variable {n : Nat} {p : Pen} {W : Sto} {m : Nat} {P : List (List Int)}
/-! ### all rows of unlike things -/
def rowsT (m : Nat) : Nat → List (List Int)
  | 0 => [[]]
  | k + 1 => (rowsT m k).flatMap fun row => ((rgI m).filter fun t => !row.contains t).map fun t => row ++ [t]
theorem rowsT_len (m : Nat) : ∀ k, (rowsT m k).length ≤ m ^ k
  | 0 => by simp [rowsT]
  | k + 1 => by
    have h : ∀ l : List (List Int), (l.flatMap fun row => ((rgI m).filter fun t => !row.contains t).map fun t => row ++ [t]).length ≤ l.length * m := by
      intro l
      induction l with
      | nil => simp
      | cons a l ih =>
        rw [List.flatMap_cons, List.length_append, List.length_map, List.length_cons, Nat.succ_mul]
        have : ((rgI m).filter fun t => !a.contains t).length ≤ m := by
          have := List.length_filter_le (fun t => !a.contains t) (rgI m)
          rwa [rgI_length] at this
        omega
    have ih := rowsT_len m k
    have h2 := h (rowsT m k)
    rw [Nat.pow_succ]
    exact Nat.le_trans h2 (Nat.mul_le_mul_right m ih)
theorem rowsT_mem (m : Nat) : ∀ (k : Nat) (r : List Int), r ∈ rowsT m k → r.length = k ∧ (∀ x ∈ r, 0 ≤ x ∧ x < m) ∧ r.Nodup
  | 0, r, h => by simp [rowsT] at h; subst h; simp
  | k + 1, r, h => by
    simp only [rowsT, List.mem_flatMap, List.mem_map, List.mem_filter] at h
    obtain ⟨row, h1, t, ⟨h2, h3⟩, rfl⟩ := h
    obtain ⟨g1, g2, g3⟩ := rowsT_mem m k row h1
    have h4 := mem_rgI.mp h2
    refine ⟨by simp [g1], fun x hx => ?_, ?_⟩
    · rcases List.mem_append.mp hx with hx | hx
      · exact g2 x hx
      · rw [List.mem_singleton.mp hx]; exact h4
    · refine List.nodup_append.mpr ⟨g3, by simp, fun x hx y hy e => ?_⟩
      rw [List.mem_singleton.mp hy] at e
      subst e
      simp at h3
      exact h3 hx
theorem any_eqd (r : List Int) (t : Int) : ((r.map D.int).any fun e => eqd e (.int t)) = r.contains t := by
  induction r with
  | nil => rfl
  | cons a r ih =>
    rw [List.map_cons, List.any_cons, ih, List.contains_cons]
    congr 1
    simp only [eqd]
    by_cases h : a = t
    · subst h; simp
    · have : (t == a) = false := by simp; exact fun z => h z.symm
      rw [this]; simp [h]
theorem flat_ints (r : List Int) : (r.map D.int).all flat = true := by
  simp [List.all_map, List.all_eq_true]; intros; rfl
theorem o_notin {r : List Int} {t : Int} {k : D → Prop} (h : k (.bl (!r.contains t))) : wO (gInS true (.int t) (iT r)) k := ⟨_, by
  have : (flat (.int t) && (r.map D.int).all flat) = true := by rw [flat_ints]; rfl
  simp only [iT, gInS, if_pos this, if_true, any_eqd], h⟩
def unD : D → List Int := unT
def nextR (m : Nat) (d : D) : List D := ((rgD 0 m).filter (pI fun t => !(unT d).contains t)).map fun t => match d with | .tup xs => .tup (xs ++ [t]) | _ => .non
theorem nextR_iT (m : Nat) (r : List Int) : nextR m (iT r) = (((rgI m).filter fun t => !r.contains t).map fun t => r ++ [t]).map iT := by
  unfold nextR
  rw [unT_iT, filter_ints, List.map_map, List.map_map]
  exact List.map_congr_left fun t _ => by simp [iT]
theorem rows_turn {k : Nat} {a b c : Slot} {kk : Int} (hm : m ≤ 6) (hk6 : k ≤ 6) (hk : (rowsT m k).length ≤ 46656) {X : XP} {R : D → Sto → Prop} {B C N : NP} (h : ∀ a b c, N [.sh (.int m), .sh (.int kk), .sh (.lst ((rowsT m (k + 1)).map iT)), a, b, c] W) :
    wS L1_rows_of_things [.sh (.int m), .sh (.int kk), .sh (.lst ((rowsT m k).map iT)), a, b, c] W X R B C N := by
  unfold L1_rows_of_things
  repeat infer_instance
  refine o_rfl (w2L_map (nextR m) 6 _ [] (by simp; omega) fun d hd => ?_) ?_
  · obtain ⟨r, hr, rfl⟩ := List.mem_map.mp hd
    have hl : (nextR m (iT r)).length ≤ 6 := by
      rw [nextR_iT, List.length_map, List.length_map]
      have := List.length_filter_le (fun t => !r.contains t) (rgI m)
      rw [rgI_length] at this
      omega
    refine ⟨hl, _, rfl, ?_⟩
    repeat infer_instance
    refine ⟨rfl, ?_⟩
    repeat infer_instance
    refine ⟨rfl, by rw [rgD_length]; omega, fun acc => ?_⟩
    have e := lcL_fm (bn := bName 5) (ft := T1_rows_of_things) (fe := E1_rows_of_things) (ρb := [.sh (.int m), .sh (.int kk), .sh (.lst ((rowsT m k).map iT)), hide (hide a), .sh (iT r), .no]) (W := W) (pI fun t => !(unT (iT r)).contains t) (fun t => match iT r with | .tup xs => .tup (xs ++ [t]) | _ => .non) (rgD 0 m) acc fun d hd => by
      obtain ⟨j, hj, rfl⟩ := rg_mem hd
      refine ⟨_, rfl, ?_⟩
      unfold T1_rows_of_things
      repeat infer_instance
      refine o_notin ?_
      refine ⟨by rw [unT_iT]; rfl, rfl, fun _ => ?_⟩
      unfold E1_rows_of_things
      repeat infer_instance
      exact o_addT (by simp; obtain ⟨g1, _⟩ := rowsT_mem m k r hr; omega) ⟨rfl, rfl⟩
    exact e
  · have e : [] ++ ((rowsT m k).map iT).flatMap (nextR m) = (rowsT m (k + 1)).map iT := by
      rw [List.nil_append, rowsT, List.flatMap_map, List.map_flatMap]
      simp only [nextR_iT]
    rw [e]
    exact h _ _ _
theorem rowsT_le {k : Nat} (hm : m ≤ 6) (hk : k ≤ 6) : (rowsT m k).length ≤ 46656 :=
  Nat.le_trans (rowsT_len m k) (Nat.le_trans (Nat.pow_le_pow_left hm k) (Nat.le_trans (Nat.pow_le_pow_right (by decide) hk) (by decide)))
theorem s_rows {k : Nat} (hm : m ≤ 6) (hk : k ≤ 6) {X : Nat → List (Str × D) → Sto → Prop} {Q : D → Sto → Prop} (h : Q (.lst ((rowsT m k).map iT)) W) : wC (c_rows_of_things [.int m, .int k] W) X Q := by
  unfold c_rows_of_things
  refine w_run rfl ?_
  unfold b_rows_of_things
  repeat infer_instance
  refine w_forI (fun i ρ W1 => W1 = W ∧ ∃ a b c, ρ = [.sh (.int m), .sh (.int k), .sh (.lst ((rowsT m i).map iT)), a, b, c]) 0 ⟨rfl, _, _, _, rfl⟩ ?_ ?_
  · rintro i d ρ W1 hi ⟨rfl, a, b, c, rfl⟩
    have hil : i < k := by
      have := (List.getElem?_eq_some_iff.mp hi).1
      rw [rgD_length] at this
      simpa using this
    refine ⟨_, rfl, ?_⟩
    exact rows_turn hm (by omega) (rowsT_le hm (by omega)) fun a b c => ⟨rfl, a, b, c, rfl⟩
  · rintro ρ W1 ⟨rfl, a, b, c, rfl⟩
    rw [rgD_length]
    have e : 0 + (k : Int).toNat = k := by simp
    rw [e]
    repeat infer_instance
    exact h
/-! ### the first axis -/
def unA (P : List (List Int)) : D → Bool := fun d => allF P (unT d)
theorem find_map {α β : Type} {f : α → β} {p : β → Bool} : ∀ l : List α, (l.map f).find? p = (l.find? fun a => p (f a)).map f
  | [] => rfl
  | a :: l => by
    rw [List.map_cons, List.find?_cons, List.find?_cons]
    cases p (f a)
    · exact find_map l
    · rfl
theorem unA_iT (P : List (List Int)) (ax : List Int) : unA P (iT ax) = allF P ax := by unfold unA; rw [unT_iT]
def axD (P : List (List Int)) (m : Nat) : D := match (rowsT m m).find? (allF P) with
  | some ax => iT ax
  | none => .non
theorem s_first {X : Nat → List (Str × D) → Sto → Prop} {Q : D → Sto → Prop} (hP : Pnl m P) (h : Q (axD P m) W) : wC (c_first_axis [pD P] W) X Q := by
  obtain ⟨o, ho, e2, e3⟩ := ix0_pD hP
  unfold c_first_axis
  refine w_run rfl ?_
  unfold b_first_axis
  repeat infer_instance
  refine o_rfl e2 ?_
  repeat infer_instance
  refine o_rfl e2 ?_
  repeat infer_instance
  have e4 : ((o.map D.int).length : Int) = (m : Int) := by rw [List.length_map, e3]
  simp only [e4]
  refine s_rows hP.m6 hP.m6 ?_
  repeat infer_instance
  refine w_forFind (unA P) (fun ρ W1 => W1 = W ∧ ∃ a, ρ = [.sh (pD P), a]) ⟨rfl, _, rfl⟩ ?_ ?_ ?_
  · rintro d hd hp ρ W1 ⟨rfl, a, rfl⟩
    obtain ⟨ax, hax, rfl⟩ := List.mem_map.mp hd
    obtain ⟨g1, g2, g3⟩ := rowsT_mem m m ax hax
    rw [unA_iT] at hp
    refine ⟨_, rfl, ?_⟩
    unfold L1_first_axis
    repeat infer_instance
    refine wC_eq (all_fall hP g2 (by rw [g1]; have := hP.m6; omega)) ?_
    rw [hp]
    repeat infer_instance
    exact ⟨rfl, _, rfl⟩
  · rintro d hd hp hf ρ W1 ⟨rfl, a, rfl⟩
    obtain ⟨ax, hax, rfl⟩ := List.mem_map.mp hd
    obtain ⟨g1, g2, g3⟩ := rowsT_mem m m ax hax
    rw [unA_iT] at hp
    rw [find_map] at hf
    simp only [unA_iT] at hf
    refine ⟨_, rfl, ?_⟩
    unfold L1_first_axis
    repeat infer_instance
    refine wC_eq (all_fall hP g2 (by rw [g1]; have := hP.m6; omega)) ?_
    rw [hp]
    repeat infer_instance
    have e5 : axD P m = iT ax := by
      unfold axD
      cases q : (rowsT m m).find? (allF P) with
      | none => rw [q] at hf; cases hf
      | some x =>
        rw [q] at hf
        simpa using hf
    rw [← e5]
    exact h
  · rintro hf ρ W1 ⟨rfl, a, rfl⟩
    rw [find_map] at hf
    simp only [unA_iT, Option.map_eq_none_iff] at hf
    repeat infer_instance
    have e5 : axD P m = .non := by
      unfold axD
      rw [hf]
    rw [← e5]
    exact h
end

end P82

set_option Elab.async false
set_option linter.all false
set_option maxRecDepth 100000
set_option maxHeartbeats 4000000
namespace P82
open PySem PySem.Spec PyProof.Rows L2 Dl
local macro_rules | `(tactic| infer_instance) => `(tactic| first
  | with_reducible refine w_seq ?_ | with_reducible refine w_asg ?_ | ((with_reducible apply w_var); focus exact rfl) | ((with_reducible apply w_varF); focus exact rfl) | ((with_reducible apply w_varFo); focus exact rfl) | with_reducible refine w_c ?_ | with_reducible refine w_cons ?_ | with_reducible refine w_nil ?_ | with_reducible refine w_op2 ?_ | with_reducible refine w_bi ?_ | with_reducible refine w_g1 ?_
  | with_reducible refine w_call ?_ | with_reducible refine w_and ?_ | with_reducible refine w_or ?_ | with_reducible refine w_not ?_ | with_reducible refine w_if ?_ | with_reducible refine w_sif ?_ | with_reducible refine w_ret ?_ | with_reducible refine w_retN ?_ | with_reducible refine w_expr ?_ | with_reducible refine w_snil ?_ | with_reducible refine w_pass ?_ | with_reducible refine w_brk ?_ | with_reducible refine w_cont ?_
  | with_reducible refine w_owl ?_ | with_reducible refine w_unp ?_ | with_reducible refine w_par ?_ | with_reducible refine wP_nil ?_ | with_reducible refine wP_sh ?_ | with_reducible refine wP_shp ?_ | with_reducible refine wP_ow ?_ | with_reducible refine wP_owp ?_ | with_reducible refine w_hid ?_ | with_reducible refine w_for ?_ | with_reducible refine w_items ?_ | with_reducible refine w_rg1 ?_ | with_reducible refine w_rg2 ?_ | with_reducible refine w_zip ?_ | with_reducible refine w_r1 ?_ | with_reducible refine w_r2 ?_
  | with_reducible refine w_lstRg ?_ | with_reducible refine w_tupRg ?_ | with_reducible refine w_lc ?_ | with_reducible refine w_lc2 ?_ | ((with_reducible apply w_mth); focus exact rfl) | with_reducible refine w_make ?_ | with_reducible refine w_ownEq ?_ | with_reducible refine w_part ?_ | with_reducible refine w_sl ?_ | with_reducible refine w_index ?_ | with_reducible refine w_un ?_ | with_reducible refine w_chain ?_ | ((with_reducible apply w_lenVo); focus exact rfl) | ((with_reducible apply w_lenV); focus exact rfl)
  | with_reducible refine o_sub ?_ | with_reducible refine o_add ?_ | with_reducible refine o_lt ?_ | with_reducible refine o_le ?_ | with_reducible refine o_gt ?_ | with_reducible refine o_ge ?_ | with_reducible refine o_eqI ?_ | with_reducible refine o_neI ?_ | with_reducible refine o_eqB ?_ | with_reducible refine o_neB ?_ | with_reducible refine o_isN ?_ | with_reducible refine o_notN ?_
  | with_reducible refine o_tup (by simp) ?_ | with_reducible refine o_lst (by simp) ?_ | with_reducible refine o_lenT ?_ | with_reducible refine o_lenL ?_ | with_reducible refine o_tupT ?_ | with_reducible refine o_tupL ?_ | with_reducible refine o_lstT ?_ | with_reducible refine o_lstL ?_ | with_reducible refine o_lstS ?_ | with_reducible refine o_intI ?_ | with_reducible refine o_neg ?_ | with_reducible refine o_abs ?_ | with_reducible refine o_revT ?_ | with_reducible refine o_revL ?_ | with_reducible refine oI_n ?_ | with_reducible refine oI_i ?_
  | with_reducible refine wB_t ?_ | with_reducible refine wB_f ?_ | with_reducible refine wB_non ?_ | with_reducible refine wB_nt ?_ | with_reducible refine wB_nf ?_ | ((with_reducible apply And.intro (a := List.length _ = _)); focus exact rfl) | with_reducible refine wR1_i (by omega) (by omega) ?_ | with_reducible refine wR2_i (by omega) (by omega) (by omega) (by omega) ?_ | with_reducible refine wR3_i (by omega) (by omega) (by omega) (by omega) ?_ | ((with_reducible apply Exists.intro); (with_reducible apply And.intro); focus exact rfl) | with_reducible refine o_rfl (tru_bl _ _) ?_
  | ((with_reducible apply o_isiT); (focus exact rfl); (focus exact rfl)) | ((with_reducible apply o_isiF); (focus exact rfl); (focus exact rfl)) | ((with_reducible apply o_items); focus exact rfl) | ((with_reducible apply o_bt); focus exact rfl)
)

section
variable {n : Nat} {p : Pen} {W : Sto} {m : Nat} {P : List (List Int)}
/-! ### what bars an axis -/
def lrow (P : List (List Int)) (ts : List Int) (t : Int) : List Int := ((rgI P.length).filter fun i => lastB (oP P i.toNat) t ts).take 1
def lrows (P : List (List Int)) (ts : List Int) : List Int := ts.flatMap (lrow P ts)
theorem lrow_len (P : List (List Int)) (ts : List Int) (t : Int) : (lrow P ts t).length ≤ 1 := by unfold lrow; rw [List.length_take]; omega
theorem lrow_mem {P : List (List Int)} {ts : List Int} {t i : Int} (h : i ∈ lrow P ts t) : 0 ≤ i ∧ i < P.length ∧ lastB (oP P i.toNat) t ts = true := by
  have h2 := List.mem_filter.mp (List.mem_of_mem_take h)
  exact ⟨(mem_rgI.mp h2.1).1, (mem_rgI.mp h2.1).2, h2.2⟩
theorem fm_le {α β : Type} (f : α → List β) (h : ∀ a, (f a).length ≤ 1) : ∀ l : List α, (l.flatMap f).length ≤ l.length
  | [] => by simp
  | a :: l => by
    have := fm_le f h l
    have := h a
    rw [List.flatMap_cons, List.length_append, List.length_cons]
    omega
theorem ix_pDI {i : Int} (h0 : 0 ≤ i) (h : i < P.length) : gIx (pD P) (.int i) = some (iT (oP P i.toNat)) := by
  obtain ⟨k, rfl⟩ := Int.eq_ofNat_of_zero_le h0
  exact ix_pD (by omega)
theorem oP_mem {i : Int} (h0 : 0 ≤ i) (h : i < P.length) : oP P i.toNat ∈ P := getD_mem (by omega)
abbrev lrρ (P : List (List Int)) (ts fnd : List Int) (a b : Slot) : Dl.Env := [.sh (pD P), .sh (iT ts), .sh (.lst (fnd.map .int)), a, b]
theorem last_turn {X : XP} {R : D → Sto → Prop} {B C N : NP} {ts fnd : List Int} {t : Int} {a b : Slot} (hP : Pnl m P) (hl : ts.length ≤ 10) (hts : ∀ x ∈ ts, 0 ≤ x ∧ x < m) (ht : t ∈ ts) (hf : fnd.length ≤ 10) (h : ∀ b, N (lrρ P ts (fnd ++ lrow P ts t) (.sh (.int t)) b) W) :
    wS L1_last_rows (lrρ P ts fnd (.sh (.int t)) b) W X R B C N := by
  have hl8 := hP.l8
  unfold L1_last_rows
  repeat infer_instance
  simp only [List.length_map]
  repeat infer_instance
  refine ⟨by rw [rgD_length]; omega, ?_⟩
  refine wL_fmap (pI fun i => lastB (oP P i.toNat) t ts) id (fun d hd => ?_) ?_
  · obtain ⟨i, hi, rfl⟩ := rg_mem hd
    have hi2 : ((0 : Int) + (i : Nat)) < P.length := by omega
    refine ⟨_, rfl, ?_⟩
    unfold T1_last_rows
    repeat infer_instance
    refine o_rfl (ix_pDI (by omega) hi2) ?_
    repeat infer_instance
    have hm2 := oP_mem (P := P) (i := (0 : Int) + (i : Nat)) (by omega) hi2
    refine wC_eq (is_last (hP.mem hm2 (hts t ht).1 (hts t ht).2) (fun o ho => hP.mem hm2 (hts o ho).1 (hts o ho).2) (by omega)) ?_
    refine ⟨rfl, rfl, fun _ => ?_⟩
    repeat infer_instance
    exact ⟨rfl, rfl⟩
  · rw [List.map_id]
    have e : (rgD 0 (P.length : Int).toNat).filter (pI fun i => lastB (oP P i.toNat) t ts) = ((rgI P.length).filter fun i => lastB (oP P i.toNat) t ts).map .int := filter_ints _ _
    rw [e]
    repeat infer_instance
    refine o_slToL (by decide) ?_
    have e2 : (((rgI P.length).filter fun i => lastB (oP P i.toNat) t ts).map D.int).take (1 : Int).toNat = (lrow P ts t).map .int := by
      rw [← List.map_take]; rfl
    rw [e2]
    have := lrow_len P ts t
    refine o_addL (by simp only [List.length_map]; omega) ?_
    rw [← List.map_append]
    exact h _
theorem s_last {X : Nat → List (Str × D) → Sto → Prop} {Q : D → Sto → Prop} {ts : List Int} (hP : Pnl m P) (hl : ts.length ≤ 10) (hts : ∀ x ∈ ts, 0 ≤ x ∧ x < m) (h : Q (.lst ((lrows P ts).map .int)) W) : wC (c_last_rows [pD P, iT ts] W) X Q := by
  unfold c_last_rows
  refine w_run rfl ?_
  unfold b_last_rows
  repeat infer_instance
  refine w_forI (fun i ρ W1 => W1 = W ∧ ∃ a b, ρ = lrρ P ts ((ts.take i).flatMap (lrow P ts)) a b) 0 ⟨rfl, _, _, rfl⟩ ?_ ?_
  · rintro i d ρ W1 hi ⟨rfl, a, b, rfl⟩
    obtain ⟨t, ht, rfl⟩ := List.mem_map.mp (List.mem_of_getElem? hi)
    refine ⟨_, rfl, ?_⟩
    have h1 := fm_le (lrow P ts) (lrow_len P ts) (ts.take (0 + i))
    have h2 : (ts.take (0 + i)).length ≤ 10 := by rw [List.length_take]; omega
    refine last_turn hP hl hts ht (a := a) (by omega) fun b => ⟨rfl, .sh (.int t), b, ?_⟩
    rw [List.getElem?_map] at hi
    cases q : ts[i]? with
    | none => rw [q] at hi; cases hi
    | some t' =>
      rw [q] at hi
      simp only [Option.map_some, Option.some.injEq, D.int.injEq] at hi
      subst hi
      have e : ts.take (0 + i + 1) = ts.take (0 + i) ++ [t'] := by
        rw [List.take_succ, Nat.zero_add, q]
        rfl
      rw [e, List.flatMap_append]
      simp
  · rintro ρ W1 ⟨rfl, a, b, rfl⟩
    repeat infer_instance
    rw [List.length_map, Nat.zero_add, List.take_of_length_le (Nat.le_refl _)]
    exact h
theorem pv_iT {ns : List Int} (h : ns.length ≤ 1000) : pv 4 (iT ns) = true := by
  simp only [iT, pv, Bool.and_eq_true, decide_eq_true_eq, List.length_map, List.all_eq_true]
  refine ⟨h, fun x hx => ?_⟩
  obtain ⟨k, _, rfl⟩ := List.mem_map.mp hx
  simp [pv]
theorem pv_lI {ns : List Int} (h : ns.length ≤ 1000) : pv 4 (.lst (ns.map .int)) = true := by
  simp only [pv, Bool.and_eq_true, decide_eq_true_eq, List.length_map, List.all_eq_true]
  refine ⟨h, fun x hx => ?_⟩
  obtain ⟨k, _, rfl⟩ := List.mem_map.mp hx
  simp [pv]
theorem frz_ints (k : Nat) (ns : List Int) : (ns.map D.int).map (frz k) = ns.map .int := by
  rw [List.map_map]
  exact List.map_congr_left fun x _ => by cases k <;> rfl
theorem frz_iT (ns : List Int) : frz 4 (iT ns) = iT ns := by simp only [iT, frz, frz_ints]
theorem frz_lI (ns : List Int) : frz 4 (.lst (ns.map .int)) = iT ns := by simp only [iT, frz, frz_ints]
theorem mk_axis {t : D} (h : pv 4 t = true) : c_in_Axis [t] W = some (([("things", frz 4 t)] : List (Str × D)), W) := by
  unfold c_in_Axis
  simp only [c_frozen, frozen_n W 4 t h]
theorem mk_three {t r : D} (h : pv 4 t = true) (h2 : pv 4 r = true) : c_in_Three [t, r] W = some (([("things", frz 4 t), ("rows", frz 4 r)] : List (Str × D)), W) := by
  unfold c_in_Three
  simp only [c_frozen, frozen_n W 4 t h, frozen_n W 4 r h2]
theorem mk_four {t r : D} (h : pv 4 t = true) (h2 : pv 4 r = true) : c_in_Four [t, r] W = some (([("things", frz 4 t), ("rows", frz 4 r)] : List (Str × D)), W) := by
  unfold c_in_Four
  simp only [c_frozen, frozen_n W 4 t h, frozen_n W 4 r h2]
/-! ### no_axis: what it tells -/
def okFour (P : List (List Int)) (ts : List Int) (i j : Nat) : Bool := match ts with
  | [a, b, c, d] => fourB (oP P i) (oP P j) a b c d
  | _ => false
def NoAx (P : List (List Int)) (m : Nat) (d : D) : Prop :=
  (∃ ts ∈ rowsT m 3, (lrows P ts).length = 3 ∧ d = three_ (iT ts) (iT (lrows P ts))) ∨
  (∃ ts ∈ rowsT m 4, ∃ i j : Nat, i < P.length ∧ j < P.length ∧ okFour P ts i j = true ∧ d = four_ (iT ts) (iT [(i : Int), (j : Int)])) ∨
  (d = .non ∧ (∀ ts ∈ rowsT m 3, (lrows P ts).length ≠ 3) ∧ ∀ ts ∈ rowsT m 4, ∀ i j : Nat, i < P.length → j < P.length → okFour P ts i j = false)
theorem no3_turn {X : XP} {R : D → Sto → Prop} {B C N : NP} {ts : List Int} {a b c : Slot} (hP : Pnl m P) (hts : ts ∈ rowsT m 3) (h1 : (lrows P ts).length = 3 → R (three_ (iT ts) (iT (lrows P ts))) W) (h2 : (lrows P ts).length ≠ 3 → ∀ a, N [.sh (pD P), .sh (iT ts), a, b, c] W) :
    wS L1_no_axis [.sh (pD P), .sh (iT ts), a, b, c] W X R B C N := by
  obtain ⟨g1, g2, g3⟩ := rowsT_mem m 3 ts hts
  unfold L1_no_axis
  repeat infer_instance
  refine s_last hP (by omega) g2 ?_
  repeat infer_instance
  simp only [List.length_map]
  refine wB_dec (fun q => ?_) fun q => ?_
  · repeat infer_instance
    refine o_rfl (mk_three (pv_iT (by omega)) (pv_lI (by omega))) ?_
    rw [frz_iT, frz_lI]
    exact h1 (by omega)
  · repeat infer_instance
    exact h2 (by omega) _
theorem no4_turn {X : XP} {R : D → Sto → Prop} {B C N : NP} {ts : List Int} {rw_ : Slot} {i j : Nat} (hP : Pnl m P) (hts : ts ∈ rowsT m 4) (hi : i < P.length) (hj : j < P.length) (h1 : okFour P ts i j = true → R (four_ (iT ts) (iT [(i : Int), (j : Int)])) W) (h2 : okFour P ts i j = false → N [.sh (pD P), .sh (iT ts), rw_, .sh (.int i), .sh (.int j)] W) :
    wS L2_no_axis [.sh (pD P), .sh (iT ts), rw_, .sh (.int i), .sh (.int j)] W X R B C N := by
  obtain ⟨g1, g2, g3⟩ := rowsT_mem m 4 ts hts
  obtain ⟨a, b, c, d, rfl⟩ := four_of (ts := ts) (by omega)
  unfold L2_no_axis
  repeat infer_instance
  refine o_rfl (ix_pD hi) ?_
  repeat infer_instance
  refine o_rfl (ix_pD hj) ?_
  repeat infer_instance
  refine wC_eq (is_four (fun x hx => hP.mem (getD_mem hi) (g2 x hx).1 (g2 x hx).2) fun x hx => hP.mem (getD_mem hj) (g2 x hx).1 (g2 x hx).2) ?_
  refine wB_bl (fun q => ?_) fun q => ?_
  · repeat infer_instance
    have e := mk_four (W := W) (pv_iT (ns := [a, b, c, d]) (by simp)) (pv_iT (ns := [(i : Int), (j : Int)]) (by simp))
    rw [frz_iT, frz_iT] at e
    refine o_rfl e ?_
    exact h1 q
  · repeat infer_instance
    exact h2 q
theorem s_noax {W : Sto} {X : Nat → List (Str × D) → Sto → Prop} {Q : D → Sto → Prop} (hP : Pnl m P) (h : ∀ d, NoAx P m d → Q d W) : wC (c_no_axis [pD P] W) X Q := by
  obtain ⟨o, ho, e2, e3⟩ := ix0_pD hP
  have e4 : ((o.map D.int).length : Int) = (m : Int) := by rw [List.length_map, e3]
  have hl8 := hP.l8
  unfold c_no_axis
  refine w_run rfl ?_
  unfold b_no_axis
  repeat infer_instance
  refine o_rfl e2 ?_
  repeat infer_instance
  simp only [e4]
  refine s_rows (k := 3) hP.m6 (by omega) ?_
  repeat infer_instance
  refine w_forP (fun pre ρ W1 => W = W1 ∧ (∃ a b c e, ρ = [.sh (pD P), a, b, c, e]) ∧ ∀ d ∈ pre, (lrows P (unT d)).length ≠ 3) [] ⟨rfl, ⟨_, _, _, _, rfl⟩, fun d z => nomatch z⟩ ?_ ?_
  · rintro pre d ρ W1 ⟨rfl, ⟨a, b, c, e, rfl⟩, hpre⟩ hd
    obtain ⟨ts, hts, rfl⟩ := List.mem_map.mp hd
    refine ⟨_, rfl, ?_⟩
    refine no3_turn hP hts (fun q => h _ (.inl ⟨ts, hts, q, rfl⟩)) fun q a => ⟨rfl, ⟨_, _, _, _, rfl⟩, fun d hd => ?_⟩
    rcases List.mem_append.mp hd with hd | hd
    · exact hpre d hd
    · rw [List.mem_singleton.mp hd, unT_iT]; exact q
  · rintro ρ W1 ⟨rfl, ⟨a, b, c, e, rfl⟩, hpre⟩
    have hp3 : ∀ ts ∈ rowsT m 3, (lrows P ts).length ≠ 3 := fun ts hts => by
      have := hpre (iT ts) (by simpa using List.mem_map.mpr ⟨ts, hts, rfl⟩)
      rwa [unT_iT] at this
    repeat infer_instance
    refine o_rfl e2 ?_
    repeat infer_instance
    simp only [e4]
    refine s_rows (k := 4) hP.m6 (by omega) ?_
    repeat infer_instance
    refine w_forP (fun pre ρ W1 => W = W1 ∧ (∃ a b c e, ρ = [.sh (pD P), a, b, c, e]) ∧ ∀ d ∈ pre, ∀ i j : Nat, i < P.length → j < P.length → okFour P (unT d) i j = false) [] ⟨rfl, ⟨_, _, _, _, rfl⟩, fun d z => nomatch z⟩ ?_ ?_
    · rintro pre d ρ W1 ⟨rfl, ⟨a, b, c, e, rfl⟩, hpre⟩ hd
      obtain ⟨ts, hts, rfl⟩ := List.mem_map.mp hd
      refine ⟨_, rfl, ?_⟩
      unfold L4_no_axis
      repeat infer_instance
      simp only [List.length_map]
      repeat infer_instance
      refine w_forI (fun k ρ W1 => W = W1 ∧ (∃ c e, ρ = [.sh (pD P), .sh (iT ts), b, c, e]) ∧ ∀ i j : Nat, i < k → j < P.length → okFour P ts i j = false) 0 ⟨rfl, ⟨_, _, rfl⟩, fun i j z => absurd z (Nat.not_lt_zero _)⟩ ?_ ?_
      · rintro i d ρ W1 hi ⟨rfl, ⟨c, e, rfl⟩, hI⟩
        obtain ⟨i', hi', rfl⟩ := rg_mem (List.mem_of_getElem? hi)
        have ei : i' = i ∧ i < P.length := by
          obtain ⟨q1, q2⟩ := List.getElem?_eq_some_iff.mp hi
          rw [rgD_length] at q1
          simp [rgD] at q2
          omega
        obtain ⟨rfl, hil⟩ := ei
        refine ⟨_, rfl, ?_⟩
        unfold L3_no_axis
        repeat infer_instance
        simp only [List.length_map]
        repeat infer_instance
        rw [Int.zero_add]
        refine w_forI (fun k ρ W1 => W = W1 ∧ (∃ e, ρ = [.sh (pD P), .sh (iT ts), b, .sh (.int i'), e]) ∧ ∀ j : Nat, j < k → okFour P ts i' j = false) 0 ⟨rfl, ⟨_, rfl⟩, fun j z => absurd z (Nat.not_lt_zero _)⟩ ?_ ?_
        · rintro j d ρ W1 hj ⟨rfl, ⟨e, rfl⟩, hJ⟩
          obtain ⟨j', hj', rfl⟩ := rg_mem (List.mem_of_getElem? hj)
          have ej : j' = j ∧ j < P.length := by
            obtain ⟨q1, q2⟩ := List.getElem?_eq_some_iff.mp hj
            rw [rgD_length] at q1
            simp [rgD] at q2
            omega
          obtain ⟨rfl, hjl⟩ := ej
          refine ⟨_, rfl, ?_⟩
          rw [Int.zero_add]
          refine no4_turn hP hts hil hjl (fun q => h _ (.inr (.inl ⟨ts, hts, i', j', hil, hjl, q, rfl⟩))) fun q => ⟨rfl, ⟨_, rfl⟩, fun j hj => ?_⟩
          rcases Nat.lt_or_eq_of_le (Nat.le_of_lt_succ hj) with hj | hj
          · exact hJ j hj
          · rw [hj, Nat.zero_add]; exact q
        · rintro ρ W1 ⟨rfl, ⟨e, rfl⟩, hJ⟩
          refine ⟨rfl, ⟨_, _, rfl⟩, fun i j hi hj => ?_⟩
          rcases Nat.lt_or_eq_of_le (Nat.le_of_lt_succ hi) with hi | hi
          · exact hI i j hi hj
          · rw [hi, Nat.zero_add]; exact hJ j (by rw [rgD_length]; simpa using hj)
      · rintro ρ W1 ⟨rfl, ⟨c, e, rfl⟩, hI⟩
        refine ⟨rfl, ⟨_, _, _, _, rfl⟩, fun d hd i j hi hj => ?_⟩
        rcases List.mem_append.mp hd with hd | hd
        · exact hpre d hd i j hi hj
        · rw [List.mem_singleton.mp hd, unT_iT]; exact hI i j (by rw [rgD_length]; simpa using hi) hj
    · rintro ρ W1 ⟨rfl, ⟨a, b, c, e, rfl⟩, hpre⟩
      repeat infer_instance
      refine h _ (.inr (.inr ⟨rfl, hp3, fun ts hts i j hi hj => ?_⟩))
      have := hpre (iT ts) (by simpa using List.mem_map.mpr ⟨ts, hts, rfl⟩) i j hi hj
      rwa [unT_iT] at this
/-- what axis_verdict tells -/
def Vrd (P : List (List Int)) (m : Nat) (d : D) : Prop := (∃ ax ∈ rowsT m m, (rowsT m m).find? (allF P) = some ax ∧ d = axis_ (iT ax)) ∨ ((rowsT m m).find? (allF P) = none ∧ NoAx P m d)
theorem s_verdict {X : Nat → List (Str × D) → Sto → Prop} {Q : D → Sto → Prop} (hP : Pnl m P) (a b : Bool) (h : ∀ d, Vrd P m d → Q d W) : wC (c_axis_verdict [lp a b P] W) X Q := by
  unfold c_axis_verdict
  refine w_run rfl ?_
  unfold b_axis_verdict
  repeat infer_instance
  refine wC_eq (panel_told hP a b) ?_
  repeat infer_instance
  refine s_first hP ?_
  repeat infer_instance
  unfold axD
  cases q : (rowsT m m).find? (allF P) with
  | none =>
    dsimp only [Dl.isNon]
    repeat infer_instance
    exact s_noax hP fun d hd => h d (.inr ⟨q, hd⟩)
  | some ax =>
    have hax := List.mem_of_find?_eq_some q
    obtain ⟨g1, g2, g3⟩ := rowsT_mem m m ax hax
    have := hP.m6
    dsimp only [Dl.isNon, iT]
    repeat infer_instance
    have e := mk_axis (W := W) (pv_iT (ns := ax) (by omega))
    rw [frz_iT] at e
    exact o_rfl e (h _ (.inl ⟨ax, hax, q, rfl⟩))
end

end P82

set_option Elab.async false
set_option linter.all false
set_option maxRecDepth 100000
set_option maxHeartbeats 4000000
namespace P82
open PySem PySem.Spec PyProof.Rows L2 Dl
local macro_rules | `(tactic| infer_instance) => `(tactic| first
  | with_reducible refine w_seq ?_ | with_reducible refine w_asg ?_ | ((with_reducible apply w_var); focus exact rfl) | ((with_reducible apply w_varF); focus exact rfl) | ((with_reducible apply w_varFo); focus exact rfl) | with_reducible refine w_c ?_ | with_reducible refine w_cons ?_ | with_reducible refine w_nil ?_ | with_reducible refine w_op2 ?_ | with_reducible refine w_bi ?_ | with_reducible refine w_g1 ?_
  | with_reducible refine w_call ?_ | with_reducible refine w_and ?_ | with_reducible refine w_or ?_ | with_reducible refine w_not ?_ | with_reducible refine w_if ?_ | with_reducible refine w_sif ?_ | with_reducible refine w_ret ?_ | with_reducible refine w_retN ?_ | with_reducible refine w_expr ?_ | with_reducible refine w_snil ?_ | with_reducible refine w_pass ?_ | with_reducible refine w_brk ?_ | with_reducible refine w_cont ?_
  | with_reducible refine w_owl ?_ | with_reducible refine w_unp ?_ | with_reducible refine w_par ?_ | with_reducible refine wP_nil ?_ | with_reducible refine wP_sh ?_ | with_reducible refine wP_shp ?_ | with_reducible refine wP_ow ?_ | with_reducible refine wP_owp ?_ | with_reducible refine w_hid ?_ | with_reducible refine w_for ?_ | with_reducible refine w_items ?_ | with_reducible refine w_rg1 ?_ | with_reducible refine w_rg2 ?_ | with_reducible refine w_zip ?_ | with_reducible refine w_r1 ?_ | with_reducible refine w_r2 ?_
  | with_reducible refine w_lstRg ?_ | with_reducible refine w_tupRg ?_ | with_reducible refine w_lc ?_ | with_reducible refine w_lc2 ?_ | ((with_reducible apply w_mth); focus exact rfl) | with_reducible refine w_make ?_ | with_reducible refine w_ownEq ?_ | with_reducible refine w_part ?_ | with_reducible refine w_sl ?_ | with_reducible refine w_index ?_ | with_reducible refine w_un ?_ | with_reducible refine w_chain ?_ | ((with_reducible apply w_lenVo); focus exact rfl) | ((with_reducible apply w_lenV); focus exact rfl)
  | with_reducible refine o_sub ?_ | with_reducible refine o_add ?_ | with_reducible refine o_lt ?_ | with_reducible refine o_le ?_ | with_reducible refine o_gt ?_ | with_reducible refine o_ge ?_ | with_reducible refine o_eqI ?_ | with_reducible refine o_neI ?_ | with_reducible refine o_eqB ?_ | with_reducible refine o_neB ?_ | with_reducible refine o_isN ?_ | with_reducible refine o_notN ?_
  | with_reducible refine o_tup (by simp) ?_ | with_reducible refine o_lst (by simp) ?_ | with_reducible refine o_lenT ?_ | with_reducible refine o_lenL ?_ | with_reducible refine o_tupT ?_ | with_reducible refine o_tupL ?_ | with_reducible refine o_lstT ?_ | with_reducible refine o_lstL ?_ | with_reducible refine o_lstS ?_ | with_reducible refine o_intI ?_ | with_reducible refine o_neg ?_ | with_reducible refine o_abs ?_ | with_reducible refine o_revT ?_ | with_reducible refine o_revL ?_ | with_reducible refine oI_n ?_ | with_reducible refine oI_i ?_
  | with_reducible refine wB_t ?_ | with_reducible refine wB_f ?_ | with_reducible refine wB_non ?_ | with_reducible refine wB_nt ?_ | with_reducible refine wB_nf ?_ | ((with_reducible apply And.intro (a := List.length _ = _)); focus exact rfl) | with_reducible refine wR1_i (by omega) (by omega) ?_ | with_reducible refine wR2_i (by omega) (by omega) (by omega) (by omega) ?_ | with_reducible refine wR3_i (by omega) (by omega) (by omega) (by omega) ?_ | ((with_reducible apply Exists.intro); (with_reducible apply And.intro); focus exact rfl) | with_reducible refine o_rfl (tru_bl _ _) ?_
  | ((with_reducible apply o_isiT); (focus exact rfl); (focus exact rfl)) | ((with_reducible apply o_isiF); (focus exact rfl); (focus exact rfl)) | ((with_reducible apply o_items); focus exact rfl) | ((with_reducible apply o_bt); focus exact rfl)
)

section
variable {n : Nat} {p : Pen} {W : Sto} {m : Nat} {P : List (List Int)} {X : Nat → List (Str × D) → Sto → Prop} {Q : D → Sto → Prop}
/-! ### the pen is made -/
theorem w_dispS {ps : List (Dn × Dn)} {ρ : Dl.Env} {X : XP} {Q : VP} {kvs : List (Key × D)} (h : prL ps (ρ.map hide) W = some (kvs, W)) (k : Q (.ref W.length) ρ (W ++ [.dct (mergeD [] kvs)])) : wD (dDispS ps) ρ W X Q := by
  unfold wD dDispS
  rw [h]
  exact k
theorem prL_cons {fk fv : Dn} {r : List (Dn × Dn)} {ρ : Dl.Env} {k : D} {key : Key} {d : D} {kvs : List (Key × D)} (h1 : fk ρ W = .val k ρ W) (h2 : toK k = some key) (h3 : fv ρ W = .val d ρ W) (h4 : prL r ρ W = some (kvs, W)) : prL ((fk, fv) :: r) ρ W = some ((key, d) :: kvs, W) := by
  simp only [prL, h1, h2, h3, h4]
theorem kv_merge (p : Pen) : mergeD [] p.kv = p.kv := by
  simp only [Pen.kv, mergeD, List.foldl_cons, List.foldl_nil, putD, List.any_cons, List.any_nil, List.nil_append, List.cons_append, nCA, nCD, nCN, nCF, nAD, nAN, nAF, nDN, nDF, nNF, decide_false, Bool.or_false, Bool.false_eq_true, if_false]
theorem s_pen {ns : List Int} (k : ∀ p, PenOk 0 p → Q (.ref 0) [Pen.M p]) : wC (c__law_pen [.sq (ns.map .int)] []) X Q := by
  unfold c__law_pen
  refine w_run rfl ?_
  unfold b__law_pen
  repeat infer_instance
  refine w_forI (fun _ ρ W => W = [] ∧ ∃ (f : Int) (a : Slot), ρ = [.sh (.sq (ns.map .int)), .sh (.int f), a] ∧ 0 ≤ f ∧ f < 1000000009) 0 ⟨rfl, 0, _, rfl, by decide, by decide⟩ ?_ ?_
  · rintro i d ρ W1 hi ⟨rfl, f, a, rfl, h0, h1⟩
    obtain ⟨c, _, rfl⟩ := List.mem_map.mp (List.mem_of_getElem? hi)
    refine ⟨_, rfl, ?_⟩
    unfold L1__law_pen
    repeat infer_instance
    refine o_mulR (by decide) (by decide) ?_
    repeat infer_instance
    refine o_mod (by decide) ?_
    exact ⟨rfl, _, _, rfl, Int.emod_nonneg _ (by decide), Int.emod_lt_of_pos _ (by decide)⟩
  · rintro ρ W1 ⟨rfl, f, a, rfl, h0, h1⟩
    repeat infer_instance
    refine w_dispS (kvs := Pen.kv ⟨ns, 0, 0, 0, f⟩) ?_ ?_
    · refine prL_cons (ev_c _ _ _) rfl (bi_v (c1 (var_v rfl)) listOf_sq) (prL_cons (ev_c _ _ _) rfl (ev_c _ _ _) (prL_cons (ev_c _ _ _) rfl (ev_c _ _ _) (prL_cons (ev_c _ _ _) rfl (ev_c _ _ _) (prL_cons (ev_c _ _ _) rfl (var_v rfl) rfl))))
    · rw [kv_merge]
      exact k ⟨ns, 0, 0, 0, f⟩ ⟨Int.le_refl 0, Int.le_refl 0, Int.le_refl 0, Int.le_refl 0, h0, Int.lt_trans h1 (by decide)⟩
/-! ### the law's drawn things, as promises -/
theorem s_loose (h : PenOk n p) (hn : n < 1000000000) (hP : P.length ≤ 8) (k : ∀ a b p', PenOk (n + 1) p' → Q (lp a b P) [Pen.M p']) : wC (c__law_loose_panel [.ref 0, pD P] [p.M]) X Q := by
  obtain ⟨a, b, p', e, h1⟩ := loose h hn hP
  exact wC_eq e (k a b p' h1)
theorem s_bent {xs : List D} {m : Int} (h : PenOk n p) (hn : n + 10 < 1000000000) (hx : ∀ y ∈ xs, pv 2 y = true) (hl : xs.length ≤ 10) (k : ∀ x p', Hv x → PenOk (n + 3) p' → Q x [Pen.M p']) : wC (c__law_bent [.ref 0, .tup xs, .int m] [p.M]) X Q := by
  obtain ⟨x, p', e, h1, h2⟩ := bent h hn hx hl
  exact wC_eq e (k x p' h1 h2)
theorem s_three (hP : Pnl m P) (h : PenOk n p) (hn : n + 3000000 < 1000000000) (k : ∀ lot rows p', GP m P (.tup [iT lot, iT rows]) → PenOk (n + 20) p' → Q (.tup [iT lot, iT rows]) [Pen.M p']) : wC (c__law_some_three [.ref 0, pD P, .int m] [p.M]) X Q := by
  obtain ⟨d, p', e, h1, h2⟩ := some_three hP h hn
  have h3 := h1
  obtain ⟨lot, rows, rfl, _⟩ := h3
  exact wC_eq e (k lot rows p' h1 h2)
theorem s_four (hP : Pnl m P) (h : PenOk n p) (hn : n + 3000000 < 1000000000) (k : ∀ lot rows p', GP m P (.tup [iT lot, iT rows]) → PenOk (n + 96) p' → Q (.tup [iT lot, iT rows]) [Pen.M p']) : wC (c__law_some_four [.ref 0, pD P, .int m] [p.M]) X Q := by
  obtain ⟨d, p', e, h1, h2⟩ := some_four hP h hn
  have h3 := h1
  obtain ⟨lot, rows, rfl, _⟩ := h3
  exact wC_eq e (k lot rows p' h1 h2)
theorem pv2_ints (ns : List Int) : ∀ y ∈ ns.map D.int, pv 2 y = true := fun y hy => by
  obtain ⟨k, _, rfl⟩ := List.mem_map.mp hy
  simp [pv]
theorem hv_iT {ns : List Int} (h : ns.length ≤ 40) : Hv (iT ns) := Hv.tup (pv2_ints ns) (by simpa using h)
theorem hv_lI {ns : List Int} (h : ns.length ≤ 40) : Hv (.lst (ns.map .int)) := Hv.lst (pv2_ints ns) (by simpa using h)
theorem hv_pv {x : D} (h : Hv x) : pv 4 x = true := pv_mono h.pv (by decide)
theorem frz_nr : ∀ {k j : Nat} {d : D}, pv j d = true → nr (frz k d) = true := by
  intro k j d h
  have := pv_nr h
  cases k <;> cases d <;> first | rfl | (cases this)
theorem vl_frz {x : D} (h : Hv x) : Vl (frz 4 x) := by
  refine ⟨frz_nr h.pv, fun xs e => ?_, fun xs e => ?_⟩
  · have := pv_nr h.pv
    have h2 := h.pv
    cases x <;> first | (cases e; done) | (cases h2; done) | (simp [frz] at e; done) | (simp [frz] at e; subst e; simp [pv] at h2)
  · have h2 := h.pv
    have h3 := h.ln
    have key : ∀ ys : List D, (x = .tup ys ∨ x = .lst ys) → xs = ys.map (frz 3) → (∀ z ∈ xs, nr z = true) ∧ xs.length < 64 := by
      intro ys hy hxs
      have := h3 ys hy
      subst hxs
      refine ⟨fun z hz => ?_, by rw [List.length_map]; omega⟩
      obtain ⟨y, hy2, rfl⟩ := List.mem_map.mp hz
      have h4 : pv 2 y = true := by
        rcases hy with rfl | rfl <;> (simp only [pv, Bool.and_eq_true, List.all_eq_true] at h2; exact h2.2 y hy2)
      exact frz_nr h4
    cases x <;> first | (cases e; done) | (simp [frz] at e; done) | skip
    · rename_i ys
      simp only [frz, D.tup.injEq] at e
      exact key ys (.inl rfl) e.symm
    · rename_i ys
      simp only [frz, D.tup.injEq] at e
      exact key ys (.inr rfl) e.symm
theorem s_says {a b : Bool} (h : a = b) (k : Q (.bl false) W) : wC (c__law_says_not [.bl a, .bl b] W) X Q := by
  subst h
  unfold c__law_says_not
  refine w_run rfl ?_
  unfold b__law_says_not
  repeat infer_instance
  have e2 : (!(a == a)) = false := by cases a <;> rfl
  rw [e2]
  exact k
end

end P82

set_option Elab.async false
set_option linter.all false
set_option maxRecDepth 100000
set_option maxHeartbeats 4000000
namespace P82
open PySem PySem.Spec PyProof.Rows L2 Dl
local macro_rules | `(tactic| infer_instance) => `(tactic| first
  | with_reducible refine w_seq ?_ | with_reducible refine w_asg ?_ | ((with_reducible apply w_var); focus exact rfl) | ((with_reducible apply w_varF); focus exact rfl) | ((with_reducible apply w_varFo); focus exact rfl) | with_reducible refine w_c ?_ | with_reducible refine w_cons ?_ | with_reducible refine w_nil ?_ | with_reducible refine w_op2 ?_ | with_reducible refine w_bi ?_ | with_reducible refine w_g1 ?_
  | with_reducible refine w_call ?_ | with_reducible refine w_and ?_ | with_reducible refine w_or ?_ | with_reducible refine w_not ?_ | with_reducible refine w_if ?_ | with_reducible refine w_sif ?_ | with_reducible refine w_ret ?_ | with_reducible refine w_retN ?_ | with_reducible refine w_expr ?_ | with_reducible refine w_snil ?_ | with_reducible refine w_pass ?_ | with_reducible refine w_brk ?_ | with_reducible refine w_cont ?_
  | with_reducible refine w_owl ?_ | with_reducible refine w_unp ?_ | with_reducible refine w_par ?_ | with_reducible refine wP_nil ?_ | with_reducible refine wP_sh ?_ | with_reducible refine wP_shp ?_ | with_reducible refine wP_ow ?_ | with_reducible refine wP_owp ?_ | with_reducible refine w_hid ?_ | with_reducible refine w_for ?_ | with_reducible refine w_items ?_ | with_reducible refine w_rg1 ?_ | with_reducible refine w_rg2 ?_ | with_reducible refine w_zip ?_ | with_reducible refine w_r1 ?_ | with_reducible refine w_r2 ?_
  | with_reducible refine w_lstRg ?_ | with_reducible refine w_tupRg ?_ | with_reducible refine w_lc ?_ | with_reducible refine w_lc2 ?_ | ((with_reducible apply w_mth); focus exact rfl) | with_reducible refine w_make ?_ | with_reducible refine w_ownEq ?_ | with_reducible refine w_part ?_ | with_reducible refine w_sl ?_ | with_reducible refine w_index ?_ | with_reducible refine w_un ?_ | with_reducible refine w_chain ?_ | ((with_reducible apply w_lenVo); focus exact rfl) | ((with_reducible apply w_lenV); focus exact rfl)
  | with_reducible refine o_sub ?_ | with_reducible refine o_add ?_ | with_reducible refine o_lt ?_ | with_reducible refine o_le ?_ | with_reducible refine o_gt ?_ | with_reducible refine o_ge ?_ | with_reducible refine o_eqI ?_ | with_reducible refine o_neI ?_ | with_reducible refine o_eqB ?_ | with_reducible refine o_neB ?_ | with_reducible refine o_isN ?_ | with_reducible refine o_notN ?_
  | with_reducible refine o_tup (by simp) ?_ | with_reducible refine o_lst (by simp) ?_ | with_reducible refine o_lenT ?_ | with_reducible refine o_lenL ?_ | with_reducible refine o_tupT ?_ | with_reducible refine o_tupL ?_ | with_reducible refine o_lstT ?_ | with_reducible refine o_lstL ?_ | with_reducible refine o_lstS ?_ | with_reducible refine o_intI ?_ | with_reducible refine o_neg ?_ | with_reducible refine o_abs ?_ | with_reducible refine o_revT ?_ | with_reducible refine o_revL ?_ | with_reducible refine oI_n ?_ | with_reducible refine oI_i ?_
  | with_reducible refine wB_t ?_ | with_reducible refine wB_f ?_ | with_reducible refine wB_non ?_ | with_reducible refine wB_nt ?_ | with_reducible refine wB_nf ?_ | ((with_reducible apply And.intro (a := List.length _ = _)); focus exact rfl) | with_reducible refine wR1_i (by omega) (by omega) ?_ | with_reducible refine wR2_i (by omega) (by omega) (by omega) (by omega) ?_ | with_reducible refine wR3_i (by omega) (by omega) (by omega) (by omega) ?_ | ((with_reducible apply Exists.intro); (with_reducible apply And.intro); focus exact rfl) | with_reducible refine o_rfl (tru_bl _ _) ?_
  | ((with_reducible apply o_isiT); (focus exact rfl); (focus exact rfl)) | ((with_reducible apply o_isiF); (focus exact rfl); (focus exact rfl)) | ((with_reducible apply o_items); focus exact rfl) | ((with_reducible apply o_bt); focus exact rfl)
)

section
variable {n : Nat} {p : Pen} {W : Sto} {m s : Nat} {P : List (List Int)} {sc pap : D} {X : XP} {R : D → Sto → Prop} {B C N : NP}
theorem vrd_nr {d : D} (h : Vrd P m d) : nr d = true ∧ ((∃ ax, ax.length = m ∧ d = axis_ (iT ax)) ∨ notI 1 d = true) := by
  rcases h with ⟨ax, h1, h2, rfl⟩ | ⟨h1, ⟨ts, h2, h3, rfl⟩ | ⟨ts, h2, i, j, h3, h4, h5, rfl⟩ | ⟨rfl, _⟩⟩
  · exact ⟨rfl, .inl ⟨ax, (rowsT_mem m m ax h1).1, rfl⟩⟩
  · exact ⟨rfl, .inr rfl⟩
  · exact ⟨rfl, .inr rfl⟩
  · exact ⟨rfl, .inr rfl⟩
abbrev wρ (sc : D) (m s : Nat) (P : List (List Int)) (pap : D) (lap : Int) (a b c d e f g h : Slot) : Dl.Env := [.sh sc, .sh (.ref 0), .sh (.int m), .sh (.int s), .sh (pD P), .sh pap, .sh (.int lap), a, b, c, d, e, f, g, h]
theorem hv_rev {ns : List Int} (h : ns.length ≤ 40) : Hv (.tup (ns.map D.int).reverse) := by
  rw [← List.map_reverse]
  exact hv_iT (by rw [List.length_reverse]; exact h)
/-- the axis of a lap -/
theorem lap_axis {lap : Int} {a b c d e f g h : Slot} (hP : Pnl m P) (hv : Vrd P m pap) (hp : PenOk n p) (hn : n + 2000000 < 1000000000) :
    wD (dIf (dAnd (dG1 (gIsi [(.o 1)]) (dVar 5)) (dOp2 (fun _ => gLt) (dVar 6) (dC (.int 6)))) (dG1 (gFld "things") (dVar 5)) (dBi gTupleOf (dCons (dCall 2 c__law_shuffled (dCons (dVar 1) (dCons (dLstRg (rg1 (dVar 2))) dNil))) dNil))) (wρ sc m s P pap lap a b c d e f g h) [p.M] X
      fun z ρ' W' => ∃ (ax : List Int) (p' : Pen), z = iT ax ∧ ρ' = wρ sc m s P pap lap a b c d e f g h ∧ W' = [Pen.M p'] ∧ ax.length = m ∧ PenOk (n + 10) p' := by
  have h6 := hP.m6
  have drawn : wD (dBi gTupleOf (dCons (dCall 2 c__law_shuffled (dCons (dVar 1) (dCons (dLstRg (rg1 (dVar 2))) dNil))) dNil)) (wρ sc m s P pap lap a b c d e f g h) [p.M] X
      fun z ρ' W' => ∃ (ax : List Int) (p' : Pen), z = iT ax ∧ ρ' = wρ sc m s P pap lap a b c d e f g h ∧ W' = [Pen.M p'] ∧ ax.length = m ∧ PenOk (n + 10) p' := by
    repeat infer_instance
    rw [rgD_m]
    refine s_shuf (rgI m) hp (by omega) (.inl rfl) (by rw [rgI_length]; omega) fun ms p' g1 g2 => ?_
    rw [rgI_length] at g2
    repeat infer_instance
    exact ⟨ms, p', rfl, rfl, rfl, by rw [g1.length_eq, rgI_length], g2.up (by omega)⟩
  refine w_if (w_and (w_g1 (w_var rfl ?_)))
  obtain ⟨h1, ⟨ax, h2, rfl⟩ | h2⟩ := vrd_nr hv
  · refine o_rfl (isi_a _) ?_
    repeat infer_instance
    refine wB_dec (fun q => ?_) fun q => drawn
    repeat infer_instance
    refine o_rfl (fld_a _) ?_
    exact ⟨ax, p, rfl, rfl, rfl, h2, hp.up (by omega)⟩
  · refine o_rfl (isi_not h1 h2) ?_
    exact wB_f (wB_f drawn)
theorem whole_perm {t : D} (h : wholeB m t = true) : ∃ ns : List Int, t = iT ns ∧ ns.Perm (rgI m) := by
  cases t <;> first | (cases h; done) | skip
  obtain ⟨ns, rfl, hp⟩ := isAll_map (m := m) h
  exact ⟨ns, rfl, hp⟩
theorem lap_due {t : D} {lap : Int} {a b d e f g h : Slot} (hP : Pnl m P) (ht : Vl t) :
    wD (dAnd (dCall 2 c__law_is_whole (dCons (dVar 2) (dCons (dG1 (gFld "things") (dVar 9)) dNil))) (dBi gAll (dCons (dLc [14] (iItems (dVar 4)) (bName 14) (dC (.bl true)) E1_law) dNil))) (wρ sc m s P pap lap a b (.sh (axis_ t)) d e f g h) W X
      fun z ρ' W' => z = .bl (axB m P t) ∧ ρ' = wρ sc m s P pap lap a b (.sh (axis_ t)) d e f g h ∧ W' = W := by
  have h6 := hP.m6
  repeat infer_instance
  refine o_rfl (fld_a _) ?_
  repeat infer_instance
  refine wC_eq (law_whole (by omega) ht.nr ht.tp ht.it) ?_
  refine wB_bl (fun q => ?_) fun q => ?_
  · obtain ⟨ns, rfl, hp⟩ := whole_perm q
    repeat infer_instance
    refine ⟨by simp; have := hP.l8; omega, ?_⟩
    refine wL_map (fun z => .bl (!anySag ns (unT z))) (fun z hz => ?_) ?_
    · obtain ⟨od, hod, rfl⟩ := List.mem_map.mp hz
      refine ⟨_, rfl, ?_⟩
      unfold E1_law
      repeat infer_instance
      refine o_rfl (fld_a _) ?_
      repeat infer_instance
      refine wC_eq (law_falls (fun x hx => (hP.pm od hod).mem_iff.mpr (hp.mem_iff.mp hx)) (by rw [hp.length_eq, rgI_length]; omega)) ?_
      rw [sag_eq, unT_iT]
      exact ⟨rfl, rfl⟩
    · repeat infer_instance
      refine o_all ⟨?_, rfl, rfl⟩
      congr 1
      unfold axB allF
      rw [q, Bool.true_and, unT_iT, List.all_map]
      congr 1
      funext od
      simp only [Function.comp_apply, unT_iT]
  · refine ⟨?_, rfl, rfl⟩
    unfold axB
    rw [q]
    rfl
/-- a lap's first third: the axis -/
theorem lap_one {A2 : Ds} {lap : Int} {a b c d e f g h : Slot} (hP : Pnl m P) (hv : Vrd P m pap) (hp : PenOk n p) (hn : n + 3000000 < 1000000000)
    (k : ∀ x y (b c d : Slot) (p' : Pen), PenOk (n + 20) p' → wS A2 (wρ sc m s P pap lap (.sh (lp x y P)) b c d e f g h) [p'.M] X R B C N) :
    wS (sSeq (sAsg 7 (dCall 2 c__law_loose_panel (dCons (dVar 1) (dCons (dVar 4) dNil))))
    (sSeq (sAsg 8 (dIf (dAnd (dG1 (gIsi [(.o 1)]) (dVar 5)) (dOp2 (fun _ => gLt) (dVar 6) (dC (.int 6)))) (dG1 (gFld "things") (dVar 5)) (dBi gTupleOf (dCons (dCall 2 c__law_shuffled (dCons (dVar 1) (dCons (dLstRg (rg1 (dVar 2))) dNil))) dNil))))
    (sSeq (sAsg 8 (dCall 2 c__law_pick (dCons (dVar 1) (dCons (dBi gLst (dCons (dVar 8) (dCons (dG1 gRev (dVar 8)) (dCons (dCall 3 c__law_bent (dCons (dVar 1) (dCons (dVar 8) (dCons (dVar 2) dNil)))) (dCons (dBi gListOf (dCons (dVar 8) dNil)) dNil))))) dNil))))
    (sSeq (sAsg 9 (dMake 1 1 c_in_Axis (dCons (dVar 8) dNil)))
    (sSeq (sAsg 10 (dAnd (dCall 2 c__law_is_whole (dCons (dVar 2) (dCons (dG1 (gFld "things") (dVar 9)) dNil))) (dBi gAll (dCons (dLc [14] (iItems (dVar 4)) (bName 14) (dC (.bl true)) E1_law) dNil))))
    (sSeq (sIf (dCall 2 c__law_says_not (dCons (dCall 2 c_axis_holds (dCons (dVar 7) (dCons (dVar 9) dNil))) (dCons (dVar 10) dNil))) (sRet (dC (.bl false))) sNil) A2)))))) (wρ sc m s P pap lap a b c d e f g h) [p.M] X R B C N := by
  have h6 := hP.m6
  refine w_seq (w_asg ?_)
  repeat infer_instance
  refine s_loose hp (by omega) hP.l8 fun x y p1 hp1 => ?_
  refine w_seq (w_asg ?_)
  refine wD_to (lap_axis (n := n + 1) hP hv hp1 (by omega)) fun z ρ' W' hz => ?_
  obtain ⟨ax, p2, rfl, rfl, rfl, hax, hp2⟩ := hz
  refine w_seq (w_asg ?_)
  repeat infer_instance
  refine s_bent hp2 (by omega) (pv2_ints ax) (by rw [List.length_map]; omega) fun z p3 hz hp3 => ?_
  repeat infer_instance
  refine s_pick hp3 (by omega) (by simp) (by simp) fun v p4 hv2 hp4 => ?_
  have hhv : Hv v := by
    simp only [List.mem_cons, List.not_mem_nil, or_false] at hv2
    rcases hv2 with rfl | rfl | rfl | rfl
    · exact hv_iT (by omega)
    · exact hv_rev (by omega)
    · exact hz
    · exact hv_lI (by omega)
  refine w_seq (w_asg ?_)
  repeat infer_instance
  refine o_rfl (mk_axis (hv_pv hhv)) ?_
  refine w_seq (w_asg ?_)
  refine wD_to (lap_due (t := frz 4 v) hP (vl_frz hhv)) fun z ρ' W' hz => ?_
  obtain ⟨rfl, rfl, rfl⟩ := hz
  refine w_seq (w_sif ?_)
  repeat infer_instance
  refine wC_eq (axis_holds hP x y (vl_frz hhv)) ?_
  repeat infer_instance
  refine s_says rfl ?_
  repeat infer_instance
  exact k x y _ _ _ p4 (hp4.up (by omega))
end

end P82

set_option Elab.async false
set_option linter.all false
set_option maxRecDepth 100000
set_option maxHeartbeats 4000000
namespace P82
open PySem PySem.Spec PyProof.Rows L2 Dl
local macro_rules | `(tactic| infer_instance) => `(tactic| first
  | with_reducible refine w_seq ?_ | with_reducible refine w_asg ?_ | ((with_reducible apply w_var); focus exact rfl) | ((with_reducible apply w_varF); focus exact rfl) | ((with_reducible apply w_varFo); focus exact rfl) | with_reducible refine w_c ?_ | with_reducible refine w_cons ?_ | with_reducible refine w_nil ?_ | with_reducible refine w_op2 ?_ | with_reducible refine w_bi ?_ | with_reducible refine w_g1 ?_
  | with_reducible refine w_call ?_ | with_reducible refine w_and ?_ | with_reducible refine w_or ?_ | with_reducible refine w_not ?_ | with_reducible refine w_if ?_ | with_reducible refine w_sif ?_ | with_reducible refine w_ret ?_ | with_reducible refine w_retN ?_ | with_reducible refine w_expr ?_ | with_reducible refine w_snil ?_ | with_reducible refine w_pass ?_ | with_reducible refine w_brk ?_ | with_reducible refine w_cont ?_
  | with_reducible refine w_owl ?_ | with_reducible refine w_unp ?_ | with_reducible refine w_par ?_ | with_reducible refine wP_nil ?_ | with_reducible refine wP_sh ?_ | with_reducible refine wP_shp ?_ | with_reducible refine wP_ow ?_ | with_reducible refine wP_owp ?_ | with_reducible refine w_hid ?_ | with_reducible refine w_for ?_ | with_reducible refine w_items ?_ | with_reducible refine w_rg1 ?_ | with_reducible refine w_rg2 ?_ | with_reducible refine w_zip ?_ | with_reducible refine w_r1 ?_ | with_reducible refine w_r2 ?_
  | with_reducible refine w_lstRg ?_ | with_reducible refine w_tupRg ?_ | with_reducible refine w_lc ?_ | with_reducible refine w_lc2 ?_ | ((with_reducible apply w_mth); focus exact rfl) | with_reducible refine w_make ?_ | with_reducible refine w_ownEq ?_ | with_reducible refine w_part ?_ | with_reducible refine w_sl ?_ | with_reducible refine w_index ?_ | with_reducible refine w_un ?_ | with_reducible refine w_chain ?_ | ((with_reducible apply w_lenVo); focus exact rfl) | ((with_reducible apply w_lenV); focus exact rfl)
  | with_reducible refine o_sub ?_ | with_reducible refine o_add ?_ | with_reducible refine o_lt ?_ | with_reducible refine o_le ?_ | with_reducible refine o_gt ?_ | with_reducible refine o_ge ?_ | with_reducible refine o_eqI ?_ | with_reducible refine o_neI ?_ | with_reducible refine o_eqB ?_ | with_reducible refine o_neB ?_ | with_reducible refine o_isN ?_ | with_reducible refine o_notN ?_
  | with_reducible refine o_tup (by simp) ?_ | with_reducible refine o_lst (by simp) ?_ | with_reducible refine o_lenT ?_ | with_reducible refine o_lenL ?_ | with_reducible refine o_tupT ?_ | with_reducible refine o_tupL ?_ | with_reducible refine o_lstT ?_ | with_reducible refine o_lstL ?_ | with_reducible refine o_lstS ?_ | with_reducible refine o_intI ?_ | with_reducible refine o_neg ?_ | with_reducible refine o_abs ?_ | with_reducible refine o_revT ?_ | with_reducible refine o_revL ?_ | with_reducible refine oI_n ?_ | with_reducible refine oI_i ?_
  | with_reducible refine wB_t ?_ | with_reducible refine wB_f ?_ | with_reducible refine wB_non ?_ | with_reducible refine wB_nt ?_ | with_reducible refine wB_nf ?_ | ((with_reducible apply And.intro (a := List.length _ = _)); focus exact rfl) | with_reducible refine wR1_i (by omega) (by omega) ?_ | with_reducible refine wR2_i (by omega) (by omega) (by omega) (by omega) ?_ | with_reducible refine wR3_i (by omega) (by omega) (by omega) (by omega) ?_ | ((with_reducible apply Exists.intro); (with_reducible apply And.intro); focus exact rfl) | with_reducible refine o_rfl (tru_bl _ _) ?_
  | ((with_reducible apply o_isiT); (focus exact rfl); (focus exact rfl)) | ((with_reducible apply o_isiF); (focus exact rfl); (focus exact rfl)) | ((with_reducible apply o_items); focus exact rfl) | ((with_reducible apply o_bt); focus exact rfl)
)

section
variable {n : Nat} {p : Pen} {W : Sto} {m s : Nat} {P : List (List Int)} {sc pap : D} {X : XP} {R : D → Sto → Prop} {B C N : NP}
theorem gp_len {lot rows : List Int} (h : GP m P (.tup [iT lot, iT rows])) : lot.length ≤ 4 ∧ rows.length ≤ 4 := by
  obtain ⟨l, r, e, h1, _, h2, _⟩ := h
  simp only [D.tup.injEq, List.cons.injEq, and_true] at e
  obtain ⟨e1, e2⟩ := e
  have f1 : l = lot := by have := congrArg unI e1; rw [unI_map, unI_map] at this; exact this.symm
  have f2 : r = rows := by have := congrArg unI e2; rw [unI_map, unI_map] at this; exact this.symm
  subst f1 f2
  exact ⟨h1, h2⟩
/-- a lap's second third: three things -/
theorem lap_two {A2 : Ds} {lap : Int} {x y : Bool} {b c d e f g h : Slot} (hP : Pnl m P) (hp : PenOk n p) (hn : n + 5000000 < 1000000000)
    (k : ∀ (c e f : Slot) (p' : Pen), PenOk (n + 30) p' → wS A2 (wρ sc m s P pap lap (.sh (lp x y P)) b c d e f g h) [p'.M] X R B C N) :
    wS (sSeq (sUnp [11, 12] (dCall 3 c__law_some_three (dCons (dVar 1) (dCons (dVar 4) (dCons (dVar 2) dNil)))))
    (sSeq (sUnp [11, 12] (dCall 2 c__law_pick (dCons (dVar 1) (dCons (dBi gLst (dCons (dBi gTup (dCons (dVar 11) (dCons (dVar 12) dNil))) (dCons (dBi gTup (dCons (dVar 11) (dCons (dVar 12) dNil))) (dCons (dBi gTup (dCons (dCall 3 c__law_bent (dCons (dVar 1) (dCons (dVar 11) (dCons (dVar 2) dNil)))) (dCons (dVar 12) dNil))) (dCons (dBi gTup (dCons (dVar 11) (dCons (dCall 3 c__law_bent (dCons (dVar 1) (dCons (dVar 12) (dCons (dBi gLenS (dCons (dVar 4) dNil)) dNil)))) dNil))) (dCons (dBi gTup (dCons (dG1 gRev (dVar 11)) (dCons (dVar 12) dNil))) dNil)))))) dNil))))
    (sSeq (sAsg 9 (dMake 2 2 c_in_Three (dCons (dVar 11) (dCons (dVar 12) dNil))))
    (sSeq (sIf (dCall 2 c__law_says_not (dCons (dCall 2 c_three_holds (dCons (dVar 7) (dCons (dVar 9) dNil))) (dCons (dCall 3 c__law_three_right (dCons (dVar 4) (dCons (dG1 (gFld "things") (dVar 9)) (dCons (dG1 (gFld "rows") (dVar 9)) dNil)))) dNil))) (sRet (dC (.bl false))) sNil) A2)))) (wρ sc m s P pap lap (.sh (lp x y P)) b c d e f g h) [p.M] X R B C N := by
  have h6 := hP.m6
  have h8 := hP.l8
  refine w_seq ?_
  repeat infer_instance
  refine s_three hP hp (by omega) fun lot rows p1 hg hp1 => ?_
  obtain ⟨hl1, hl2⟩ := gp_len hg
  refine o_rfl (rfl : bTup _ _ _ = _) ?_
  refine w_seq (w_unp ?_)
  repeat infer_instance
  refine s_bent hp1 (by omega) (pv2_ints lot) (by rw [List.length_map]; omega) fun z p2 hz hp2 => ?_
  repeat infer_instance
  refine s_bent hp2 (by omega) (pv2_ints rows) (by rw [List.length_map]; omega) fun z2 p3 hz2 hp3 => ?_
  repeat infer_instance
  refine s_pick hp3 (by omega) (by simp) (by simp) fun v p4 hv2 hp4 => ?_
  have hhv : ∃ a b, v = .tup [a, b] ∧ Hv a ∧ Hv b := by
    simp only [List.mem_cons, List.not_mem_nil, or_false] at hv2
    rcases hv2 with rfl | rfl | rfl | rfl | rfl
    · exact ⟨_, _, rfl, hv_iT (by omega), hv_iT (by omega)⟩
    · exact ⟨_, _, rfl, hv_iT (by omega), hv_iT (by omega)⟩
    · exact ⟨_, _, rfl, hz, hv_iT (by omega)⟩
    · exact ⟨_, _, rfl, hv_iT (by omega), hz2⟩
    · exact ⟨_, _, rfl, hv_rev (by omega), hv_iT (by omega)⟩
  obtain ⟨v1, v2, rfl, hv1, hv2⟩ := hhv
  refine o_rfl (rfl : bTup _ _ _ = _) ?_
  refine w_seq (w_asg ?_)
  repeat infer_instance
  refine o_rfl (mk_three (hv_pv hv1) (hv_pv hv2)) ?_
  refine w_seq (w_sif ?_)
  repeat infer_instance
  refine wC_eq (three_holds hP x y (vl_frz hv1) (vl_frz hv2)) ?_
  repeat infer_instance
  refine o_rfl (fld_t _ _) ?_
  repeat infer_instance
  refine o_rfl (fld_r _ _) ?_
  repeat infer_instance
  refine wC_eq (law_three hP (vl_frz hv1) (vl_frz hv2)) ?_
  repeat infer_instance
  refine s_says rfl ?_
  repeat infer_instance
  exact k _ _ _ p4 (hp4.up (by omega))
/-- a lap's last third: four things -/
theorem lap_three {lap : Int} {x y : Bool} {b c d e f g h : Slot} (hP : Pnl m P) (hp : PenOk n p) (hn : n + 5000000 < 1000000000)
    (k : ∀ (c e f : Slot) (p' : Pen), PenOk (n + 120) p' → N (wρ sc m s P pap lap (.sh (lp x y P)) b c d e f g h) [p'.M]) :
    wS (sSeq (sUnp [11, 12] (dCall 3 c__law_some_four (dCons (dVar 1) (dCons (dVar 4) (dCons (dVar 2) dNil)))))
    (sSeq (sIf (dAnd (dOp2 (fun _ => gGt) (dVar 2) (dC (.int 3))) (dAnd (dOp2 (fun _ => gEq) (dVar 6) (dC (.int 0))) (dOp2 (fun _ => gGt) (dBi gLenS (dCons (dVar 4) dNil)) (dVar 3)))) (sPar [11, 12] ((false, (dBi gTup (dCons (dC (.int 0)) (dCons (dC (.int 1)) (dCons (dC (.int 2)) (dCons (dC (.int 3)) dNil)))))) :: ((false, (dBi gTup (dCons (dVar 3) (dCons (dOp2 (fun _ => gAdd) (dVar 3) (dC (.int 1))) dNil)))) :: []))) sNil)
    (sSeq (sUnp [11, 12] (dCall 2 c__law_pick (dCons (dVar 1) (dCons (dBi gLst (dCons (dBi gTup (dCons (dVar 11) (dCons (dVar 12) dNil))) (dCons (dBi gTup (dCons (dVar 11) (dCons (dVar 12) dNil))) (dCons (dBi gTup (dCons (dCall 3 c__law_bent (dCons (dVar 1) (dCons (dVar 11) (dCons (dVar 2) dNil)))) (dCons (dVar 12) dNil))) (dCons (dBi gTup (dCons (dVar 11) (dCons (dCall 3 c__law_bent (dCons (dVar 1) (dCons (dVar 12) (dCons (dBi gLenS (dCons (dVar 4) dNil)) dNil)))) dNil))) (dCons (dBi gTup (dCons (dVar 11) (dCons (dG1 gRev (dVar 12)) dNil))) dNil)))))) dNil))))
    (sSeq (sAsg 9 (dMake 3 2 c_in_Four (dCons (dVar 11) (dCons (dVar 12) dNil))))
    (sIf (dCall 2 c__law_says_not (dCons (dCall 2 c_four_holds (dCons (dVar 7) (dCons (dVar 9) dNil))) (dCons (dCall 3 c__law_four_right (dCons (dVar 4) (dCons (dG1 (gFld "things") (dVar 9)) (dCons (dG1 (gFld "rows") (dVar 9)) dNil)))) dNil))) (sRet (dC (.bl false))) sNil))))) (wρ sc m s P pap lap (.sh (lp x y P)) b c d e f g h) [p.M] X R B C N := by
  have h6 := hP.m6
  have h8 := hP.l8
  refine w_seq ?_
  repeat infer_instance
  refine s_four hP hp (by omega) fun lot rows p1 hg hp1 => ?_
  obtain ⟨hl1, hl2⟩ := gp_len hg
  refine o_rfl (rfl : bTup _ _ _ = _) ?_
  have rest : ∀ lot rows : List Int, lot.length ≤ 4 → rows.length ≤ 4 → wS (sSeq (sUnp [11, 12] (dCall 2 c__law_pick (dCons (dVar 1) (dCons (dBi gLst (dCons (dBi gTup (dCons (dVar 11) (dCons (dVar 12) dNil))) (dCons (dBi gTup (dCons (dVar 11) (dCons (dVar 12) dNil))) (dCons (dBi gTup (dCons (dCall 3 c__law_bent (dCons (dVar 1) (dCons (dVar 11) (dCons (dVar 2) dNil)))) (dCons (dVar 12) dNil))) (dCons (dBi gTup (dCons (dVar 11) (dCons (dCall 3 c__law_bent (dCons (dVar 1) (dCons (dVar 12) (dCons (dBi gLenS (dCons (dVar 4) dNil)) dNil)))) dNil))) (dCons (dBi gTup (dCons (dVar 11) (dCons (dG1 gRev (dVar 12)) dNil))) dNil)))))) dNil))))
      (sSeq (sAsg 9 (dMake 3 2 c_in_Four (dCons (dVar 11) (dCons (dVar 12) dNil))))
      (sIf (dCall 2 c__law_says_not (dCons (dCall 2 c_four_holds (dCons (dVar 7) (dCons (dVar 9) dNil))) (dCons (dCall 3 c__law_four_right (dCons (dVar 4) (dCons (dG1 (gFld "things") (dVar 9)) (dCons (dG1 (gFld "rows") (dVar 9)) dNil)))) dNil))) (sRet (dC (.bl false))) sNil))) (wρ sc m s P pap lap (.sh (lp x y P)) b c d (.sh (iT lot)) (.sh (iT rows)) g h) [p1.M] X R B C N := by
    intro lot rows hl1 hl2
    refine w_seq (w_unp ?_)
    repeat infer_instance
    refine s_bent hp1 (by omega) (pv2_ints lot) (by rw [List.length_map]; omega) fun z p2 hz hp2 => ?_
    repeat infer_instance
    refine s_bent hp2 (by omega) (pv2_ints rows) (by rw [List.length_map]; omega) fun z2 p3 hz2 hp3 => ?_
    repeat infer_instance
    refine s_pick hp3 (by omega) (by simp) (by simp) fun v p4 hv2 hp4 => ?_
    have hhv : ∃ a b, v = .tup [a, b] ∧ Hv a ∧ Hv b := by
      simp only [List.mem_cons, List.not_mem_nil, or_false] at hv2
      rcases hv2 with rfl | rfl | rfl | rfl | rfl
      · exact ⟨_, _, rfl, hv_iT (by omega), hv_iT (by omega)⟩
      · exact ⟨_, _, rfl, hv_iT (by omega), hv_iT (by omega)⟩
      · exact ⟨_, _, rfl, hz, hv_iT (by omega)⟩
      · exact ⟨_, _, rfl, hv_iT (by omega), hz2⟩
      · exact ⟨_, _, rfl, hv_iT (by omega), hv_rev (by omega)⟩
    obtain ⟨v1, v2, rfl, hv1, hv2⟩ := hhv
    refine o_rfl (rfl : bTup _ _ _ = _) ?_
    refine w_seq (w_asg ?_)
    repeat infer_instance
    refine o_rfl (mk_four (hv_pv hv1) (hv_pv hv2)) ?_
    refine w_sif ?_
    repeat infer_instance
    refine wC_eq (four_holds hP x y (vl_frz hv1) (vl_frz hv2)) ?_
    repeat infer_instance
    refine o_rfl (fld_ft _ _) ?_
    repeat infer_instance
    refine o_rfl (fld_fr _ _) ?_
    repeat infer_instance
    refine wC_eq (law_four hP (vl_frz hv1) (vl_frz hv2)) ?_
    repeat infer_instance
    refine s_says rfl ?_
    repeat infer_instance
    exact k _ _ _ p4 (hp4.up (by omega))
  refine w_seq (w_sif ?_)
  repeat infer_instance
  refine wB_dec (fun q => ?_) fun q => ?_
  · repeat infer_instance
    refine wB_dec (fun q => ?_) fun q => ?_
    · repeat infer_instance
      refine wB_dec (fun q => ?_) fun q => ?_
      · refine wS_to (N' := fun ρ' W' => ρ' = wρ sc m s P pap lap (.sh (lp x y P)) b c d (.sh (iT [0, 1, 2, 3])) (.sh (iT [(s : Int), (s : Int) + 1])) g h ∧ W' = [p1.M]) ?_ fun ρ' W' z => ?_
        · repeat infer_instance
          exact ⟨rfl, rfl⟩
        · obtain ⟨rfl, rfl⟩ := z
          exact rest [0, 1, 2, 3] [(s : Int), (s : Int) + 1] (by simp) (by simp)
      · refine w_snil ?_
        exact rest lot rows hl1 hl2
    · refine wB_f (w_snil ?_)
      exact rest lot rows hl1 hl2
  · refine wB_f (w_snil ?_)
    exact rest lot rows hl1 hl2
theorem lap_all {lap : Int} {a b c d e f g h : Slot} (hP : Pnl m P) (hv : Vrd P m pap) (hp : PenOk n p) (hn : n + 6000000 < 1000000000)
    (k : ∀ (a b c d e f : Slot) (p' : Pen), PenOk (n + 200) p' → N (wρ sc m s P pap lap a b c d e f g h) [p'.M]) :
    wS L1_law (wρ sc m s P pap lap a b c d e f g h) [p.M] X R B C N := by
  unfold L1_law
  refine lap_one hP hv hp (by omega) fun x y b c d p1 h1 => ?_
  refine lap_two (n := n + 20) hP h1 (by omega) fun c e f p2 h2 => ?_
  exact lap_three (n := n + 50) hP (h2.up (by omega)) (by omega) fun c e f p3 h3 => k _ _ _ _ _ _ p3 (h3.up (by omega))
end

end P82

set_option Elab.async false
set_option linter.all false
set_option maxRecDepth 100000
set_option maxHeartbeats 4000000
namespace P82
open PySem PySem.Spec PyProof.Rows L2 Dl
local macro_rules | `(tactic| infer_instance) => `(tactic| first
  | with_reducible refine w_seq ?_ | with_reducible refine w_asg ?_ | ((with_reducible apply w_var); focus exact rfl) | ((with_reducible apply w_varF); focus exact rfl) | ((with_reducible apply w_varFo); focus exact rfl) | with_reducible refine w_c ?_ | with_reducible refine w_cons ?_ | with_reducible refine w_nil ?_ | with_reducible refine w_op2 ?_ | with_reducible refine w_bi ?_ | with_reducible refine w_g1 ?_
  | with_reducible refine w_call ?_ | with_reducible refine w_and ?_ | with_reducible refine w_or ?_ | with_reducible refine w_not ?_ | with_reducible refine w_if ?_ | with_reducible refine w_sif ?_ | with_reducible refine w_ret ?_ | with_reducible refine w_retN ?_ | with_reducible refine w_expr ?_ | with_reducible refine w_snil ?_ | with_reducible refine w_pass ?_ | with_reducible refine w_brk ?_ | with_reducible refine w_cont ?_
  | with_reducible refine w_owl ?_ | with_reducible refine w_unp ?_ | with_reducible refine w_par ?_ | with_reducible refine wP_nil ?_ | with_reducible refine wP_sh ?_ | with_reducible refine wP_shp ?_ | with_reducible refine wP_ow ?_ | with_reducible refine wP_owp ?_ | with_reducible refine w_hid ?_ | with_reducible refine w_for ?_ | with_reducible refine w_items ?_ | with_reducible refine w_rg1 ?_ | with_reducible refine w_rg2 ?_ | with_reducible refine w_zip ?_ | with_reducible refine w_r1 ?_ | with_reducible refine w_r2 ?_
  | with_reducible refine w_lstRg ?_ | with_reducible refine w_tupRg ?_ | with_reducible refine w_lc ?_ | with_reducible refine w_lc2 ?_ | ((with_reducible apply w_mth); focus exact rfl) | with_reducible refine w_make ?_ | with_reducible refine w_ownEq ?_ | with_reducible refine w_part ?_ | with_reducible refine w_sl ?_ | with_reducible refine w_index ?_ | with_reducible refine w_un ?_ | with_reducible refine w_chain ?_ | ((with_reducible apply w_lenVo); focus exact rfl) | ((with_reducible apply w_lenV); focus exact rfl)
  | with_reducible refine o_sub ?_ | with_reducible refine o_add ?_ | with_reducible refine o_lt ?_ | with_reducible refine o_le ?_ | with_reducible refine o_gt ?_ | with_reducible refine o_ge ?_ | with_reducible refine o_eqI ?_ | with_reducible refine o_neI ?_ | with_reducible refine o_eqB ?_ | with_reducible refine o_neB ?_ | with_reducible refine o_isN ?_ | with_reducible refine o_notN ?_
  | with_reducible refine o_tup (by simp) ?_ | with_reducible refine o_lst (by simp) ?_ | with_reducible refine o_lenT ?_ | with_reducible refine o_lenL ?_ | with_reducible refine o_tupT ?_ | with_reducible refine o_tupL ?_ | with_reducible refine o_lstT ?_ | with_reducible refine o_lstL ?_ | with_reducible refine o_lstS ?_ | with_reducible refine o_intI ?_ | with_reducible refine o_neg ?_ | with_reducible refine o_abs ?_ | with_reducible refine o_revT ?_ | with_reducible refine o_revL ?_ | with_reducible refine oI_n ?_ | with_reducible refine oI_i ?_
  | with_reducible refine wB_t ?_ | with_reducible refine wB_f ?_ | with_reducible refine wB_non ?_ | with_reducible refine wB_nt ?_ | with_reducible refine wB_nf ?_ | ((with_reducible apply And.intro (a := List.length _ = _)); focus exact rfl) | with_reducible refine wR1_i (by omega) (by omega) ?_ | with_reducible refine wR2_i (by omega) (by omega) (by omega) (by omega) ?_ | with_reducible refine wR3_i (by omega) (by omega) (by omega) (by omega) ?_ | ((with_reducible apply Exists.intro); (with_reducible apply And.intro); focus exact rfl) | with_reducible refine o_rfl (tru_bl _ _) ?_
  | ((with_reducible apply o_isiT); (focus exact rfl); (focus exact rfl)) | ((with_reducible apply o_isiF); (focus exact rfl); (focus exact rfl)) | ((with_reducible apply o_items); focus exact rfl) | ((with_reducible apply o_bt); focus exact rfl)
)

section
variable {n : Nat} {p : Pen} {W : Sto} {m s : Nat} {P : List (List Int)} {sc pap : D} {X : XP} {R : D → Sto → Prop} {B C N : NP}
/-! ### the odd ones -/
structure OddOk (P : List (List Int)) (v : D) : Prop where
  a : ∀ W, c_axis_holds [pD P, v] W = .val (.bl false) W
  t : ∀ W, c_three_holds [pD P, v] W = .val (.bl false) W
  f : ∀ W, c_four_holds [pD P, v] W = .val (.bl false) W
theorem odd_nr (hP : Pnl m P) {v : D} (h : nr v = true) (h1 : notI 1 v = true) (h2 : notI 2 v = true) (h3 : notI 3 v = true) : OddOk P v :=
  ⟨fun W => axis_not (W := W) hP false false h h1, fun W => three_not (W := W) hP false false h h2, fun W => four_not (W := W) hP false false h h3⟩
theorem vl_non : Vl .non := ⟨rfl, fun xs e => (by cases e), fun xs e => (by cases e)⟩
theorem odd_axis (hP : Pnl m P) : OddOk P (axis_ .non) :=
  ⟨fun W => axis_holds (W := W) hP false false vl_non, fun W => three_not (W := W) hP false false rfl rfl, fun W => four_not (W := W) hP false false rfl rfl⟩
theorem odd_three (hP : Pnl m P) {t : D} (ht : Vl t) : OddOk P (three_ t .non) :=
  ⟨fun W => axis_not (W := W) hP false false rfl rfl, fun W => by
    have := three_holds (W := W) hP false false ht vl_non
    have e : thB m P t .non = false := by simp [thB, numB]
    rw [e] at this
    exact this, fun W => four_not (W := W) hP false false rfl rfl⟩
theorem odd_four (hP : Pnl m P) {t : D} (ht : Vl t) : OddOk P (four_ t .non) :=
  ⟨fun W => axis_not (W := W) hP false false rfl rfl, fun W => three_not (W := W) hP false false rfl rfl, fun W => by
    have := four_holds (W := W) hP false false ht vl_non
    have e : foB m P t .non = false := by simp [foB, numB]
    rw [e] at this
    exact this⟩
theorem odd_turn {ρ : Dl.Env} {v : D} (h : OddOk P v) (h4 : ρ[4]? = some (.sh (pD P))) (h13 : ρ[13]? = some (.sh v)) (k : N ρ W) : wS L2_law ρ W X R B C N := by
  unfold L2_law
  refine w_sif (w_or (w_call (w_cons (w_var h4 (w_cons (w_var h13 (w_nil ⟨rfl, wC_eq (h.a W) (wB_f ?_)⟩)))))))
  refine w_or (w_call (w_cons (w_var h4 (w_cons (w_var h13 (w_nil ⟨rfl, wC_eq (h.t W) (wB_f ?_)⟩))))))
  exact w_call (w_cons (w_var h4 (w_cons (w_var h13 (w_nil ⟨rfl, wC_eq (h.f W) (wB_f (w_snil k))⟩)))))
/-! ### own == -/
theorem eq_axis {a b : D} (h1 : Dl.plain 16 a = true) (h2 : Dl.plain 16 b = true) : c_eq_Axis [axis_ a, axis_ b] W = .val (.bl (eqd a b)) W := by
  have : wC (c_eq_Axis [axis_ a, axis_ b] W) (fun _ _ _ => False) fun d W' => d = .bl (eqd a b) ∧ W' = W := by
    unfold c_eq_Axis
    refine w_run rfl ?_
    unfold b_eq_Axis
    repeat infer_instance
    refine o_rfl (fld_a _) ?_
    repeat infer_instance
    refine o_rfl (fld_a _) ?_
    exact o_eqP h1 h2 ⟨rfl, rfl⟩
  obtain ⟨d, W', e, rfl, rfl⟩ := wC_ex this
  exact e
theorem eq_three {a b c d : D} (h1 : Dl.plain 16 a = true) (h2 : Dl.plain 16 b = true) (h3 : Dl.plain 16 c = true) (h4 : Dl.plain 16 d = true) : c_eq_Three [three_ a c, three_ b d] W = .val (.bl (eqd a b && eqd c d)) W := by
  have : wC (c_eq_Three [three_ a c, three_ b d] W) (fun _ _ _ => False) fun z W' => z = .bl (eqd a b && eqd c d) ∧ W' = W := by
    unfold c_eq_Three
    refine w_run rfl ?_
    unfold b_eq_Three
    repeat infer_instance
    refine o_rfl (fld_t _ _) ?_
    repeat infer_instance
    refine o_rfl (fld_t _ _) ?_
    refine o_eqP h1 h2 ?_
    refine wB_bl (fun q => ?_) fun q => ?_
    · repeat infer_instance
      refine o_rfl (fld_r _ _) ?_
      repeat infer_instance
      refine o_rfl (fld_r _ _) ?_
      exact o_eqP h3 h4 ⟨by rw [q]; rfl, rfl⟩
    · exact ⟨by rw [q]; rfl, rfl⟩
  obtain ⟨z, W', e, rfl, rfl⟩ := wC_ex this
  exact e
theorem eq_four {a b c d : D} (h1 : Dl.plain 16 a = true) (h2 : Dl.plain 16 b = true) (h3 : Dl.plain 16 c = true) (h4 : Dl.plain 16 d = true) : c_eq_Four [four_ a c, four_ b d] W = .val (.bl (eqd a b && eqd c d)) W := by
  have : wC (c_eq_Four [four_ a c, four_ b d] W) (fun _ _ _ => False) fun z W' => z = .bl (eqd a b && eqd c d) ∧ W' = W := by
    unfold c_eq_Four
    refine w_run rfl ?_
    unfold b_eq_Four
    repeat infer_instance
    refine o_rfl (fld_ft _ _) ?_
    repeat infer_instance
    refine o_rfl (fld_ft _ _) ?_
    refine o_eqP h1 h2 ?_
    refine wB_bl (fun q => ?_) fun q => ?_
    · repeat infer_instance
      refine o_rfl (fld_fr _ _) ?_
      repeat infer_instance
      refine o_rfl (fld_fr _ _) ?_
      exact o_eqP h3 h4 ⟨by rw [q]; rfl, rfl⟩
    · exact ⟨by rw [q]; rfl, rfl⟩
  obtain ⟨z, W', e, rfl, rfl⟩ := wC_ex this
  exact e
theorem eq_four_not {a c b d : D} : c_eq_Four [four_ a c, three_ b d] W = .val (.bl false) W := by
  have : wC (c_eq_Four [four_ a c, three_ b d] W) (fun _ _ _ => False) fun z W' => z = .bl false ∧ W' = W := by
    unfold c_eq_Four
    refine w_run rfl ?_
    unfold b_eq_Four
    repeat infer_instance
    exact ⟨rfl, rfl⟩
  obtain ⟨z, W', e, rfl, rfl⟩ := wC_ex this
  exact e
/-! ### the panel grown -/
theorem rgI_four {m : Nat} (h : 4 ≤ m) : rgI m = [0, 1, 2, 3] ++ (List.range (m - 4)).map fun (i : Nat) => ((4 : Int) + (i : Int)) := by
  obtain ⟨k, rfl⟩ : ∃ k, m = 4 + k := ⟨m - 4, by omega⟩
  unfold rgI
  rw [List.range_add, List.map_append, List.map_map, Nat.add_sub_cancel_left]
  congr 1
theorem rg4 {m : Nat} (h : 4 ≤ m) : rgD 4 ((m : Int) - 4).toNat = ((List.range (m - 4)).map fun (i : Nat) => ((4 : Int) + (i : Int))).map .int := by
  unfold rgD
  rw [List.map_map]
  have e : ((m : Int) - 4).toNat = m - 4 := by omega
  rw [e]
  rfl
end

end P82

set_option Elab.async false
set_option linter.all false
set_option maxRecDepth 100000
set_option maxHeartbeats 4000000
namespace P82
open PySem PySem.Spec PyProof.Rows L2 Dl
local macro_rules | `(tactic| infer_instance) => `(tactic| first
  | with_reducible refine w_seq ?_ | with_reducible refine w_asg ?_ | ((with_reducible apply w_var); focus exact rfl) | ((with_reducible apply w_varF); focus exact rfl) | ((with_reducible apply w_varFo); focus exact rfl) | with_reducible refine w_c ?_ | with_reducible refine w_cons ?_ | with_reducible refine w_nil ?_ | with_reducible refine w_op2 ?_ | with_reducible refine w_bi ?_ | with_reducible refine w_g1 ?_
  | with_reducible refine w_call ?_ | with_reducible refine w_and ?_ | with_reducible refine w_or ?_ | with_reducible refine w_not ?_ | with_reducible refine w_if ?_ | with_reducible refine w_sif ?_ | with_reducible refine w_ret ?_ | with_reducible refine w_retN ?_ | with_reducible refine w_expr ?_ | with_reducible refine w_snil ?_ | with_reducible refine w_pass ?_ | with_reducible refine w_brk ?_ | with_reducible refine w_cont ?_
  | with_reducible refine w_owl ?_ | with_reducible refine w_unp ?_ | with_reducible refine w_par ?_ | with_reducible refine wP_nil ?_ | with_reducible refine wP_sh ?_ | with_reducible refine wP_shp ?_ | with_reducible refine wP_ow ?_ | with_reducible refine wP_owp ?_ | with_reducible refine w_hid ?_ | with_reducible refine w_for ?_ | with_reducible refine w_items ?_ | with_reducible refine w_rg1 ?_ | with_reducible refine w_rg2 ?_ | with_reducible refine w_zip ?_ | with_reducible refine w_r1 ?_ | with_reducible refine w_r2 ?_
  | with_reducible refine w_lstRg ?_ | with_reducible refine w_tupRg ?_ | with_reducible refine w_lc ?_ | with_reducible refine w_lc2 ?_ | ((with_reducible apply w_mth); focus exact rfl) | with_reducible refine w_make ?_ | with_reducible refine w_ownEq ?_ | with_reducible refine w_part ?_ | with_reducible refine w_sl ?_ | with_reducible refine w_index ?_ | with_reducible refine w_un ?_ | with_reducible refine w_chain ?_ | ((with_reducible apply w_lenVo); focus exact rfl) | ((with_reducible apply w_lenV); focus exact rfl)
  | with_reducible refine o_sub ?_ | with_reducible refine o_add ?_ | with_reducible refine o_lt ?_ | with_reducible refine o_le ?_ | with_reducible refine o_gt ?_ | with_reducible refine o_ge ?_ | with_reducible refine o_eqI ?_ | with_reducible refine o_neI ?_ | with_reducible refine o_eqB ?_ | with_reducible refine o_neB ?_ | with_reducible refine o_isN ?_ | with_reducible refine o_notN ?_
  | with_reducible refine o_tup (by simp) ?_ | with_reducible refine o_lst (by simp) ?_ | with_reducible refine o_lenT ?_ | with_reducible refine o_lenL ?_ | with_reducible refine o_tupT ?_ | with_reducible refine o_tupL ?_ | with_reducible refine o_lstT ?_ | with_reducible refine o_lstL ?_ | with_reducible refine o_lstS ?_ | with_reducible refine o_intI ?_ | with_reducible refine o_neg ?_ | with_reducible refine o_abs ?_ | with_reducible refine o_revT ?_ | with_reducible refine o_revL ?_ | with_reducible refine oI_n ?_ | with_reducible refine oI_i ?_
  | with_reducible refine wB_t ?_ | with_reducible refine wB_f ?_ | with_reducible refine wB_non ?_ | with_reducible refine wB_nt ?_ | with_reducible refine wB_nf ?_ | ((with_reducible apply And.intro (a := List.length _ = _)); focus exact rfl) | with_reducible refine wR1_i (by omega) (by omega) ?_ | with_reducible refine wR2_i (by omega) (by omega) (by omega) (by omega) ?_ | with_reducible refine wR3_i (by omega) (by omega) (by omega) (by omega) ?_ | ((with_reducible apply Exists.intro); (with_reducible apply And.intro); focus exact rfl) | with_reducible refine o_rfl (tru_bl _ _) ?_
  | ((with_reducible apply o_isiT); (focus exact rfl); (focus exact rfl)) | ((with_reducible apply o_isiF); (focus exact rfl); (focus exact rfl)) | ((with_reducible apply o_items); focus exact rfl) | ((with_reducible apply o_bt); focus exact rfl)
)

section
variable {n : Nat} {p : Pen} {W : Sto} {m s : Nat} {P : List (List Int)} {sc pap : D} {X : XP} {R : D → Sto → Prop} {B C N : NP}
theorem mk_turn {t : D} (h : pv 4 t = true) : c_in_Turn [t] W = some (([("rows", frz 4 t)] : List (Str × D)), W) := by
  unfold c_in_Turn
  simp only [c_frozen, frozen_n W 4 t h]
theorem prL_nil (ρ : Dl.Env) (W : Sto) : prL [] ρ W = some ([], W) := rfl
theorem w_dispV {ps : List (Dn × Dn)} {ρ : Dl.Env} {X : XP} {Q : VP} {kvs : List (Key × D)} (h : prL ps (ρ.map hide) W = some (kvs, W)) (k : Q (.dct (mergeD [] kvs)) ρ W) : wD (dDispV ps) ρ W X Q := by
  unfold wD dDispV
  rw [h]
  exact k
theorem odd_list (hP : Pnl m P) {d1 d2 : D} (h1 : d1 = .dct [(.inl 0, .int 1)]) (h2 : d2 = .obj 0 [("rows", .tup [.int 0])]) : ∀ v ∈ [.non, .int 0, .tup [], .str (Str.ofString "x"), d1, axis_ .non, three_ .non .non, four_ .non .non, three_ (.tup [.int 0, .int 1, .int 2]) .non, four_ (.tup [.int 0, .int 1, .int 2, .int 3]) .non, d2, .tup (rgD 0 m)], OddOk P v := by
  subst h1 h2
  intro v hv
  simp only [List.mem_cons, List.not_mem_nil, or_false] at hv
  rcases hv with rfl | rfl | rfl | rfl | rfl | rfl | rfl | rfl | rfl | rfl | rfl | rfl
  · exact odd_nr hP rfl rfl rfl rfl
  · exact odd_nr hP rfl rfl rfl rfl
  · exact odd_nr hP rfl rfl rfl rfl
  · exact odd_nr hP rfl rfl rfl rfl
  · exact odd_nr hP rfl rfl rfl rfl
  · exact odd_axis hP
  · exact odd_three hP vl_non
  · exact odd_four hP vl_non
  · exact odd_three hP (vl_iT (ns := [0, 1, 2]) (by decide))
  · exact odd_four hP (vl_iT (ns := [0, 1, 2, 3]) (by decide))
  · exact odd_nr hP rfl rfl rfl rfl
  · exact odd_nr hP rfl rfl rfl rfl
/-- the law's last row -/
theorem law_end {ρ : Dl.Env} (k : R (.bl true) W) : wS (sSeq (sIf (dOr (dOwnEq true 1 c_eq_Axis (dMake 1 1 c_in_Axis (dCons (dBi gLst (dCons (dC (.int 1)) dNil)) dNil)) (dMake 1 1 c_in_Axis (dCons (dBi gTup (dCons (dC (.int 1)) dNil)) dNil))) (dOr (dOwnEq false 1 c_eq_Axis (dMake 1 1 c_in_Axis (dCons (dBi gTup (dCons (dC (.int 1)) dNil)) dNil)) (dMake 1 1 c_in_Axis (dCons (dBi gTup (dCons (dC (.int 2)) dNil)) dNil))) (dOr (dOwnEq true 2 c_eq_Three (dMake 2 2 c_in_Three (dCons (dBi gLst (dCons (dC (.int 1)) dNil)) (dCons (dC (.int 2)) dNil))) (dMake 2 2 c_in_Three (dCons (dBi gTup (dCons (dC (.int 1)) dNil)) (dCons (dC (.int 2)) dNil)))) (dOr (dOwnEq false 2 c_eq_Three (dMake 2 2 c_in_Three (dCons (dC (.int 1)) (dCons (dC (.int 2)) dNil))) (dMake 2 2 c_in_Three (dCons (dC (.int 1)) (dCons (dC (.int 3)) dNil)))) (dOwnEq false 2 c_eq_Three (dMake 2 2 c_in_Three (dCons (dC (.int 1)) (dCons (dC (.int 2)) dNil))) (dMake 2 2 c_in_Three (dCons (dC (.int 3)) (dCons (dC (.int 2)) dNil)))))))) (sRet (dC (.bl false))) sNil)
    (sRet (dAnd (dOwnEq false 3 c_eq_Four (dMake 3 2 c_in_Four (dCons (dC (.int 1)) (dCons (dBi gLst (dCons (dC (.int 2)) dNil)) dNil))) (dMake 3 2 c_in_Four (dCons (dC (.int 1)) (dCons (dBi gTup (dCons (dC (.int 2)) dNil)) dNil)))) (dAnd (dOwnEq true 3 c_eq_Four (dMake 3 2 c_in_Four (dCons (dC (.int 1)) (dCons (dC (.int 2)) dNil))) (dMake 3 2 c_in_Four (dCons (dC (.int 1)) (dCons (dC (.int 3)) dNil)))) (dAnd (dOwnEq true 3 c_eq_Four (dMake 3 2 c_in_Four (dCons (dC (.int 1)) (dCons (dC (.int 2)) dNil))) (dMake 3 2 c_in_Four (dCons (dC (.int 3)) (dCons (dC (.int 2)) dNil)))) (dOwnEq true 3 c_eq_Four (dMake 3 2 c_in_Four (dCons (dC (.int 1)) (dCons (dC (.int 2)) dNil))) (dMake 2 2 c_in_Three (dCons (dC (.int 1)) (dCons (dC (.int 2)) dNil))))))))) ρ W X R B C N := by
  have e1 : ∀ {neg : Bool} {a b : D} {f g : Dn} {Q : VP}, Dl.plain 16 (frz 4 a) = true → Dl.plain 16 (frz 4 b) = true → pv 4 a = true → pv 4 b = true → f ρ W = .val a ρ W → g ρ W = .val b ρ W → Q (.bl (if neg then !(eqd (frz 4 a) (frz 4 b)) else eqd (frz 4 a) (frz 4 b))) ρ W →
      wD (dOwnEq neg 1 c_eq_Axis (dMake 1 1 c_in_Axis (dCons f dNil)) (dMake 1 1 c_in_Axis (dCons g dNil))) ρ W X Q := by
    intro neg a b f g Q h1 h2 h3 h4 h5 h6 hQ
    refine w_ownEq (w_make (wA_eq (c1 h5) ⟨rfl, o_rfl (mk_axis h3) ?_⟩))
    refine w_make (wA_eq (c1 h6) ⟨rfl, o_rfl (mk_axis h4) ?_⟩)
    exact ⟨_, _, _, rfl, rfl, wC_eq (eq_axis h1 h2) ⟨_, rfl, hQ⟩⟩
  have e2 : ∀ {neg : Bool} {a b c d : D} {f g f' g' : Dn} {Q : VP}, Dl.plain 16 (frz 4 a) = true → Dl.plain 16 (frz 4 b) = true → Dl.plain 16 (frz 4 c) = true → Dl.plain 16 (frz 4 d) = true → pv 4 a = true → pv 4 b = true → pv 4 c = true → pv 4 d = true → f ρ W = .val a ρ W → g ρ W = .val b ρ W → f' ρ W = .val c ρ W → g' ρ W = .val d ρ W → Q (.bl (if neg then !(eqd (frz 4 a) (frz 4 b) && eqd (frz 4 c) (frz 4 d)) else eqd (frz 4 a) (frz 4 b) && eqd (frz 4 c) (frz 4 d))) ρ W →
      wD (dOwnEq neg 2 c_eq_Three (dMake 2 2 c_in_Three (dCons f (dCons f' dNil))) (dMake 2 2 c_in_Three (dCons g (dCons g' dNil)))) ρ W X Q := by
    intro neg a b c d f g f' g' Q h1 h2 h3 h4 h5 h6 h7 h8 h9 h10 h11 h12 hQ
    refine w_ownEq (w_make (wA_eq (c2 h9 h11) ⟨rfl, o_rfl (mk_three h5 h7) ?_⟩))
    refine w_make (wA_eq (c2 h10 h12) ⟨rfl, o_rfl (mk_three h6 h8) ?_⟩)
    exact ⟨_, _, _, rfl, rfl, wC_eq (eq_three h1 h2 h3 h4) ⟨_, rfl, hQ⟩⟩
  have e3 : ∀ {neg : Bool} {a b c d : D} {f g f' g' : Dn} {Q : VP}, Dl.plain 16 (frz 4 a) = true → Dl.plain 16 (frz 4 b) = true → Dl.plain 16 (frz 4 c) = true → Dl.plain 16 (frz 4 d) = true → pv 4 a = true → pv 4 b = true → pv 4 c = true → pv 4 d = true → f ρ W = .val a ρ W → g ρ W = .val b ρ W → f' ρ W = .val c ρ W → g' ρ W = .val d ρ W → Q (.bl (if neg then !(eqd (frz 4 a) (frz 4 b) && eqd (frz 4 c) (frz 4 d)) else eqd (frz 4 a) (frz 4 b) && eqd (frz 4 c) (frz 4 d))) ρ W →
      wD (dOwnEq neg 3 c_eq_Four (dMake 3 2 c_in_Four (dCons f (dCons f' dNil))) (dMake 3 2 c_in_Four (dCons g (dCons g' dNil)))) ρ W X Q := by
    intro neg a b c d f g f' g' Q h1 h2 h3 h4 h5 h6 h7 h8 h9 h10 h11 h12 hQ
    refine w_ownEq (w_make (wA_eq (c2 h9 h11) ⟨rfl, o_rfl (mk_four h5 h7) ?_⟩))
    refine w_make (wA_eq (c2 h10 h12) ⟨rfl, o_rfl (mk_four h6 h8) ?_⟩)
    exact ⟨_, _, _, rfl, rfl, wC_eq (eq_four h1 h2 h3 h4) ⟨_, rfl, hQ⟩⟩
  have pi : ∀ i : Int, Dl.plain 16 (frz 4 (.int i)) = true := fun i => by simp [frz]
  have qi : ∀ i : Int, pv 4 (.int i) = true := fun i => by simp [pv]
  have pt : ∀ i : Int, Dl.plain 16 (frz 4 (.tup [.int i])) = true := fun i => by simp [frz]
  have qt : ∀ i : Int, pv 4 (.tup [.int i]) = true := fun i => by simp [pv]
  have pl : ∀ i : Int, Dl.plain 16 (frz 4 (.lst [.int i])) = true := fun i => by simp [frz]
  have ql : ∀ i : Int, pv 4 (.lst [.int i]) = true := fun i => by simp [pv]
  have vl : ∀ i : Int, dBi gLst (dCons (dC (.int i)) dNil) ρ W = .val (.lst [.int i]) ρ W := fun i => bi_v (c1 (ev_c _ _ _)) (lst_lit (by simp))
  have vt : ∀ i : Int, dBi Dl.gTup (dCons (dC (.int i)) dNil) ρ W = .val (.tup [.int i]) ρ W := fun i => bi_v (c1 (ev_c _ _ _)) (tup_lit (by simp))
  have vc : ∀ i : Int, dC (.int i) ρ W = .val (.int i) ρ W := fun i => ev_c _ _ _
  refine w_seq (w_sif (w_or (e1 (pl 1) (pt 1) (ql 1) (qt 1) (vl 1) (vt 1) (wB_f ?_))))
  refine w_or (e1 (pt 1) (pt 2) (qt 1) (qt 2) (vt 1) (vt 2) (wB_f ?_))
  refine w_or (e2 (pl 1) (pt 1) (pi 2) (pi 2) (ql 1) (qt 1) (qi 2) (qi 2) (vl 1) (vt 1) (vc 2) (vc 2) (wB_f ?_))
  refine w_or (e2 (pi 1) (pi 1) (pi 2) (pi 3) (qi 1) (qi 1) (qi 2) (qi 3) (vc 1) (vc 1) (vc 2) (vc 3) (wB_f ?_))
  refine e2 (pi 1) (pi 3) (pi 2) (pi 2) (qi 1) (qi 3) (qi 2) (qi 2) (vc 1) (vc 3) (vc 2) (vc 2) (wB_f (w_snil ?_))
  refine w_ret (w_and (e3 (pi 1) (pi 1) (pl 2) (pt 2) (qi 1) (qi 1) (ql 2) (qt 2) (vc 1) (vc 1) (vl 2) (vt 2) (wB_t ?_)))
  refine w_and (e3 (pi 1) (pi 1) (pi 2) (pi 3) (qi 1) (qi 1) (qi 2) (qi 3) (vc 1) (vc 1) (vc 2) (vc 3) (wB_t ?_))
  refine w_and (e3 (pi 1) (pi 3) (pi 2) (pi 2) (qi 1) (qi 3) (qi 2) (qi 2) (vc 1) (vc 3) (vc 2) (vc 2) (wB_t ?_))
  refine w_ownEq (w_make (wA_eq (c2 (vc 1) (vc 2)) ⟨rfl, o_rfl (mk_four (qi 1) (qi 2)) ?_⟩))
  refine w_make (wA_eq (c2 (vc 1) (vc 2)) ⟨rfl, o_rfl (mk_three (qi 1) (qi 2)) ?_⟩)
  exact ⟨_, _, _, rfl, rfl, wC_eq eq_four_not ⟨_, rfl, k⟩⟩
theorem law_rest {lap : Slot} {a b c d e f g h : Slot} (hP : Pnl m P) (hv : Vrd P m pap) (hp : PenOk n p) (hn : n + 9000000 < 1000000000) (k : ∀ W, R (.bl true) W) {A2 : Ds} {LL : DnA}
    (hA : ∀ ρ W, wS A2 ρ W X R B C N) (hL : ∀ (ρ : Dl.Env) (W : Sto) (QA : List D → Dl.Env → Sto → Prop), ρ[2]? = some (.sh (.int m)) → (∀ ds, (∀ v ∈ ds, OddOk P v) → QA ds ρ W) → wA LL ρ W X QA) :
    wS (sSeq (sFor (iRg1 (dCons (dC (.int 12)) dNil)) (bName 6) L1_law) (sSeq (sFor LL (bName 13) L2_law) A2)) [.sh sc, .sh (.ref 0), .sh (.int m), .sh (.int s), .sh (pD P), .sh pap, lap, a, b, c, d, e, f, g, h] [p.M] X R B C N := by
  repeat infer_instance
  refine w_forI (fun i ρ W => i ≤ 12 ∧ ∃ (lap a b c d e f g h : Slot) (p' : Pen), ρ = [.sh sc, .sh (.ref 0), .sh (.int m), .sh (.int s), .sh (pD P), .sh pap, lap, a, b, c, d, e, f, g, h] ∧ W = [Pen.M p'] ∧ PenOk (n + 200 * i) p') 0 ⟨by omega, _, _, _, _, _, _, _, _, _, p, rfl, rfl, hp⟩ ?_ ?_
  · rintro i d ρ W hi ⟨h12, lap, a, b, c, d', e, f, g, h, p', rfl, rfl, hp'⟩
    obtain ⟨j, hj, rfl⟩ := rg_mem (List.mem_of_getElem? hi)
    have hil : i < 12 := by
      have := (List.getElem?_eq_some_iff.mp hi).1
      rw [rgD_length] at this
      exact this
    refine ⟨_, rfl, ?_⟩
    refine lap_all (n := n + 200 * (0 + i)) hP hv hp' (by omega) fun a b c d e f p2 h2 => ?_
    exact ⟨by omega, _, _, _, _, _, _, _, _, _, p2, rfl, rfl, h2.up (by omega)⟩
  · rintro ρ W ⟨h12, lap, a, b, c, d, e, f, g, h, p', rfl, rfl, hp'⟩
    refine w_seq (w_for (hL _ _ _ rfl fun ds hds => ?_))
    refine w_forI (fun i ρ W => ∃ (x : Slot), ρ = [.sh sc, .sh (.ref 0), .sh (.int m), .sh (.int s), .sh (pD P), .sh pap, lap, a, b, c, d, e, f, x, h]) 0 ⟨_, rfl⟩ ?_ ?_
    · rintro i v ρ W hi ⟨x, rfl⟩
      refine ⟨_, rfl, ?_⟩
      exact odd_turn (hds v (List.mem_of_getElem? hi)) rfl rfl ⟨.sh v, rfl⟩
    · rintro ρ W ⟨x, rfl⟩
      exact hA _ _
theorem odd_items {ρ : Dl.Env} {QA : List D → Dl.Env → Sto → Prop} (hP : Pnl m P) (h2 : ρ[2]? = some (.sh (.int m))) (k : ∀ ds, (∀ v ∈ ds, OddOk P v) → QA ds ρ W) : wA (iItems (dBi gLst (dCons (dC .non) (dCons (dC (.int 0)) (dCons (dBi gTup dNil) (dCons (dC (.str (Str.ofString "x"))) (dCons (dDispV (((dC (.int 0)), (dC (.int 1))) :: [])) (dCons (dMake 1 1 c_in_Axis (dCons (dC .non) dNil)) (dCons (dMake 2 2 c_in_Three (dCons (dC .non) (dCons (dC .non) dNil))) (dCons (dMake 3 2 c_in_Four (dCons (dC .non) (dCons (dC .non) dNil))) (dCons (dMake 2 2 c_in_Three (dCons (dBi gTup (dCons (dC (.int 0)) (dCons (dC (.int 1)) (dCons (dC (.int 2)) dNil)))) (dCons (dC .non) dNil))) (dCons (dMake 3 2 c_in_Four (dCons (dBi gTup (dCons (dC (.int 0)) (dCons (dC (.int 1)) (dCons (dC (.int 2)) (dCons (dC (.int 3)) dNil))))) (dCons (dC .non) dNil))) (dCons (dMake 0 1 c_in_Turn (dCons (dBi gTup (dCons (dC (.int 0)) dNil)) dNil)) (dCons (dTupRg (rg1 (dVar 2))) dNil)))))))))))))) ρ W X QA := by
  have h6 := hP.m6
  have p0 : pv 4 .non = true := by simp [pv]
  repeat infer_instance
  refine w_dispV (kvs := [(.inl 0, .int 1)]) rfl ?_
  repeat infer_instance
  refine o_rfl (mk_axis p0) ?_
  repeat infer_instance
  refine o_rfl (mk_three p0 p0) ?_
  repeat infer_instance
  refine o_rfl (mk_four p0 p0) ?_
  repeat infer_instance
  refine o_rfl (mk_three (pv_iT (ns := [0, 1, 2]) (by decide)) p0) ?_
  repeat infer_instance
  refine o_rfl (mk_four (pv_iT (ns := [0, 1, 2, 3]) (by decide)) p0) ?_
  repeat infer_instance
  refine o_rfl (mk_turn (pv_iT (ns := [0]) (by decide))) ?_
  refine w_cons (w_tupRg (w_r1 (w_var h2 ⟨_, rfl, ?_⟩)))
  repeat infer_instance
  refine k _ (odd_list (m := m) hP ?_ ?_)
  · rfl
  · rfl
theorem law_ok (ns : List Int) : wC (c_law [.sq (ns.map .int)] []) (fun _ _ _ => False) fun d _ => d = .bl true := by
  unfold c_law
  refine w_run rfl ?_
  unfold b_law
  repeat infer_instance
  refine s_pen fun p0 hp0 => ?_
  repeat infer_instance
  refine s_pick hp0 (by decide) (by simp) (by simp) fun things p1 ht hp1 => ?_
  repeat infer_instance
  refine s_pick hp1 (by decide) (by simp) (by simp) fun size p2 hs hp2 => ?_
  have ht2 : ∃ m : Nat, things = .int m ∧ 2 ≤ m ∧ m ≤ 6 := by
    simp only [List.mem_cons, List.not_mem_nil, or_false] at ht
    rcases ht with rfl | rfl | rfl | rfl | rfl | rfl
    · exact ⟨4, rfl, by decide, by decide⟩
    · exact ⟨3, rfl, by decide, by decide⟩
    · exact ⟨5, rfl, by decide, by decide⟩
    · exact ⟨6, rfl, by decide, by decide⟩
    · exact ⟨2, rfl, by decide, by decide⟩
    · exact ⟨4, rfl, by decide, by decide⟩
  have hs2 : ∃ s : Nat, size = .int s ∧ 0 < s ∧ s ≤ 6 := by
    simp only [List.mem_cons, List.not_mem_nil, or_false] at hs
    rcases hs with rfl | rfl | rfl | rfl | rfl
    · exact ⟨2, rfl, by decide, by decide⟩
    · exact ⟨3, rfl, by decide, by decide⟩
    · exact ⟨4, rfl, by decide, by decide⟩
    · exact ⟨6, rfl, by decide, by decide⟩
    · exact ⟨1, rfl, by decide, by decide⟩
  obtain ⟨m, rfl, hm2, hm6⟩ := ht2
  obtain ⟨s, rfl, hs1, hs6⟩ := hs2
  refine wP_nil ⟨rfl, ?_⟩
  refine w_seq (w_asg (w_call ?_))
  repeat infer_instance
  refine s_panel (n := 2) hp2 (by decide) hm2 hm6 hs1 hs6 fun P0 p3 hP0 hl0 hp3 => ?_
  have grown : ∀ (P : List (List Int)) (p4 : Pen), Pnl m P → PenOk 2000 p4 → wS (sSeq (sAsg 5 (dCall 1 c_axis_verdict (dCons (dVar 4) dNil)))
    (sSeq (sFor (iRg1 (dCons (dC (.int 12)) dNil)) (bName 6) L1_law)
    (sSeq (sFor (iItems (dBi gLst (dCons (dC .non) (dCons (dC (.int 0)) (dCons (dBi gTup dNil) (dCons (dC (.str (Str.ofString "x"))) (dCons (dDispV (((dC (.int 0)), (dC (.int 1))) :: [])) (dCons (dMake 1 1 c_in_Axis (dCons (dC .non) dNil)) (dCons (dMake 2 2 c_in_Three (dCons (dC .non) (dCons (dC .non) dNil))) (dCons (dMake 3 2 c_in_Four (dCons (dC .non) (dCons (dC .non) dNil))) (dCons (dMake 2 2 c_in_Three (dCons (dBi gTup (dCons (dC (.int 0)) (dCons (dC (.int 1)) (dCons (dC (.int 2)) dNil)))) (dCons (dC .non) dNil))) (dCons (dMake 3 2 c_in_Four (dCons (dBi gTup (dCons (dC (.int 0)) (dCons (dC (.int 1)) (dCons (dC (.int 2)) (dCons (dC (.int 3)) dNil))))) (dCons (dC .non) dNil))) (dCons (dMake 0 1 c_in_Turn (dCons (dBi gTup (dCons (dC (.int 0)) dNil)) dNil)) (dCons (dTupRg (rg1 (dVar 2))) dNil)))))))))))))) (bName 13) L2_law)
    (sSeq (sIf (dOr (dOwnEq true 1 c_eq_Axis (dMake 1 1 c_in_Axis (dCons (dBi gLst (dCons (dC (.int 1)) dNil)) dNil)) (dMake 1 1 c_in_Axis (dCons (dBi gTup (dCons (dC (.int 1)) dNil)) dNil))) (dOr (dOwnEq false 1 c_eq_Axis (dMake 1 1 c_in_Axis (dCons (dBi gTup (dCons (dC (.int 1)) dNil)) dNil)) (dMake 1 1 c_in_Axis (dCons (dBi gTup (dCons (dC (.int 2)) dNil)) dNil))) (dOr (dOwnEq true 2 c_eq_Three (dMake 2 2 c_in_Three (dCons (dBi gLst (dCons (dC (.int 1)) dNil)) (dCons (dC (.int 2)) dNil))) (dMake 2 2 c_in_Three (dCons (dBi gTup (dCons (dC (.int 1)) dNil)) (dCons (dC (.int 2)) dNil)))) (dOr (dOwnEq false 2 c_eq_Three (dMake 2 2 c_in_Three (dCons (dC (.int 1)) (dCons (dC (.int 2)) dNil))) (dMake 2 2 c_in_Three (dCons (dC (.int 1)) (dCons (dC (.int 3)) dNil)))) (dOwnEq false 2 c_eq_Three (dMake 2 2 c_in_Three (dCons (dC (.int 1)) (dCons (dC (.int 2)) dNil))) (dMake 2 2 c_in_Three (dCons (dC (.int 3)) (dCons (dC (.int 2)) dNil)))))))) (sRet (dC (.bl false))) sNil)
    (sRet (dAnd (dOwnEq false 3 c_eq_Four (dMake 3 2 c_in_Four (dCons (dC (.int 1)) (dCons (dBi gLst (dCons (dC (.int 2)) dNil)) dNil))) (dMake 3 2 c_in_Four (dCons (dC (.int 1)) (dCons (dBi gTup (dCons (dC (.int 2)) dNil)) dNil)))) (dAnd (dOwnEq true 3 c_eq_Four (dMake 3 2 c_in_Four (dCons (dC (.int 1)) (dCons (dC (.int 2)) dNil))) (dMake 3 2 c_in_Four (dCons (dC (.int 1)) (dCons (dC (.int 3)) dNil)))) (dAnd (dOwnEq true 3 c_eq_Four (dMake 3 2 c_in_Four (dCons (dC (.int 1)) (dCons (dC (.int 2)) dNil))) (dMake 3 2 c_in_Four (dCons (dC (.int 3)) (dCons (dC (.int 2)) dNil)))) (dOwnEq true 3 c_eq_Four (dMake 3 2 c_in_Four (dCons (dC (.int 1)) (dCons (dC (.int 2)) dNil))) (dMake 2 2 c_in_Three (dCons (dC (.int 1)) (dCons (dC (.int 2)) dNil)))))))))))) [.sh (.sq (ns.map .int)), .sh (.ref 0), .sh (.int m), .sh (.int s), .sh (pD P), .no, .no, .no, .no, .no, .no, .no, .no, .no, .no] [p4.M] (fun _ _ _ _ => False) (fun d _ => d = .bl true) (fun _ _ => False) (fun _ _ => False) (fun _ _ => D.non = .bl true) := by
    intro P p4 hP hp4
    refine w_seq (w_asg ?_)
    repeat infer_instance
    refine s_verdict hP false false fun pap hpap => ?_
    exact law_rest (n := 2000) hP hpap hp4 (by decide) (fun _ => rfl) (fun ρ W => law_end rfl) fun ρ W QA h2 hk => odd_items hP h2 hk
  refine w_seq (w_sif ?_)
  repeat infer_instance
  refine wB_dec (fun q => ?_) fun q => ?_
  · repeat infer_instance
    refine s_draw hp3 (by decide) (by decide) (by decide) fun r p4 _ _ hp4 => ?_
    repeat infer_instance
    refine wB_dec (fun q2 => ?_) fun q2 => w_snil (grown P0 p4 hP0 (hp4.up (by omega)))
    have hm4 : 4 ≤ m := by omega
    refine w_asg ?_
    have hg : Pnl m (P0 ++ [[0, 3, 1, 2] ++ (List.range (m - 4)).map (fun (i : Nat) => ((4 : Int) + (i : Int))), [3, 2, 1, 0] ++ (List.range (m - 4)).map fun (i : Nat) => ((4 : Int) + (i : Int))]) := by
      refine ⟨by simp, fun od hod => ?_, hm2, hm6, by simp; omega⟩
      rw [rgI_four hm4]
      rcases List.mem_append.mp hod with hod | hod
      · rw [← rgI_four hm4]; exact hP0.pm od hod
      · simp only [List.mem_cons, List.not_mem_nil, or_false] at hod
        rcases hod with rfl | rfl
        · exact List.Perm.append_right _ (by decide)
        · exact List.Perm.append_right _ (by decide)
    refine wD_to (Q := fun d ρ' W' => d = pD (P0 ++ [[0, 3, 1, 2] ++ (List.range (m - 4)).map (fun (i : Nat) => ((4 : Int) + (i : Int))), [3, 2, 1, 0] ++ (List.range (m - 4)).map fun (i : Nat) => ((4 : Int) + (i : Int))]) ∧ ρ' = [.sh (.sq (ns.map .int)), .sh (.ref 0), .sh (.int m), .sh (.int s), .sh (pD P0), .no, .no, .no, .no, .no, .no, .no, .no, .no, .no] ∧ W' = [p4.M]) ?_ fun d ρ' W' hd => ?_
    · repeat infer_instance
      rw [rg4 hm4]
      refine o_addT (by simp; omega) ?_
      repeat infer_instance
      rw [rg4 hm4]
      refine o_addT (by simp; omega) ?_
      repeat infer_instance
      refine o_addT (by simp; omega) ⟨?_, rfl, rfl⟩
      simp [pD, iT]
    · obtain ⟨rfl, rfl, rfl⟩ := hd
      exact grown _ p4 hg (hp4.up (by omega))
  · exact wB_f (w_snil (grown P0 p3 hP0 (hp3.up (by omega))))
theorem plain : ∀ ns : List Int, ns.length ≤ 63 → ∃ W, c_law [.sq (ns.map .int)] [] = .val (.bl true) W := fun ns _ => by
  obtain ⟨d, W, e, rfl⟩ := wC_ex (law_ok ns)
  exact ⟨W, e⟩
end

end P82

set_option Elab.async false
set_option linter.all false
set_option maxRecDepth 100000
set_option maxHeartbeats 4000000
namespace P82
open PySem PySem.Spec PyProof.Rows L2 Dl
def spLaw (K : PySem.W.Frag) : Sp := fun vs H Q _ => ∃ (a : Addr) (ns : List Int), vs = [.ref a] ∧ SqL K H a (ns.map V.int) ∧ ns.length ≤ 63 ∧ ∀ H', Q (.bl true) H'
theorem all_mk {l : PySem.W.OpenLaw} {w : World} {K : PySem.W.Frag} {h : Heap} {mg : Str → Option Value} {fa f0 f1 f2 f3 f4 f5 f6 f7 f8 f9 f10 f11 f12 f13 f14 f15 f16 f17 f18 f19 f20 f21 f22 f23 f24 f25 f26 f27 f28 f29 f30 f31 f32 f33 f34 f35 f36 f37 f38 f39 f40 f41 f42 f43 f44 f45 C0 C1 C2 C3 : Addr} (X : K.In h) (G : h.Ns mainGlobals mg) (hfa : mg "law" = some (.ref fa))
    {kd0 kd1 kd2 kd3 : ClassData}
    {od0 an0 od1 an1 od2 an2 od3 an3 od4 an4 od5 an5 od6 an6 od7 an7 od8 an8 od9 an9 od10 an10 od11 an11 od12 an12 od13 an13 od14 an14 od15 an15 od16 an16 od17 an17 od18 an18 od19 an19 od20 an20 od21 an21 od22 an22 od23 an23 od24 an24 od25 an25 od26 an26 od27 an27 od28 an28 od29 an29 od30 an30 od31 an31 od32 an32 od33 an33 od34 an34 od35 an35 od36 an36 od37 an37 od38 an38 od39 an39 od40 an40 od41 an41 od42 an42 od43 an43 od44 an44 od45 an45 : Option Addr} {sl0 sl1 sl2 sl3 sl4 sl5 sl6 sl7 sl8 sl9 sl10 sl11 sl12 sl13 sl14 sl15 sl16 sl17 sl18 sl19 sl20 sl21 sl22 sl23 sl24 sl25 sl26 sl27 sl28 sl29 sl30 sl31 sl32 sl33 sl34 sl35 sl36 sl37 sl38 sl39 sl40 sl41 sl42 sl43 sl44 sl45 : Array (Option Value)} {oc0 kV0 dc0 pm0 cd0 ct0 oc1 kV1 dc1 pm1 cd1 ct1 oc2 kV2 dc2 pm2 cd2 ct2 oc3 kV3 dc3 pm3 cd3 ct3 oc4 kV4 dc4 pm4 cd4 ct4 oc5 kV5 dc5 pm5 cd5 ct5 oc6 kV6 dc6 pm6 cd6 ct6 oc7 kV7 dc7 pm7 cd7 ct7 oc8 kV8 dc8 pm8 cd8 ct8 oc9 kV9 dc9 pm9 cd9 ct9 oc10 kV10 dc10 pm10 cd10 ct10 oc11 kV11 dc11 pm11 cd11 ct11 oc12 kV12 dc12 pm12 cd12 ct12 oc13 kV13 dc13 pm13 cd13 ct13 oc14 kV14 dc14 pm14 cd14 ct14 oc15 kV15 dc15 pm15 cd15 ct15 oc16 kV16 dc16 pm16 cd16 ct16 oc17 kV17 dc17 pm17 cd17 ct17 oc18 kV18 dc18 pm18 cd18 ct18 oc19 kV19 dc19 pm19 cd19 ct19 oc20 kV20 dc20 pm20 cd20 ct20 oc21 kV21 dc21 pm21 cd21 ct21 oc22 kV22 dc22 pm22 cd22 ct22 oc23 kV23 dc23 pm23 cd23 ct23 oc24 kV24 dc24 pm24 cd24 ct24 oc25 kV25 dc25 pm25 cd25 ct25 oc26 kV26 dc26 pm26 cd26 ct26 oc27 kV27 dc27 pm27 cd27 ct27 oc28 kV28 dc28 pm28 cd28 ct28 oc29 kV29 dc29 pm29 cd29 ct29 oc30 kV30 dc30 pm30 cd30 ct30 oc31 kV31 dc31 pm31 cd31 ct31 oc32 kV32 dc32 pm32 cd32 ct32 oc33 kV33 dc33 pm33 cd33 ct33 oc34 kV34 dc34 pm34 cd34 ct34 oc35 kV35 dc35 pm35 cd35 ct35 oc36 kV36 dc36 pm36 cd36 ct36 oc37 kV37 dc37 pm37 cd37 ct37 oc38 kV38 dc38 pm38 cd38 ct38 oc39 kV39 dc39 pm39 cd39 ct39 oc40 kV40 dc40 pm40 cd40 ct40 oc41 kV41 dc41 pm41 cd41 ct41 oc42 kV42 dc42 pm42 cd42 ct42 oc43 kV43 dc43 pm43 cd43 ct43 oc44 kV44 dc44 pm44 cd44 ct44 oc45 kV45 dc45 pm45 cd45 ct45 : Value}
    (ca0 : PySem.W.nsIn K mainGlobals "Turn" = some (some (.ref C0)))
    (pg0 : PySem.W.plainGet K C0 Str.empty = true)
    (hd0 : PySem.W.hasDictIn K C0 = true)
    (po0 : PySem.W.plainOver K C0 = true)
    (sa0 : PySem.W.findIn K (.ref C0) "__setattr__" = some (some (.builtin "object.__setattr__")))
    (mk0 : PySem.W.makesIn K C0 = true)
    (kc0 : PySem.W.keepIn K (.ref C0) = true)
    (cl0 : PySem.W.clsIn K C0 = some kd0)
    (mr0 : kd0.mro = [.ref C0, .type "object"])
    (ty0 : PySem.W.typeIn K (.ref C0) = some (.type "type"))
    (cc0 : PySem.W.findIn K (.ref C0) "__class__" = some (some (.builtin "object.__class__")))
    (ne0 : PySem.W.findIn K (.ref C0) "__ne__" = some (some (.builtin "object.__ne__")))
    (n0rows : PySem.W.findIn K (.ref C0) "rows" = some none)
    (n0things : PySem.W.findIn K (.ref C0) "things" = some none)
    (ca1 : PySem.W.nsIn K mainGlobals "Axis" = some (some (.ref C1)))
    (pg1 : PySem.W.plainGet K C1 Str.empty = true)
    (hd1 : PySem.W.hasDictIn K C1 = true)
    (po1 : PySem.W.plainOver K C1 = true)
    (sa1 : PySem.W.findIn K (.ref C1) "__setattr__" = some (some (.builtin "object.__setattr__")))
    (mk1 : PySem.W.makesIn K C1 = true)
    (kc1 : PySem.W.keepIn K (.ref C1) = true)
    (cl1 : PySem.W.clsIn K C1 = some kd1)
    (mr1 : kd1.mro = [.ref C1, .type "object"])
    (ty1 : PySem.W.typeIn K (.ref C1) = some (.type "type"))
    (cc1 : PySem.W.findIn K (.ref C1) "__class__" = some (some (.builtin "object.__class__")))
    (ne1 : PySem.W.findIn K (.ref C1) "__ne__" = some (some (.builtin "object.__ne__")))
    (n1rows : PySem.W.findIn K (.ref C1) "rows" = some none)
    (n1things : PySem.W.findIn K (.ref C1) "things" = some none)
    (ca2 : PySem.W.nsIn K mainGlobals "Three" = some (some (.ref C2)))
    (pg2 : PySem.W.plainGet K C2 Str.empty = true)
    (hd2 : PySem.W.hasDictIn K C2 = true)
    (po2 : PySem.W.plainOver K C2 = true)
    (sa2 : PySem.W.findIn K (.ref C2) "__setattr__" = some (some (.builtin "object.__setattr__")))
    (mk2 : PySem.W.makesIn K C2 = true)
    (kc2 : PySem.W.keepIn K (.ref C2) = true)
    (cl2 : PySem.W.clsIn K C2 = some kd2)
    (mr2 : kd2.mro = [.ref C2, .type "object"])
    (ty2 : PySem.W.typeIn K (.ref C2) = some (.type "type"))
    (cc2 : PySem.W.findIn K (.ref C2) "__class__" = some (some (.builtin "object.__class__")))
    (ne2 : PySem.W.findIn K (.ref C2) "__ne__" = some (some (.builtin "object.__ne__")))
    (n2rows : PySem.W.findIn K (.ref C2) "rows" = some none)
    (n2things : PySem.W.findIn K (.ref C2) "things" = some none)
    (ca3 : PySem.W.nsIn K mainGlobals "Four" = some (some (.ref C3)))
    (pg3 : PySem.W.plainGet K C3 Str.empty = true)
    (hd3 : PySem.W.hasDictIn K C3 = true)
    (po3 : PySem.W.plainOver K C3 = true)
    (sa3 : PySem.W.findIn K (.ref C3) "__setattr__" = some (some (.builtin "object.__setattr__")))
    (mk3 : PySem.W.makesIn K C3 = true)
    (kc3 : PySem.W.keepIn K (.ref C3) = true)
    (cl3 : PySem.W.clsIn K C3 = some kd3)
    (mr3 : kd3.mro = [.ref C3, .type "object"])
    (ty3 : PySem.W.typeIn K (.ref C3) = some (.type "type"))
    (cc3 : PySem.W.findIn K (.ref C3) "__class__" = some (some (.builtin "object.__class__")))
    (ne3 : PySem.W.findIn K (.ref C3) "__ne__" = some (some (.builtin "object.__ne__")))
    (n3rows : PySem.W.findIn K (.ref C3) "rows" = some none)
    (n3things : PySem.W.findIn K (.ref C3) "things" = some none)
    (a0 : PySem.W.nsIn K mainGlobals "frozen" = some (some (.ref f0)))
    (l0 : K.lookup f0 = some ⟨oc0, od0, .func (PySem.W.fnOf "frozen" "frozen" (defArgs s_frozen) (defBody s_frozen) (defScope s_frozen) .none kV0 dc0 pm0 an0 cd0 ct0), sl0⟩)
    (c0 : PySem.W.codeIn K cd0 "frozen" = true)
    (k0 : PySem.W.keepIn K (.ref f0) = true)
    (a1 : PySem.W.nsIn K mainGlobals "is_whole" = some (some (.ref f1)))
    (l1 : K.lookup f1 = some ⟨oc1, od1, .func (PySem.W.fnOf "is_whole" "is_whole" (defArgs s_is_whole) (defBody s_is_whole) (defScope s_is_whole) .none kV1 dc1 pm1 an1 cd1 ct1), sl1⟩)
    (c1 : PySem.W.codeIn K cd1 "is_whole" = true)
    (k1 : PySem.W.keepIn K (.ref f1) = true)
    (a2 : PySem.W.nsIn K mainGlobals "is_list" = some (some (.ref f2)))
    (l2 : K.lookup f2 = some ⟨oc2, od2, .func (PySem.W.fnOf "is_list" "is_list" (defArgs s_is_list) (defBody s_is_list) (defScope s_is_list) .none kV2 dc2 pm2 an2 cd2 ct2), sl2⟩)
    (c2 : PySem.W.codeIn K cd2 "is_list" = true)
    (k2 : PySem.W.keepIn K (.ref f2) = true)
    (a3 : PySem.W.nsIn K mainGlobals "is_index" = some (some (.ref f3)))
    (l3 : K.lookup f3 = some ⟨oc3, od3, .func (PySem.W.fnOf "is_index" "is_index" (defArgs s_is_index) (defBody s_is_index) (defScope s_is_index) .none kV3 dc3 pm3 an3 cd3 ct3), sl3⟩)
    (c3 : PySem.W.codeIn K cd3 "is_index" = true)
    (k3 : PySem.W.keepIn K (.ref f3) = true)
    (a4 : PySem.W.nsIn K mainGlobals "is_all_things" = some (some (.ref f4)))
    (l4 : K.lookup f4 = some ⟨oc4, od4, .func (PySem.W.fnOf "is_all_things" "is_all_things" (defArgs s_is_all_things) (defBody s_is_all_things) (defScope s_is_all_things) .none kV4 dc4 pm4 an4 cd4 ct4), sl4⟩)
    (c4 : PySem.W.codeIn K cd4 "is_all_things" = true)
    (k4 : PySem.W.keepIn K (.ref f4) = true)
    (a5 : PySem.W.nsIn K mainGlobals "panel_told" = some (some (.ref f5)))
    (l5 : K.lookup f5 = some ⟨oc5, od5, .func (PySem.W.fnOf "panel_told" "panel_told" (defArgs s_panel_told) (defBody s_panel_told) (defScope s_panel_told) .none kV5 dc5 pm5 an5 cd5 ct5), sl5⟩)
    (c5 : PySem.W.codeIn K cd5 "panel_told" = true)
    (k5 : PySem.W.keepIn K (.ref f5) = true)
    (a6 : PySem.W.nsIn K mainGlobals "is_ahead" = some (some (.ref f6)))
    (l6 : K.lookup f6 = some ⟨oc6, od6, .func (PySem.W.fnOf "is_ahead" "is_ahead" (defArgs s_is_ahead) (defBody s_is_ahead) (defScope s_is_ahead) .none kV6 dc6 pm6 an6 cd6 ct6), sl6⟩)
    (c6 : PySem.W.codeIn K cd6 "is_ahead" = true)
    (k6 : PySem.W.keepIn K (.ref f6) = true)
    (a7 : PySem.W.nsIn K mainGlobals "falls_on" = some (some (.ref f7)))
    (l7 : K.lookup f7 = some ⟨oc7, od7, .func (PySem.W.fnOf "falls_on" "falls_on" (defArgs s_falls_on) (defBody s_falls_on) (defScope s_falls_on) .none kV7 dc7 pm7 an7 cd7 ct7), sl7⟩)
    (c7 : PySem.W.codeIn K cd7 "falls_on" = true)
    (k7 : PySem.W.keepIn K (.ref f7) = true)
    (a8 : PySem.W.nsIn K mainGlobals "all_fall" = some (some (.ref f8)))
    (l8 : K.lookup f8 = some ⟨oc8, od8, .func (PySem.W.fnOf "all_fall" "all_fall" (defArgs s_all_fall) (defBody s_all_fall) (defScope s_all_fall) .none kV8 dc8 pm8 an8 cd8 ct8), sl8⟩)
    (c8 : PySem.W.codeIn K cd8 "all_fall" = true)
    (k8 : PySem.W.keepIn K (.ref f8) = true)
    (a9 : PySem.W.nsIn K mainGlobals "axis_holds" = some (some (.ref f9)))
    (l9 : K.lookup f9 = some ⟨oc9, od9, .func (PySem.W.fnOf "axis_holds" "axis_holds" (defArgs s_axis_holds) (defBody s_axis_holds) (defScope s_axis_holds) .none kV9 dc9 pm9 an9 cd9 ct9), sl9⟩)
    (c9 : PySem.W.codeIn K cd9 "axis_holds" = true)
    (k9 : PySem.W.keepIn K (.ref f9) = true)
    (a10 : PySem.W.nsIn K mainGlobals "are_unlike" = some (some (.ref f10)))
    (l10 : K.lookup f10 = some ⟨oc10, od10, .func (PySem.W.fnOf "are_unlike" "are_unlike" (defArgs s_are_unlike) (defBody s_are_unlike) (defScope s_are_unlike) .none kV10 dc10 pm10 an10 cd10 ct10), sl10⟩)
    (c10 : PySem.W.codeIn K cd10 "are_unlike" = true)
    (k10 : PySem.W.keepIn K (.ref f10) = true)
    (a11 : PySem.W.nsIn K mainGlobals "are_numbers" = some (some (.ref f11)))
    (l11 : K.lookup f11 = some ⟨oc11, od11, .func (PySem.W.fnOf "are_numbers" "are_numbers" (defArgs s_are_numbers) (defBody s_are_numbers) (defScope s_are_numbers) .none kV11 dc11 pm11 an11 cd11 ct11), sl11⟩)
    (c11 : PySem.W.codeIn K cd11 "are_numbers" = true)
    (k11 : PySem.W.keepIn K (.ref f11) = true)
    (a12 : PySem.W.nsIn K mainGlobals "is_last" = some (some (.ref f12)))
    (l12 : K.lookup f12 = some ⟨oc12, od12, .func (PySem.W.fnOf "is_last" "is_last" (defArgs s_is_last) (defBody s_is_last) (defScope s_is_last) .none kV12 dc12 pm12 an12 cd12 ct12), sl12⟩)
    (c12 : PySem.W.codeIn K cd12 "is_last" = true)
    (k12 : PySem.W.keepIn K (.ref f12) = true)
    (a13 : PySem.W.nsIn K mainGlobals "three_holds" = some (some (.ref f13)))
    (l13 : K.lookup f13 = some ⟨oc13, od13, .func (PySem.W.fnOf "three_holds" "three_holds" (defArgs s_three_holds) (defBody s_three_holds) (defScope s_three_holds) .none kV13 dc13 pm13 an13 cd13 ct13), sl13⟩)
    (c13 : PySem.W.codeIn K cd13 "three_holds" = true)
    (k13 : PySem.W.keepIn K (.ref f13) = true)
    (a14 : PySem.W.nsIn K mainGlobals "is_four" = some (some (.ref f14)))
    (l14 : K.lookup f14 = some ⟨oc14, od14, .func (PySem.W.fnOf "is_four" "is_four" (defArgs s_is_four) (defBody s_is_four) (defScope s_is_four) .none kV14 dc14 pm14 an14 cd14 ct14), sl14⟩)
    (c14 : PySem.W.codeIn K cd14 "is_four" = true)
    (k14 : PySem.W.keepIn K (.ref f14) = true)
    (a15 : PySem.W.nsIn K mainGlobals "four_holds" = some (some (.ref f15)))
    (l15 : K.lookup f15 = some ⟨oc15, od15, .func (PySem.W.fnOf "four_holds" "four_holds" (defArgs s_four_holds) (defBody s_four_holds) (defScope s_four_holds) .none kV15 dc15 pm15 an15 cd15 ct15), sl15⟩)
    (c15 : PySem.W.codeIn K cd15 "four_holds" = true)
    (k15 : PySem.W.keepIn K (.ref f15) = true)
    (a16 : PySem.W.nsIn K mainGlobals "rows_of_things" = some (some (.ref f16)))
    (l16 : K.lookup f16 = some ⟨oc16, od16, .func (PySem.W.fnOf "rows_of_things" "rows_of_things" (defArgs s_rows_of_things) (defBody s_rows_of_things) (defScope s_rows_of_things) .none kV16 dc16 pm16 an16 cd16 ct16), sl16⟩)
    (c16 : PySem.W.codeIn K cd16 "rows_of_things" = true)
    (k16 : PySem.W.keepIn K (.ref f16) = true)
    (a17 : PySem.W.nsIn K mainGlobals "first_axis" = some (some (.ref f17)))
    (l17 : K.lookup f17 = some ⟨oc17, od17, .func (PySem.W.fnOf "first_axis" "first_axis" (defArgs s_first_axis) (defBody s_first_axis) (defScope s_first_axis) .none kV17 dc17 pm17 an17 cd17 ct17), sl17⟩)
    (c17 : PySem.W.codeIn K cd17 "first_axis" = true)
    (k17 : PySem.W.keepIn K (.ref f17) = true)
    (a18 : PySem.W.nsIn K mainGlobals "last_rows" = some (some (.ref f18)))
    (l18 : K.lookup f18 = some ⟨oc18, od18, .func (PySem.W.fnOf "last_rows" "last_rows" (defArgs s_last_rows) (defBody s_last_rows) (defScope s_last_rows) .none kV18 dc18 pm18 an18 cd18 ct18), sl18⟩)
    (c18 : PySem.W.codeIn K cd18 "last_rows" = true)
    (k18 : PySem.W.keepIn K (.ref f18) = true)
    (a19 : PySem.W.nsIn K mainGlobals "no_axis" = some (some (.ref f19)))
    (l19 : K.lookup f19 = some ⟨oc19, od19, .func (PySem.W.fnOf "no_axis" "no_axis" (defArgs s_no_axis) (defBody s_no_axis) (defScope s_no_axis) .none kV19 dc19 pm19 an19 cd19 ct19), sl19⟩)
    (c19 : PySem.W.codeIn K cd19 "no_axis" = true)
    (k19 : PySem.W.keepIn K (.ref f19) = true)
    (a20 : PySem.W.nsIn K mainGlobals "axis_verdict" = some (some (.ref f20)))
    (l20 : K.lookup f20 = some ⟨oc20, od20, .func (PySem.W.fnOf "axis_verdict" "axis_verdict" (defArgs s_axis_verdict) (defBody s_axis_verdict) (defScope s_axis_verdict) .none kV20 dc20 pm20 an20 cd20 ct20), sl20⟩)
    (c20 : PySem.W.codeIn K cd20 "axis_verdict" = true)
    (k20 : PySem.W.keepIn K (.ref f20) = true)
    (a21 : PySem.W.nsIn K mainGlobals "_law_pen" = some (some (.ref f21)))
    (l21 : K.lookup f21 = some ⟨oc21, od21, .func (PySem.W.fnOf "_law_pen" "_law_pen" (defArgs s__law_pen) (defBody s__law_pen) (defScope s__law_pen) .none kV21 dc21 pm21 an21 cd21 ct21), sl21⟩)
    (c21 : PySem.W.codeIn K cd21 "_law_pen" = true)
    (k21 : PySem.W.keepIn K (.ref f21) = true)
    (a22 : PySem.W.nsIn K mainGlobals "_law_draw" = some (some (.ref f22)))
    (l22 : K.lookup f22 = some ⟨oc22, od22, .func (PySem.W.fnOf "_law_draw" "_law_draw" (defArgs s__law_draw) (defBody s__law_draw) (defScope s__law_draw) .none kV22 dc22 pm22 an22 cd22 ct22), sl22⟩)
    (c22 : PySem.W.codeIn K cd22 "_law_draw" = true)
    (k22 : PySem.W.keepIn K (.ref f22) = true)
    (a23 : PySem.W.nsIn K mainGlobals "_law_pick" = some (some (.ref f23)))
    (l23 : K.lookup f23 = some ⟨oc23, od23, .func (PySem.W.fnOf "_law_pick" "_law_pick" (defArgs s__law_pick) (defBody s__law_pick) (defScope s__law_pick) .none kV23 dc23 pm23 an23 cd23 ct23), sl23⟩)
    (c23 : PySem.W.codeIn K cd23 "_law_pick" = true)
    (k23 : PySem.W.keepIn K (.ref f23) = true)
    (a24 : PySem.W.nsIn K mainGlobals "_law_shuffled" = some (some (.ref f24)))
    (l24 : K.lookup f24 = some ⟨oc24, od24, .func (PySem.W.fnOf "_law_shuffled" "_law_shuffled" (defArgs s__law_shuffled) (defBody s__law_shuffled) (defScope s__law_shuffled) .none kV24 dc24 pm24 an24 cd24 ct24), sl24⟩)
    (c24 : PySem.W.codeIn K cd24 "_law_shuffled" = true)
    (k24 : PySem.W.keepIn K (.ref f24) = true)
    (a25 : PySem.W.nsIn K mainGlobals "_law_is_int" = some (some (.ref f25)))
    (l25 : K.lookup f25 = some ⟨oc25, od25, .func (PySem.W.fnOf "_law_is_int" "_law_is_int" (defArgs s__law_is_int) (defBody s__law_is_int) (defScope s__law_is_int) .none kV25 dc25 pm25 an25 cd25 ct25), sl25⟩)
    (c25 : PySem.W.codeIn K cd25 "_law_is_int" = true)
    (k25 : PySem.W.keepIn K (.ref f25) = true)
    (a26 : PySem.W.nsIn K mainGlobals "_law_says_not" = some (some (.ref f26)))
    (l26 : K.lookup f26 = some ⟨oc26, od26, .func (PySem.W.fnOf "_law_says_not" "_law_says_not" (defArgs s__law_says_not) (defBody s__law_says_not) (defScope s__law_says_not) .none kV26 dc26 pm26 an26 cd26 ct26), sl26⟩)
    (c26 : PySem.W.codeIn K cd26 "_law_says_not" = true)
    (k26 : PySem.W.keepIn K (.ref f26) = true)
    (a27 : PySem.W.nsIn K mainGlobals "_law_panel" = some (some (.ref f27)))
    (l27 : K.lookup f27 = some ⟨oc27, od27, .func (PySem.W.fnOf "_law_panel" "_law_panel" (defArgs s__law_panel) (defBody s__law_panel) (defScope s__law_panel) .none kV27 dc27 pm27 an27 cd27 ct27), sl27⟩)
    (c27 : PySem.W.codeIn K cd27 "_law_panel" = true)
    (k27 : PySem.W.keepIn K (.ref f27) = true)
    (a28 : PySem.W.nsIn K mainGlobals "_law_ahead" = some (some (.ref f28)))
    (l28 : K.lookup f28 = some ⟨oc28, od28, .func (PySem.W.fnOf "_law_ahead" "_law_ahead" (defArgs s__law_ahead) (defBody s__law_ahead) (defScope s__law_ahead) .none kV28 dc28 pm28 an28 cd28 ct28), sl28⟩)
    (c28 : PySem.W.codeIn K cd28 "_law_ahead" = true)
    (k28 : PySem.W.keepIn K (.ref f28) = true)
    (a29 : PySem.W.nsIn K mainGlobals "_law_falls" = some (some (.ref f29)))
    (l29 : K.lookup f29 = some ⟨oc29, od29, .func (PySem.W.fnOf "_law_falls" "_law_falls" (defArgs s__law_falls) (defBody s__law_falls) (defScope s__law_falls) .none kV29 dc29 pm29 an29 cd29 ct29), sl29⟩)
    (c29 : PySem.W.codeIn K cd29 "_law_falls" = true)
    (k29 : PySem.W.keepIn K (.ref f29) = true)
    (a30 : PySem.W.nsIn K mainGlobals "_law_is_whole" = some (some (.ref f30)))
    (l30 : K.lookup f30 = some ⟨oc30, od30, .func (PySem.W.fnOf "_law_is_whole" "_law_is_whole" (defArgs s__law_is_whole) (defBody s__law_is_whole) (defScope s__law_is_whole) .none kV30 dc30 pm30 an30 cd30 ct30), sl30⟩)
    (c30 : PySem.W.codeIn K cd30 "_law_is_whole" = true)
    (k30 : PySem.W.keepIn K (.ref f30) = true)
    (a31 : PySem.W.nsIn K mainGlobals "_law_numbered" = some (some (.ref f31)))
    (l31 : K.lookup f31 = some ⟨oc31, od31, .func (PySem.W.fnOf "_law_numbered" "_law_numbered" (defArgs s__law_numbered) (defBody s__law_numbered) (defScope s__law_numbered) .none kV31 dc31 pm31 an31 cd31 ct31), sl31⟩)
    (c31 : PySem.W.codeIn K cd31 "_law_numbered" = true)
    (k31 : PySem.W.keepIn K (.ref f31) = true)
    (a32 : PySem.W.nsIn K mainGlobals "_law_three_right" = some (some (.ref f32)))
    (l32 : K.lookup f32 = some ⟨oc32, od32, .func (PySem.W.fnOf "_law_three_right" "_law_three_right" (defArgs s__law_three_right) (defBody s__law_three_right) (defScope s__law_three_right) .none kV32 dc32 pm32 an32 cd32 ct32), sl32⟩)
    (c32 : PySem.W.codeIn K cd32 "_law_three_right" = true)
    (k32 : PySem.W.keepIn K (.ref f32) = true)
    (a33 : PySem.W.nsIn K mainGlobals "_law_four_right" = some (some (.ref f33)))
    (l33 : K.lookup f33 = some ⟨oc33, od33, .func (PySem.W.fnOf "_law_four_right" "_law_four_right" (defArgs s__law_four_right) (defBody s__law_four_right) (defScope s__law_four_right) .none kV33 dc33 pm33 an33 cd33 ct33), sl33⟩)
    (c33 : PySem.W.codeIn K cd33 "_law_four_right" = true)
    (k33 : PySem.W.keepIn K (.ref f33) = true)
    (a34 : PySem.W.nsIn K mainGlobals "_law_loose_panel" = some (some (.ref f34)))
    (l34 : K.lookup f34 = some ⟨oc34, od34, .func (PySem.W.fnOf "_law_loose_panel" "_law_loose_panel" (defArgs s__law_loose_panel) (defBody s__law_loose_panel) (defScope s__law_loose_panel) .none kV34 dc34 pm34 an34 cd34 ct34), sl34⟩)
    (c34 : PySem.W.codeIn K cd34 "_law_loose_panel" = true)
    (k34 : PySem.W.keepIn K (.ref f34) = true)
    (a35 : PySem.W.nsIn K mainGlobals "_law_bent" = some (some (.ref f35)))
    (l35 : K.lookup f35 = some ⟨oc35, od35, .func (PySem.W.fnOf "_law_bent" "_law_bent" (defArgs s__law_bent) (defBody s__law_bent) (defScope s__law_bent) .none kV35 dc35 pm35 an35 cd35 ct35), sl35⟩)
    (c35 : PySem.W.codeIn K cd35 "_law_bent" = true)
    (k35 : PySem.W.keepIn K (.ref f35) = true)
    (a36 : PySem.W.nsIn K mainGlobals "_law_some_three" = some (some (.ref f36)))
    (l36 : K.lookup f36 = some ⟨oc36, od36, .func (PySem.W.fnOf "_law_some_three" "_law_some_three" (defArgs s__law_some_three) (defBody s__law_some_three) (defScope s__law_some_three) .none kV36 dc36 pm36 an36 cd36 ct36), sl36⟩)
    (c36 : PySem.W.codeIn K cd36 "_law_some_three" = true)
    (k36 : PySem.W.keepIn K (.ref f36) = true)
    (a37 : PySem.W.nsIn K mainGlobals "_law_some_four" = some (some (.ref f37)))
    (l37 : K.lookup f37 = some ⟨oc37, od37, .func (PySem.W.fnOf "_law_some_four" "_law_some_four" (defArgs s__law_some_four) (defBody s__law_some_four) (defScope s__law_some_four) .none kV37 dc37 pm37 an37 cd37 ct37), sl37⟩)
    (c37 : PySem.W.codeIn K cd37 "_law_some_four" = true)
    (k37 : PySem.W.keepIn K (.ref f37) = true)
    (a38 : PySem.W.nsIn K mainGlobals "law" = some (some (.ref f38)))
    (l38 : K.lookup f38 = some ⟨oc38, od38, .func (PySem.W.fnOf "law" "law" (defArgs s_law) (defBody s_law) (defScope s_law) .none kV38 dc38 pm38 an38 cd38 ct38), sl38⟩)
    (c38 : PySem.W.codeIn K cd38 "law" = true)
    (k38 : PySem.W.keepIn K (.ref f38) = true)
    (a39 : PySem.W.findIn K (.ref C0) "__init__" = some (some (.ref f39)))
    (i39 : PySem.W.isFn K (.ref f39) = true)
    (l39 : K.lookup f39 = some ⟨oc39, od39, .func (PySem.W.fnOf "__init__" "Turn.__init__" (defArgs s_in_Turn) (defBody s_in_Turn) (defScope s_in_Turn) .none kV39 dc39 pm39 an39 cd39 ct39), sl39⟩)
    (c39 : PySem.W.codeIn K cd39 "Turn.__init__" = true)
    (k39 : PySem.W.keepIn K (.ref f39) = true)
    (a40 : PySem.W.findIn K (.ref C1) "__init__" = some (some (.ref f40)))
    (i40 : PySem.W.isFn K (.ref f40) = true)
    (l40 : K.lookup f40 = some ⟨oc40, od40, .func (PySem.W.fnOf "__init__" "Axis.__init__" (defArgs s_in_Axis) (defBody s_in_Axis) (defScope s_in_Axis) .none kV40 dc40 pm40 an40 cd40 ct40), sl40⟩)
    (c40 : PySem.W.codeIn K cd40 "Axis.__init__" = true)
    (k40 : PySem.W.keepIn K (.ref f40) = true)
    (a41 : PySem.W.findIn K (.ref C1) "__eq__" = some (some (.ref f41)))
    (i41 : PySem.W.isFn K (.ref f41) = true)
    (l41 : K.lookup f41 = some ⟨oc41, od41, .func (PySem.W.fnOf "__eq__" "Axis.__eq__" (defArgs s_eq_Axis) (defBody s_eq_Axis) (defScope s_eq_Axis) .none kV41 dc41 pm41 an41 cd41 ct41), sl41⟩)
    (c41 : PySem.W.codeIn K cd41 "Axis.__eq__" = true)
    (k41 : PySem.W.keepIn K (.ref f41) = true)
    (a42 : PySem.W.findIn K (.ref C2) "__init__" = some (some (.ref f42)))
    (i42 : PySem.W.isFn K (.ref f42) = true)
    (l42 : K.lookup f42 = some ⟨oc42, od42, .func (PySem.W.fnOf "__init__" "Three.__init__" (defArgs s_in_Three) (defBody s_in_Three) (defScope s_in_Three) .none kV42 dc42 pm42 an42 cd42 ct42), sl42⟩)
    (c42 : PySem.W.codeIn K cd42 "Three.__init__" = true)
    (k42 : PySem.W.keepIn K (.ref f42) = true)
    (a43 : PySem.W.findIn K (.ref C2) "__eq__" = some (some (.ref f43)))
    (i43 : PySem.W.isFn K (.ref f43) = true)
    (l43 : K.lookup f43 = some ⟨oc43, od43, .func (PySem.W.fnOf "__eq__" "Three.__eq__" (defArgs s_eq_Three) (defBody s_eq_Three) (defScope s_eq_Three) .none kV43 dc43 pm43 an43 cd43 ct43), sl43⟩)
    (c43 : PySem.W.codeIn K cd43 "Three.__eq__" = true)
    (k43 : PySem.W.keepIn K (.ref f43) = true)
    (a44 : PySem.W.findIn K (.ref C3) "__init__" = some (some (.ref f44)))
    (i44 : PySem.W.isFn K (.ref f44) = true)
    (l44 : K.lookup f44 = some ⟨oc44, od44, .func (PySem.W.fnOf "__init__" "Four.__init__" (defArgs s_in_Four) (defBody s_in_Four) (defScope s_in_Four) .none kV44 dc44 pm44 an44 cd44 ct44), sl44⟩)
    (c44 : PySem.W.codeIn K cd44 "Four.__init__" = true)
    (k44 : PySem.W.keepIn K (.ref f44) = true)
    (a45 : PySem.W.findIn K (.ref C3) "__eq__" = some (some (.ref f45)))
    (i45 : PySem.W.isFn K (.ref f45) = true)
    (l45 : K.lookup f45 = some ⟨oc45, od45, .func (PySem.W.fnOf "__eq__" "Four.__eq__" (defArgs s_eq_Four) (defBody s_eq_Four) (defScope s_eq_Four) .none kV45 dc45 pm45 an45 cd45 ct45), sl45⟩)
    (c45 : PySem.W.codeIn K cd45 "Four.__eq__" = true)
    (k45 : PySem.W.keepIn K (.ref f45) = true)
    (sp : PySem.W.specialIn K (.builtin "object.__class__") "__get__" = some (some (.builtin "getset_descriptor.__get__")))
    (tk : PySem.W.takesIn K (.builtin "object.__class__") = some true)
    (zall : PySem.W.nsIn K mainGlobals "all" = some none)
    (zbool : PySem.W.nsIn K mainGlobals "bool" = some none)
    (zint : PySem.W.nsIn K mainGlobals "int" = some none)
    (zisinstance : PySem.W.nsIn K mainGlobals "isinstance" = some none)
    (zlen : PySem.W.nsIn K mainGlobals "len" = some none)
    (zlist : PySem.W.nsIn K mainGlobals "list" = some none)
    (zrange : PySem.W.nsIn K mainGlobals "range" = some none)
    (zset : PySem.W.nsIn K mainGlobals "set" = some none)
    (zsorted : PySem.W.nsIn K mainGlobals "sorted" = some none)
    (ztuple : PySem.W.nsIn K mainGlobals "tuple" = some none)
    (zzip : PySem.W.nsIn K mainGlobals "zip" = some none)
    (nj : [C0, C1, C2, C3].Nodup)
    (plain : ∀ ns : List Int, ns.length ≤ 63 → ∃ W, c_law [.sq (ns.map .int)] [] = .val (.bl true) W) :
    ∃ fd : FuncData, (∀ (s : Shared) (v : Value), BindsTo s fd ⟨[v], []⟩ [("script", v)]) ∧ ∀ base : Heap, K.In base → base.Ns mainGlobals mg → FnOk l.prog w K mg base (L2.CX l.prog w) 11 fa fd ["script"] (spLaw K) := by
  have e := hfa.symm.trans (PySem.W.mg_of X G a38)
  cases e
  let T : Tb := ⟨K, fun n => [C0, C1, C2, C3].getD n 0, fun n => [f0, f1, f2, f3, f4, f5, f6, f7, f8, f9, f10, f11, f12, f13, f14, f15, f16, f17, f18, f19, f20, f21, f22, f23, f24, f25, f26, f27, f28, f29, f30, f31, f32, f33, f34, f35, f36, f37, fa].getD n 0, 4, ["rows", "things"]⟩
  have ok : TbOk T := by
    refine ⟨fun c hc => ?_, fun c hc f hf => ?_, fun c d hc hd e => ?_, sp, tk⟩
    · have hc : c < 4 := hc
      have hc : c = 0 ∨ c = 1 ∨ c = 2 ∨ c = 3 := by omega
      rcases hc with rfl | rfl | rfl | rfl
      · exact ⟨⟨pg0, hd0, po0, sa0⟩, (by show (PySem.W.clsIn K C0).map (·.mro) = some [.ref C0, .type "object"]; rw [cl0, Option.map_some, mr0]), ty0, cc0⟩
      · exact ⟨⟨pg1, hd1, po1, sa1⟩, (by show (PySem.W.clsIn K C1).map (·.mro) = some [.ref C1, .type "object"]; rw [cl1, Option.map_some, mr1]), ty1, cc1⟩
      · exact ⟨⟨pg2, hd2, po2, sa2⟩, (by show (PySem.W.clsIn K C2).map (·.mro) = some [.ref C2, .type "object"]; rw [cl2, Option.map_some, mr2]), ty2, cc2⟩
      · exact ⟨⟨pg3, hd3, po3, sa3⟩, (by show (PySem.W.clsIn K C3).map (·.mro) = some [.ref C3, .type "object"]; rw [cl3, Option.map_some, mr3]), ty3, cc3⟩
    · have hf : f ∈ (["rows", "things"] : List Str) := hf
      have hc : c < 4 := hc
      have hc : c = 0 ∨ c = 1 ∨ c = 2 ∨ c = 3 := by omega
      rcases hc with rfl | rfl | rfl | rfl
      · rcases List.mem_cons.mp hf with rfl | hf
        · exact n0rows
        · rcases List.mem_cons.mp hf with rfl | hf
          · exact n0things
          · cases hf
      · rcases List.mem_cons.mp hf with rfl | hf
        · exact n1rows
        · rcases List.mem_cons.mp hf with rfl | hf
          · exact n1things
          · cases hf
      · rcases List.mem_cons.mp hf with rfl | hf
        · exact n2rows
        · rcases List.mem_cons.mp hf with rfl | hf
          · exact n2things
          · cases hf
      · rcases List.mem_cons.mp hf with rfl | hf
        · exact n3rows
        · rcases List.mem_cons.mp hf with rfl | hf
          · exact n3things
          · cases hf
    · have hc : c < 4 := hc
      have hd : d < 4 := hd
      have e : [C0, C1, C2, C3].getD c 0 = [C0, C1, C2, C3].getD d 0 := e
      exact getD_inj nj hc hd e
  have E : Env0 T mg := by
    constructor
    · exact PySem.W.mg_none_of X G zall
    · exact PySem.W.mg_none_of X G zbool
    · exact PySem.W.mg_none_of X G zint
    · exact PySem.W.mg_none_of X G zisinstance
    · exact PySem.W.mg_none_of X G zlen
    · exact PySem.W.mg_none_of X G zlist
    · exact PySem.W.mg_none_of X G zrange
    · exact PySem.W.mg_none_of X G zset
    · exact PySem.W.mg_none_of X G zsorted
    · exact PySem.W.mg_none_of X G ztuple
    · exact PySem.W.mg_none_of X G zzip
    · exact PySem.W.mg_of X G ca0
    · show 0 < 4; decide
    · exact kc0
    · exact PySem.W.mg_of X G ca1
    · show 1 < 4; decide
    · exact kc1
    · exact PySem.W.mg_of X G ca2
    · show 2 < 4; decide
    · exact kc2
    · exact PySem.W.mg_of X G ca3
    · show 3 < 4; decide
    · exact kc3
    · show ("rows" : Str) ∈ (["rows", "things"] : List Str); decide +kernel
    · show ("things" : Str) ∈ (["rows", "things"] : List Str); decide +kernel
  refine ⟨PySem.W.fnOf "law" "law" (defArgs s_law) (defBody s_law) (defScope s_law) .none kV38 dc38 pm38 an38 cd38 ct38, fun s v => .of_eq rfl, fun base _ _ => ?_⟩
  have U0 : Fun K "frozen" "frozen" s_frozen f0 _ := fun_mk (st := s_frozen) l0 c0 k0
  have R0_0 : FnD T l.prog w mg base 1 "frozen" 0 1 (cN_frozen 0) := fn_0 (T := T) (ps := ["value"]) (i := 0) U0 rfl (fun _ _ _ _ _ _ us hl => match us, hl with | [_], _ => rfl) (PySem.W.mg_of X G a0)
  have R0_1 : FnD T l.prog w mg base 2 "frozen" 0 1 (cN_frozen 1) := fn_d (T := T) (i := 0) ok U0 sc_frozen rfl (fun _ _ _ _ _ _ us hl => match us, hl with | [_], _ => rfl) (PySem.W.mg_of X G a0) (d_frozen E R0_0)
  have R0_2 : FnD T l.prog w mg base 3 "frozen" 0 1 (cN_frozen 2) := fn_d (T := T) (i := 0) ok U0 sc_frozen rfl (fun _ _ _ _ _ _ us hl => match us, hl with | [_], _ => rfl) (PySem.W.mg_of X G a0) (d_frozen E R0_1)
  have R0_3 : FnD T l.prog w mg base 4 "frozen" 0 1 (cN_frozen 3) := fn_d (T := T) (i := 0) ok U0 sc_frozen rfl (fun _ _ _ _ _ _ us hl => match us, hl with | [_], _ => rfl) (PySem.W.mg_of X G a0) (d_frozen E R0_2)
  have R0_4 : FnD T l.prog w mg base 5 "frozen" 0 1 (cN_frozen 4) := fn_d (T := T) (i := 0) ok U0 sc_frozen rfl (fun _ _ _ _ _ _ us hl => match us, hl with | [_], _ => rfl) (PySem.W.mg_of X G a0) (d_frozen E R0_3)
  have R0_5 : FnD T l.prog w mg base 6 "frozen" 0 1 (cN_frozen 5) := fn_d (T := T) (i := 0) ok U0 sc_frozen rfl (fun _ _ _ _ _ _ us hl => match us, hl with | [_], _ => rfl) (PySem.W.mg_of X G a0) (d_frozen E R0_4)
  have F_frozen := R0_5
  have U1 : Fun K "is_whole" "is_whole" s_is_whole f1 _ := fun_mk (st := s_is_whole) l1 c1 k1
  have F_is_whole : FnD T l.prog w mg base 1 "is_whole" 1 1 c_is_whole := fn_d (T := T) (i := 1) ok U1 sc_is_whole rfl (fun _ _ _ _ _ _ us hl => match us, hl with | [_], _ => rfl) (PySem.W.mg_of X G a1) (d_is_whole E)
  have U2 : Fun K "is_list" "is_list" s_is_list f2 _ := fun_mk (st := s_is_list) l2 c2 k2
  have F_is_list : FnD T l.prog w mg base 1 "is_list" 2 1 c_is_list := fn_d (T := T) (i := 2) ok U2 sc_is_list rfl (fun _ _ _ _ _ _ us hl => match us, hl with | [_], _ => rfl) (PySem.W.mg_of X G a2) (d_is_list E)
  have U3 : Fun K "is_index" "is_index" s_is_index f3 _ := fun_mk (st := s_is_index) l3 c3 k3
  have F_is_index : FnD T l.prog w mg base 2 "is_index" 3 2 c_is_index := fn_d (T := T) (i := 3) ok U3 sc_is_index rfl (fun _ _ _ _ _ _ us hl => match us, hl with | [_, _], _ => rfl) (PySem.W.mg_of X G a3) (d_is_index E F_is_whole)
  have U39 : Fun K "__init__" "Turn.__init__" s_in_Turn f39 _ := fun_mk (st := s_in_Turn) l39 c39 k39
  have F_in_Turn : InD T l.prog w mg base 7 "Turn" 0 1 c_in_Turn := in_d (T := T) (c := 0) ok U39 sc_in_Turn rfl (by decide) (fun _ _ _ _ _ _ us hl => match us, hl with | [_, _], _ => rfl) ⟨mk0, a39, i39, kc0⟩ (by show 0 < 4; decide) (PySem.W.mg_of X G ca0) (d_in_Turn E F_frozen) h_in_Turn
  have U4 : Fun K "is_all_things" "is_all_things" s_is_all_things f4 _ := fun_mk (st := s_is_all_things) l4 c4 k4
  have F_is_all_things : FnD T l.prog w mg base 3 "is_all_things" 4 2 c_is_all_things := fn_d (T := T) (i := 4) ok U4 sc_is_all_things rfl (fun _ _ _ _ _ _ us hl => match us, hl with | [_, _], _ => rfl) (PySem.W.mg_of X G a4) (d_is_all_things E F_is_index F_is_list)
  have U40 : Fun K "__init__" "Axis.__init__" s_in_Axis f40 _ := fun_mk (st := s_in_Axis) l40 c40 k40
  have F_in_Axis : InD T l.prog w mg base 7 "Axis" 1 1 c_in_Axis := in_d (T := T) (c := 1) ok U40 sc_in_Axis rfl (by decide) (fun _ _ _ _ _ _ us hl => match us, hl with | [_, _], _ => rfl) ⟨mk1, a40, i40, kc1⟩ (by show 1 < 4; decide) (PySem.W.mg_of X G ca1) (d_in_Axis E F_frozen) h_in_Axis
  have U41 : Fun K "__eq__" "Axis.__eq__" s_eq_Axis f41 _ := fun_mk (st := s_eq_Axis) l41 c41 k41
  have F_eq_Axis : EqD T l.prog w mg base 1 1 c_eq_Axis := eq_d (T := T) (c := 1) ok U41 sc_eq_Axis rfl (fun _ _ _ _ _ _ us hl => match us, hl with | [_, _], _ => rfl) a41 i41 ne1 (by show 1 < 4; decide) (d_eq_Axis E)
  have U42 : Fun K "__init__" "Three.__init__" s_in_Three f42 _ := fun_mk (st := s_in_Three) l42 c42 k42
  have F_in_Three : InD T l.prog w mg base 7 "Three" 2 2 c_in_Three := in_d (T := T) (c := 2) ok U42 sc_in_Three rfl (by decide) (fun _ _ _ _ _ _ us hl => match us, hl with | [_, _, _], _ => rfl) ⟨mk2, a42, i42, kc2⟩ (by show 2 < 4; decide) (PySem.W.mg_of X G ca2) (d_in_Three E F_frozen) h_in_Three
  have U43 : Fun K "__eq__" "Three.__eq__" s_eq_Three f43 _ := fun_mk (st := s_eq_Three) l43 c43 k43
  have F_eq_Three : EqD T l.prog w mg base 1 2 c_eq_Three := eq_d (T := T) (c := 2) ok U43 sc_eq_Three rfl (fun _ _ _ _ _ _ us hl => match us, hl with | [_, _], _ => rfl) a43 i43 ne2 (by show 2 < 4; decide) (d_eq_Three E)
  have U44 : Fun K "__init__" "Four.__init__" s_in_Four f44 _ := fun_mk (st := s_in_Four) l44 c44 k44
  have F_in_Four : InD T l.prog w mg base 7 "Four" 3 2 c_in_Four := in_d (T := T) (c := 3) ok U44 sc_in_Four rfl (by decide) (fun _ _ _ _ _ _ us hl => match us, hl with | [_, _, _], _ => rfl) ⟨mk3, a44, i44, kc3⟩ (by show 3 < 4; decide) (PySem.W.mg_of X G ca3) (d_in_Four E F_frozen) h_in_Four
  have U45 : Fun K "__eq__" "Four.__eq__" s_eq_Four f45 _ := fun_mk (st := s_eq_Four) l45 c45 k45
  have F_eq_Four : EqD T l.prog w mg base 1 3 c_eq_Four := eq_d (T := T) (c := 3) ok U45 sc_eq_Four rfl (fun _ _ _ _ _ _ us hl => match us, hl with | [_, _], _ => rfl) a45 i45 ne3 (by show 3 < 4; decide) (d_eq_Four E)
  have U5 : Fun K "panel_told" "panel_told" s_panel_told f5 _ := fun_mk (st := s_panel_told) l5 c5 k5
  have F_panel_told : FnD T l.prog w mg base 4 "panel_told" 5 1 c_panel_told := fn_d (T := T) (i := 5) ok U5 sc_panel_told rfl (fun _ _ _ _ _ _ us hl => match us, hl with | [_], _ => rfl) (PySem.W.mg_of X G a5) (d_panel_told E F_is_all_things F_is_list)
  have U6 : Fun K "is_ahead" "is_ahead" s_is_ahead f6 _ := fun_mk (st := s_is_ahead) l6 c6 k6
  have F_is_ahead : FnD T l.prog w mg base 1 "is_ahead" 6 3 c_is_ahead := fn_d (T := T) (i := 6) ok U6 sc_is_ahead rfl (fun _ _ _ _ _ _ us hl => match us, hl with | [_, _, _], _ => rfl) (PySem.W.mg_of X G a6) (d_is_ahead E)
  have U7 : Fun K "falls_on" "falls_on" s_falls_on f7 _ := fun_mk (st := s_falls_on) l7 c7 k7
  have F_falls_on : FnD T l.prog w mg base 2 "falls_on" 7 2 c_falls_on := fn_d (T := T) (i := 7) ok U7 sc_falls_on rfl (fun _ _ _ _ _ _ us hl => match us, hl with | [_, _], _ => rfl) (PySem.W.mg_of X G a7) (d_falls_on E F_is_ahead)
  have U8 : Fun K "all_fall" "all_fall" s_all_fall f8 _ := fun_mk (st := s_all_fall) l8 c8 k8
  have F_all_fall : FnD T l.prog w mg base 3 "all_fall" 8 2 c_all_fall := fn_d (T := T) (i := 8) ok U8 sc_all_fall rfl (fun _ _ _ _ _ _ us hl => match us, hl with | [_, _], _ => rfl) (PySem.W.mg_of X G a8) (d_all_fall E F_falls_on)
  have U9 : Fun K "axis_holds" "axis_holds" s_axis_holds f9 _ := fun_mk (st := s_axis_holds) l9 c9 k9
  have F_axis_holds : FnD T l.prog w mg base 5 "axis_holds" 9 2 c_axis_holds := fn_d (T := T) (i := 9) ok U9 sc_axis_holds rfl (fun _ _ _ _ _ _ us hl => match us, hl with | [_, _], _ => rfl) (PySem.W.mg_of X G a9) (d_axis_holds E F_all_fall F_is_all_things F_panel_told)
  have U10 : Fun K "are_unlike" "are_unlike" s_are_unlike f10 _ := fun_mk (st := s_are_unlike) l10 c10 k10
  have F_are_unlike : FnD T l.prog w mg base 3 "are_unlike" 10 3 c_are_unlike := fn_d (T := T) (i := 10) ok U10 sc_are_unlike rfl (fun _ _ _ _ _ _ us hl => match us, hl with | [_, _, _], _ => rfl) (PySem.W.mg_of X G a10) (d_are_unlike E F_is_index)
  have U11 : Fun K "are_numbers" "are_numbers" s_are_numbers f11 _ := fun_mk (st := s_are_numbers) l11 c11 k11
  have F_are_numbers : FnD T l.prog w mg base 3 "are_numbers" 11 3 c_are_numbers := fn_d (T := T) (i := 11) ok U11 sc_are_numbers rfl (fun _ _ _ _ _ _ us hl => match us, hl with | [_, _, _], _ => rfl) (PySem.W.mg_of X G a11) (d_are_numbers E F_is_index)
  have U12 : Fun K "is_last" "is_last" s_is_last f12 _ := fun_mk (st := s_is_last) l12 c12 k12
  have F_is_last : FnD T l.prog w mg base 2 "is_last" 12 3 c_is_last := fn_d (T := T) (i := 12) ok U12 sc_is_last rfl (fun _ _ _ _ _ _ us hl => match us, hl with | [_, _, _], _ => rfl) (PySem.W.mg_of X G a12) (d_is_last E F_is_ahead)
  have U13 : Fun K "three_holds" "three_holds" s_three_holds f13 _ := fun_mk (st := s_three_holds) l13 c13 k13
  have F_three_holds : FnD T l.prog w mg base 5 "three_holds" 13 2 c_three_holds := fn_d (T := T) (i := 13) ok U13 sc_three_holds rfl (fun _ _ _ _ _ _ us hl => match us, hl with | [_, _], _ => rfl) (PySem.W.mg_of X G a13) (d_three_holds E F_are_numbers F_are_unlike F_is_last F_panel_told)
  have U14 : Fun K "is_four" "is_four" s_is_four f14 _ := fun_mk (st := s_is_four) l14 c14 k14
  have F_is_four : FnD T l.prog w mg base 2 "is_four" 14 3 c_is_four := fn_d (T := T) (i := 14) ok U14 sc_is_four rfl (fun _ _ _ _ _ _ us hl => match us, hl with | [_, _, _], _ => rfl) (PySem.W.mg_of X G a14) (d_is_four E F_is_ahead)
  have U15 : Fun K "four_holds" "four_holds" s_four_holds f15 _ := fun_mk (st := s_four_holds) l15 c15 k15
  have F_four_holds : FnD T l.prog w mg base 5 "four_holds" 15 2 c_four_holds := fn_d (T := T) (i := 15) ok U15 sc_four_holds rfl (fun _ _ _ _ _ _ us hl => match us, hl with | [_, _], _ => rfl) (PySem.W.mg_of X G a15) (d_four_holds E F_are_numbers F_are_unlike F_is_four F_panel_told)
  have U16 : Fun K "rows_of_things" "rows_of_things" s_rows_of_things f16 _ := fun_mk (st := s_rows_of_things) l16 c16 k16
  have F_rows_of_things : FnD T l.prog w mg base 1 "rows_of_things" 16 2 c_rows_of_things := fn_d (T := T) (i := 16) ok U16 sc_rows_of_things rfl (fun _ _ _ _ _ _ us hl => match us, hl with | [_, _], _ => rfl) (PySem.W.mg_of X G a16) (d_rows_of_things E)
  have U17 : Fun K "first_axis" "first_axis" s_first_axis f17 _ := fun_mk (st := s_first_axis) l17 c17 k17
  have F_first_axis : FnD T l.prog w mg base 4 "first_axis" 17 1 c_first_axis := fn_d (T := T) (i := 17) ok U17 sc_first_axis rfl (fun _ _ _ _ _ _ us hl => match us, hl with | [_], _ => rfl) (PySem.W.mg_of X G a17) (d_first_axis E F_all_fall F_rows_of_things)
  have U18 : Fun K "last_rows" "last_rows" s_last_rows f18 _ := fun_mk (st := s_last_rows) l18 c18 k18
  have F_last_rows : FnD T l.prog w mg base 3 "last_rows" 18 2 c_last_rows := fn_d (T := T) (i := 18) ok U18 sc_last_rows rfl (fun _ _ _ _ _ _ us hl => match us, hl with | [_, _], _ => rfl) (PySem.W.mg_of X G a18) (d_last_rows E F_is_last)
  have U19 : Fun K "no_axis" "no_axis" s_no_axis f19 _ := fun_mk (st := s_no_axis) l19 c19 k19
  have F_no_axis : FnD T l.prog w mg base 9 "no_axis" 19 1 c_no_axis := fn_d (T := T) (i := 19) ok U19 sc_no_axis rfl (fun _ _ _ _ _ _ us hl => match us, hl with | [_], _ => rfl) (PySem.W.mg_of X G a19) (d_no_axis E F_is_four F_last_rows F_rows_of_things F_in_Four F_in_Three)
  have U20 : Fun K "axis_verdict" "axis_verdict" s_axis_verdict f20 _ := fun_mk (st := s_axis_verdict) l20 c20 k20
  have F_axis_verdict : FnD T l.prog w mg base 10 "axis_verdict" 20 1 c_axis_verdict := fn_d (T := T) (i := 20) ok U20 sc_axis_verdict rfl (fun _ _ _ _ _ _ us hl => match us, hl with | [_], _ => rfl) (PySem.W.mg_of X G a20) (d_axis_verdict E F_first_axis F_no_axis F_panel_told F_in_Axis)
  have U21 : Fun K "_law_pen" "_law_pen" s__law_pen f21 _ := fun_mk (st := s__law_pen) l21 c21 k21
  have F__law_pen : FnD T l.prog w mg base 1 "_law_pen" 21 1 c__law_pen := fn_d (T := T) (i := 21) ok U21 sc__law_pen rfl (fun _ _ _ _ _ _ us hl => match us, hl with | [_], _ => rfl) (PySem.W.mg_of X G a21) (d__law_pen E)
  have U22 : Fun K "_law_draw" "_law_draw" s__law_draw f22 _ := fun_mk (st := s__law_draw) l22 c22 k22
  have F__law_draw : FnD T l.prog w mg base 1 "_law_draw" 22 2 c__law_draw := fn_d (T := T) (i := 22) ok U22 sc__law_draw rfl (fun _ _ _ _ _ _ us hl => match us, hl with | [_, _], _ => rfl) (PySem.W.mg_of X G a22) (d__law_draw E)
  have U23 : Fun K "_law_pick" "_law_pick" s__law_pick f23 _ := fun_mk (st := s__law_pick) l23 c23 k23
  have F__law_pick : FnD T l.prog w mg base 2 "_law_pick" 23 2 c__law_pick := fn_d (T := T) (i := 23) ok U23 sc__law_pick rfl (fun _ _ _ _ _ _ us hl => match us, hl with | [_, _], _ => rfl) (PySem.W.mg_of X G a23) (d__law_pick E F__law_draw)
  have U24 : Fun K "_law_shuffled" "_law_shuffled" s__law_shuffled f24 _ := fun_mk (st := s__law_shuffled) l24 c24 k24
  have F__law_shuffled : FnD T l.prog w mg base 2 "_law_shuffled" 24 2 c__law_shuffled := fn_d (T := T) (i := 24) ok U24 sc__law_shuffled rfl (fun _ _ _ _ _ _ us hl => match us, hl with | [_, _], _ => rfl) (PySem.W.mg_of X G a24) (d__law_shuffled E F__law_draw)
  have U25 : Fun K "_law_is_int" "_law_is_int" s__law_is_int f25 _ := fun_mk (st := s__law_is_int) l25 c25 k25
  have F__law_is_int : FnD T l.prog w mg base 1 "_law_is_int" 25 1 c__law_is_int := fn_d (T := T) (i := 25) ok U25 sc__law_is_int rfl (fun _ _ _ _ _ _ us hl => match us, hl with | [_], _ => rfl) (PySem.W.mg_of X G a25) (d__law_is_int E)
  have U26 : Fun K "_law_says_not" "_law_says_not" s__law_says_not f26 _ := fun_mk (st := s__law_says_not) l26 c26 k26
  have F__law_says_not : FnD T l.prog w mg base 1 "_law_says_not" 26 2 c__law_says_not := fn_d (T := T) (i := 26) ok U26 sc__law_says_not rfl (fun _ _ _ _ _ _ us hl => match us, hl with | [_, _], _ => rfl) (PySem.W.mg_of X G a26) (d__law_says_not E)
  have U27 : Fun K "_law_panel" "_law_panel" s__law_panel f27 _ := fun_mk (st := s__law_panel) l27 c27 k27
  have F__law_panel : FnD T l.prog w mg base 3 "_law_panel" 27 3 c__law_panel := fn_d (T := T) (i := 27) ok U27 sc__law_panel rfl (fun _ _ _ _ _ _ us hl => match us, hl with | [_, _, _], _ => rfl) (PySem.W.mg_of X G a27) (d__law_panel E F__law_draw F__law_shuffled)
  have U28 : Fun K "_law_ahead" "_law_ahead" s__law_ahead f28 _ := fun_mk (st := s__law_ahead) l28 c28 k28
  have F__law_ahead : FnD T l.prog w mg base 1 "_law_ahead" 28 3 c__law_ahead := fn_d (T := T) (i := 28) ok U28 sc__law_ahead rfl (fun _ _ _ _ _ _ us hl => match us, hl with | [_, _, _], _ => rfl) (PySem.W.mg_of X G a28) (d__law_ahead E)
  have U29 : Fun K "_law_falls" "_law_falls" s__law_falls f29 _ := fun_mk (st := s__law_falls) l29 c29 k29
  have F__law_falls : FnD T l.prog w mg base 2 "_law_falls" 29 2 c__law_falls := fn_d (T := T) (i := 29) ok U29 sc__law_falls rfl (fun _ _ _ _ _ _ us hl => match us, hl with | [_, _], _ => rfl) (PySem.W.mg_of X G a29) (d__law_falls E F__law_ahead)
  have U30 : Fun K "_law_is_whole" "_law_is_whole" s__law_is_whole f30 _ := fun_mk (st := s__law_is_whole) l30 c30 k30
  have F__law_is_whole : FnD T l.prog w mg base 2 "_law_is_whole" 30 2 c__law_is_whole := fn_d (T := T) (i := 30) ok U30 sc__law_is_whole rfl (fun _ _ _ _ _ _ us hl => match us, hl with | [_, _], _ => rfl) (PySem.W.mg_of X G a30) (d__law_is_whole E F__law_is_int)
  have U31 : Fun K "_law_numbered" "_law_numbered" s__law_numbered f31 _ := fun_mk (st := s__law_numbered) l31 c31 k31
  have F__law_numbered : FnD T l.prog w mg base 2 "_law_numbered" 31 3 c__law_numbered := fn_d (T := T) (i := 31) ok U31 sc__law_numbered rfl (fun _ _ _ _ _ _ us hl => match us, hl with | [_, _, _], _ => rfl) (PySem.W.mg_of X G a31) (d__law_numbered E F__law_is_int)
  have U32 : Fun K "_law_three_right" "_law_three_right" s__law_three_right f32 _ := fun_mk (st := s__law_three_right) l32 c32 k32
  have F__law_three_right : FnD T l.prog w mg base 3 "_law_three_right" 32 3 c__law_three_right := fn_d (T := T) (i := 32) ok U32 sc__law_three_right rfl (fun _ _ _ _ _ _ us hl => match us, hl with | [_, _, _], _ => rfl) (PySem.W.mg_of X G a32) (d__law_three_right E F__law_ahead F__law_numbered)
  have U33 : Fun K "_law_four_right" "_law_four_right" s__law_four_right f33 _ := fun_mk (st := s__law_four_right) l33 c33 k33
  have F__law_four_right : FnD T l.prog w mg base 3 "_law_four_right" 33 3 c__law_four_right := fn_d (T := T) (i := 33) ok U33 sc__law_four_right rfl (fun _ _ _ _ _ _ us hl => match us, hl with | [_, _, _], _ => rfl) (PySem.W.mg_of X G a33) (d__law_four_right E F__law_ahead F__law_numbered)
  have U34 : Fun K "_law_loose_panel" "_law_loose_panel" s__law_loose_panel f34 _ := fun_mk (st := s__law_loose_panel) l34 c34 k34
  have F__law_loose_panel : FnD T l.prog w mg base 3 "_law_loose_panel" 34 2 c__law_loose_panel := fn_d (T := T) (i := 34) ok U34 sc__law_loose_panel rfl (fun _ _ _ _ _ _ us hl => match us, hl with | [_, _], _ => rfl) (PySem.W.mg_of X G a34) (d__law_loose_panel E F__law_pick)
  have U35 : Fun K "_law_bent" "_law_bent" s__law_bent f35 _ := fun_mk (st := s__law_bent) l35 c35 k35
  have F__law_bent : FnD T l.prog w mg base 3 "_law_bent" 35 3 c__law_bent := fn_d (T := T) (i := 35) ok U35 sc__law_bent rfl (fun _ _ _ _ _ _ us hl => match us, hl with | [_, _, _], _ => rfl) (PySem.W.mg_of X G a35) (d__law_bent E F__law_draw F__law_pick)
  have U36 : Fun K "_law_some_three" "_law_some_three" s__law_some_three f36 _ := fun_mk (st := s__law_some_three) l36 c36 k36
  have F__law_some_three : FnD T l.prog w mg base 3 "_law_some_three" 36 3 c__law_some_three := fn_d (T := T) (i := 36) ok U36 sc__law_some_three rfl (fun _ _ _ _ _ _ us hl => match us, hl with | [_, _, _], _ => rfl) (PySem.W.mg_of X G a36) (d__law_some_three E F__law_ahead F__law_draw F__law_pick F__law_shuffled)
  have U37 : Fun K "_law_some_four" "_law_some_four" s__law_some_four f37 _ := fun_mk (st := s__law_some_four) l37 c37 k37
  have F__law_some_four : FnD T l.prog w mg base 4 "_law_some_four" 37 3 c__law_some_four := fn_d (T := T) (i := 37) ok U37 sc__law_some_four rfl (fun _ _ _ _ _ _ us hl => match us, hl with | [_, _, _], _ => rfl) (PySem.W.mg_of X G a37) (d__law_some_four E F__law_draw F__law_four_right F__law_shuffled)
  have U38 : Fun K "law" "law" s_law fa _ := fun_mk (st := s_law) l38 c38 k38
  have F_law : FnD T l.prog w mg base 11 "law" 38 1 c_law := fn_d (T := T) (i := 38) ok U38 sc_law rfl (fun _ _ _ _ _ _ us hl => match us, hl with | [_], _ => rfl) (PySem.W.mg_of X G a38) (d_law E F__law_bent F__law_draw F__law_falls F__law_four_right F__law_is_whole F__law_loose_panel F__law_panel F__law_pen F__law_pick F__law_says_not F__law_shuffled F__law_some_four F__law_some_three F__law_three_right F_axis_holds F_axis_verdict F_four_holds F_three_holds F_in_Axis F_in_Four F_in_Three F_in_Turn F_eq_Axis F_eq_Four F_eq_Three)
  have LL := fnok_d (T := T) (n := 1) (base := base) (mg := mg) (w := w) (P := l.prog) ok U38 sc_law rfl (d_law E F__law_bent F__law_draw F__law_falls F__law_four_right F__law_is_whole F__law_loose_panel F__law_panel F__law_pen F__law_pick F__law_says_not F__law_shuffled F__law_some_four F__law_some_three F__law_three_right F_axis_holds F_axis_verdict F_four_holds F_three_holds F_in_Axis F_in_Four F_in_Three F_in_Turn F_eq_Axis F_eq_Four F_eq_Three)
  refine LL.imp fun vs H Q EE hsp => ?_
  obtain ⟨a, ns, rfl, hS, hlen, kq⟩ := hsp
  obtain ⟨W', hW⟩ := plain ns hlen
  refine ⟨[], H, [], [.sq (ns.map .int)], ?_, reps_cons ?_ reps_nil, rfl, ?_⟩
  · exact ⟨Ex.refl _, fun i sl e => by simp at e, fun i j b o _ => by obtain ⟨⟨sl, e, _⟩, _⟩ := o; simp at e, rfl, List.nodup_nil, fun n m b e _ => by simp at e, fun i b o => by obtain ⟨⟨sl, e, _⟩, _⟩ := o; simp at e, fun b o e _ => e, fun i b o => by obtain ⟨⟨sl, e, _⟩, _⟩ := o; simp at e, fun b o e => .inl e, List.prefix_refl _, fun b e => .inl e, Ex.refl _, Nat.le_refl _⟩
  · simp only [rep]
    exact ⟨a, _, rfl, hS, reps_ints ns⟩
  · show PostC T H [] H Q EE (c_law _ _)
    rw [hW]
    intro v H' as' G' s' rv
    simp only [rep] at rv
    subst rv
    exact kq H'

theorem walk {l : PySem.W.OpenLaw} {q : Program} {loose : List Str} {XP : (Str → Option Value) → Heap → Prop} {YP : World → Heap → Prop} {d : DefRec} {K : Params → PySem.W.Frag} (hn : l.most = some 63) (hdf : d.params.defaults = [])
    (hY : ∀ (w : World) (h : Heap), YP w h → (K w.params).In h)
    (F : ∀ (w : World) (mg : Str → Option Value) (fa : Addr) (h : Heap), (K w.params).In h → h.Ns mainGlobals mg → mg d.name = some (.ref fa) →
      ∃ fd : FuncData, (∀ (s : Shared) (u : Value), BindsTo s fd ⟨[u], []⟩ [("script", u)]) ∧ ∀ base : Heap, (K w.params).In base → base.Ns mainGlobals mg → FnOk l.prog w (K w.params) mg base (L2.CX l.prog w) 11 fa fd ["script"] (spLaw (K w.params))) :
    PySem.W.WalkO q loose XP YP l.row.toRowW d [] (fun f vs => PySem.call f vs) :=
  L2.walk_of (n := 63) (k := 11) (x := "script") (CX := fun w => L2.CX l.prog w) (sp := fun w => spLaw (K w.params)) hn (by decide) hdf ⟨rfl, by decide, by decide⟩ hY F (fun _ _ a ns hl _ hS => ⟨a, ns, rfl, hS, hl, fun _ => rfl⟩) fun w H s e s2 h => by
    obtain ⟨_, _, _, _, _, _, _, _, _, _, _, _, z⟩ := h
    exact z.elim
end P82
open PySem PySem.W PyProof.Rows in
set_option maxRecDepth 100000 in
set_option maxHeartbeats 0 in
theorem PySem.Challenge.cw_anytaste_k82_axes_threes_fours_judged_holds : PySem.Challenge.rw_anytaste_k82_axes_threes_fours_judged.Holds := by
  w_on; o_law; k_head; (case hw => w_witness2)
  k_fill
  refine P82.walk (l := PySem.Challenge.rw_anytaste_k82_axes_threes_fours_judged) rfl rfl (fun w h Y => PySem.W.kIn_of Y) ?F
  case F =>
    intro w mg fa h KX G hmg
    refine' P82.all_mk KX G hmg ?ca0 ?pg0 ?hd0 ?po0 ?sa0 ?mk0 ?kc0 ?cl0 ?mr0 ?ty0 ?cc0 ?ne0 ?n0rows ?n0things ?ca1 ?pg1 ?hd1 ?po1 ?sa1 ?mk1 ?kc1 ?cl1 ?mr1 ?ty1 ?cc1 ?ne1 ?n1rows ?n1things ?ca2 ?pg2 ?hd2 ?po2 ?sa2 ?mk2 ?kc2 ?cl2 ?mr2 ?ty2 ?cc2 ?ne2 ?n2rows ?n2things ?ca3 ?pg3 ?hd3 ?po3 ?sa3 ?mk3 ?kc3 ?cl3 ?mr3 ?ty3 ?cc3 ?ne3 ?n3rows ?n3things ?a0 ?l0 ?c0 ?k0 ?a1 ?l1 ?c1 ?k1 ?a2 ?l2 ?c2 ?k2 ?a3 ?l3 ?c3 ?k3 ?a4 ?l4 ?c4 ?k4 ?a5 ?l5 ?c5 ?k5 ?a6 ?l6 ?c6 ?k6 ?a7 ?l7 ?c7 ?k7 ?a8 ?l8 ?c8 ?k8 ?a9 ?l9 ?c9 ?k9 ?a10 ?l10 ?c10 ?k10 ?a11 ?l11 ?c11 ?k11 ?a12 ?l12 ?c12 ?k12 ?a13 ?l13 ?c13 ?k13 ?a14 ?l14 ?c14 ?k14 ?a15 ?l15 ?c15 ?k15 ?a16 ?l16 ?c16 ?k16 ?a17 ?l17 ?c17 ?k17 ?a18 ?l18 ?c18 ?k18 ?a19 ?l19 ?c19 ?k19 ?a20 ?l20 ?c20 ?k20 ?a21 ?l21 ?c21 ?k21 ?a22 ?l22 ?c22 ?k22 ?a23 ?l23 ?c23 ?k23 ?a24 ?l24 ?c24 ?k24 ?a25 ?l25 ?c25 ?k25 ?a26 ?l26 ?c26 ?k26 ?a27 ?l27 ?c27 ?k27 ?a28 ?l28 ?c28 ?k28 ?a29 ?l29 ?c29 ?k29 ?a30 ?l30 ?c30 ?k30 ?a31 ?l31 ?c31 ?k31 ?a32 ?l32 ?c32 ?k32 ?a33 ?l33 ?c33 ?k33 ?a34 ?l34 ?c34 ?k34 ?a35 ?l35 ?c35 ?k35 ?a36 ?l36 ?c36 ?k36 ?a37 ?l37 ?c37 ?k37 ?a38 ?l38 ?c38 ?k38 ?a39 ?i39 ?l39 ?c39 ?k39 ?a40 ?i40 ?l40 ?c40 ?k40 ?a41 ?i41 ?l41 ?c41 ?k41 ?a42 ?i42 ?l42 ?c42 ?k42 ?a43 ?i43 ?l43 ?c43 ?k43 ?a44 ?i44 ?l44 ?c44 ?k44 ?a45 ?i45 ?l45 ?c45 ?k45 ?sp ?tk ?zall ?zbool ?zint ?zisinstance ?zlen ?zlist ?zrange ?zset ?zsorted ?ztuple ?zzip ?nj P82.plain
    (case ca0 => k_is)
    (case pg0 => k_is)
    (case hd0 => k_is)
    (case po0 => k_is)
    (case sa0 => k_is)
    (case mk0 => k_is)
    (case kc0 => k_is)
    (case cl0 => k_is)
    (case mr0 => rfl)
    (case ty0 => k_is)
    (case cc0 => k_is)
    (case ne0 => k_is)
    (case n0rows => k_is)
    (case n0things => k_is)
    (case ca1 => k_is)
    (case pg1 => k_is)
    (case hd1 => k_is)
    (case po1 => k_is)
    (case sa1 => k_is)
    (case mk1 => k_is)
    (case kc1 => k_is)
    (case cl1 => k_is)
    (case mr1 => rfl)
    (case ty1 => k_is)
    (case cc1 => k_is)
    (case ne1 => k_is)
    (case n1rows => k_is)
    (case n1things => k_is)
    (case ca2 => k_is)
    (case pg2 => k_is)
    (case hd2 => k_is)
    (case po2 => k_is)
    (case sa2 => k_is)
    (case mk2 => k_is)
    (case kc2 => k_is)
    (case cl2 => k_is)
    (case mr2 => rfl)
    (case ty2 => k_is)
    (case cc2 => k_is)
    (case ne2 => k_is)
    (case n2rows => k_is)
    (case n2things => k_is)
    (case ca3 => k_is)
    (case pg3 => k_is)
    (case hd3 => k_is)
    (case po3 => k_is)
    (case sa3 => k_is)
    (case mk3 => k_is)
    (case kc3 => k_is)
    (case cl3 => k_is)
    (case mr3 => rfl)
    (case ty3 => k_is)
    (case cc3 => k_is)
    (case ne3 => k_is)
    (case n3rows => k_is)
    (case n3things => k_is)
    (case a0 => k_is)
    (case l0 => k_is)
    (case c0 => k_is)
    (case k0 => k_is)
    (case a1 => k_is)
    (case l1 => k_is)
    (case c1 => k_is)
    (case k1 => k_is)
    (case a2 => k_is)
    (case l2 => k_is)
    (case c2 => k_is)
    (case k2 => k_is)
    (case a3 => k_is)
    (case l3 => k_is)
    (case c3 => k_is)
    (case k3 => k_is)
    (case a4 => k_is)
    (case l4 => k_is)
    (case c4 => k_is)
    (case k4 => k_is)
    (case a5 => k_is)
    (case l5 => k_is)
    (case c5 => k_is)
    (case k5 => k_is)
    (case a6 => k_is)
    (case l6 => k_is)
    (case c6 => k_is)
    (case k6 => k_is)
    (case a7 => k_is)
    (case l7 => k_is)
    (case c7 => k_is)
    (case k7 => k_is)
    (case a8 => k_is)
    (case l8 => k_is)
    (case c8 => k_is)
    (case k8 => k_is)
    (case a9 => k_is)
    (case l9 => k_is)
    (case c9 => k_is)
    (case k9 => k_is)
    (case a10 => k_is)
    (case l10 => k_is)
    (case c10 => k_is)
    (case k10 => k_is)
    (case a11 => k_is)
    (case l11 => k_is)
    (case c11 => k_is)
    (case k11 => k_is)
    (case a12 => k_is)
    (case l12 => k_is)
    (case c12 => k_is)
    (case k12 => k_is)
    (case a13 => k_is)
    (case l13 => k_is)
    (case c13 => k_is)
    (case k13 => k_is)
    (case a14 => k_is)
    (case l14 => k_is)
    (case c14 => k_is)
    (case k14 => k_is)
    (case a15 => k_is)
    (case l15 => k_is)
    (case c15 => k_is)
    (case k15 => k_is)
    (case a16 => k_is)
    (case l16 => k_is)
    (case c16 => k_is)
    (case k16 => k_is)
    (case a17 => k_is)
    (case l17 => k_is)
    (case c17 => k_is)
    (case k17 => k_is)
    (case a18 => k_is)
    (case l18 => k_is)
    (case c18 => k_is)
    (case k18 => k_is)
    (case a19 => k_is)
    (case l19 => k_is)
    (case c19 => k_is)
    (case k19 => k_is)
    (case a20 => k_is)
    (case l20 => k_is)
    (case c20 => k_is)
    (case k20 => k_is)
    (case a21 => k_is)
    (case l21 => k_is)
    (case c21 => k_is)
    (case k21 => k_is)
    (case a22 => k_is)
    (case l22 => k_is)
    (case c22 => k_is)
    (case k22 => k_is)
    (case a23 => k_is)
    (case l23 => k_is)
    (case c23 => k_is)
    (case k23 => k_is)
    (case a24 => k_is)
    (case l24 => k_is)
    (case c24 => k_is)
    (case k24 => k_is)
    (case a25 => k_is)
    (case l25 => k_is)
    (case c25 => k_is)
    (case k25 => k_is)
    (case a26 => k_is)
    (case l26 => k_is)
    (case c26 => k_is)
    (case k26 => k_is)
    (case a27 => k_is)
    (case l27 => k_is)
    (case c27 => k_is)
    (case k27 => k_is)
    (case a28 => k_is)
    (case l28 => k_is)
    (case c28 => k_is)
    (case k28 => k_is)
    (case a29 => k_is)
    (case l29 => k_is)
    (case c29 => k_is)
    (case k29 => k_is)
    (case a30 => k_is)
    (case l30 => k_is)
    (case c30 => k_is)
    (case k30 => k_is)
    (case a31 => k_is)
    (case l31 => k_is)
    (case c31 => k_is)
    (case k31 => k_is)
    (case a32 => k_is)
    (case l32 => k_is)
    (case c32 => k_is)
    (case k32 => k_is)
    (case a33 => k_is)
    (case l33 => k_is)
    (case c33 => k_is)
    (case k33 => k_is)
    (case a34 => k_is)
    (case l34 => k_is)
    (case c34 => k_is)
    (case k34 => k_is)
    (case a35 => k_is)
    (case l35 => k_is)
    (case c35 => k_is)
    (case k35 => k_is)
    (case a36 => k_is)
    (case l36 => k_is)
    (case c36 => k_is)
    (case k36 => k_is)
    (case a37 => k_is)
    (case l37 => k_is)
    (case c37 => k_is)
    (case k37 => k_is)
    (case a38 => k_is)
    (case l38 => k_is)
    (case c38 => k_is)
    (case k38 => k_is)
    (case a39 => k_is)
    (case i39 => k_is)
    (case l39 => k_is)
    (case c39 => k_is)
    (case k39 => k_is)
    (case a40 => k_is)
    (case i40 => k_is)
    (case l40 => k_is)
    (case c40 => k_is)
    (case k40 => k_is)
    (case a41 => k_is)
    (case i41 => k_is)
    (case l41 => k_is)
    (case c41 => k_is)
    (case k41 => k_is)
    (case a42 => k_is)
    (case i42 => k_is)
    (case l42 => k_is)
    (case c42 => k_is)
    (case k42 => k_is)
    (case a43 => k_is)
    (case i43 => k_is)
    (case l43 => k_is)
    (case c43 => k_is)
    (case k43 => k_is)
    (case a44 => k_is)
    (case i44 => k_is)
    (case l44 => k_is)
    (case c44 => k_is)
    (case k44 => k_is)
    (case a45 => k_is)
    (case i45 => k_is)
    (case l45 => k_is)
    (case c45 => k_is)
    (case k45 => k_is)
    (case sp => k_is)
    (case tk => k_is)
    (case zall => k_is)
    (case zbool => k_is)
    (case zint => k_is)
    (case zisinstance => k_is)
    (case zlen => k_is)
    (case zlist => k_is)
    (case zrange => k_is)
    (case zset => k_is)
    (case zsorted => k_is)
    (case ztuple => k_is)
    (case zzip => k_is)
    (case nj => decide)
