import PyProof.Rows.All
import Wide.All
import OpenK.AllK
import Wide.FinOn
import HandS.ForMost
import HandS.ForExc
import HandS.Lambda
import HandS.TupAny
import HandS.Deep
import HandS.TupLe
import HandS.Wide
import HandS.Style
import PyProof.P3In
import HandS.TupMul
import HandS.Iter
import HandS.Comp
import HandS.IsInst
import HandS.SortInts
import HandS.Strs
import HandS.ExcValue
import HandS.Zip
import HandS.ExcIs
import PyProof.ReprRoads
import HandS.EndTab
import HandS.HeadEnd
import HandS.OwnEq
import PyProof.InstEq
import KE.RegKSuper
import KE.KExcSuper
import HandS.ExcInit
import HandS.ExcSuper
import PyProof.Rows.BootFacts
import HandS.ExcField
import KE.KStateDown
import HandS.Head0
import HandS.Head1
import HandS.Head2
import HandS.HeadHook1
import HandS.HeadHook2
import HandS.HeadHook3
import HandS.HeadHook4
import PySem.Challenge.RW_whomakes_k62_whole_books_through_works
import PyProof.ReprLen
set_option Elab.async false
set_option linter.all false
set_option maxRecDepth 100000
set_option maxHeartbeats 0
/-! ## tuples whose object is known: it has no dict of its own -/
namespace KK
open PySem PySem.Spec PyProof.Rows L2

/-- the object of a plain tuple -/
def TO (o : Obj) : Prop := o.cls = .type "tuple" ∧ o.dict = none
abbrev tO (us : List Value) : Obj := { cls := .type "tuple", data := .seq us.toArray }
section
variable {X : Cx} {pins : List (Addr × Obj)} {σ : L2.St} {H : Hp} {s : Shared} {es : List Expr} {t : TA} {pos : Pos}
/-- a tuple just laid at the end of the heap -/
theorem Inv.tlay {zs : List V} {us : List Value} {tk : Nat} (I : L2.Inv X pins σ H s) (hv : Vals zs us) (hz : zs.length ≤ sizeLine) :
    L2.Inv X pins σ (upd H s.heap.objs.size (.frz (tO us) (.tup zs))) { s with heap := s.heap.push (tO us), toks := tk } :=
  I.laid (fun _ _ w => Heap.get?_push_of_some _ w) (Nat.le_refl _) ⟨Heap.get?_push_size _ rfl, hz, us, hv, ⟨_, Heap.get?_push_size _ rfl, rfl, _, rfl⟩⟩
def NewT (H : Hp) (zs : List V) (Q : VK) : Prop := ∀ p o, H p = none → TO o → Q (.ref p) (upd H p (.frz o (.tup zs)))
def tTupZ (t : TA) : TE := fun σ H Q => t σ H fun zs H1 => zs.length ≤ sizeLine ∧ NewT H1 zs Q
theorem pe_tupZ {j : Nat} (h : PA X es t) : PE X (.Tuple es j pos) (tTupZ t) :=
  ⟨fun pins s σ H Q I hq => wpAny_Tuple_spliced (thn (h.run pos pins s σ H _ I hq) fun us s1 ⟨zs, H1, I1, hv, hz, k⟩ =>
    ⟨by rw [← hv.length]; exact hz, ⟨.ref s1.heap.objs.size, _, Inv.tlay (tk := s1.toks) I1 hv hz, rfl, k _ _ I1.fresh ⟨rfl, rfl⟩⟩⟩)⟩
/-- t + u -/
def rCatZ (K : PySem.W.Frag) : R2 := fun x y H Q => ∃ a b zs ws, x = .ref a ∧ y = .ref b ∧ SqT K H a zs ∧ SqT K H b ws ∧ zs.length + ws.length ≤ sizeLine ∧
  (zs = [] → Q (.ref b) H) ∧ (zs ≠ [] → ws = [] → Q (.ref a) H) ∧ (zs ≠ [] → ws ≠ [] → NewT H (zs ++ ws) Q)
theorem op_catZ : OpR X (binaryOp .Add) (rCatZ X.K) := by
  rintro pins s σ H x y v u Q I rx ry ⟨a, b, zs, ws, rfl, rfl, ha, hb, hz, k0, k1, k2⟩
  cases rx
  cases ry
  obtain ⟨us, v1, t1, _⟩ := I.tuple ha
  obtain ⟨us2, v2, t2, _⟩ := I.tuple hb
  cases v1 with
  | nil => exact cat_tup0 t1 t2 ⟨.ref b, H, I, rfl, k0 rfl⟩
  | @cons z u1 zs' us' r1 rr =>
    have w1 : Vals (z :: zs') (u1 :: us') := .cons r1 rr
    refine HT.cat_tup t1 t2 (by simp) (fun e => ⟨.ref a, H, I, rfl, k1 (by simp) (v2.nil_iff.mp e)⟩) (fun e => ?_) (by rw [← w1.length, ← v2.length]; exact hz)
    exact ⟨.ref s.heap.objs.size, _, Inv.tlay (tk := s.toks) I (w1.append v2) (by rw [List.length_append]; exact hz), rfl, k2 (by simp) (fun w => e (v2.nil_iff.mpr w)) _ _ I.fresh ⟨rfl, rfl⟩⟩
/-- t[lo:hi] -/
def rSlZ (K : PySem.W.Frag) : V → Option Int → Option Int → Hp → VK → Prop := fun x lo hi H Q => ∃ a zs, x = .ref a ∧ SqT K H a zs ∧
  (HT.sIx zs.length 0 lo = 0 ∧ HT.sIx zs.length zs.length hi = zs.length → Q (.ref a) H) ∧ (¬ (HT.sIx zs.length 0 lo = 0 ∧ HT.sIx zs.length zs.length hi = zs.length) → NewT H (cutV zs lo hi) Q)
theorem sl_tupZ : SlR X (rSlZ X.K) := by
  rintro pins s σ H x v vl vu lo hi sl Q I rx hs pl pu ⟨a, zs, rfl, ha, k1, k2⟩
  by_cases hw : HT.sIx zs.length 0 lo = 0 ∧ HT.sIx zs.length zs.length hi = zs.length
  · exact sl_tupA pins s σ H _ v vl vu lo hi sl Q I rx hs pl pu ⟨a, zs, rfl, ha, k1, fun n => absurd hw n⟩
  · cases rx
    obtain ⟨us, hv, ht, hz⟩ := I.tuple ha
    have e : us.toArray.size = zs.length := by rw [List.size_toArray]; exact hv.length.symm
    refine ⟨"tuple", _, PyProof.Rows.slot_tuple_getitem.lookup, ht.typeIs, HT.getItem_tuple_cut ht hs pl pu (by rw [e]; exact hw) ?_ (by rw [e]; exact hz)⟩
    rw [e]
    exact ⟨.ref s.heap.objs.size, _, Inv.tlay (tk := s.toks) I ((hv.drop (HT.sIx zs.length 0 lo)).take (HT.sIx zs.length zs.length hi - HT.sIx zs.length 0 lo)) (Nat.le_trans (cutV_length zs lo hi) hz), rfl, k2 hw _ _ I.fresh ⟨rfl, rfl⟩⟩
/-- tuple(x) -/
theorem call_tupZ : CallR X (.type "tuple") (fun xs H Q => ∃ p ys, xs = [.ref p] ∧ ((SqL X.K H p ys ∧ NewT H ys Q) ∨ (SqT X.K H p ys ∧ Q (.ref p) H))) := by
  rintro pins s σ H xs us Q I r ⟨p, ys, rfl, ⟨hq, k⟩ | h⟩
  · obtain ⟨u, rfl, rx⟩ := vals1 r
    cases rx
    obtain ⟨its, hv, pl, hz⟩ := I.list hq
    refine call_tuple_list pl.isList (fun h' kp => ?_) (by rw [List.size_toArray, ← hv.length]; exact hz)
    have J : L2.Inv X pins σ H { s with heap := h' } := I.kept (t' := s.toks) kp
    exact ⟨.ref h'.objs.size, _, Inv.tlay (tk := s.toks) J hv hz, rfl, k _ _ J.fresh ⟨rfl, rfl⟩⟩
  · exact call_tuple_of pins s σ H _ us Q I r ⟨p, ys, rfl, .inr h⟩
/-- t.m(e ..), t a tuple whose object is known -/
def tTM (K : PySem.W.Frag) (r : V → List V → Hp → VK → Prop) (to : TE) (t : TA) : TE := fun σ H Q => to σ H fun x H1 => (∃ a, x = .ref a ∧ ((∃ o zs, H1 a = some (.frz o (.tup zs)) ∧ TO o) ∨ ∃ o, K.lookup a = some o ∧ TO o)) ∧ t σ H1 fun xs H2 => r x xs H2 Q
theorem pe_tm {o e : Expr} {to : TE} {name : Str} {apos cpos : Pos} {id : String} {r : V → List V → Hp → VK → Prop} (slot : Slot "tuple" name id) (hty : typeOf (.builtin id) = pure (.type "method_descriptor")) (hm : MtR X id r) (ho : PE X o to) (ha : PA X (e :: es) t)
    (h1 : attributeBase o name X.env (eval o X.env) = eval o X.env := by rfl)
    (h2 : ((backTo cpos (starEach (e :: es) X.env)).all (!·.1) && (backToKw cpos (keywordEach [] X.env)).all (·.1.isSome) && decide ((e :: es).length + ([] : List Keyword).length + (if ([] : List Keyword).isEmpty then 0 else 1) < 30)) = true := by rfl)
    (h3 : (apos.endLine == cpos.line) = true := by rfl) (h4 : starEach (e :: es) X.env = (false, eval e X.env) :: starEach es X.env := by rfl) (h5 : (backTo cpos (starEach es X.env)).any (·.1) = false := by rfl) :
    PE X (.Call (.Attribute o name apos) (e :: es) [] cpos) (tTM X.K r to t) := by
  refine ⟨fun pins s σ H Q I h => wpAny_Call_method_late h1 h2 h3 rfl (thn (ho.run pins s σ H _ I h) fun v s1 ⟨x, H1, I1, r1, ty, k⟩ => ?_)⟩
  obtain ⟨a, rfl, ty⟩ := ty
  have hv : v = .ref a := r1
  subst hv
  have fact : ∃ ob, s1.heap.get? a = some ob ∧ ob.cls = .type "tuple" ∧ ob.dict = none := by
    rcases ty with ⟨o, zs, q, c⟩ | ⟨o, q, c⟩
    · exact ⟨o, (I1.hok a _ q).1, c⟩
    · exact ⟨o, I1.kIn a o q, c⟩
  obtain ⟨ob, f1, f2, f3⟩ := fact
  refine ⟨"tuple", id, PySem.F.plainAttrs_tuple, slot, hty, ⟨ob, f1, f2⟩, fun b z => by cases z; exact ⟨ob, f1, f3⟩, ?_⟩
  have hA := ha.run cpos pins s1 σ H1 _ I1 k
  rw [h4] at hA ⊢
  refine Calls.callWith_builtin (show (false || (backTo cpos (starEach es X.env)).any (·.1)) = false by rw [h5]; rfl) (Calls.evalArgs_plain ?_)
  exact thn hA fun us s2 ⟨ws, H2, I2, r2, k2⟩ => hm pins s2 σ H2 _ ws _ us Q I2 r1 r2 k2
end
end KK

/-! ## The data side: values, mutable objects, ends -/
namespace KK
open PySem PySem.Spec PyProof.Rows L2

inductive D where
  | non | bl (b : Bool) | int (i : Int) | str (x : Str)
  | tup (xs : List D) | lst (xs : List D) | dct (kvs : List (D × D))
  | obj (i : Nat) | fn (i : Nat) | cls (i : Nat) | ty (n : String)
  | exc (c : Nat) (fs : List (Str × D)) | clo (i : Nat)
  | kl (xs : List D)
  | pr (xs : List D)

/-- a mutable object -/
inductive MO where
  | list (xs : List D)
  | dict (kvs : List (Str × D))
  | inst (c : Nat) (fs : List (Str × D))

/-- a local name: unbound, a value, a list (dict) of its own -/
inductive Sl where
  | non | val (d : D) | own (ds : List D) | ownd (kvs : List (D × D))

abbrev LL := List Sl
abbrev MM := List MO

/-- an error: its class, its field -/
structure Er where
  c : Nat
  v : D

inductive Rx where
  | ok (d : D) (L : LL) (M : MM) | err (x : Er) (L : LL) (M : MM) | stk
/-- an expression's meaning -/
abbrev MX := LL → MM → Rx
inductive Ou where
  | nx (L : LL) (M : MM) | ret (d : D) (M : MM) | bk (L : LL) (M : MM) | ct (L : LL) (M : MM) | err (x : Er) (L : LL) (M : MM) | stk
/-- a statement's meaning -/
abbrev MS := LL → MM → Ou
inductive Fr where
  | ok (d : D) (M : MM) | err (x : Er) (M : MM) | stk
/-- a def's meaning -/
abbrev MF := List D → MM → Fr

def Rx.bind (r : Rx) (k : D → MX) : Rx := match r with
  | .ok d L M => k d L M
  | .err x L M => .err x L M
  | .stk => .stk

structure Gb where
  K : PySem.W.Frag
  fa : Nat → Addr
  ca : Nat → Addr
  T : List (Addr × Str)

/-- a key of a dict, as data -/
def kD : Key → D
  | .inl i => .int i
  | .inr x => .str x

/-- an exception's object -/
def XO (cls : Value) (dd : Option Addr) (a : Addr) : HO := .ext fun h => ∃ (oe : Obj) (vs : Array Value), h.get? a = some oe ∧ Zc cls dd oe ∧ oe.data = .fields vs
/-- a frozen thing -/
def Fz (H : Hp) (a : Addr) (u : HO) : Prop := ∃ o, H a = some (.frz o u)
/-- a list that stays as it is -/
def FzL (K : PySem.W.Frag) (H : Hp) (a : Addr) (xs : List V) : Prop := Fz H a (.lst xs)
theorem FzL.sq {K : PySem.W.Frag} {H : Hp} {a : Addr} {xs : List V} (h : FzL K H a xs) : SqL K H a xs := by
  obtain ⟨o, h⟩ := h
  exact .inl (.inr ⟨o, h⟩)
theorem FzL.rd {K : PySem.W.Frag} {H : Hp} {a : Addr} {xs : List V} (h : FzL K H a xs) : Rd H a (.lst xs) := .inr h
/-- a list of the frame -/
def KlL (K : PySem.W.Frag) (a : Addr) (xs : List V) : Prop :=
    ∃ (o : Obj) (its : Array Value) (n : Nat), K.lookup a = some o ∧ o.cls = .type "list" ∧ o.dict = none ∧ o.data = .seq its n ∧ its.size ≤ sizeLine ∧ Vals xs its.toList  -- 0
theorem KlL.sq {K : PySem.W.Frag} {H : Hp} {a : Addr} {xs : List V} (h : KlL K a xs) : SqL K H a xs := .inr h
/-- a tuple -/
def TpL (K : PySem.W.Frag) (H : Hp) (a : Addr) (xs : List V) : Prop := (∃ o, H a = some (.frz o (.tup xs)) ∧ TO o) ∨
    ∃ (o : Obj) (its : Array Value) (n : Nat), K.lookup a = some o ∧ TO o ∧ o.data = .seq its n ∧ its.size ≤ sizeLine ∧ Vals xs its.toList
theorem TpL.sq {K : PySem.W.Frag} {H : Hp} {a : Addr} {xs : List V} (h : TpL K H a xs) : SqT K H a xs := by
  rcases h with ⟨o, h, _⟩ | ⟨o, its, n, h1, h2, h3⟩
  · exact .inl (.inr ⟨o, h⟩)
  · exact .inr ⟨o, its, n, h1, h2.1, h3⟩

mutual
inductive R (G : Gb) (ρ : List Addr) (H : Hp) : D → V → Prop
  | non : R G ρ H .non .non
  | bl (b : Bool) : R G ρ H (.bl b) (.bl b)
  | int (i : Int) : R G ρ H (.int i) (.int i)
  | str (x : Str) : R G ρ H (.str x) (.str x)
  | tup {a : Addr} {ds : List D} {vs : List V} : TpL G.K H a vs → Rs G ρ H ds vs → R G ρ H (.tup ds) (.ref a)
  | lst {a : Addr} {ds : List D} {vs : List V} : FzL G.K H a vs → Rs G ρ H ds vs → R G ρ H (.lst ds) (.ref a)
  | pr {a : Addr} {ds : List D} {vs : List V} : H a = some (.tup vs) → Rs G ρ H ds vs → R G ρ H (.pr ds) (.ref a)
  | kl {a : Addr} {ds : List D} {vs : List V} : KlL G.K a vs → Rs G ρ H ds vs → R G ρ H (.kl ds) (.ref a)
  | dctK {a : Addr} {ks : List Key} {ds : List D} {vs : List V} : Fz H a (.dK (ks.zip vs)) → ks.length = vs.length → Rs G ρ H ds vs → R G ρ H (.dct ((ks.map kD).zip ds)) (.ref a)
  | dctT {a : Addr} {ks : List (List Key)} {ds : List D} {vs : List V} : Fz H a (.dT (ks.zip vs)) → ks.length = vs.length → Rs G ρ H ds vs → R G ρ H (.dct ((ks.map fun k => D.tup (k.map kD)).zip ds)) (.ref a)
  | obj {i : Nat} {a : Addr} : ρ[i]? = some a → R G ρ H (.obj i) (.ref a)
  | fn (i : Nat) : R G ρ H (.fn i) (.ref (G.fa i))
  | cls (i : Nat) : R G ρ H (.cls i) (.ref (G.ca i))
  | ty (n : String) : R G ρ H (.ty n) (.ty n)
  | exc0 {a : Addr} {c : Nat} : H a = some (XO (.ref (G.ca c)) none a) → R G ρ H (.exc c []) (.ref a)
  | exc1 {a d : Addr} {c : Nat} {f : Str} {v : D} {z : V} : H a = some (XO (.ref (G.ca c)) (some d) a) → H d = some (.xd [(f, z)]) → R G ρ H v z → R G ρ H (.exc c [(f, v)]) (.ref a)
inductive Rs (G : Gb) (ρ : List Addr) (H : Hp) : List D → List V → Prop
  | nil : Rs G ρ H [] []
  | cons {d : D} {ds : List D} {v : V} {vs : List V} : R G ρ H d v → Rs G ρ H ds vs → Rs G ρ H (d :: ds) (v :: vs)
end

/-- what never changes once it is tracked -/
def stb : HO → Bool
  | .tup _ => true
  | .frz _ _ => true
  | .ext _ => true
  | .xd _ => true
  | _ => false
def Ext (H H' : Hp) : Prop := ∀ a o, H a = some o → stb o = true → H' a = some o
theorem Ext.refl (H : Hp) : Ext H H := fun _ _ h _ => h
theorem Ext.trans {H H1 H2 : Hp} (a : Ext H H1) (b : Ext H1 H2) : Ext H H2 := fun c o h s => b c o (a c o h s) s
theorem Ext.of {H H' : Hp} (e : ∀ b o, H b = some o → H' b = some o) : Ext H H' := fun b o h _ => e b o h
theorem FzL.ext {K : PySem.W.Frag} {H H' : Hp} {a : Addr} {xs : List V} (h : FzL K H a xs) (e : Ext H H') : FzL K H' a xs := by
  obtain ⟨o, h⟩ := h
  exact ⟨o, e _ _ h rfl⟩
theorem TpL.ext {K : PySem.W.Frag} {H H' : Hp} {a : Addr} {xs : List V} (h : TpL K H a xs) (e : Ext H H') : TpL K H' a xs := by
  rcases h with ⟨o, h, k⟩ | h
  · exact .inl ⟨o, e _ _ h rfl, k⟩
  · exact .inr h

theorem pre_get {ρ ρ' : List Addr} (h : ρ <+: ρ') {i : Nat} {a : Addr} (e : ρ[i]? = some a) : ρ'[i]? = some a := by
  obtain ⟨t, rfl⟩ := h
  rw [List.getElem?_append_left (List.getElem?_eq_some_iff.mp e).1]
  exact e

section
variable {G : Gb} {ρ ρ' : List Addr} {H H' : Hp}
mutual
theorem R.mono (hp : ρ <+: ρ') (e : Ext H H') : ∀ {d : D} {v : V}, R G ρ H d v → R G ρ' H' d v
  | _, _, .non => .non
  | _, _, .bl b => .bl b
  | _, _, .int b => .int b
  | _, _, .str b => .str b
  | _, _, .tup t r => .tup (t.ext e) (Rs.mono hp e r)
  | _, _, .lst t r => .lst (t.ext e) (Rs.mono hp e r)
  | _, _, .pr t r => .pr (e _ _ t rfl) (Rs.mono hp e r)
  | _, _, .kl t r => .kl t (Rs.mono hp e r)
  | _, _, .dctK ⟨o, t⟩ l r => .dctK ⟨o, e _ _ t rfl⟩ l (Rs.mono hp e r)
  | _, _, .dctT ⟨o, t⟩ l r => .dctT ⟨o, e _ _ t rfl⟩ l (Rs.mono hp e r)
  | _, _, .obj t => .obj (pre_get hp t)
  | _, _, .fn i => .fn i
  | _, _, .cls i => .cls i
  | _, _, .ty i => .ty i
  | _, _, .exc0 h => .exc0 (e _ _ h rfl)
  | _, _, .exc1 h k r => .exc1 (e _ _ h rfl) (e _ _ k rfl) (R.mono hp e r)
theorem Rs.mono (hp : ρ <+: ρ') (e : Ext H H') : ∀ {ds : List D} {vs : List V}, Rs G ρ H ds vs → Rs G ρ' H' ds vs
  | _, _, .nil => .nil
  | _, _, .cons r t => .cons (R.mono hp e r) (Rs.mono hp e t)
end
theorem Rs.length : ∀ {ds : List D} {vs : List V}, Rs G ρ H ds vs → ds.length = vs.length
  | _, _, .nil => rfl
  | _, _, .cons _ t => congrArg (· + 1) (Rs.length t)
theorem Rs.get : ∀ {ds : List D} {vs : List V} {i : Nat} {d : D}, Rs G ρ H ds vs → ds[i]? = some d → ∃ v, vs[i]? = some v ∧ R G ρ H d v
  | _, _, _, _, .nil, e => by simp at e  -- 1
  | _, _, 0, _, .cons r _, e => by simp at e; subst e; exact ⟨_, rfl, r⟩  -- 2
  | _, _, i + 1, _, .cons _ t, e => by
    obtain ⟨v, h1, h2⟩ := Rs.get (i := i) t (by simpa using e)
    exact ⟨v, by simpa using h1, h2⟩
theorem Rs.get' : ∀ {ds : List D} {vs : List V} {i : Nat} {v : V}, Rs G ρ H ds vs → vs[i]? = some v → ∃ d, ds[i]? = some d ∧ R G ρ H d v
  | _, _, _, _, .nil, e => by simp at e  -- 3
  | _, _, 0, _, .cons r _, e => by simp at e; subst e; exact ⟨_, rfl, r⟩  -- 4
  | _, _, i + 1, _, .cons _ t, e => by
    obtain ⟨v, h1, h2⟩ := Rs.get' (i := i) t (by simpa using e)
    exact ⟨v, by simpa using h1, h2⟩
theorem Rs.append : ∀ {ds es : List D} {vs us : List V}, Rs G ρ H ds vs → Rs G ρ H es us → Rs G ρ H (ds ++ es) (vs ++ us)
  | _, _, _, _, .nil, s => s
  | _, _, _, _, .cons r t, s => .cons r (Rs.append t s)
theorem Rs.take : ∀ {ds : List D} {vs : List V} (n : Nat), Rs G ρ H ds vs → Rs G ρ H (ds.take n) (vs.take n)
  | _, _, 0, _ => .nil
  | _, _, _ + 1, .nil => .nil
  | _, _, n + 1, .cons r t => .cons r (Rs.take n t)
theorem Rs.drop : ∀ {ds : List D} {vs : List V} (n : Nat), Rs G ρ H ds vs → Rs G ρ H (ds.drop n) (vs.drop n)
  | _, _, 0, r => r
  | _, _, _ + 1, .nil => .nil
  | _, _, n + 1, .cons _ t => Rs.drop n t
theorem Rs.set {d : D} {v : V} (r : R G ρ H d v) : ∀ {ds : List D} {vs : List V} (i : Nat), Rs G ρ H ds vs → Rs G ρ H (ds.set i d) (vs.set i v)
  | _, _, _, .nil => .nil
  | _, _, 0, .cons _ t => .cons r t  -- 5
  | _, _, i + 1, .cons q t => .cons q (Rs.set r i t)
theorem Rs.eraseIdx : ∀ {ds : List D} {vs : List V} (i : Nat), Rs G ρ H ds vs → Rs G ρ H (ds.eraseIdx i) (vs.eraseIdx i)
  | _, _, _, .nil => .nil
  | _, _, 0, .cons _ t => t
  | _, _, i + 1, .cons q t => .cons q (Rs.eraseIdx i t)
theorem Rs.reverse : ∀ {ds : List D} {vs : List V}, Rs G ρ H ds vs → Rs G ρ H ds.reverse vs.reverse
  | _, _, .nil => .nil
  | _, _, .cons q t => by
    rw [List.reverse_cons, List.reverse_cons]  -- 6
    exact (Rs.reverse t).append (.cons q .nil)
end

/-! ### objects, slots, states -/
def Ro (G : Gb) (ρ : List Addr) (H : Hp) (a : Addr) : MO → Prop
  | .list ds => ∃ vs, H a = some (.lst vs) ∧ Rs G ρ H ds vs
  | .dict kvs => ∃ vs, H a = some (.dK ((kvs.map fun p => Sum.inr p.1).zip vs)) ∧ Rs G ρ H (kvs.map (·.2)) vs
  | .inst c fs => ∃ dx vs, H a = some (.ins (G.ca c) dx ((fs.map (·.1)).zip vs)) ∧ Rs G ρ H (fs.map (·.2)) vs
def Rsl (G : Gb) (ρ : List Addr) (H : Hp) : Sl → Option V → Prop
  | .non, _ => True
  | .val d, some v => R G ρ H d v
  | .own ds, some (.ref a) => ∃ vs, H a = some (.lst vs) ∧ Rs G ρ H ds vs
  | .ownd kvs, some (.ref a) => (∃ (ks : List Key) (vs : List V) (ds : List D), H a = some (.dK (ks.zip vs)) ∧ ks.length = vs.length ∧ Rs G ρ H ds vs ∧ kvs = (ks.map kD).zip ds) ∨
      (∃ (ks : List (List Key)) (vs : List V) (ds : List D), H a = some (.dT (ks.zip vs)) ∧ ks.length = vs.length ∧ Rs G ρ H ds vs ∧ kvs = (ks.map fun k => D.tup (k.map kD)).zip ds)
  | _, _ => False
def ownH : Sl → Option V → List Addr
  | .own _, some (.ref a) => [a]
  | .ownd _, some (.ref a) => [a]
  | _, _ => []
def ownA : LL → L2.St → List Addr
  | s :: L, o :: σ => ownH s o ++ ownA L σ
  | _, _ => []
inductive RL (G : Gb) (ρ : List Addr) (H : Hp) : LL → L2.St → Prop
  | nil : RL G ρ H [] []
  | cons {s : Sl} {o : Option V} {L : LL} {σ : L2.St} : Rsl G ρ H s o → RL G ρ H L σ → RL G ρ H (s :: L) (o :: σ)
structure Rl (G : Gb) (ρ : List Addr) (H : Hp) (L : LL) (σ : L2.St) (M : MM) : Prop where
  sl : RL G ρ H L σ
  nd : (ownA L σ ++ ρ).Nodup
  len : ρ.length = M.length
  ob : ∀ (i : Nat) (o : MO), M[i]? = some o → ∃ a, ρ[i]? = some a ∧ Ro G ρ H a o
  tb : LamX.Tabs G.T H
/-- nothing stands there, or a table -/
def Nw (H : Hp) (a : Addr) : Prop := ∀ o, H a = some o → ∃ ps, o = .tbl ps
theorem Nw.none {H : Hp} {a : Addr} (h : H a = none) : Nw H a := fun o e => by rw [h] at e; cases e
theorem Nw.ne {H : Hp} {a b : Addr} {o : HO} (n : Nw H a) (e : H b = some o) (h : ∀ ps, o ≠ .tbl ps) : b ≠ a := fun z => by
  subst z
  obtain ⟨ps, q⟩ := n _ e
  exact h ps q
/-- a step from one state to a later one; O: the addresses of one's own lists -/
structure Stp (ρ : List Addr) (H : Hp) (O : List Addr) (ρ' : List Addr) (H' : Hp) (O' : List Addr) : Prop where
  pre : ρ <+: ρ'
  ext : Ext H H'
  keep : ∀ a o, H a = some o → a ∉ ρ → a ∉ O → (∀ ps, o ≠ .tbl ps) → H' a = some o
  new : ∀ a ∈ ρ', a ∈ ρ ∨ Nw H a
  there : ∀ a, Nw H' a → Nw H a
  own : ∀ a ∈ O', a ∈ O ∨ Nw H a
theorem Stp.refl {ρ : List Addr} {H : Hp} {O : List Addr} : Stp ρ H O ρ H O := ⟨List.prefix_refl _, Ext.refl _, fun _ _ h _ _ _ => h, fun _ h => .inl h, fun _ h => h, fun _ h => .inl h⟩
theorem Stp.trans {ρ ρ1 ρ2 : List Addr} {H H1 H2 : Hp} {O O1 O2 : List Addr} (a : Stp ρ H O ρ1 H1 O1) (b : Stp ρ1 H1 O1 ρ2 H2 O2) : Stp ρ H O ρ2 H2 O2 where
  pre := a.pre.trans b.pre
  ext := a.ext.trans b.ext
  keep := fun c o h hr ho nt => b.keep c o (a.keep c o h hr ho nt) (fun z => (a.new c z).elim hr fun q => q.ne h nt rfl) (fun z => (a.own c z).elim ho fun q => q.ne h nt rfl) nt
  new := fun c h => (b.new c h).elim (a.new c) fun q => .inr (a.there c q)
  there := fun c h => a.there c (b.there c h)
  own := fun c h => (b.own c h).elim (a.own c) fun q => .inr (a.there c q)

section
variable {G : Gb} {ρ ρ' : List Addr} {H H' : Hp} {L : LL} {σ : L2.St} {M : MM}
theorem Ro.grow (e : ∀ b o, H b = some o → H' b = some o) {a : Addr} {o : MO} (r : Ro G ρ H a o) : Ro G ρ H' a o := by
  cases o with
  | list ds => obtain ⟨vs, h, r⟩ := r; exact ⟨vs, e _ _ h, r.mono (List.prefix_refl _) (Ext.of e)⟩
  | dict kvs => obtain ⟨vs, h, r⟩ := r; exact ⟨vs, e _ _ h, r.mono (List.prefix_refl _) (Ext.of e)⟩
  | inst c fs => obtain ⟨dx, vs, h, r⟩ := r; exact ⟨dx, vs, e _ _ h, r.mono (List.prefix_refl _) (Ext.of e)⟩
theorem Rsl.grow (e : ∀ b o, H b = some o → H' b = some o) {s : Sl} {o : Option V} (r : Rsl G ρ H s o) : Rsl G ρ H' s o := by
  cases s with
  | non => exact True.intro
  | val d => cases o with
    | none => exact r
    | some v => exact R.mono (List.prefix_refl _) (Ext.of e) r
  | own ds => cases o with
    | none => exact r
    | some v => cases v with
      | ref a => obtain ⟨vs, h, r⟩ := r; exact ⟨vs, e _ _ h, r.mono (List.prefix_refl _) (Ext.of e)⟩
      | _ => exact r
  | ownd ds => cases o with
    | none => exact r
    | some v => cases v with
      | ref a =>
        rcases r with ⟨ks, vs, ds, h, l, r, q⟩ | ⟨ks, vs, ds, h, l, r, q⟩
        · exact .inl ⟨ks, vs, ds, e _ _ h, l, r.mono (List.prefix_refl _) (Ext.of e), q⟩
        · exact .inr ⟨ks, vs, ds, e _ _ h, l, r.mono (List.prefix_refl _) (Ext.of e), q⟩
      | _ => exact r
theorem RL.grow (e : ∀ b o, H b = some o → H' b = some o) : ∀ {L : LL} {σ : L2.St}, RL G ρ H L σ → RL G ρ H' L σ
  | _, _, .nil => .nil
  | _, _, .cons r t => .cons (r.grow e) (RL.grow e t)
/-- more is tracked -/
theorem Rl.grow (r : Rl G ρ H L σ M) (e : ∀ b o, H b = some o → H' b = some o) : Rl G ρ H' L σ M :=
  ⟨r.sl.grow e, r.nd, r.len, fun i o h => let ⟨a, h1, h2⟩ := r.ob i o h; ⟨a, h1, h2.grow e⟩, r.tb.ext e⟩
theorem Stp.grow {O : List Addr} (e : ∀ b o, H b = some o → H' b = some o) : Stp ρ H O ρ H' O :=
  ⟨List.prefix_refl _, Ext.of e, fun _ _ h _ _ _ => e _ _ h, fun _ h => .inl h, fun a h => (fun o q => h o (e a o q)), fun _ h => .inl h⟩
theorem upd_grow {p : Addr} {o : HO} (h : H p = none) : ∀ b u, H b = some u → upd H p o b = some u := fun b u e => by
  rw [upd_ne (ne_of_none e h)]; exact e
theorem RL.get : ∀ {L : LL} {σ : L2.St} {i : Nat} {s : Sl}, RL G ρ H L σ → L[i]? = some s → ∃ o, σ[i]? = some o ∧ Rsl G ρ H s o
  | _, _, _, _, .nil, e => by simp at e  -- 7
  | _, _, 0, _, .cons r _, e => by simp at e; subst e; exact ⟨_, rfl, r⟩  -- 8
  | _, _, i + 1, s, .cons _ t, e => by
    obtain ⟨o, h1, h2⟩ := RL.get (i := i) (s := s) t (by simpa using e)
    exact ⟨o, by simpa using h1, h2⟩
theorem RL.val (r : RL G ρ H L σ) {i : Nat} {d : D} (e : L[i]? = some (.val d)) : ∃ v, σ[i]? = some (some v) ∧ R G ρ H d v := by
  obtain ⟨o, h1, h2⟩ := RL.get r e
  cases o with
  | none => exact h2.elim
  | some v => exact ⟨v, h1, h2⟩
theorem RL.len : ∀ {L : LL} {σ : L2.St}, RL G ρ H L σ → L.length = σ.length
  | _, _, .nil => rfl
  | _, _, .cons _ t => congrArg (· + 1) (RL.len t)
end

/-! ### what is asked of an end -/
/-- an error as the layer tells it -/
def REr (G : Gb) (ρ : List Addr) (H : Hp) (xn : Nat → Option Str) (x : Er) (cls : Value) (dd : Option Addr) : Prop :=
  cls = .ref (G.ca x.c) ∧ match xn x.c with
    | none => x.v = .non ∧ dd = none
    | some f => ∃ d z, dd = some d ∧ H d = some (.xd [(f, z)]) ∧ R G ρ H x.v z
section
variable (G : Gb) (xn : Nat → Option Str) (W : WX)
def XP (ρ : List Addr) (H : Hp) (L : LL) (σ : L2.St) (r : Rx) (Q : VK) : Prop := match r with
  | .ok d L' M' => ∀ ρ' H' v, Stp ρ H (ownA L σ) ρ' H' (ownA L' σ) → Rl G ρ' H' L' σ M' → R G ρ' H' d v → Q v H'
  | .err x L' M' => ∀ ρ' H' cls dd, Stp ρ H (ownA L σ) ρ' H' (ownA L' σ) → Rl G ρ' H' L' σ M' → REr G ρ' H' xn x cls dd → W cls dd σ H'
  | .stk => False
/-- a meaning's reading -/
def tX (m : MX) : TE := fun σ H Q => ∃ ρ L M, Rl G ρ H L σ M ∧ XP G xn W ρ H L σ (m L M) Q
end
theorem XP.shift {G : Gb} {xn : Nat → Option Str} {W : WX} {ρ ρ1 : List Addr} {H H1 : Hp} {L L1 : LL} {σ : L2.St} {r : Rx} {Q : VK} (h : XP G xn W ρ H L σ r Q) (s : Stp ρ H (ownA L σ) ρ1 H1 (ownA L1 σ)) : XP G xn W ρ1 H1 L1 σ r Q := by
  cases r with
  | ok d L' M' => exact fun ρ' H' v s' => h ρ' H' v (s.trans s')
  | err x L' M' => exact fun ρ' H' cls dd s' => h ρ' H' cls dd (s.trans s')
  | stk => exact h
theorem XP.mono {G : Gb} {xn : Nat → Option Str} {W : WX} {ρ : List Addr} {H : Hp} {L : LL} {σ : L2.St} {r : Rx} {Q Q' : VK} (h : XP G xn W ρ H L σ r Q) (k : ∀ v H', Q v H' → Q' v H') : XP G xn W ρ H L σ r Q' := by
  cases r with
  | ok d L' M' => exact fun ρ' H' v s' a b => k _ _ (h ρ' H' v s' a b)
  | err x L' M' => exact h
  | stk => exact h
/-- what is known behind the first of two -/
def Bt (G : Gb) (xn : Nat → Option Str) (W : WX) (ρ : List Addr) (H : Hp) (L : LL) (σ : L2.St) (k : D → MX) (Q : VK) (v : V) (H1 : Hp) : Prop :=
  ∃ ρ1 L1 M1 d, Stp ρ H (ownA L σ) ρ1 H1 (ownA L1 σ) ∧ Rl G ρ1 H1 L1 σ M1 ∧ R G ρ1 H1 d v ∧ XP G xn W ρ1 H1 L1 σ (k d L1 M1) Q
theorem XP.bind {G : Gb} {xn : Nat → Option Str} {W : WX} {ρ : List Addr} {H : Hp} {L : LL} {σ : L2.St} {r : Rx} {k : D → MX} {Q : VK} (h : XP G xn W ρ H L σ (r.bind k) Q) : XP G xn W ρ H L σ r (Bt G xn W ρ H L σ k Q) := by
  cases r with
  | ok d L' M' => exact fun ρ' H' v s a b => ⟨ρ', L', M', d, s, a, b, XP.shift (r := k d L' M') h s⟩
  | err x L' M' => exact h
  | stk => exact h
theorem R.step {G : Gb} {ρ ρ' : List Addr} {H H' : Hp} {O O' : List Addr} {d : D} {v : V} (r : R G ρ H d v) (s : Stp ρ H O ρ' H' O') : R G ρ' H' d v := r.mono s.pre s.ext
theorem Rs.step {G : Gb} {ρ ρ' : List Addr} {H H' : Hp} {O O' : List Addr} {d : List D} {v : List V} (r : Rs G ρ H d v) (s : Stp ρ H O ρ' H' O') : Rs G ρ' H' d v := r.mono s.pre s.ext
end KK

namespace KK
open PySem PySem.Spec PyProof.Rows L2

theorem PE.imp {X : Cx} {e : Expr} {t t' : TE} (h : PE X e t) (k : ∀ σ H Q, t' σ H Q → t σ H Q) : PE X e t' := ⟨fun pins s σ H Q I q => h.run pins s σ H Q I (k σ H Q q)⟩
theorem PT.imp {X : Cx} {e : Expr} {t t' : TT} (h : PT X e t) (k : ∀ σ H Q, t' σ H Q → t σ H Q) : PT X e t' := ⟨fun pins s σ H Q I q => h.run pins s σ H Q I (k σ H Q q)⟩
theorem PA.imp {X : Cx} {e : List Expr} {t t' : TA} (h : PA X e t) (k : ∀ σ H Q, t' σ H Q → t σ H Q) : PA X e t' := ⟨fun pos pins s σ H Q I q => h.run pos pins s σ H Q I (k σ H Q q)⟩
theorem PS.imp {X : Cx} {e : Stmt} {t t' : TS} (h : PS X e t) (k : ∀ D σ H, t' D σ H → t D σ H) : PS X e t' := ⟨fun pins s σ H Q I q => h.run pins s σ H Q I (k Q σ H q)⟩
theorem PSs.imp {X : Cx} {e : List Stmt} {t t' : TS} (h : PSs X e t) (k : ∀ D σ H, t' D σ H → t D σ H) : PSs X e t' := ⟨fun pins s σ H Q I q => h.run pins s σ H Q I (k Q σ H q)⟩
/-- a list may be frozen behind an expression -/
theorem PE.frz {X : Cx} {e : Expr} {t : TE} (h : PE X e t) : PE X e (fun σ H Q => t σ H fun v H1 => Q v H1 ∨ ∃ a u, v = .ref a ∧ H1 a = some u ∧ Mut (some u) ∧ ∀ o, Q v (upd H1 a (.frz o u))) := by
  refine ⟨fun pins s σ H Q I q => thn (h.run pins s σ H _ I q) fun v s1 ⟨x, H1, I1, r, q1⟩ => ?_⟩
  rcases q1 with q1 | ⟨a, u, rfl, ha, mu, q1⟩
  · exact ⟨x, H1, I1, r, q1⟩
  · obtain ⟨od, I2⟩ := I1.lock ha mu
    exact ⟨_, _, I2, r, q1 od⟩

/-! ### arguments -/
inductive Ra where
  | ok (ds : List D) (L : LL) (M : MM) | err (x : Er) (L : LL) (M : MM) | stk
abbrev MA := LL → MM → Ra
def Ra.bind (r : Ra) (k : List D → MX) : Rx := match r with
  | .ok d L M => k d L M
  | .err x L M => .err x L M
  | .stk => .stk
def nilA : MA := fun L M => .ok [] L M
def Ra.cons (d : D) (r : Ra) : Ra := match r with
  | .ok ds L M => .ok (d :: ds) L M
  | .err x L M => .err x L M
  | .stk => .stk
def consA (m : MX) (t : MA) : MA := fun L M => match m L M with
  | .ok d L1 M1 => (t L1 M1).cons d
  | .err x L1 M1 => .err x L1 M1
  | .stk => .stk
section
variable (G : Gb) (xn : Nat → Option Str) (W : WX)
def XA (ρ : List Addr) (H : Hp) (L : LL) (σ : L2.St) (r : Ra) (Q : List V → Hp → Prop) : Prop := match r with
  | .ok ds L' M' => ∀ ρ' H' vs, Stp ρ H (ownA L σ) ρ' H' (ownA L' σ) → Rl G ρ' H' L' σ M' → Rs G ρ' H' ds vs → Q vs H'
  | .err x L' M' => ∀ ρ' H' cls dd, Stp ρ H (ownA L σ) ρ' H' (ownA L' σ) → Rl G ρ' H' L' σ M' → REr G ρ' H' xn x cls dd → W cls dd σ H'
  | .stk => False
def tA (m : MA) : TA := fun σ H Q => ∃ ρ L M, Rl G ρ H L σ M ∧ XA G xn W ρ H L σ (m L M) Q
end
section
variable {G : Gb} {xn : Nat → Option Str} {W : WX} {ρ ρ1 : List Addr} {H H1 : Hp} {L L1 : LL} {σ : L2.St}
theorem XA.shift {r : Ra} {Q : List V → Hp → Prop} (h : XA G xn W ρ H L σ r Q) (s : Stp ρ H (ownA L σ) ρ1 H1 (ownA L1 σ)) : XA G xn W ρ1 H1 L1 σ r Q := by
  cases r with
  | ok d L' M' => exact fun ρ' H' v s' => h ρ' H' v (s.trans s')
  | err x L' M' => exact fun ρ' H' cls dd s' => h ρ' H' cls dd (s.trans s')
  | stk => exact h
def BtA (G : Gb) (xn : Nat → Option Str) (W : WX) (ρ : List Addr) (H : Hp) (L : LL) (σ : L2.St) (k : List D → MX) (Q : VK) (vs : List V) (H1 : Hp) : Prop :=
  ∃ ρ1 L1 M1 ds, Stp ρ H (ownA L σ) ρ1 H1 (ownA L1 σ) ∧ Rl G ρ1 H1 L1 σ M1 ∧ Rs G ρ1 H1 ds vs ∧ XP G xn W ρ1 H1 L1 σ (k ds L1 M1) Q
theorem XA.bind {r : Ra} {k : List D → MX} {Q : VK} (h : XP G xn W ρ H L σ (r.bind k) Q) : XA G xn W ρ H L σ r (BtA G xn W ρ H L σ k Q) := by
  cases r with
  | ok d L' M' => exact fun ρ' H' v s a b => ⟨ρ', L', M', d, s, a, b, XP.shift (r := k d L' M') h s⟩
  | err x L' M' => exact h
  | stk => exact h
end

section
variable {X : Cx} {G : Gb} {xn : Nat → Option Str} {W : WX} {e a b : Expr} {es : List Expr} {m ma mb : MX} {t : MA} {pos : Pos}
abbrev EX (X : Cx) (G : Gb) (xn : Nat → Option Str) (W : WX) (e : Expr) (m : MX) : Prop := PE X e (tX G xn W m)
abbrev EA (X : Cx) (G : Gb) (xn : Nat → Option Str) (W : WX) (es : List Expr) (m : MA) : Prop := PA X es (tA G xn W m)
theorem ea_nil : EA X G xn W [] nilA := PA.imp pa_nil fun σ H Q ⟨ρ, L, M, rl, h⟩ => h ρ H [] Stp.refl rl .nil
theorem ea_cons (he : EX X G xn W e m) (ht : EA X G xn W es t) (hs : starEach (e :: es) X.env = (false, eval e X.env) :: starEach es X.env := by rfl) : EA X G xn W (e :: es) (consA m t) := by
  refine PA.imp (pa_cons he ht hs) fun σ H Q ⟨ρ, L, M, rl, h⟩ => ?_
  refine ⟨ρ, L, M, rl, ?_⟩
  unfold consA at h
  cases e1 : m L M with
  | stk => rw [e1] at h; exact h
  | err x L1 M1 => rw [e1] at h; exact h
  | ok d L1 M1 =>
    rw [e1] at h
    dsimp only at h
    intro ρ1 H1 v s1 rl1 r1
    refine ⟨ρ1, L1, M1, rl1, ?_⟩
    cases e2 : t L1 M1 with
    | stk => rw [e2] at h; exact h
    | err x L2 M2 => rw [e2] at h; exact fun ρ' H' cls dd s' => h ρ' H' cls dd (s1.trans s')
    | ok ds L2 M2 =>
      rw [e2] at h
      exact fun ρ2 H2 vs s2 rl2 r2 => h ρ2 H2 (v :: vs) (s1.trans s2) rl2 (.cons (r1.step s2) r2)
end

/-! ### names, constants -/
def cst (d : D) : MX := fun L M => .ok d L M
def locM (i : Nat) : MX := fun L M => match L[i]? with
  | some (.val d) => .ok d L M
  | _ => .stk
section
variable {X : Cx} {G : Gb} {xn : Nat → Option Str} {W : WX} {pos : Pos} {j : Nat}
theorem ex_cst {e : Expr} {d : D} {v : V} (h : PE X e (tC v)) (r : ∀ ρ H, R G ρ H d v) : EX X G xn W e (cst d) := PE.imp h fun σ H Q ⟨ρ, L, M, rl, h⟩ => h ρ H v Stp.refl rl (r ρ H)
theorem ex_int {i : Int} : EX X G xn W (.Constant (.int i) j pos) (cst (.int i)) := ex_cst pe_int fun _ _ => .int i
theorem ex_bl {b : Bool} : EX X G xn W (.Constant (.bool b) j pos) (cst (.bl b)) := ex_cst pe_bl fun _ _ => .bl b
theorem ex_str {x : Str} : EX X G xn W (.Constant (.str x) j pos) (cst (.str x)) := ex_cst pe_str fun _ _ => .str x
theorem ex_non : EX X G xn W (.Constant .none j pos) (cst .non) := ex_cst pe_non fun _ _ => .non
theorem ex_glob {x : Str} {d : D} {v : V} {u : Value} (hm : X.mg x = some u) (r : RelV v u) (hR : ∀ ρ H, R G ρ H d v) (hg : Gl X x := by rfl) (hd : (x == ("__debug__" : Str)) = false := by decide +kernel) : EX X G xn W (.Name x pos) (cst d) := ex_cst (pe_glob hg hm r hd) hR
theorem ex_loc (i : Nat) {x : Str} (hN : X.N[i]? = some x := by rfl) (hv : Vis X.env.scope x := by first | exact Or.inl rfl | exact Or.inr (Or.inl rfl) | exact Or.inr (Or.inr rfl)) (hd : (x == ("__debug__" : Str)) = false := by decide +kernel)
    (hcd : (x == ("__classdict__" : Str)) = false := by decide +kernel) : EX X G xn W (.Name x pos) (locM i) := by
  refine PE.imp (pe_var hN hv hd hcd) fun σ H Q ⟨ρ, L, M, rl, h⟩ => ?_
  unfold locM at h
  split at h
  · rename_i d e
    obtain ⟨v, e1, r⟩ := rl.sl.val e
    exact ⟨v, e1, h ρ H v Stp.refl rl r⟩
  · exact h.elim
end

/-! ### operators -/
def binM (f : D → D → Option D) (ma mb : MX) : MX := fun L M => (ma L M).bind fun x L1 M1 => (mb L1 M1).bind fun y L2 M2 => match f x y with
  | some z => .ok z L2 M2
  | none => .stk
/-- what an operator does with values -/
def Op2 (G : Gb) (f : D → D → Option D) (r : V → V → Hp → VK → Prop) : Prop := ∀ (ρ : List Addr) (H : Hp) (L : LL) (σ : L2.St) (M : MM) (d e : D) (x y : V) (z : D) (Q : VK), Rl G ρ H L σ M → R G ρ H d x → R G ρ H e y → f d e = some z →
  (∀ H' v, (∀ b o, H b = some o → H' b = some o) → R G ρ H' z v → Q v H') → r x y H Q
section
variable {X : Cx} {G : Gb} {xn : Nat → Option Str} {W : WX} {a b : Expr} {ma mb : MX} {f : D → D → Option D} {r : V → V → Hp → VK → Prop}
theorem ex_op2 {e : Expr} (h : PE X e (tOp r (tX G xn W ma) (tX G xn W mb))) (o : Op2 G f r) : EX X G xn W e (binM f ma mb) := by
  refine PE.imp h fun σ H Q ⟨ρ, L, M, rl, h⟩ => ?_
  refine ⟨ρ, L, M, rl, XP.mono (XP.bind h) ?_⟩
  rintro x H1 ⟨ρ1, L1, M1, d, s1, rl1, r1, h1⟩
  refine ⟨ρ1, L1, M1, rl1, XP.mono (XP.bind h1) ?_⟩
  rintro y H2 ⟨ρ2, L2, M2, d2, s2, rl2, r2, h2⟩
  dsimp only at h2
  cases e : f d d2 with
  | none => rw [e] at h2; exact h2.elim
  | some z =>
    rw [e] at h2
    exact o ρ2 H2 L2 σ M2 d d2 x y z Q rl2 (r1.step s2) r2 e fun H' v g rz => h2 ρ2 H' v (Stp.grow g) (rl2.grow g) rz
theorem ex_bin {op : Operator} {pos : Pos} (ho : OpR X (binaryOp op) r) (o : Op2 G f r) (ha : EX X G xn W a ma) (hb : EX X G xn W b mb) : EX X G xn W (.BinOp a op b pos) (binM f ma mb) := ex_op2 (pe_op ho ha hb) o
theorem ex_cmp {op : CmpOp} {pos : Pos} (ho : OpR X (compareOp op) r) (o : Op2 G f r) (ha : EX X G xn W a ma) (hb : EX X G xn W b mb) (hm : behindInMarks op b = false) : EX X G xn W (.Compare a [op] [b] pos) (binM f ma mb) := ex_op2 (pe_cmpR ho ha hb hm) o
end

/-! ### tests -/
/-- truth by the value True or False -/
def bindB (r : Rx) (k : Bool → MX) : Rx := r.bind fun d L M => match d with
  | .bl b => k b L M
  | _ => .stk
def tT (G : Gb) (xn : Nat → Option Str) (W : WX) (m : MX) : TT := fun σ H Q => ∃ ρ L M, Rl G ρ H L σ M ∧ XP G xn W ρ H L σ (m L M) fun v H' => ∃ b, v = .bl b ∧ Q b H'
abbrev ET (X : Cx) (G : Gb) (xn : Nat → Option Str) (W : WX) (e : Expr) (m : MX) : Prop := PT X e (tT G xn W m)
abbrev EW (X : Cx) (G : Gb) (xn : Nat → Option Str) (W : WX) (e : Expr) (m : MX) : Prop := PW X e (tT G xn W m)
def notM (m : MX) : MX := fun L M => bindB (m L M) fun b => cst (.bl !b)
def andM (m n : MX) : MX := fun L M => bindB (m L M) fun b => if b then n else cst (.bl false)
def orM (m n : MX) : MX := fun L M => bindB (m L M) fun b => if b then cst (.bl true) else n
def iteM (m a b : MX) : MX := fun L M => bindB (m L M) fun c => if c then a else b
section
variable {X : Cx} {G : Gb} {xn : Nat → Option Str} {W : WX} {e a b : Expr} {m n ma mb : MX} {pos : Pos}
theorem XP.bindB {ρ : List Addr} {H : Hp} {L : LL} {σ : L2.St} {r : Rx} {k : Bool → MX} {Q : VK} (h : XP G xn W ρ H L σ (bindB r k) Q) : XP G xn W ρ H L σ r fun v H1 => ∃ c, v = .bl c ∧
    ∃ ρ1 L1 M1, Stp ρ H (ownA L σ) ρ1 H1 (ownA L1 σ) ∧ Rl G ρ1 H1 L1 σ M1 ∧ XP G xn W ρ1 H1 L1 σ (k c L1 M1) Q := by
  refine XP.mono (XP.bind h) ?_
  rintro v H1 ⟨ρ1, L1, M1, d, s1, rl1, r1, h1⟩
  cases r1 with
  | bl c => exact ⟨c, rfl, ρ1, L1, M1, s1, rl1, h1⟩
  | _ => exact h1.elim
theorem et_val (h : EX X G xn W e m) (he : ∀ whole, isTrue e X.env whole = (do let v ← whole; standAt e.pos; holding [v] (truthy v)) := by intro _; rfl) : ET X G xn W e m := PT.imp (pt_val h he) fun σ H Q ⟨ρ, L, M, rl, h⟩ => ⟨ρ, L, M, rl, XP.mono h fun v H' ⟨b, e, q⟩ => ⟨b, e, q⟩⟩
theorem ew_et (h : EW X G xn W e m) : ET X G xn W e m := PW.pt h
theorem et_not (h : ET X G xn W e m) : ET X G xn W (.UnaryOp .Not e pos) (notM m) := by
  refine PT.imp (pt_not h) fun σ H Q ⟨ρ, L, M, rl, h⟩ => ⟨ρ, L, M, rl, XP.mono (XP.bindB h) ?_⟩
  rintro v H1 ⟨c, rfl, ρ1, L1, M1, s1, rl1, h1⟩
  obtain ⟨b, e, q⟩ := h1 ρ1 H1 _ Stp.refl rl1 (.bl _)
  cases e
  exact ⟨c, rfl, q⟩
/-- a chain of and: the value is the last test's -/
theorem ew_and {p : Pos} {rest : List Expr} (ha : ET X G xn W a m) (hb : EW X G xn W (.BoolOp .And (b :: rest) p) n) : EW X G xn W (.BoolOp .And (a :: b :: rest) p) (andM m n) := by
  refine ⟨fun whole pins s σ H Q I h => (pw_and ha hb).run whole pins s σ H Q I ?_⟩
  obtain ⟨ρ, L, M, rl, h⟩ := h
  refine ⟨ρ, L, M, rl, XP.mono (XP.bindB h) ?_⟩
  rintro v H1 ⟨c, rfl, ρ1, L1, M1, s1, rl1, h1⟩
  refine ⟨c, rfl, ?_⟩
  cases c with
  | true => exact ⟨ρ1, L1, M1, rl1, h1⟩
  | false =>
    obtain ⟨b, e, q⟩ := h1 ρ1 H1 _ Stp.refl rl1 (.bl _)
    cases e
    exact q
theorem ew_or {p : Pos} {rest : List Expr} (ha : ET X G xn W a m) (hb : EW X G xn W (.BoolOp .Or (b :: rest) p) n) : EW X G xn W (.BoolOp .Or (a :: b :: rest) p) (orM m n) := by
  refine ⟨fun whole pins s σ H Q I h => (pw_or ha hb).run whole pins s σ H Q I ?_⟩
  obtain ⟨ρ, L, M, rl, h⟩ := h
  refine ⟨ρ, L, M, rl, XP.mono (XP.bindB h) ?_⟩
  rintro v H1 ⟨c, rfl, ρ1, L1, M1, s1, rl1, h1⟩
  refine ⟨c, rfl, ?_⟩
  cases c with
  | false => exact ⟨ρ1, L1, M1, rl1, h1⟩
  | true =>
    obtain ⟨b, e, q⟩ := h1 ρ1 H1 _ Stp.refl rl1 (.bl _)
    cases e
    exact q
theorem ew_one_and {p : Pos} (ha : ET X G xn W a m) : EW X G xn W (.BoolOp .And [a] p) m := pw_and1 ha
theorem ew_one_or {p : Pos} (ha : ET X G xn W a m) : EW X G xn W (.BoolOp .Or [a] p) m := pw_or1 ha
theorem ex_one {op} {p : Pos} (ha : EX X G xn W a m) : EX X G xn W (.BoolOp op [a] p) m := pe_one ha
theorem ex_and {p : Pos} {rest : List Expr} (ha : EX X G xn W a m) (hb : EX X G xn W (.BoolOp .And (b :: rest) p) n) : EX X G xn W (.BoolOp .And (a :: b :: rest) p) (andM m n) := by
  refine PE.imp (pe_and ha hb) fun σ H Q ⟨ρ, L, M, rl, h⟩ => ⟨ρ, L, M, rl, XP.mono (XP.bindB h) ?_⟩
  rintro v H1 ⟨c, rfl, ρ1, L1, M1, s1, rl1, h1⟩
  refine ⟨c, rfl, ?_⟩
  cases c with
  | true => exact ⟨ρ1, L1, M1, rl1, h1⟩
  | false => exact h1 ρ1 H1 _ Stp.refl rl1 (.bl _)
theorem ex_or {p : Pos} {rest : List Expr} (ha : EX X G xn W a m) (hb : EX X G xn W (.BoolOp .Or (b :: rest) p) n) : EX X G xn W (.BoolOp .Or (a :: b :: rest) p) (orM m n) := by
  refine PE.imp (pe_or ha hb) fun σ H Q ⟨ρ, L, M, rl, h⟩ => ⟨ρ, L, M, rl, XP.mono (XP.bindB h) ?_⟩
  rintro v H1 ⟨c, rfl, ρ1, L1, M1, s1, rl1, h1⟩
  refine ⟨c, rfl, ?_⟩
  cases c with
  | false => exact ⟨ρ1, L1, M1, rl1, h1⟩
  | true => exact h1 ρ1 H1 _ Stp.refl rl1 (.bl _)
theorem ex_not (h : EX X G xn W e m) : EX X G xn W (.UnaryOp .Not e pos) (notM m) := by
  refine PE.imp (pe_not h) fun σ H Q ⟨ρ, L, M, rl, h⟩ => ⟨ρ, L, M, rl, XP.mono (XP.bindB h) ?_⟩
  rintro v H1 ⟨c, rfl, ρ1, L1, M1, s1, rl1, h1⟩
  exact ⟨c, rfl, h1 ρ1 H1 _ Stp.refl rl1 (.bl _)⟩
theorem ex_ite {c : Expr} (hc : ET X G xn W c m) (ha : EX X G xn W a ma) (hb : EX X G xn W b mb) : EX X G xn W (.IfExp c a b pos) (iteM m ma mb) := by
  refine PE.imp (pe_ifExp hc ha hb) fun σ H Q ⟨ρ, L, M, rl, h⟩ => ⟨ρ, L, M, rl, XP.mono (XP.bindB h) ?_⟩
  rintro v H1 ⟨c, rfl, ρ1, L1, M1, s1, rl1, h1⟩
  refine ⟨c, rfl, ?_⟩
  cases c with
  | true => exact ⟨ρ1, L1, M1, rl1, h1⟩
  | false => exact ⟨ρ1, L1, M1, rl1, h1⟩
/-! ### displays -/
def tupM (t : MA) : MX := fun L M => (t L M).bind fun ds L M => if ds.length ≤ sizeLine then .ok (.tup ds) L M else .stk
theorem ex_tup {es : List Expr} {x1} {t : MA} (h : EA X G xn W es t) : EX X G xn W (.Tuple es x1 pos) (tupM t) := by
  refine PE.imp (pe_tupZ h) fun σ H Q ⟨ρ, L, M, rl, h⟩ => ⟨ρ, L, M, rl, ?_⟩
  have h2 := XA.bind h
  revert h2
  generalize t L M = r
  intro h2
  have mono : ∀ {r : Ra} {Q Q' : List V → Hp → Prop}, XA G xn W ρ H L σ r Q → (∀ v H', Q v H' → Q' v H') → XA G xn W ρ H L σ r Q' := fun {r Q Q'} h k => by
    cases r with
    | ok d L' M' => exact fun ρ' H' v s' a b => k _ _ (h ρ' H' v s' a b)
    | err x L' M' => exact h
    | stk => exact h
  refine mono h2 ?_
  rintro vs H1 ⟨ρ1, L1, M1, ds, s1, rl1, r1, h1⟩
  dsimp only at h1
  split at h1
  · rename_i hz
    refine ⟨by rw [← r1.length]; exact hz, fun p o hp ho => ?_⟩
    have g := upd_grow (o := .frz o (.tup vs)) hp
    exact h1 ρ1 _ _ (Stp.grow g) (rl1.grow g) (.tup (.inl ⟨o, upd_same, ho⟩) (r1.mono (List.prefix_refl _) (Ext.of g)))
  · exact h1.elim
end
end KK

namespace KK
open PySem PySem.Spec PyProof.Rows L2

/-! ### statements -/
section
variable (G : Gb) (xn : Nat → Option Str) (W : WX)
/-- an end is taken -/
def OP (ρ : List Addr) (H : Hp) (O : List Addr) (D : L2.Ends) (o : Ou) : Prop := match o with
  | .nx L' M' => ∀ ρ' H' σ', Stp ρ H O ρ' H' (ownA L' σ') → Rl G ρ' H' L' σ' M' → D.nx σ' H'
  | .ret d M' => ∀ ρ' H' σ' v, Stp ρ H O ρ' H' [] → Rl G ρ' H' [] σ' M' → R G ρ' H' d v → D.rt v H'
  | .bk L' M' => ∀ ρ' H' σ', Stp ρ H O ρ' H' (ownA L' σ') → Rl G ρ' H' L' σ' M' → D.bk σ' H'
  | .ct L' M' => ∀ ρ' H' σ', Stp ρ H O ρ' H' (ownA L' σ') → Rl G ρ' H' L' σ' M' → D.ct σ' H'
  | .err x L' M' => ∀ ρ' H' σ' cls dd, Stp ρ H O ρ' H' (ownA L' σ') → Rl G ρ' H' L' σ' M' → REr G ρ' H' xn x cls dd → W cls dd σ' H'
  | .stk => False
def tS (m : MS) : TS := fun D σ H => ∃ ρ L M, Rl G ρ H L σ M ∧ OP G xn W ρ H (ownA L σ) D (m L M)
end

section
variable {G : Gb} {xn : Nat → Option Str} {W : WX} {ρ ρ1 : List Addr} {H H1 : Hp} {O O1 : List Addr} {Z : L2.Ends}
theorem OP.shift {o : Ou} (h : OP G xn W ρ H O Z o) (s : Stp ρ H O ρ1 H1 O1) : OP G xn W ρ1 H1 O1 Z o := by
  cases o with
  | nx L M => exact fun ρ' H' σ' s' => h ρ' H' σ' (s.trans s')
  | ret d M => exact fun ρ' H' σ' v s' => h ρ' H' σ' v (s.trans s')
  | bk L M => exact fun ρ' H' σ' s' => h ρ' H' σ' (s.trans s')
  | ct L M => exact fun ρ' H' σ' s' => h ρ' H' σ' (s.trans s')
  | err x L M => exact fun ρ' H' σ' cls dd s' => h ρ' H' σ' cls dd (s.trans s')
  | stk => exact h
/-- the state without the slots -/
theorem Rl.bare {L : LL} {σ : L2.St} {M : MM} (r : Rl G ρ H L σ M) : Rl G ρ H [] [] M := ⟨.nil, (List.nodup_append.mp r.nd).2.1, r.len, r.ob, r.tb⟩
theorem Stp.bare (s : Stp ρ H O ρ1 H1 O1) : Stp ρ H O ρ1 H1 [] := ⟨s.pre, s.ext, s.keep, s.new, s.there, fun _ h => by cases h⟩
theorem XP.toO {L : LL} {σ : L2.St} {r : Rx} {Q : VK} {k : D → LL → MM → Ou} (h : OP G xn W ρ H (ownA L σ) Z (match r with | .ok d L1 M1 => k d L1 M1 | .err x L1 M1 => .err x L1 M1 | .stk => .stk))
    (hQ : ∀ ρ1 H1 d L1 M1 v, Stp ρ H (ownA L σ) ρ1 H1 (ownA L1 σ) → Rl G ρ1 H1 L1 σ M1 → R G ρ1 H1 d v → OP G xn W ρ1 H1 (ownA L1 σ) Z (k d L1 M1) → Q v H1) : XP G xn W ρ H L σ r Q := by
  cases r with
  | ok d L1 M1 => exact fun ρ' H' v s a b => hQ ρ' H' d L1 M1 v s a b (OP.shift (o := k d L1 M1) h s)
  | err x L1 M1 => exact fun ρ' H' cls dd s a b => h ρ' H' σ cls dd s a b
  | stk => exact h
end

structure Wd where
  P : Program
  w : World
  mg : Str → Option Value
  base : Heap
  G : Gb
  xn : Nat → Option Str
/-- where one stands -/
structure Ct (U : Wd) (N : List Str) (sc : Scope) (W : WX) (n : Nat) (X : Cx) : Prop where
  P : X.prog = U.P
  w : X.w = U.w
  mg : X.mg = U.mg
  base : X.base = U.base
  K : X.K = U.G.K
  N : X.N = N
  sc : X.env.scope = sc
  tk : Takes X W
  po : PassesOwn (model X.prog X.w) X.A X.env X.xe
  calm : X.calm = true
  room : Room n X.A
  nd : List.Nodup X.N

def seqM (m n : MS) : MS := fun L M => match m L M with
  | .nx L1 M1 => n L1 M1
  | o => o
def skipM : MS := fun L M => .nx L M
def exprM (m : MX) : MS := fun L M => match m L M with
  | .ok _ L1 M1 => .nx L1 M1
  | .err x L1 M1 => .err x L1 M1
  | .stk => .stk
def retM (m : MX) : MS := fun L M => match m L M with
  | .ok d _ M1 => .ret d M1
  | .err x L1 M1 => .err x L1 M1
  | .stk => .stk
def setM (i : Nat) (m : MX) : MS := fun L M => match m L M with
  | .ok d L1 M1 => .nx (L1.set i (.val d)) M1
  | .err x L1 M1 => .err x L1 M1
  | .stk => .stk
def ifM (m : MX) (a b : MS) : MS := fun L M => match m L M with
  | .ok (.bl c) L1 M1 => if c then a L1 M1 else b L1 M1
  | .ok _ _ _ => .stk
  | .err x L1 M1 => .err x L1 M1
  | .stk => .stk
def brkM : MS := fun L M => .bk L M
def cntM : MS := fun L M => .ct L M

abbrev ES (X : Cx) (G : Gb) (xn : Nat → Option Str) (W : WX) (st : Stmt) (m : MS) : Prop := PS X st (tS G xn W m)
abbrev EB (X : Cx) (G : Gb) (xn : Nat → Option Str) (W : WX) (st : List Stmt) (m : MS) : Prop := PSs X st (tS G xn W m)
theorem ownA_set : ∀ {L : LL} {σ : L2.St} {i : Nat} {s : Sl} {o : Option V}, ownH s o = [] → List.Sublist (ownA (L.set i s) (σ.set i o)) (ownA L σ)
  | [], _, _, _, _, _ => by simp [ownA]
  | s :: L, [], i, d, o, _ => by cases i <;> simp [ownA]
  | s :: L, q :: σ, 0, d, o, h => by
    show List.Sublist (ownH d o ++ ownA L σ) (ownH s q ++ ownA L σ)
    rw [h]
    exact List.sublist_append_right _ _
  | s :: L, q :: σ, i + 1, d, o, h => by
    show List.Sublist (ownH s q ++ ownA (L.set i d) (σ.set i o)) (ownH s q ++ ownA L σ)
    exact (List.Sublist.refl _).append (ownA_set h)
theorem RL.set {G : Gb} {ρ : List Addr} {H : Hp} {s : Sl} {o : Option V} (r : Rsl G ρ H s o) : ∀ {L : LL} {σ : L2.St} (i : Nat), RL G ρ H L σ → RL G ρ H (L.set i s) (σ.set i o)
  | _, _, _, .nil => .nil
  | _, _, 0, .cons _ t => .cons r t  -- 9
  | _, _, i + 1, .cons q t => .cons q (RL.set r i t)
section
variable {X : Cx} {G : Gb} {xn : Nat → Option Str} {W : WX} {ρ ρ' : List Addr} {H H' : Hp} {L : LL} {σ : L2.St} {M : MM}
/-- a slot is stored -/
theorem Rl.setN (r : Rl G ρ H L σ M) {i : Nat} {s : Sl} {o : Option V} (h : Rsl G ρ H s o) (e : ownH s o = []) : Rl G ρ H (L.set i s) (σ.set i o) M :=
  ⟨r.sl.set h i, r.nd.sublist ((ownA_set e).append (List.Sublist.refl _)), r.len, r.ob, r.tb⟩
theorem Rl.setV (r : Rl G ρ H L σ M) {i : Nat} {d : D} {v : V} (h : R G ρ H d v) : Rl G ρ H (L.set i (.val d)) (σ.set i (some v)) M := r.setN h rfl
theorem Stp.setN {i : Nat} {s : Sl} {o : Option V} (e : ownH s o = []) : Stp ρ H (ownA L σ) ρ H (ownA (L.set i s) (σ.set i o)) :=
  ⟨List.prefix_refl _, Ext.refl _, fun _ _ h _ _ _ => h, fun _ h => .inl h, fun _ h => h, fun _ h => .inl ((ownA_set e).subset h)⟩

variable {e : Expr} {st : Stmt} {rest : List Stmt} {m : MX} {ms mt : MS} {pos : Pos}
theorem es_expr (he : EX X G xn W e m) (hs : swapsWith e none pos.line X.env = pure false := by rfl) : ES X G xn W (.Expr e pos) (exprM m) :=
  PS.imp (ps_expr he hs) fun D σ H ⟨ρ, L, M, rl, h⟩ => ⟨ρ, L, M, rl, XP.toO (k := fun _ L1 M1 => .nx L1 M1) h fun ρ1 H1 d L1 M1 v s rl1 r1 h1 => h1 ρ1 H1 σ Stp.refl rl1⟩
theorem es_ret (he : EX X G xn W e m) : ES X G xn W (.Return (some e) pos) (retM m) :=
  PS.imp (ps_ret he) fun D σ H ⟨ρ, L, M, rl, h⟩ => ⟨ρ, L, M, rl, XP.toO (k := fun d _ M1 => .ret d M1) h fun ρ1 H1 d L1 M1 v s rl1 r1 h1 => h1 ρ1 H1 [] v (Stp.refl.bare) rl1.bare r1⟩
theorem es_pass : ES X G xn W (.Pass pos) skipM := PS.imp ps_pass fun D σ H ⟨ρ, L, M, rl, h⟩ => h ρ H σ Stp.refl rl
theorem es_break : ES X G xn W (.Break pos) brkM := PS.imp ps_break fun D σ H ⟨ρ, L, M, rl, h⟩ => h ρ H σ Stp.refl rl
theorem es_continue : ES X G xn W (.Continue pos) cntM := PS.imp ps_continue fun D σ H ⟨ρ, L, M, rl, h⟩ => h ρ H σ Stp.refl rl
theorem eb_nil : EB X G xn W [] skipM := PSs.imp pss_nil fun D σ H ⟨ρ, L, M, rl, h⟩ => h ρ H σ Stp.refl rl
theorem eb_one (h : ES X G xn W st ms) : EB X G xn W [st] ms := pss_one h
theorem eb_cons (h1 : ES X G xn W st ms) (h2 : EB X G xn W rest mt) : EB X G xn W (st :: rest) (seqM ms mt) := by
  refine PSs.imp (pss_cons h1 h2) fun D σ H ⟨ρ, L, M, rl, h⟩ => ⟨ρ, L, M, rl, ?_⟩
  unfold seqM at h
  cases e : ms L M with
  | nx L1 M1 =>
    rw [e] at h
    exact fun ρ' H' σ' s r' => ⟨ρ', L1, M1, r', OP.shift (o := mt L1 M1) h s⟩
  | ret d M1 => rw [e] at h; exact h
  | bk L1 M1 => rw [e] at h; exact h
  | ct L1 M1 => rw [e] at h; exact h
  | err x L1 M1 => rw [e] at h; exact h
  | stk => rw [e] at h; exact h
theorem es_if {c : Expr} {a b : List Stmt} (hc : ET X G xn W c m) (ha : EB X G xn W a ms) (hb : EB X G xn W b mt) : ES X G xn W (.If c a b pos) (ifM m ms mt) := by
  refine PS.imp (ps_if hc ha hb) fun D σ H ⟨ρ, L, M, rl, h⟩ => ⟨ρ, L, M, rl, ?_⟩
  unfold ifM at h
  have h' : OP G xn W ρ H (ownA L σ) D (match m L M with | .ok d L1 M1 => (match d with | .bl c => if c then ms L1 M1 else mt L1 M1 | _ => .stk) | .err x L1 M1 => .err x L1 M1 | .stk => .stk) := by
    revert h
    cases m L M with
    | ok d L1 M1 => cases d <;> exact fun h => h
    | err x L1 M1 => exact fun h => h
    | stk => exact fun h => h
  refine XP.toO (k := fun d L1 M1 => match d with | .bl c => if c then ms L1 M1 else mt L1 M1 | _ => .stk) h' fun ρ1 H1 d L1 M1 v s rl1 r1 h1 => ?_
  cases r1 with
  | bl c =>
    refine ⟨c, rfl, ?_⟩
    cases c with
    | true => exact ⟨ρ1, L1, M1, rl1, h1⟩
    | false => exact ⟨ρ1, L1, M1, rl1, h1⟩
  | _ => exact h1.elim
theorem Ct.loc {U : Wd} {N : List Str} {sc : Scope} {n : Nat} (c : Ct U N sc W n X) {x : Str} (hx : sc.names.lookup x = some .local ∨ sc.names.lookup x = some .cell ∧ X.fn x = true) : L2.Loc X.env.scope x ∧ (X.fn x = true ∨ X.env.scope.names.lookup x = some .local) := by
  unfold L2.Loc
  rw [c.sc]
  rcases hx with q | ⟨q, r⟩
  · exact ⟨.inl q, .inr q⟩
  · exact ⟨.inr q, .inl r⟩
theorem es_set {U : Wd} {N : List Str} {sc : Scope} {n i : Nat} {x : Str} {npos : Pos} (c : Ct U N sc W n X) (he : EX X G xn W e m) (hN : N[i]? = some x) (hx : sc.names.lookup x = some .local ∨ sc.names.lookup x = some .cell ∧ X.fn x = true) 
    (hs : swapsWith e (some (.Name x npos)) pos.line X.env = pure false := by rfl) : ES X G xn W (.Assign [.Name x npos] e pos) (setM i m) := by
  refine PS.imp (ps_set c.nd (by rw [c.N]; exact hN) (c.loc hx).1 he hs (c.loc hx).2) fun D σ H ⟨ρ, L, M, rl, h⟩ => ⟨ρ, L, M, rl, ?_⟩
  exact XP.toO (k := fun d L1 M1 => .nx (L1.set i (.val d)) M1) h fun ρ1 H1 d L1 M1 v s rl1 r1 h1 => h1 ρ1 H1 _ (Stp.setN rfl) (rl1.setV r1)
end
end KK

namespace KK
open PySem PySem.Spec PyProof.Rows L2

/-! ### defs -/
def FP (G : Gb) (xn : Nat → Option Str) (ρ : List Addr) (H : Hp) (r : Fr) (Q : VK) (E : XK) : Prop := match r with
  | .ok d M' => ∀ ρ' H' v, Stp ρ H [] ρ' H' [] → Rl G ρ' H' [] [] M' → R G ρ' H' d v → Q v H'
  | .err x M' => ∀ ρ' H' cls dd, Stp ρ H [] ρ' H' [] → Rl G ρ' H' [] [] M' → REr G ρ' H' xn x cls dd → E cls dd H'
  | .stk => False
def spF (G : Gb) (xn : Nat → Option Str) (n : Nat) (F : MF) : Sp := fun vs H Q E => ∃ ρ M ds, Rl G ρ H [] [] M ∧ Rs G ρ H ds vs ∧ vs.length = n ∧ FP G xn ρ H (F ds M) Q E
/-- a body's end as a def's -/
def outF (o : Ou) : Fr := match o with
  | .nx _ M => .ok .non M
  | .ret d M => .ok d M
  | .err x _ M => .err x M
  | _ => .stk
def ini (n : Nat) (ds : List D) : LL := ds.map Sl.val ++ List.replicate (n - ds.length) .non
/-- the def that a body is: n names -/
def defM (n : Nat) (m : MS) : MF := fun ds M => outF (m (ini n ds) M)

theorem FP.shift {G : Gb} {xn : Nat → Option Str} {ρ ρ1 : List Addr} {H H1 : Hp} {r : Fr} {Q : VK} {E : XK} (h : FP G xn ρ H r Q E) (s : Stp ρ H [] ρ1 H1 []) : FP G xn ρ1 H1 r Q E := by
  cases r with
  | ok d M' => exact fun ρ' H' v s' => h ρ' H' v (s.trans s')
  | err x M' => exact fun ρ' H' cls dd s' => h ρ' H' cls dd (s.trans s')
  | stk => exact h

section
variable {G : Gb} {xn : Nat → Option Str} {ρ ρ' : List Addr} {H H' : Hp}
theorem ini_own {n : Nat} {ds : List D} {vs : List V} : ownA (ini n ds) (vs.map some ++ List.replicate (n - vs.length) none) = [] := by
  have h2 : ∀ k j, ownA (List.replicate k .non) (List.replicate j none) = [] := by
    intro k
    induction k with
    | zero => intro j; cases j <;> simp [ownA]
    | succ k ih =>
      intro j
      cases j with
      | zero => simp [ownA, List.replicate_succ]
      | succ j => rw [List.replicate_succ, List.replicate_succ]; show ownH _ _ ++ _ = []; rw [ih]; rfl
  have h3 : ∀ (ds : List D) (k : Nat) (σ : L2.St), ownA (ds.map Sl.val ++ List.replicate k .non) σ = [] := by
    intro ds
    induction ds with
    | nil =>
      intro k σ
      show ownA (List.replicate k .non) σ = []
      induction k generalizing σ with
      | zero => simp [ownA]
      | succ k ih => cases σ with
        | nil => simp [ownA, List.replicate_succ]
        | cons o σ => rw [List.replicate_succ]; show ownH _ _ ++ _ = []; rw [ih]; rfl
    | cons d ds ih =>
      intro k σ
      cases σ with
      | nil => rfl
      | cons o σ => show ownH _ _ ++ ownA (ds.map Sl.val ++ List.replicate k .non) σ = []; rw [ih]; rfl
  exact h3 _ _ _
theorem ini_rl {M : MM} {N : List Str} {ds : List D} {vs : List V} (r : Rl G ρ H [] [] M) (h : Rs G ρ H ds vs) : Rl G ρ H (ini N.length ds) (L2.start N vs) M := by
  have e : ownA (ini N.length ds) (L2.start N vs) = [] := ini_own
  refine ⟨?_, by rw [e]; exact r.nd, r.len, r.ob, r.tb⟩
  have hl := h.length
  unfold ini L2.start
  rw [hl]
  generalize N.length - vs.length = k
  clear hl e
  have non : ∀ k, RL G ρ H (List.replicate k .non) (List.replicate k none) := fun k => by
    induction k with
    | zero => exact .nil
    | succ k ih => rw [List.replicate_succ, List.replicate_succ]; exact .cons True.intro ih
  have all : ∀ {ds : List D} {vs : List V}, Rs G ρ H ds vs → RL G ρ H (ds.map Sl.val ++ List.replicate k .non) (vs.map some ++ List.replicate k none) := by
    intro ds
    induction ds with
    | nil => intro vs h; cases h; exact non k
    | cons d ds ih =>
      intro vs h
      cases h with
      | cons r t => exact .cons r (ih t)
  exact all h
theorem one_ne {a : Addr} {o : HO} (e : H a = some o) (n : ∀ ps, o ≠ .tbl ps) : ∀ b ∈ [a], ¬ Nw H b := fun b hb z => by
  cases List.mem_singleton.mp hb
  exact z.ne e n rfl
/-- own lists stand behind a call -/
theorem Rl.back {L : LL} {σ : L2.St} {M M' : MM} (r : Rl G ρ H L σ M) (s : Stp ρ H [] ρ' H' []) (r' : Rl G ρ' H' [] [] M') : Rl G ρ' H' L σ M' := by
  have nd := List.nodup_append.mp r.nd
  have keep : ∀ a o, a ∈ ownA L σ → H a = some o → (∀ ps, o ≠ .tbl ps) → H' a = some o := fun a o ha e nt => s.keep a o e (fun z => nd.2.2 a ha a z rfl) (by simp) nt
  have slots : ∀ {L : LL} {σ : L2.St}, RL G ρ H L σ → (∀ a o, a ∈ ownA L σ → H a = some o → (∀ ps, o ≠ .tbl ps) → H' a = some o) → RL G ρ' H' L σ ∧ ∀ a ∈ ownA L σ, ¬ Nw H a := by
    intro L σ h
    induction h with
    | nil => exact fun _ => ⟨.nil, by simp [ownA]⟩
    | @cons sl o L σ q t ih =>
      intro kp
      obtain ⟨i1, i2⟩ := ih fun a u ha => kp a u (List.mem_append_right _ ha)
      have hd : Rsl G ρ' H' sl o ∧ ∀ a ∈ ownH sl o, ¬ Nw H a := by
        cases sl with
        | non => exact ⟨True.intro, by simp [ownH]⟩
        | val d =>
          cases o with
          | none => exact q.elim
          | some v => exact ⟨R.step (O := []) (O' := []) q s, by simp [ownH]⟩
        | own ds =>
          cases o with
          | none => exact q.elim
          | some v =>
            cases v with
            | ref a =>
              obtain ⟨vs, e, rr⟩ := q
              have m : a ∈ ownA (.own ds :: L) (some (.ref a) :: σ) := List.mem_append_left _ (by simp [ownH])
              exact ⟨⟨vs, kp a _ m e (fun _ z => nomatch z), rr.step s⟩, one_ne e (fun _ z => nomatch z)⟩
            | _ => exact q.elim
        | ownd kvs =>
          cases o with
          | none => exact q.elim
          | some v =>
            cases v with
            | ref a =>
              have m : a ∈ ownA (.ownd kvs :: L) (some (.ref a) :: σ) := List.mem_append_left _ (by simp [ownH])
              rcases q with ⟨ks, vs, ds, e, l, rr, qq⟩ | ⟨ks, vs, ds, e, l, rr, qq⟩
              · exact ⟨.inl ⟨ks, vs, ds, kp a _ m e (fun _ z => nomatch z), l, rr.step s, qq⟩, one_ne e (fun _ z => nomatch z)⟩
              · exact ⟨.inr ⟨ks, vs, ds, kp a _ m e (fun _ z => nomatch z), l, rr.step s, qq⟩, one_ne e (fun _ z => nomatch z)⟩
            | _ => exact q.elim
      exact ⟨.cons hd.1 i1, fun a ha => (List.mem_append.mp ha).elim (hd.2 a) (i2 a)⟩
  obtain ⟨sl, tr⟩ := slots r.sl keep
  refine ⟨sl, List.nodup_append.mpr ⟨nd.1, r'.nd, fun a ha b hb z => ?_⟩, r'.len, r'.ob, r'.tb⟩
  subst z
  rcases s.new a hb with q | q
  · exact nd.2.2 a ha a q rfl
  · exact tr a ha q
theorem Stp.own0 {O : List Addr} (s : Stp ρ H [] ρ' H' []) : Stp ρ H O ρ' H' O := ⟨s.pre, s.ext, fun a o h hr ho nt => s.keep a o h hr (by simp) nt, s.new, s.there, fun _ h => .inl h⟩
end

/-- a def of the text, as it stands: its place, its name, its parameters, its level, what it does -/
structure FnF (U : Wd) (i : Nat) (x : Str) (ps : List Str) (k : Nat) (F : MF) : Prop where
  mg : U.mg x = some (.ref (U.G.fa i))
  kp : PySem.W.keepIn U.G.K (.ref (U.G.fa i)) = true
  ok : ∃ fd, Binds U.G.K fd ps [] ∧ FnOk U.P U.w U.G.K U.mg U.base (L2.CX U.P U.w) k (U.G.fa i) fd ps (spF U.G U.xn ps.length F)

def frX (L : LL) (r : Fr) : Rx := match r with
  | .ok d M => .ok d L M
  | .err x M => .err x L M
  | .stk => .stk
/-- a call of a def: the number of arguments is looked at -/
def callM (F : MF) (t : MA) : MX := fun L M => (t L M).bind fun ds L M => frX L (F ds M)
theorem XA.mono {G : Gb} {xn : Nat → Option Str} {W : WX} {ρ : List Addr} {H : Hp} {L : LL} {σ : L2.St} {r : Ra} {Q Q' : List V → Hp → Prop} (h : XA G xn W ρ H L σ r Q) (k : ∀ v H', Q v H' → Q' v H') : XA G xn W ρ H L σ r Q' := by
  cases r with
  | ok d L' M' => exact fun ρ' H' v s' a b => k _ _ (h ρ' H' v s' a b)
  | err x L' M' => exact h
  | stk => exact h
/-- the number of arguments -/
def lenA : List Expr → Nat := List.length
section
variable {X : Cx} {U : Wd} {N : List Str} {sc : Scope} {W : WX} {n k i : Nat} {x : Str} {ps : List Str} {F : MF} {e : Expr} {es : List Expr} {t : MA} {p pos : Pos}
/-- from what the def does to what is asked -/
theorem FP.toX {G : Gb} {xn : Nat → Option Str} {ρ : List Addr} {H : Hp} {L : LL} {σ : L2.St} {M : MM} {r : Fr} {Q : VK} (rl : Rl G ρ H L σ M) (h : XP G xn W ρ H L σ (frX L r) Q) : FP G xn ρ H r Q (WE W σ) := by
  cases r with
  | ok d M' => exact fun ρ' H' v s a b => h ρ' H' v s.own0 (rl.back s a) b
  | err y M' => exact fun ρ' H' cls dd s a b => h ρ' H' cls dd s.own0 (rl.back s a) b
  | stk => exact h
theorem ex_call (c : Ct U N sc W n X) (f : FnF U i x ps k F) (hk : k ≤ n) (ht : EA X U.G U.xn W (e :: es) t) (hlen : ∀ L M ds L' M', t L M = .ok ds L' M' → ds.length = ps.length) (hg : sc.names.lookup x = some .globalImplicit)
    (hdb : (x == ("__debug__" : Str)) = false := by decide +kernel) (he : starEach (e :: es) X.env = (false, eval e X.env) :: starEach es X.env := by rfl) (hpl : (backTo pos (starEach es X.env)).any (·.1) = false := by rfl) :
    EX X U.G U.xn W (.Call (.Name x p) (e :: es) [] pos) (callM F t) := by
  obtain ⟨fd, hb, fo⟩ := f.ok
  have fo' : FnOk X.prog X.w X.K X.mg X.base (L2.CX X.prog X.w) n (U.G.fa i) fd ps (spF U.G U.xn ps.length F) := by rw [c.P, c.w, c.K, c.mg, c.base]; exact fo.mono hk
  have hgl : Gl X x := by
    show X.env.scope.names.lookup x = _
    rw [c.sc]; exact hg
  refine PE.imp (pe_callS fo' c.room hgl (by rw [c.mg]; exact f.mg) (by rw [c.K]; exact f.kp) (by rw [c.K]; exact hb) (fun σ => passAt c.tk σ) ht hdb he hpl) fun σ H Q ⟨ρ, L, M, rl, h⟩ => ⟨ρ, L, M, rl, ?_⟩
  have h2 : ∀ L1 M1 ds, t L M = .ok ds L1 M1 → ds.length = ps.length := fun L1 M1 ds q => hlen _ _ _ _ _ q
  unfold callM at h
  revert h h2
  generalize t L M = r
  intro h h2
  cases r with
  | stk => exact h
  | err y L1 M1 => exact h
  | ok ds L1 M1 =>
    intro ρ1 H1 vs s1 rl1 r1
    have h3 : XP U.G U.xn W ρ1 H1 L1 σ (frX L1 (F ds M1)) Q := XP.shift (r := frX L1 (F ds M1)) h s1
    exact ⟨ρ1, M1, ds, rl1.bare, r1, by rw [← r1.length]; exact h2 L1 M1 ds rfl, FP.toX rl1 h3⟩
end

/-- what is let out does not hang on the slots -/
def SI (W : WX) : Prop := ∀ cls d σ σ' H, W cls d σ H → W cls d σ' H
/-! ### a body -/
section
variable {P : Program} {w : World} {K : PySem.W.Frag} {mg : Str → Option Value} {base : Heap} {G : Gb} {xn : Nat → Option Str}
theorem ct_of {fa ca : Nat → Addr} {T : List (Addr × Str)} {N ps : List Str} {qual : Str} {sc : Scope} {f : Addr} {cdv : Value} {A : Around} {outer : List Env} {s : Shared} {H : Hp} {E : XK} {k : Nat} (S : FnScope N ps sc) (hr : Room k (A.deeper (envOfC qual sc s.heap.objs.size f cdv))) :
    Ct ⟨P, w, mg, base, ⟨K, fa, ca, T⟩, xn⟩ N sc (fun cls d _ H => E cls d H) k (cxOf (L2.CX P w) P w K mg base N qual sc f cdv A outer s H E) :=
  ⟨rfl, rfl, rfl, rfl, rfl, rfl, rfl, takes_of rfl rfl rfl rfl, passes_of rfl, rfl, hr, S.nd⟩
theorem fn_ok {fa ca : Nat → Addr} {T : List (Addr × Str)} {x qual : Str} {st : Stmt} {f : Addr} {fd : FuncData} {N ps : List Str} {k : Nat} {m : MS} (F : Fun K x qual st f fd) (S : FnScope N ps (defScope st))
    (body : ∀ (X : Cx) (W : WX), Ct ⟨P, w, mg, base, ⟨K, fa, ca, T⟩, xn⟩ N (defScope st) W k X → (∀ x, X.fn x = true) → SI W → EB X ⟨K, fa, ca, T⟩ xn W (defBody st) m) :
    FnOk P w K mg base (L2.CX P w) (k + 1) f fd ps (spF ⟨K, fa, ca, T⟩ xn ps.length (defM N.length m)) := by
  refine F.okX S (fun vs H Q E h => ?_) (fun cdv A outer s H vs Q E hr h => ?_)
  · obtain ⟨ρ, M, ds, _, _, hl, _⟩ := h
    exact hl
  · obtain ⟨ρ, M, ds, rl, rs, hl, h⟩ := h
    refine ⟨_, body _ _ (ct_of S hr) (fun _ => rfl) (fun _ _ _ _ _ h => h), ρ, ini N.length ds, M, ini_rl rl rs, ?_⟩
    have e : ownA (ini N.length ds) (L2.start N vs) = [] := ini_own
    rw [e]
    unfold defM at h
    cases q : m (ini N.length ds) M with
    | nx L1 M1 => rw [q] at h; exact fun ρ' H' σ' s a => h ρ' H' .non s.bare a.bare .non
    | ret d M1 => rw [q] at h; exact fun ρ' H' σ' v s a b => h ρ' H' v s.bare a.bare b
    | bk L1 M1 => rw [q] at h; exact h.elim
    | ct L1 M1 => rw [q] at h; exact h.elim
    | err y L1 M1 => rw [q] at h; exact fun ρ' H' σ' cls dd s a b => h ρ' H' cls dd s.bare a.bare b
    | stk => rw [q] at h; exact h
end
end KK

namespace KK
open PySem PySem.Spec PyProof.Rows L2

/-! ### values as plain data -/
mutual
def py : D → Option PyData
  | .non => some .none
  | .bl b => some (.bool b)
  | .int i => some (.int i)
  | .str x => some (.str x)
  | .tup xs => (pys xs).map .tuple
  | .lst xs => (pys xs).map .list
  | _ => none
def pys : List D → Option (List PyData)
  | [] => some []
  | x :: xs => match py x, pys xs with
    | some p, some ps => some (p :: ps)
    | _, _ => none
end
mutual
/-- how deep data is nested; 100: not plain data -/
def dep : D → Nat
  | .non | .bl _ | .int _ => 0
  | .str x => if PyData.strOk x = true then 0 else 100
  | .tup xs => depA xs + 1
  | .lst xs => depA xs + 1
  | _ => 100
def depA : List D → Nat
  | [] => 0
  | x :: xs => max (dep x) (depA xs)
end
mutual
/-- == -/
def eqv : D → D → Bool
  | .non, .non => true
  | .bl a, .bl b => a == b
  | .bl a, .int j => (if a then 1 else 0) == j
  | .int i, .bl b => i == (if b then 1 else 0)
  | .int i, .int j => i == j
  | .str x, .str y => x == y
  | .lst xs, .lst ys => eqvs xs ys
  | .tup xs, .tup ys => eqvs xs ys
  | _, _ => false
def eqvs : List D → List D → Bool
  | [], [] => true
  | x :: xs, y :: ys => eqv x y && eqvs xs ys
  | _, _ => false
end
mutual
theorem py_dep : ∀ {d : D}, dep d < 100 → ∃ p, py d = some p ∧ p.depth = dep d ∧ p.canLay0 = true
  | .non, _ => ⟨_, rfl, rfl, rfl⟩
  | .bl _, _ => ⟨_, rfl, rfl, rfl⟩
  | .int _, _ => ⟨_, rfl, rfl, rfl⟩
  | .str x, h => by
    simp only [dep] at h
    split at h
    · rename_i q
      exact ⟨_, rfl, by simp only [PyData.depth, dep, q, if_pos], q⟩
    · omega
  | .tup xs, h => by
    obtain ⟨ps, e, h1, h2⟩ := pys_dep (xs := xs) (by simp only [dep] at h; omega)
    exact ⟨.tuple ps, by simp only [py, e, Option.map], by simp only [PyData.depth, dep, h1], by simp only [PyData.canLay0, h2]⟩
  | .lst xs, h => by
    obtain ⟨ps, e, h1, h2⟩ := pys_dep (xs := xs) (by simp only [dep] at h; omega)
    exact ⟨.list ps, by simp only [py, e, Option.map], by simp only [PyData.depth, dep, h1], by simp only [PyData.canLay0, h2]⟩
  | .dct _, h => by simp [dep] at h
  | .obj _, h => by simp [dep] at h
  | .fn _, h => by simp [dep] at h
  | .cls _, h => by simp [dep] at h
  | .ty _, h => by simp [dep] at h
  | .exc _ _, h => by simp [dep] at h
  | .clo _, h => by simp [dep] at h
  | .kl _, h => by simp [dep] at h
  | .pr _, h => by simp [dep] at h
theorem pys_dep : ∀ {xs : List D}, depA xs < 100 → ∃ ps, pys xs = some ps ∧ PyData.depthAll ps = depA xs ∧ PyData.canLayAll0 ps = true
  | [], _ => ⟨_, rfl, rfl, rfl⟩
  | x :: xs, h => by
    simp only [depA] at h
    obtain ⟨p, e, h1, h2⟩ := py_dep (d := x) (by omega)
    obtain ⟨ps, e', h1', h2'⟩ := pys_dep (xs := xs) (by omega)
    exact ⟨p :: ps, by simp only [pys, e, e'], by simp only [PyData.depthAll, depA, h1, h1'], by simp only [PyData.canLayAll0, h2, h2', Bool.and_self]⟩
end
mutual
theorem eqv_py : ∀ {d e : D} {p q : PyData}, py d = some p → py e = some q → PyData.eqv p q = eqv d e
  | d, e, p, q, hp, hq => by
    cases d <;> simp only [py, Option.map_eq_some_iff, reduceCtorEq] at hp
    all_goals cases e <;> simp only [py, Option.map_eq_some_iff, reduceCtorEq] at hq
    case tup.tup xs ys =>
      obtain ⟨ps, e1, rfl⟩ := hp
      obtain ⟨qs, e2, rfl⟩ := hq
      simp only [PyData.eqv, eqv]
      exact eqvs_py e1 e2
    case lst.lst xs ys =>
      obtain ⟨ps, e1, rfl⟩ := hp
      obtain ⟨qs, e2, rfl⟩ := hq
      simp only [PyData.eqv, eqv]
      exact eqvs_py e1 e2
    all_goals (try obtain ⟨ps, e1, rfl⟩ := hp) <;> (try obtain ⟨qs, e2, rfl⟩ := hq) <;> (try cases hp) <;> (try cases hq) <;> simp only [PyData.eqv, eqv]
theorem eqvs_py : ∀ {xs ys : List D} {ps qs : List PyData}, pys xs = some ps → pys ys = some qs → PyData.eqvAll ps qs = eqvs xs ys
  | [], [], _, _, hp, hq => by
    simp only [pys, Option.some.injEq] at hp hq
    subst hp; subst hq
    simp only [PyData.eqvAll, eqvs]
  | [], y :: ys, _, _, hp, hq => by
    simp only [pys, Option.some.injEq] at hp hq
    subst hp
    split at hq
    · cases hq; simp only [PyData.eqvAll, eqvs]
    · cases hq
  | x :: xs, [], _, _, hp, hq => by
    simp only [pys, Option.some.injEq] at hp hq
    subst hq
    split at hp
    · cases hp; simp only [PyData.eqvAll, eqvs]
    · cases hp
  | x :: xs, y :: ys, _, _, hp, hq => by
    simp only [pys] at hp hq
    split at hp
    · rename_i p ps e1 e2
      split at hq
      · rename_i q qs e3 e4
        cases hp; cases hq
        simp only [PyData.eqvAll, eqvs, eqv_py e1 e3, eqvs_py e2 e4]
      · cases hq
    · cases hp
end
mutual
theorem R.dp {G : Gb} {ρ : List Addr} {H : Hp} : ∀ {d : D} {v : V} {p : PyData}, R G ρ H d v → py d = some p → Dp G.K H v p
  | _, _, _, .non, e => by cases e; exact .non
  | _, _, _, .bl b, e => by cases e; exact .bl b
  | _, _, _, .int b, e => by cases e; exact .int b
  | _, _, _, .str b, e => by cases e; exact .str b
  | _, _, _, .tup t r, e => by
    simp only [py, Option.map_eq_some_iff] at e
    obtain ⟨ps, e, rfl⟩ := e
    exact .tup t.sq (Rs.dp r e)
  | _, _, _, .lst t r, e => by
    simp only [py, Option.map_eq_some_iff] at e
    obtain ⟨ps, e, rfl⟩ := e
    exact .lst t.sq (Rs.dp r e)
  | _, _, _, .kl _ _, e => by simp [py] at e
  | _, _, _, .pr _ _, e => by simp [py] at e
  | _, _, _, .dctK _ _ _, e => by simp [py] at e
  | _, _, _, .dctT _ _ _, e => by simp [py] at e
  | _, _, _, .obj _, e => by simp [py] at e
  | _, _, _, .fn _, e => by simp [py] at e
  | _, _, _, .cls _, e => by simp [py] at e
  | _, _, _, .ty _, e => by simp [py] at e
  | _, _, _, .exc0 _, e => by simp [py] at e
  | _, _, _, .exc1 _ _ _, e => by simp [py] at e
theorem Rs.dp {G : Gb} {ρ : List Addr} {H : Hp} : ∀ {d : List D} {v : List V} {p : List PyData}, Rs G ρ H d v → pys d = some p → DpAll G.K H v p
  | _, _, _, .nil, e => by cases e; exact .nil
  | _, _, _, .cons r t, e => by
    simp only [pys] at e
    split at e
    · rename_i p ps e1 e2
      cases e
      exact .cons (R.dp r e1) (Rs.dp t e2)
    · cases e
end

/-! ### borrowed values: one's own lists, objects of the heap, read -/
inductive RB (G : Gb) (ρ : List Addr) (H : Hp) : D → V → Prop
  | r {d : D} {v : V} : R G ρ H d v → RB G ρ H d v
  | l {a : Addr} {ds : List D} {vs : List V} : H a = some (.lst vs) → Rs G ρ H ds vs → RB G ρ H (.lst ds) (.ref a)
  | dk {a : Addr} {ks : List Key} {ds : List D} {vs : List V} : H a = some (.dK (ks.zip vs)) → ks.length = vs.length → Rs G ρ H ds vs → RB G ρ H (.dct ((ks.map kD).zip ds)) (.ref a)
  | dt {a : Addr} {ks : List (List Key)} {ds : List D} {vs : List V} : H a = some (.dT (ks.zip vs)) → ks.length = vs.length → Rs G ρ H ds vs → RB G ρ H (.dct ((ks.map fun k => D.tup (k.map kD)).zip ds)) (.ref a)
section
variable {G : Gb} {ρ : List Addr} {H : Hp}
theorem RB.list {ds : List D} {v : V} (r : RB G ρ H (.lst ds) v) : ∃ a vs, v = .ref a ∧ SqL G.K H a vs ∧ Rs G ρ H ds vs := by
  cases r with
  | r r => cases r with
    | lst t r => exact ⟨_, _, rfl, t.sq, r⟩
  | l h r => exact ⟨_, _, rfl, .of h, r⟩
theorem RB.tuple {ds : List D} {v : V} (r : RB G ρ H (.tup ds) v) : ∃ a vs, v = .ref a ∧ SqT G.K H a vs ∧ Rs G ρ H ds vs := by
  cases r with
  | r r => cases r with
    | tup t r => exact ⟨_, _, rfl, t.sq, r⟩
theorem RB.dp {d : D} {v : V} {p : PyData} (r : RB G ρ H d v) (e : py d = some p) : Dp G.K H v p := by
  cases r with
  | r r => exact r.dp e
  | l h r =>
    simp only [py, Option.map_eq_some_iff] at e
    obtain ⟨ps, e, rfl⟩ := e
    exact .lst (.of h) (r.dp e)
  | dk _ _ _ => simp [py] at e
  | dt _ _ _ => simp [py] at e
theorem RB.int {i : Int} {v : V} (r : RB G ρ H (.int i) v) : v = .int i := by cases r with | r r => cases r; rfl
theorem RB.str {i : Str} {v : V} (r : RB G ρ H (.str i) v) : v = .str i := by cases r with | r r => cases r; rfl
theorem RB.bl {i : Bool} {v : V} (r : RB G ρ H (.bl i) v) : v = .bl i := by cases r with | r r => cases r; rfl
theorem RB.non {v : V} (r : RB G ρ H .non v) : v = .non := by cases r with | r r => cases r; rfl
theorem R.int' {i : Int} {v : V} (r : R G ρ H (.int i) v) : v = .int i := by cases r; rfl
theorem R.str' {i : Str} {v : V} (r : R G ρ H (.str i) v) : v = .str i := by cases r; rfl
theorem R.bl' {i : Bool} {v : V} (r : R G ρ H (.bl i) v) : v = .bl i := by cases r; rfl
theorem R.non' {v : V} (r : R G ρ H .non v) : v = .non := by cases r; rfl
end
def XB (G : Gb) (xn : Nat → Option Str) (W : WX) (ρ : List Addr) (H : Hp) (L : LL) (σ : L2.St) (r : Rx) (Q : VK) : Prop := match r with
  | .ok d L' M' => ∀ ρ' H' v, Stp ρ H (ownA L σ) ρ' H' (ownA L' σ) → Rl G ρ' H' L' σ M' → RB G ρ' H' d v → Q v H'
  | .err x L' M' => ∀ ρ' H' cls dd, Stp ρ H (ownA L σ) ρ' H' (ownA L' σ) → Rl G ρ' H' L' σ M' → REr G ρ' H' xn x cls dd → W cls dd σ H'
  | .stk => False
def tB (G : Gb) (xn : Nat → Option Str) (W : WX) (m : MX) : TE := fun σ H Q => ∃ ρ L M, Rl G ρ H L σ M ∧ XB G xn W ρ H L σ (m L M) Q
abbrev EXB (X : Cx) (G : Gb) (xn : Nat → Option Str) (W : WX) (e : Expr) (m : MX) : Prop := PE X e (tB G xn W m)
section
variable {X : Cx} {G : Gb} {xn : Nat → Option Str} {W : WX} {ρ : List Addr} {H : Hp} {L : LL} {σ : L2.St} {e a b : Expr} {m ma mb : MX} {pos : Pos}
theorem XB.bind {r : Rx} {k : D → MX} {Q : VK} (h : XP G xn W ρ H L σ (r.bind k) Q) : XB G xn W ρ H L σ r fun v H1 => ∃ ρ1 L1 M1 d, Stp ρ H (ownA L σ) ρ1 H1 (ownA L1 σ) ∧ Rl G ρ1 H1 L1 σ M1 ∧ RB G ρ1 H1 d v ∧ XP G xn W ρ1 H1 L1 σ (k d L1 M1) Q := by
  cases r with
  | ok d L' M' => exact fun ρ' H' v s a b => ⟨ρ', L', M', d, s, a, b, XP.shift (r := k d L' M') h s⟩
  | err x L' M' => exact h
  | stk => exact h
theorem XB.mono {r : Rx} {Q Q' : VK} (h : XB G xn W ρ H L σ r Q) (k : ∀ v H', Q v H' → Q' v H') : XB G xn W ρ H L σ r Q' := by
  cases r with
  | ok d L' M' => exact fun ρ' H' v s' a b => k _ _ (h ρ' H' v s' a b)
  | err x L' M' => exact h
  | stk => exact h
theorem exb (h : EX X G xn W e m) : EXB X G xn W e m := PE.imp h fun σ H Q ⟨ρ, L, M, rl, h⟩ => ⟨ρ, L, M, rl, by
  revert h
  cases m L M with
  | ok d L' M' => exact fun h ρ' H' v s' a b => h ρ' H' v s' a (.r b)
  | err x L' M' => exact fun h => h
  | stk => exact fun h => h⟩
/-- one's own list, borrowed -/
def locB (i : Nat) : MX := fun L M => match L[i]? with
  | some (.val d) => .ok d L M
  | some (.own ds) => .ok (.lst ds) L M
  | some (.ownd kvs) => .ok (.dct kvs) L M
  | _ => .stk
theorem exb_loc (i : Nat) {x : Str} (hN : X.N[i]? = some x := by rfl) (hv : Vis X.env.scope x := by first | exact Or.inl rfl | exact Or.inr (Or.inl rfl) | exact Or.inr (Or.inr rfl)) (hd : (x == ("__debug__" : Str)) = false := by decide +kernel)
    (hcd : (x == ("__classdict__" : Str)) = false := by decide +kernel) : EXB X G xn W (.Name x pos) (locB i) := by
  refine PE.imp (pe_var hN hv hd hcd) fun σ H Q ⟨ρ, L, M, rl, h⟩ => ?_
  unfold locB at h
  split at h
  · rename_i d e
    obtain ⟨v, e1, r⟩ := rl.sl.val e
    exact ⟨v, e1, h ρ H v Stp.refl rl (.r r)⟩
  · rename_i ds e
    obtain ⟨o, h1, h2⟩ := RL.get rl.sl e
    cases o with
    | none => exact h2.elim
    | some v =>
      cases v with
      | ref a => obtain ⟨vs, h3, h4⟩ := h2; exact ⟨_, h1, h ρ H _ Stp.refl rl (.l h3 h4)⟩
      | _ => exact h2.elim
  · rename_i ds e
    obtain ⟨o, h1, h2⟩ := RL.get rl.sl e
    cases o with
    | none => exact h2.elim
    | some v =>
      cases v with
      | ref a =>
        rcases h2 with ⟨ks, vs, ds, q1, q2, q3, rfl⟩ | ⟨ks, vs, ds, q1, q2, q3, rfl⟩
        · exact ⟨_, h1, h ρ H _ Stp.refl rl (.dk q1 q2 q3)⟩
        · exact ⟨_, h1, h ρ H _ Stp.refl rl (.dt q1 q2 q3)⟩
      | _ => exact h2.elim
  · exact h.elim
/-- an object of the heap, (by first | exact Or.inl rfl | exact Or.inr (Or.inl rfl) | exact Or.inr (Or.inr rfl)) -/
def vw (M : MM) (d : D) : D := match d with
  | .obj i => match M[i]? with
    | some (.list ds) => .lst ds
    | some (.dict kvs) => .dct (((kvs.map fun p => (Sum.inr p.1 : Key)).map kD).zip (kvs.map (·.2)))
    | _ => d
  | _ => d
def vwM (m : MX) : MX := fun L M => (m L M).bind fun d L M => .ok (vw M d) L M
theorem exb_vw (h : EX X G xn W e m) : EXB X G xn W e (vwM m) := PE.imp h fun σ H Q ⟨ρ, L, M, rl, h⟩ => ⟨ρ, L, M, rl, by
  unfold vwM at h
  revert h
  cases m L M with
  | ok d L' M' =>
    intro h ρ' H' v s' a b
    refine h ρ' H' v s' a ?_
    unfold vw
    split
    · rename_i i
      cases b with
      | obj e =>
        split
        · rename_i ds q
          obtain ⟨a', h1, vs, h2, h3⟩ := a.ob i _ q
          rw [e] at h1; cases h1
          exact .l h2 h3
        · rename_i kvs q
          obtain ⟨a', h1, vs, h2, h3⟩ := a.ob i _ q
          rw [e] at h1; cases h1
          exact .dk h2 (by rw [List.length_map, ← h3.length, List.length_map]) h3
        · exact .r (.obj e)
    · exact .r b
  | err x L' M' => exact fun h => h
  | stk => exact fun h => h⟩
end

/-! ### binary operators by data -/
abbrev GR (H H' : Hp) : Prop := ∀ b o, H b = some o → H' b = some o
def r2D (G : Gb) (f : D → D → Option D) : R2 := fun x y H Q => ∃ ρ L σ M d e z, Rl G ρ H L σ M ∧ R G ρ H d x ∧ RB G ρ H e y ∧ f d e = some z ∧ ∀ H' v, GR H H' → R G ρ H' z v → Q v H'
abbrev OpD (X : Cx) (G : Gb) (op : Value → Value → Sem Value) (f : D → D → Option D) : Prop := OpR X op (r2D G f)
section
variable {X : Cx} {G : Gb} {xn : Nat → Option Str} {W : WX} {a b : Expr} {ma mb : MX} {f : D → D → Option D}
theorem ex_op2B {e : Expr} (h : PE X e (tOp (r2D G f) (tX G xn W ma) (tB G xn W mb))) : EX X G xn W e (binM f ma mb) := by
  refine PE.imp h fun σ H Q ⟨ρ, L, M, rl, h⟩ => ?_
  refine ⟨ρ, L, M, rl, XP.mono (XP.bind h) ?_⟩
  rintro x H1 ⟨ρ1, L1, M1, d, s1, rl1, r1, h1⟩
  refine ⟨ρ1, L1, M1, rl1, XB.mono (XB.bind h1) ?_⟩
  rintro y H2 ⟨ρ2, L2, M2, d2, s2, rl2, r2, h2⟩
  cases e : f d d2 with
  | none => rw [e] at h2; exact h2.elim
  | some z =>
    rw [e] at h2
    exact ⟨ρ2, L2, σ, M2, d, d2, z, rl2, r1.step s2, r2, e, fun H' v g rz => h2 ρ2 H' v (Stp.grow g) (rl2.grow g) rz⟩
theorem ex_binB {op : Operator} {pos : Pos} (ho : OpD X G (binaryOp op) f) (ha : EX X G xn W a ma) (hb : EXB X G xn W b mb) : EX X G xn W (.BinOp a op b pos) (binM f ma mb) := ex_op2B (pe_op ho ha hb)
theorem ex_cmpB {op : CmpOp} {pos : Pos} (ho : OpD X G (compareOp op) f) (ha : EX X G xn W a ma) (hb : EXB X G xn W b mb) (hm : behindInMarks op b = false := by first | rfl | exact nomark _) : EX X G xn W (.Compare a [op] [b] pos) (binM f ma mb) := ex_op2B (pe_cmpR ho ha hb hm)
end
instance (i j : Int) : Decidable (CMul i j) := by unfold CMul; infer_instance
instance (i j : Int) : Decidable (CMulW i j) := by unfold CMulW; infer_instance
instance (i j : Int) : Decidable (CDivW i j) := by unfold CDivW; infer_instance
instance (i j : Int) : Decidable (CPow i j) := by unfold CPow; infer_instance
def addD : D → D → Option D
  | .int i, .int j => some (.int (i + j))
  | .str x, .str y => if x.length + y.length ≤ sizeLine then some (.str (x ++ y)) else none
  | .tup xs, .tup ys => if xs.length + ys.length ≤ sizeLine then some (.tup (xs ++ ys)) else none
  | _, _ => none
def subD : D → D → Option D
  | .int i, .int j => some (.int (i - j))
  | _, _ => none
def mulD : D → D → Option D
  | .int i, .int j => if CMul i j ∨ CMulW i j then some (.int (i * j)) else none
  | _, _ => none
def divD : D → D → Option D
  | .int i, .int j => if CDivW i j then some (.int (i / j)) else none
  | _, _ => none
def modD : D → D → Option D
  | .int i, .int j => if 0 < j then some (.int (i % j)) else none
  | _, _ => none
def powD : D → D → Option D
  | .int i, .int j => if CPow i j then some (.int (i ^ j.toNat)) else none
  | _, _ => none
def ltD : D → D → Option D
  | .int i, .int j => some (.bl (decide (i < j)))
  | .str x, .str y => some (.bl (decide (x.cps.toList < y.cps.toList)))
  | _, _ => none
def leD : D → D → Option D
  | .int i, .int j => some (.bl (decide (i ≤ j)))
  | .str x, .str y => some (.bl (!decide (y.cps.toList < x.cps.toList)))
  | _, _ => none
def gtD : D → D → Option D
  | .int i, .int j => some (.bl (decide (j < i)))
  | .str x, .str y => some (.bl (decide (y.cps.toList < x.cps.toList)))
  | _, _ => none
def geD : D → D → Option D
  | .int i, .int j => some (.bl (decide (j ≤ i)))
  | .str x, .str y => some (.bl (!decide (x.cps.toList < y.cps.toList)))
  | _, _ => none
/-- two texts: of any signs -/
def str2 : D → D → Bool
  | .str _, .str _ => true
  | _, _ => false
theorem str2_eq {d e : D} (h : str2 d e = true) : ∃ x y, d = .str x ∧ e = .str y := by
  unfold str2 at h
  split at h
  · exact ⟨_, _, rfl, rfl⟩
  · cases h
def eqD (d e : D) : Option D := if str2 d e = true ∨ (dep d ≤ 60 ∧ dep e ≤ 60) then some (.bl (eqv d e)) else none
def neD (d e : D) : Option D := if str2 d e = true ∨ (dep d ≤ 60 ∧ dep e ≤ 60) then some (.bl (!eqv d e)) else none
section
variable {X : Cx} {G : Gb} {U : Wd} {N : List Str} {sc : Scope} {W : WX} {n : Nat}
theorem od_add (c : Ct U N sc W n X) : OpD X U.G (binaryOp .Add) addD := by
  rintro pins s σ' H x y v u Q I rx ry ⟨ρ, L, σ, M, d, e, z, rl, r1, r2, hf, q⟩
  unfold addD at hf
  split at hf
  · cases hf; cases r1.int'; cases r2.int
    exact op_add pins s σ' H _ _ v u Q I rx ry ⟨_, _, rfl, rfl, q H _ (fun _ _ h => h) (.int _)⟩
  · split at hf
    · rename_i hz
      cases hf; cases r1.str'; cases r2.str
      exact op_add_str pins s σ' H _ _ v u Q I rx ry ⟨_, _, rfl, rfl, hz, q H _ (fun _ _ h => h) (.str _)⟩
    · cases hf
  · rename_i xs ys
    split at hf
    · rename_i hz
      cases hf
      obtain ⟨a, vs, rfl, t1, s1⟩ := (RB.r r1).tuple
      obtain ⟨b, us, rfl, t2, s2⟩ := r2.tuple
      refine op_catZ pins s σ' H _ _ v u Q I rx ry ⟨a, b, vs, us, rfl, rfl, by rw [c.K]; exact t1, by rw [c.K]; exact t2, by rw [← s1.length, ← s2.length]; exact hz, fun e => ?_, fun _ e => ?_, fun _ _ p o hp ho => ?_⟩
      · subst e
        cases s1
        refine q H _ (fun _ _ h => h) ?_
        cases r2 with
        | r r2 => exact r2
      · subst e
        cases s2
        rw [List.append_nil] at q
        exact q H _ (fun _ _ h => h) r1
      · exact q _ _ (upd_grow hp) (.tup (.inl ⟨o, upd_same, ho⟩) ((s1.append s2).mono (List.prefix_refl _) (Ext.of (upd_grow hp))))
    · cases hf
  · cases hf
theorem od_sub : OpD X G (binaryOp .Sub) subD := by
  rintro pins s σ' H x y v u Q I rx ry ⟨ρ, L, σ, M, d, e, z, rl, r1, r2, hf, q⟩
  unfold subD at hf
  split at hf
  · cases hf; cases r1.int'; cases r2.int
    exact op_sub pins s σ' H _ _ v u Q I rx ry ⟨_, _, rfl, rfl, q H _ (fun _ _ h => h) (.int _)⟩
  · cases hf
theorem od_mul : OpD X G (binaryOp .Mult) mulD := by
  rintro pins s σ' H x y v u Q I rx ry ⟨ρ, L, σ, M, d, e, z, rl, r1, r2, hf, q⟩
  unfold mulD at hf
  split at hf
  · split at hf
    · rename_i hz
      cases hf; cases r1.int'; cases r2.int
      rcases hz with hz | hz
      · exact op_mul pins s σ' H _ _ v u Q I rx ry ⟨_, _, rfl, rfl, hz, q H _ (fun _ _ h => h) (.int _)⟩
      · exact op_mulW pins s σ' H _ _ v u Q I rx ry ⟨_, _, rfl, rfl, hz, q H _ (fun _ _ h => h) (.int _)⟩
    · cases hf
  · cases hf
theorem od_div : OpD X G (binaryOp .FloorDiv) divD := by
  rintro pins s σ' H x y v u Q I rx ry ⟨ρ, L, σ, M, d, e, z, rl, r1, r2, hf, q⟩
  unfold divD at hf
  split at hf
  · split at hf
    · rename_i hz
      cases hf; cases r1.int'; cases r2.int
      exact op_fdivW pins s σ' H _ _ v u Q I rx ry ⟨_, _, rfl, rfl, hz, q H _ (fun _ _ h => h) (.int _)⟩
    · cases hf
  · cases hf
theorem od_mod : OpD X G (binaryOp .Mod) modD := by
  rintro pins s σ' H x y v u Q I rx ry ⟨ρ, L, σ, M, d, e, z, rl, r1, r2, hf, q⟩
  unfold modD at hf
  split at hf
  · split at hf
    · rename_i hz
      cases hf; cases r1.int'; cases r2.int
      exact op_mod pins s σ' H _ _ v u Q I rx ry ⟨_, _, rfl, rfl, hz, q H _ (fun _ _ h => h) (.int _)⟩
    · cases hf
  · cases hf
theorem od_pow : OpD X G (binaryOp .Pow) powD := by
  rintro pins s σ' H x y v u Q I rx ry ⟨ρ, L, σ, M, d, e, z, rl, r1, r2, hf, q⟩
  unfold powD at hf
  split at hf
  · split at hf
    · rename_i hz
      cases hf; cases r1.int'; cases r2.int
      exact op_pow pins s σ' H _ _ v u Q I rx ry ⟨_, _, rfl, rfl, hz, q H _ (fun _ _ h => h) (.int _)⟩
    · cases hf
  · cases hf
theorem od_lt : OpD X G (compareOp .Lt) ltD := by
  rintro pins s σ' H x y v u Q I rx ry ⟨ρ, L, σ, M, d, e, z, rl, r1, r2, hf, q⟩
  unfold ltD at hf
  split at hf
  · cases hf; cases r1.int'; cases r2.int
    exact op_lt pins s σ' H _ _ v u Q I rx ry ⟨_, _, rfl, rfl, q H _ (fun _ _ h => h) (.bl _)⟩
  · cases hf; cases r1.str'; cases r2.str
    exact op_lt_str pins s σ' H _ _ v u Q I rx ry ⟨_, _, rfl, rfl, q H _ (fun _ _ h => h) (.bl _)⟩
  · cases hf
theorem od_le : OpD X G (compareOp .LtE) leD := by
  rintro pins s σ' H x y v u Q I rx ry ⟨ρ, L, σ, M, d, e, z, rl, r1, r2, hf, q⟩
  unfold leD at hf
  split at hf
  · cases hf; cases r1.int'; cases r2.int
    exact op_le pins s σ' H _ _ v u Q I rx ry ⟨_, _, rfl, rfl, q H _ (fun _ _ h => h) (.bl _)⟩
  · cases hf; cases r1.str'; cases r2.str
    exact op_le_str pins s σ' H _ _ v u Q I rx ry ⟨_, _, rfl, rfl, q H _ (fun _ _ h => h) (.bl _)⟩
  · cases hf
theorem od_gt : OpD X G (compareOp .Gt) gtD := by
  rintro pins s σ' H x y v u Q I rx ry ⟨ρ, L, σ, M, d, e, z, rl, r1, r2, hf, q⟩
  unfold gtD at hf
  split at hf
  · cases hf; cases r1.int'; cases r2.int
    exact op_gt pins s σ' H _ _ v u Q I rx ry ⟨_, _, rfl, rfl, q H _ (fun _ _ h => h) (.bl _)⟩
  · cases hf; cases r1.str'; cases r2.str
    exact op_gt_str pins s σ' H _ _ v u Q I rx ry ⟨_, _, rfl, rfl, q H _ (fun _ _ h => h) (.bl _)⟩
  · cases hf
theorem od_ge : OpD X G (compareOp .GtE) geD := by
  rintro pins s σ' H x y v u Q I rx ry ⟨ρ, L, σ, M, d, e, z, rl, r1, r2, hf, q⟩
  unfold geD at hf
  split at hf
  · cases hf; cases r1.int'; cases r2.int
    exact op_ge pins s σ' H _ _ v u Q I rx ry ⟨_, _, rfl, rfl, q H _ (fun _ _ h => h) (.bl _)⟩
  · cases hf; cases r1.str'; cases r2.str
    exact op_ge_str pins s σ' H _ _ v u Q I rx ry ⟨_, _, rfl, rfl, q H _ (fun _ _ h => h) (.bl _)⟩
  · cases hf
theorem shaped_dep {d : D} {p : PyData} (h : dep d ≤ 60) (e : py d = some p) : SeqAt.shaped p = true := by
  obtain ⟨p', e', h1, h2⟩ := py_dep (d := d) (by omega)
  rw [e] at e'; cases e'
  unfold SeqAt.shaped
  rw [h2, h1]
  simp only [Bool.true_and, decide_eq_true_eq]
  omega
theorem od_eq (c : Ct U N sc W n X) : OpD X U.G (compareOp .Eq) eqD := by
  rintro pins s σ' H x y v u Q I rx ry ⟨ρ, L, σ, M, d, e, z, rl, r1, r2, hf, q⟩
  unfold eqD at hf
  split at hf
  · rename_i hz
    cases hf
    by_cases hs : str2 d e = true
    · obtain ⟨a, b, rfl, rfl⟩ := str2_eq hs
      cases r1.str'
      cases r2.str
      refine op_eq pins s σ' H _ _ v u Q I rx ry ⟨rfl, ?_⟩
      rw [dec_str]
      have e3 : eqv (.str a) (.str b) = (a == b) := by rw [eqv]
      have := q H (.bl ((a == b))) (fun _ _ h => h) (by rw [← e3]; exact .bl _)
      exact this
    replace hz := hz.resolve_left hs
    obtain ⟨p, e1, _, _⟩ := py_dep (d := d) (by omega)
    obtain ⟨p', e2, _, _⟩ := py_dep (d := e) (by omega)
    refine op_eqD (by have := c.room.un; omega) pins s σ' H _ _ v u Q I rx ry ⟨p, p', by rw [c.K]; exact r1.dp e1, by rw [c.K]; exact r2.dp e2, shaped_dep hz.1 e1, shaped_dep hz.2 e2, ?_⟩
    rw [eqv_py e1 e2]
    exact q H _ (fun _ _ h => h) (.bl _)
  · cases hf
theorem od_ne (c : Ct U N sc W n X) : OpD X U.G (compareOp .NotEq) neD := by
  rintro pins s σ' H x y v u Q I rx ry ⟨ρ, L, σ, M, d, e, z, rl, r1, r2, hf, q⟩
  unfold neD at hf
  split at hf
  · rename_i hz
    cases hf
    by_cases hs : str2 d e = true
    · obtain ⟨a, b, rfl, rfl⟩ := str2_eq hs
      cases r1.str'
      cases r2.str
      refine op_ne pins s σ' H _ _ v u Q I rx ry ⟨rfl, ?_⟩
      rw [dec_str]
      have e3 : eqv (.str a) (.str b) = (a == b) := by rw [eqv]
      have := q H (.bl (!(a == b))) (fun _ _ h => h) (by rw [← e3]; exact .bl _)
      exact this
    replace hz := hz.resolve_left hs
    obtain ⟨p, e1, _, _⟩ := py_dep (d := d) (by omega)
    obtain ⟨p', e2, _, _⟩ := py_dep (d := e) (by omega)
    refine op_neD (by have := c.room.un; omega) pins s σ' H _ _ v u Q I rx ry ⟨p, p', by rw [c.K]; exact r1.dp e1, by rw [c.K]; exact r2.dp e2, shaped_dep hz.1 e1, shaped_dep hz.2 e2, ?_⟩
    rw [eqv_py e1 e2]
    exact q H _ (fun _ _ h => h) (.bl _)
  · cases hf
end
end KK

namespace KK
open PySem PySem.Spec PyProof.Rows L2

/-! ### what is tracked -/
section
variable {G : Gb} {ρ ρ' : List Addr} {H H' : Hp} {L : LL} {σ : L2.St} {M : MM}
theorem RL.own_some (h : RL G ρ H L σ) : ∀ a ∈ ownA L σ, ∃ o, H a = some o ∧ Mut (some o) := by
  induction h with
  | nil => intro a ha; simp [ownA] at ha
  | @cons sl o L σ q t ih =>
    intro a ha
    rcases List.mem_append.mp ha with ha | ha  -- 10
    · cases sl with
      | non => simp [ownH] at ha
      | val d => simp [ownH] at ha
      | own ds =>
        cases o with
        | none => exact q.elim
        | some v =>
          cases v with
          | ref b =>
            obtain ⟨vs, e, rr⟩ := q
            cases List.mem_singleton.mp ha
            exact ⟨_, e, True.intro⟩
          | _ => exact q.elim
      | ownd kvs =>
        cases o with
        | none => exact q.elim
        | some v =>
          cases v with
          | ref b =>
            cases List.mem_singleton.mp ha
            rcases q with ⟨ks, vs, ds, e, _⟩ | ⟨ks, vs, ds, e, _⟩
            · exact ⟨_, e, True.intro⟩
            · exact ⟨_, e, True.intro⟩
          | _ => exact q.elim
    · exact ih a ha
theorem Rl.ob_some (r : Rl G ρ H L σ M) : ∀ a ∈ ρ, ∃ o, H a = some o ∧ Mut (some o) := by
  intro a ha
  obtain ⟨i, hi, e⟩ := List.getElem_of_mem ha
  have hm : i < M.length := by rw [← r.len]; exact hi
  obtain ⟨b, h1, h2⟩ := r.ob i M[i] (List.getElem?_eq_getElem hm)
  rw [List.getElem?_eq_getElem hi, e] at h1
  cases h1
  revert h2
  cases M[i] with
  | list ds => exact fun ⟨vs, h, _⟩ => ⟨_, h, True.intro⟩
  | dict ds => exact fun ⟨vs, h, _⟩ => ⟨_, h, True.intro⟩
  | inst c fs => exact fun ⟨_, vs, h, _⟩ => ⟨_, h, True.intro⟩
theorem Rl.notin (r : Rl G ρ H L σ M) {a : Addr} (h : H a = none) : a ∉ ρ ∧ a ∉ ownA L σ :=
  And.intro (fun z => by obtain ⟨o, e, _⟩ := r.ob_some a z; rw [h] at e; cases e) (fun z => by obtain ⟨o, e, _⟩ := RL.own_some r.sl a z; rw [h] at e; cases e)
theorem Ro.keep (e : Ext H H') {a : Addr} {o : MO} (k : ∀ u, H a = some u → H' a = some u) (hp : ρ <+: ρ') (r : Ro G ρ H a o) : Ro G ρ' H' a o := by
  cases o with
  | list ds => obtain ⟨vs, h, r⟩ := r; exact ⟨vs, k _ h, r.mono hp e⟩
  | dict kvs => obtain ⟨vs, h, r⟩ := r; exact ⟨vs, k _ h, r.mono hp e⟩
  | inst c fs => obtain ⟨dx, vs, h, r⟩ := r; exact ⟨dx, vs, k _ h, r.mono hp e⟩
theorem Rsl.keep (e : Ext H H') (hp : ρ <+: ρ') {s : Sl} {o : Option V} (k : ∀ a ∈ ownH s o, ∀ u, H a = some u → H' a = some u) (r : Rsl G ρ H s o) : Rsl G ρ' H' s o := by
  cases s with
  | non => exact True.intro
  | val d => cases o with
    | none => exact r
    | some v => exact R.mono hp e r
  | own ds => cases o with
    | none => exact r
    | some v => cases v with
      | ref a => obtain ⟨vs, h, r⟩ := r; exact ⟨vs, k a (List.mem_singleton.mpr rfl) _ h, r.mono hp e⟩
      | _ => exact r
  | ownd ds => cases o with
    | none => exact r
    | some v => cases v with
      | ref a =>
        rcases r with ⟨ks, vs, ds, h, l, r, q⟩ | ⟨ks, vs, ds, h, l, r, q⟩
        · exact .inl ⟨ks, vs, ds, k a (List.mem_singleton.mpr rfl) _ h, l, r.mono hp e, q⟩
        · exact .inr ⟨ks, vs, ds, k a (List.mem_singleton.mpr rfl) _ h, l, r.mono hp e, q⟩
      | _ => exact r
theorem RL.keep (e : Ext H H') (hp : ρ <+: ρ') : ∀ {L : LL} {σ : L2.St}, RL G ρ H L σ → (∀ a ∈ ownA L σ, ∀ u, H a = some u → H' a = some u) → RL G ρ' H' L σ
  | _, _, .nil, _ => .nil
  | _, _, .cons r t, k => .cons (r.keep e hp fun a h => k a (List.mem_append_left _ h)) (RL.keep e hp t fun a h => k a (List.mem_append_right _ h))
/-- what is tracked changes elsewhere -/
theorem Rl.keep (r : Rl G ρ H L σ M) (e : Ext H H') (k : ∀ a, a ∈ ownA L σ ++ ρ → ∀ u, H a = some u → H' a = some u) (t : LamX.Tabs G.T H') : Rl G ρ H' L σ M :=
  ⟨r.sl.keep e (List.prefix_refl _) fun a h => k a (List.mem_append_left _ h), r.nd, r.len,
    fun i o h => let ⟨a, h1, h2⟩ := r.ob i o h; ⟨a, h1, h2.keep e (k a (List.mem_append_right _ (List.mem_iff_getElem?.mpr ⟨i, h1⟩))) (List.prefix_refl _)⟩, t⟩
theorem Tabs.upd {T : List (Addr × Str)} {a : Addr} {o u : HO} (t : LamX.Tabs T H) (h : H a = some u) (n : ∀ ps, u ≠ .tbl ps) (n2 : ∀ c x, u ≠ LamX.CodeO c x) : LamX.Tabs T (upd H a o) := by
  intro p hp
  obtain ⟨ps, e, r, k⟩ := t p hp
  refine ⟨ps, ?_, r, fun pos cv hc => ?_⟩
  · rw [upd_ne (fun z => ?_)]
    · exact e
    · rw [z, h] at e; cases e; exact n _ rfl
  · obtain ⟨c, q, e'⟩ := k pos cv hc
    refine ⟨c, q, ?_⟩
    rw [upd_ne (fun z => ?_)]
    · exact e'
    · rw [z, h] at e'; cases e'; exact n2 _ _ rfl
theorem ext_upd {a : Addr} {o u : HO} (h : H a = some u) (hs : stb u = false) : Ext H (upd H a o) := fun b w e s => by
  rw [upd_ne (fun z => ?_)]
  · exact e
  · rw [z, h] at e; cases e; rw [hs] at s; cases s
/-- a list that nobody holds is frozen -/
theorem Rl.frz (r : Rl G ρ H L σ M) {a : Addr} {vs : List V} {o : Obj} (h : H a = some (.lst vs)) (h1 : a ∉ ρ) (h2 : a ∉ ownA L σ) : Rl G ρ (upd H a (.frz o (.lst vs))) L σ M := by
  refine r.keep (ext_upd h rfl) (fun b hb u e => ?_) (Tabs.upd r.tb h (fun _ z => nomatch z) fun _ _ z => nomatch z)
  rw [upd_ne (fun z => ?_)]
  · exact e
  · rcases List.mem_append.mp hb with q | q
    · exact h2 (z ▸ q)
    · exact h1 (z ▸ q)
theorem Stp.frz {O O' : List Addr} (s : Stp ρ H O ρ' H' O') {a : Addr} {u : HO} {w : HO} (h0 : Nw H a) (h : H' a = some u) (hw : ∀ ps, w ≠ .tbl ps) : Stp ρ H O ρ' (upd H' a w) O' where
  pre := s.pre
  ext := fun b o e st => by rw [upd_ne (h0.ne e fun ps z => by rw [z] at st; cases st)]; exact s.ext b o e st
  keep := fun b o e hr ho nt => by rw [upd_ne (h0.ne e nt)]; exact s.keep b o e hr ho nt
  new := s.new
  there := fun b e => by
    by_cases z : b = a
    · subst z; exact h0
    · exact s.there b fun o q => e o (by rw [upd_ne z]; exact q)
  own := s.own
end

/-! ### new lists -/
section
variable (G : Gb) (xn : Nat → Option Str) (W : WX)
def XF (ρ : List Addr) (H : Hp) (L : LL) (σ : L2.St) (r : Ra) (Q : VK) : Prop := match r with
  | .ok ds L' M' => ∀ ρ' H' a vs, Stp ρ H (ownA L σ) ρ' H' (ownA L' σ) → Rl G ρ' H' L' σ M' → H' a = some (.lst vs) → Rs G ρ' H' ds vs → Nw H a → a ∉ ρ' → a ∉ ownA L' σ → Q (.ref a) H'
  | .err x L' M' => ∀ ρ' H' cls dd, Stp ρ H (ownA L σ) ρ' H' (ownA L' σ) → Rl G ρ' H' L' σ M' → REr G ρ' H' xn x cls dd → W cls dd σ H'
  | .stk => False
def tF (m : MA) : TE := fun σ H Q => ∃ ρ L M, Rl G ρ H L σ M ∧ XF G xn W ρ H L σ (m L M) Q
end
abbrev EF (X : Cx) (G : Gb) (xn : Nat → Option Str) (W : WX) (e : Expr) (m : MA) : Prop := PE X e (tF G xn W m)
/-- a new list as a value -/
def lstX (m : MA) : MX := fun L M => (m L M).bind fun ds L M => .ok (.lst ds) L M
def Rx.bindA (r : Rx) (k : D → MA) : Ra := match r with
  | .ok d L M => k d L M
  | .err x L M => .err x L M
  | .stk => .stk
section
variable {X : Cx} {G : Gb} {xn : Nat → Option Str} {W : WX} {ρ ρ1 : List Addr} {H H1 : Hp} {L L1 : LL} {σ : L2.St} {M : MM} {e : Expr} {m : MA}
theorem XF.shift {r : Ra} {Q : VK} (h : XF G xn W ρ H L σ r Q) (s : Stp ρ H (ownA L σ) ρ1 H1 (ownA L1 σ)) : XF G xn W ρ1 H1 L1 σ r Q := by
  cases r with
  | ok d L' M' => exact fun ρ' H' a vs s' b c d e => h ρ' H' a vs (s.trans s') b c d (s.there a e)
  | err x L' M' => exact fun ρ' H' cls dd s' => h ρ' H' cls dd (s.trans s')
  | stk => exact h
/-- what is new is given -/
theorem XF.give {ds : List D} {ys : List V} {Q : VK} (h : XF G xn W ρ H L σ (.ok ds L M) Q) (rl : Rl G ρ H L σ M) (r : Rs G ρ H ds ys) {p : Addr} (hp : H p = none) : Q (.ref p) (upd H p (.lst ys)) := by
  have g := upd_grow (o := .lst ys) hp
  have n := rl.notin hp
  exact h ρ _ p ys (Stp.grow g) (rl.grow g) upd_same (r.mono (List.prefix_refl _) (Ext.of g)) (.none hp) n.1 n.2
/-- .. as a value: it is frozen -/
theorem ex_ef (h : EF X G xn W e m) : EX X G xn W e (lstX m) := by
  refine PE.imp (KK.PE.frz h) fun σ H Q ⟨ρ, L, M, rl, h⟩ => ⟨ρ, L, M, rl, ?_⟩
  unfold lstX at h
  revert h
  cases m L M with
  | ok ds L' M' => exact fun h ρ' H' a vs s r e rr h0 n1 n2 => .inr ⟨a, _, rfl, e, True.intro, fun o => h ρ' _ (.ref a) (s.frz h0 e fun _ z => nomatch z) (r.frz e n1 n2) (.lst ⟨o, upd_same⟩ (rr.mono (List.prefix_refl _) (ext_upd e rfl)))⟩
  | err x L' M' => exact fun h => h
  | stk => exact fun h => h
/-- .. for a moment -/
theorem exb_ef (h : EF X G xn W e m) : EXB X G xn W e (lstX m) := by
  refine PE.imp h fun σ H Q ⟨ρ, L, M, rl, h⟩ => ⟨ρ, L, M, rl, ?_⟩
  unfold lstX at h
  revert h
  cases m L M with
  | ok ds L' M' => exact fun h ρ' H' a vs s r e rr h0 n1 n2 => h ρ' H' _ s r (.l e rr)
  | err x L' M' => exact fun h => h
  | stk => exact fun h => h
theorem XA.bindF {r : Ra} {k : List D → MA} {Q : VK} (h : XF G xn W ρ H L σ (match r with | .ok d L M => k d L M | .err x L M => .err x L M | .stk => .stk) Q) :
    XA G xn W ρ H L σ r fun vs H1 => ∃ ρ1 L1 M1 ds, Stp ρ H (ownA L σ) ρ1 H1 (ownA L1 σ) ∧ Rl G ρ1 H1 L1 σ M1 ∧ Rs G ρ1 H1 ds vs ∧ XF G xn W ρ1 H1 L1 σ (k ds L1 M1) Q := by
  cases r with
  | ok d L' M' => exact fun ρ' H' v s a b => ⟨ρ', L', M', d, s, a, b, XF.shift (r := k d L' M') h s⟩
  | err x L' M' => exact h
  | stk => exact h
theorem XB.bindF {r : Rx} {k : D → MA} {Q : VK} (h : XF G xn W ρ H L σ (r.bindA k) Q) :
    XB G xn W ρ H L σ r fun v H1 => ∃ ρ1 L1 M1 d, Stp ρ H (ownA L σ) ρ1 H1 (ownA L1 σ) ∧ Rl G ρ1 H1 L1 σ M1 ∧ RB G ρ1 H1 d v ∧ XF G xn W ρ1 H1 L1 σ (k d L1 M1) Q := by
  cases r with
  | ok d L' M' => exact fun ρ' H' v s a b => ⟨ρ', L', M', d, s, a, b, XF.shift (r := k d L' M') h s⟩
  | err x L' M' => exact h
  | stk => exact h
theorem XP.toB {r : Rx} {Q : VK} (h : XP G xn W ρ H L σ r fun v H1 => Q v H1) (k : ∀ ρ1 L1 M1 d v H1, Stp ρ H (ownA L σ) ρ1 H1 (ownA L1 σ) → Rl G ρ1 H1 L1 σ M1 → R G ρ1 H1 d v → Q v H1 → Q v H1) : XP G xn W ρ H L σ r Q := h

/-! displays -/
def lenA1 (t : MA) : MA := fun L M => match t L M with
  | .ok ds L M => if ds.length ≤ sizeLine then .ok ds L M else .stk
  | r => r
theorem ef_lst {es : List Expr} {pos : Pos} {t : MA} (h : EA X G xn W es t) : EF X G xn W (.List es pos) (lenA1 t) := by
  refine PE.imp (pe_lst h) fun σ H Q ⟨ρ, L, M, rl, h⟩ => ⟨ρ, L, M, rl, ?_⟩
  have h' : XF G xn W ρ H L σ (match t L M with | .ok d L M => (if d.length ≤ sizeLine then .ok d L M else .stk) | .err x L M => .err x L M | .stk => .stk) Q := by
    revert h
    unfold lenA1
    cases t L M <;> exact fun h => h
  refine XA.mono (XA.bindF (k := fun d L M => if d.length ≤ sizeLine then .ok d L M else .stk) h') ?_
  rintro vs H1 ⟨ρ1, L1, M1, ds, s1, rl1, r1, h1⟩
  split at h1
  · rename_i hz
    exact ⟨by rw [← r1.length]; exact hz, fun p hp => XF.give h1 rl1 r1 hp⟩
  · exact h1.elim

/-! one's own name, frozen by being read -/
def frzM (i : Nat) : MX := fun L M => match L[i]? with
  | some (.val d) => .ok d L M
  | some (.own ds) => .ok (.lst ds) (L.set i (.val (.lst ds))) M
  | _ => .stk
theorem set_self {α : Type} : ∀ {l : List α} {i : Nat} {x : α}, l[i]? = some x → l.set i x = l
  | [], _, _, h => by simp at h
  | y :: l, 0, x, h => by simp at h; subst h; rfl
  | y :: l, i + 1, x, h => by rw [List.set_cons_succ, set_self (by simpa using h)]
theorem own_in : ∀ {L : LL} {σ : L2.St} {i : Nat} {s : Sl} {o : Option V} {a : Addr}, L[i]? = some s → σ[i]? = some o → a ∈ ownH s o → a ∈ ownA L σ
  | [], _, _, _, _, _, h, _, _ => by simp at h
  | _ :: _, [], _, _, _, _, _, h, _ => by simp at h
  | s :: L, o :: σ, 0, _, _, _, h1, h2, h => by simp at h1 h2; subst h1 h2; exact List.mem_append_left _ h
  | s :: L, o :: σ, i + 1, _, _, _, h1, h2, h => List.mem_append_right _ (own_in (i := i) (by simpa using h1) (by simpa using h2) h)
theorem own_out : ∀ {L : LL} {σ : L2.St} {i : Nat} {s : Sl} {o : Option V} {a : Addr}, (ownA L σ).Nodup → L[i]? = some s → σ[i]? = some o → a ∈ ownH s o → a ∉ ownA (L.set i .non) σ
  | [], _, _, _, _, _, _, h, _, _ => by simp at h
  | _ :: _, [], _, _, _, _, _, _, h, _ => by simp at h
  | s :: L, o :: σ, 0, _, _, a, nd, h1, h2, h => by
    simp at h1 h2; subst h1 h2
    intro z
    rcases List.mem_append.mp z with q | q
    · simp [ownH] at q
    · exact (List.nodup_append.mp nd).2.2 a h a q rfl
  | s :: L, o :: σ, i + 1, _, _, a, nd, h1, h2, h => by
    intro z
    have nd' := List.nodup_append.mp nd
    rcases List.mem_append.mp z with q | q
    · exact nd'.2.2 a q a (own_in (i := i) (by simpa using h1) (by simpa using h2) h) rfl
    · exact own_out (i := i) nd'.2.1 (by simpa using h1) (by simpa using h2) h q
theorem RL.own (r : RL G ρ H L σ) {i : Nat} {ds : List D} (e : L[i]? = some (.own ds)) : ∃ a vs, σ[i]? = some (some (.ref a)) ∧ H a = some (.lst vs) ∧ Rs G ρ H ds vs := by
  obtain ⟨o, h1, h2⟩ := RL.get r e
  cases o with
  | none => exact h2.elim
  | some v =>
    cases v with
    | ref a => obtain ⟨vs, h3, h4⟩ := h2; exact ⟨a, vs, h1, h3, h4⟩
    | _ => exact h2.elim
theorem Rl.drop1 (r : Rl G ρ H L σ M) {i : Nat} {o : Option V} (h : σ[i]? = some o) : Rl G ρ H (L.set i .non) σ M ∧ List.Sublist (ownA (L.set i .non) σ) (ownA L σ) := by
  have h1 := r.setN (i := i) (s := .non) (o := o) True.intro rfl
  have h2 := ownA_set (L := L) (σ := σ) (i := i) (s := .non) (o := o) rfl
  rw [set_self h] at h1 h2
  exact ⟨h1, h2⟩
theorem set_set {α : Type} : ∀ {l : List α} {i : Nat} {x y : α}, (l.set i x).set i y = l.set i y
  | [], _, _, _ => rfl
  | _ :: l, 0, _, _ => rfl
  | a :: l, i + 1, x, y => by rw [List.set_cons_succ, List.set_cons_succ, List.set_cons_succ, set_set]
theorem Rl.frzAt (r : Rl G ρ H L σ M) {i : Nat} {a : Addr} {ds : List D} {vs : List V} {o : Obj} (e : L[i]? = some (.own ds)) (h : σ[i]? = some (some (.ref a))) (ha : H a = some (.lst vs)) (rr : Rs G ρ H ds vs) :
    Rl G ρ (upd H a (.frz o (.lst vs))) (L.set i (.val (.lst ds))) σ M ∧ Stp ρ H (ownA L σ) ρ (upd H a (.frz o (.lst vs))) (ownA (L.set i (.val (.lst ds))) σ) := by
  have nd := List.nodup_append.mp r.nd
  have ha' : a ∈ ownA L σ := own_in e h (List.mem_singleton.mpr rfl)
  obtain ⟨r1, sub⟩ := r.drop1 h
  have r2 := r1.frz (o := o) ha (fun z => nd.2.2 a ha' a z rfl) (own_out nd.1 e h (List.mem_singleton.mpr rfl))
  have ex : Ext H (upd H a (.frz o (.lst vs))) := ext_upd ha rfl
  have r3 := r2.setV (i := i) (d := .lst ds) (v := .ref a) (.lst ⟨o, upd_same⟩ (rr.mono (List.prefix_refl _) ex))
  have sub' : List.Sublist (ownA (L.set i (.val (.lst ds))) σ) (ownA L σ) := by
    have h2 := ownA_set (L := L) (σ := σ) (i := i) (s := .val (.lst ds)) (o := some (.ref a)) rfl
    rw [set_self h] at h2
    exact h2
  rw [set_self h, set_set] at r3
  refine ⟨r3, ⟨List.prefix_refl _, ex, fun b u eb _ ho _ => ?_, fun _ h => .inl h, fun b eb => ?_, fun b hb => .inl (sub'.subset hb)⟩⟩
  · rw [upd_ne (fun z => ho (by rw [z]; exact ha'))]; exact eb
  · by_cases z : b = a
    · subst z
      obtain ⟨ps, q⟩ := eb _ upd_same
      cases q
    · exact fun o q => eb o (by rw [upd_ne z]; exact q)
variable {pos : Pos}
theorem ex_frz (i : Nat) {x : Str} (hN : X.N[i]? = some x := by rfl) (hv : Vis X.env.scope x := by first | exact Or.inl rfl | exact Or.inr (Or.inl rfl) | exact Or.inr (Or.inr rfl)) (hd : (x == ("__debug__" : Str)) = false := by decide +kernel)
    (hcd : (x == ("__classdict__" : Str)) = false := by decide +kernel) : EX X G xn W (.Name x pos) (frzM i) := by
  refine PE.imp (KK.PE.frz (pe_var hN hv hd hcd)) fun σ H Q ⟨ρ, L, M, rl, h⟩ => ?_
  unfold frzM at h
  split at h
  · rename_i d e
    obtain ⟨v, e1, r⟩ := rl.sl.val e
    exact ⟨v, e1, .inl (h ρ H v Stp.refl rl r)⟩
  · rename_i ds e
    obtain ⟨a, vs, h1, h2, h3⟩ := RL.own rl.sl e
    refine ⟨_, h1, .inr ⟨a, _, rfl, h2, True.intro, fun o => ?_⟩⟩
    obtain ⟨r1, s1⟩ := rl.frzAt (o := o) e h1 h2 h3
    exact h ρ _ _ s1 r1 (.lst ⟨o, upd_same⟩ (h3.mono (List.prefix_refl _) (ext_upd h2 rfl)))
  · exact h.elim
end
end KK

namespace KK
open PySem PySem.Spec PyProof.Rows L2

/-! ### lists of one's own -/
theorem own_set {ds : List D} {a : Addr} : ∀ {L : LL} {σ : L2.St} {i : Nat}, (ownA L σ).Nodup → a ∉ ownA L σ →
    (ownA (L.set i (.own ds)) (σ.set i (some (.ref a)))).Nodup ∧ ∀ b ∈ ownA (L.set i (.own ds)) (σ.set i (some (.ref a))), b = a ∨ b ∈ ownA L σ
  | [], _, _, _, _ => by simp [ownA]
  | s :: L, [], i, _, _ => by cases i <;> simp [ownA]
  | s :: L, o :: σ, 0, nd, h => by
    have nd' := List.nodup_append.mp nd
    have h' : a ∉ ownA L σ := fun z => h (List.mem_append_right _ z)
    show (([a] ++ ownA L σ : List Addr)).Nodup ∧ ∀ b ∈ ([a] ++ ownA L σ : List Addr), b = a ∨ b ∈ ownH s o ++ ownA L σ
    refine ⟨List.nodup_cons.mpr ⟨h', nd'.2.1⟩, fun b hb => ?_⟩
    rcases List.mem_cons.mp hb with q | q
    · exact .inl q
    · exact .inr (List.mem_append_right _ q)
  | s :: L, o :: σ, i + 1, nd, h => by
    have nd' := List.nodup_append.mp nd
    obtain ⟨h1, h2⟩ := own_set (L := L) (σ := σ) (i := i) nd'.2.1 fun z => h (List.mem_append_right _ z)
    show ((ownH s o ++ ownA (L.set i (.own ds)) (σ.set i (some (.ref a))) : List Addr)).Nodup ∧ ∀ b ∈ (ownH s o ++ ownA (L.set i (.own ds)) (σ.set i (some (.ref a))) : List Addr), b = a ∨ b ∈ ownH s o ++ ownA L σ
    refine ⟨List.nodup_append.mpr ⟨nd'.1, h1, fun x hx y hy e => ?_⟩, fun b hb => ?_⟩
    · subst e
      rcases h2 x hy with q | q
      · subst q; exact h (List.mem_append_left _ hx)
      · exact nd'.2.2 x hx x q rfl
    · rcases List.mem_append.mp hb with q | q
      · exact .inr (List.mem_append_left _ q)
      · exact (h2 b q).imp id (List.mem_append_right _)
section
variable {X : Cx} {G : Gb} {xn : Nat → Option Str} {W : WX} {ρ ρ' : List Addr} {H H' : Hp} {L : LL} {σ : L2.St} {M : MM} {e : Expr} {m : MX} {pos : Pos}
/-- a new list comes into a slot -/
theorem Rl.setOwn (r : Rl G ρ H L σ M) {i : Nat} {a : Addr} {ds : List D} {vs : List V} (ha : H a = some (.lst vs)) (rr : Rs G ρ H ds vs) (h1 : a ∉ ρ) (h2 : a ∉ ownA L σ) : Rl G ρ H (L.set i (.own ds)) (σ.set i (some (.ref a))) M := by
  have nd := List.nodup_append.mp r.nd
  obtain ⟨n1, n2⟩ := own_set (ds := ds) (i := i) nd.1 h2
  refine ⟨r.sl.set (s := .own ds) (o := some (.ref a)) ⟨vs, ha, rr⟩ i, List.nodup_append.mpr ⟨n1, nd.2.1, fun x hx y hy e => ?_⟩, r.len, r.ob, r.tb⟩
  subst e
  rcases n2 x hx with q | q
  · subst q; exact h1 hy
  · exact nd.2.2 x q x hy rfl
theorem Rl.updAt (r : Rl G ρ H L σ M) {i : Nat} {a : Addr} {ds ds' : List D} {vs vs' : List V} (e : L[i]? = some (.own ds)) (h : σ[i]? = some (some (.ref a))) (ha : H a = some (.lst vs)) (rr : Rs G ρ H ds' vs') :
    Rl G ρ (upd H a (.lst vs')) (L.set i (.own ds')) σ M ∧ Stp ρ H (ownA L σ) ρ (upd H a (.lst vs')) (ownA (L.set i (.own ds')) σ) := by
  have nd := List.nodup_append.mp r.nd
  have ha' : a ∈ ownA L σ := own_in e h (List.mem_singleton.mpr rfl)
  obtain ⟨r1, sub⟩ := r.drop1 h
  have n1 : a ∉ ρ := fun z => nd.2.2 a ha' a z rfl
  have n2 : a ∉ ownA (L.set i .non) σ := own_out nd.1 e h (List.mem_singleton.mpr rfl)
  have ex : Ext H (upd H a (.lst vs')) := ext_upd ha rfl
  have r2 : Rl G ρ (upd H a (.lst vs')) (L.set i .non) σ M := r1.keep ex (fun b hb u eb => by
    rw [upd_ne (fun z => ?_)]
    · exact eb
    · rcases List.mem_append.mp hb with q | q
      · exact n2 (z ▸ q)
      · exact n1 (z ▸ q)) (Tabs.upd r.tb ha (fun _ z => nomatch z) fun _ _ z => nomatch z)
  have r3 := r2.setOwn (i := i) upd_same (rr.mono (List.prefix_refl _) ex) n1 n2
  have own : ∀ b ∈ ownA (L.set i (.own ds')) σ, b ∈ ownA L σ := fun b hb => by
    have := (own_set (ds := ds') (L := L.set i .non) (σ := σ) (i := i) (nd.1.sublist sub) n2).2 b
    rw [set_self h, set_set] at this
    rcases this hb with q | q
    · rw [q]; exact ha'
    · exact sub.subset q
  rw [set_self h, set_set] at r3
  refine ⟨r3, ⟨List.prefix_refl _, ex, fun b u eb _ ho _ => ?_, fun _ h => .inl h, fun b eb => ?_, fun b hb => .inl (own b hb)⟩⟩
  · rw [upd_ne (fun z => ho (by rw [z]; exact ha'))]; exact eb
  · by_cases z : b = a
    · subst z
      obtain ⟨ps, q⟩ := eb _ upd_same
      first | (cases q; done) | exact absurd q (hu ps)
    · exact fun o q => eb o (by rw [upd_ne z]; exact q)

/-- x = a new list -/
def ownM (i : Nat) (m : MA) : MS := fun L M => match m L M with
  | .ok ds L1 M1 => .nx (L1.set i (.own ds)) M1
  | .err x L1 M1 => .err x L1 M1
  | .stk => .stk
theorem es_own {U : Wd} {N : List Str} {sc : Scope} {n i : Nat} {x : Str} {npos : Pos} {t : MA} (c : Ct U N sc W n X) (he : EF X G xn W e t) (hN : N[i]? = some x) (hx : sc.names.lookup x = some .local ∨ sc.names.lookup x = some .cell ∧ X.fn x = true) 
    (hs : swapsWith e (some (.Name x npos)) pos.line X.env = pure false := by rfl) : ES X G xn W (.Assign [.Name x npos] e pos) (ownM i t) := by
  refine PS.imp (ps_set c.nd (by rw [c.N]; exact hN) (c.loc hx).1 he hs (c.loc hx).2) fun D σ H ⟨ρ, L, M, rl, h⟩ => ⟨ρ, L, M, rl, ?_⟩
  unfold ownM at h
  revert h
  cases t L M with
  | ok ds L' M' =>
    refine fun h ρ' H' a vs s r ea rr h0 n1 n2 => h ρ' H' _ ?_ (r.setOwn ea rr n1 n2)
    refine ⟨s.pre, s.ext, s.keep, s.new, s.there, fun b hb => ?_⟩
    rcases (own_set (ds := ds) (i := i) (List.nodup_append.mp r.nd).1 n2).2 b hb with q | q
    · rw [q]; exact .inr h0
    · exact s.own b q
  | err x L' M' => exact fun h ρ' H' cls dd s r => h ρ' H' σ cls dd s r
  | stk => exact fun h => h

/-- x.append(e) -/
def appM (i : Nat) (m : MX) : MX := fun L M => match L[i]? with
  | some (.own _) => (m L M).bind fun d L M => match L[i]? with
    | some (.own ds) => if ds.length < sizeLine then .ok .non (L.set i (.own (ds ++ [d]))) M else .stk
    | _ => .stk
  | _ => .stk
theorem own_look {i : Nat} {x : Str} {np : Pos} (hN : X.N[i]? = some x) (hv : Vis X.env.scope x) (hd : (x == ("__debug__" : Str)) = false) (hcd : (x == ("__classdict__" : Str)) = false) : 
    PE X (.Name x np) (fun σ H Q => ∃ (ρ : List Addr) (L : LL) (M : MM) (ds : List D), Rl G ρ H L σ M ∧ L[i]? = some (.own ds) ∧ ∀ a vs, σ[i]? = some (some (.ref a)) → H a = some (.lst vs) → Q (.ref a) H) :=
  PE.imp (pe_var hN hv hd hcd) fun σ H Q ⟨ρ, L, M, ds, rl, e, h⟩ => by
    obtain ⟨a, vs, h1, h2, h3⟩ := RL.own rl.sl e
    exact ⟨_, h1, h a vs h1 h2⟩
theorem ex_app (i : Nat) {x : Str} {np apos cpos : Pos} (he : EX X G xn W e m) (hN : X.N[i]? = some x := by rfl) (hv : Vis X.env.scope x := by first | exact Or.inl rfl | exact Or.inr (Or.inl rfl) | exact Or.inr (Or.inr rfl)) (hd : (x == ("__debug__" : Str)) = false := by decide +kernel)
    (hcd : (x == ("__classdict__" : Str)) = false := by decide +kernel) 
    (h1 : attributeBase (.Name x np) "append" X.env (eval (.Name x np) X.env) = eval (.Name x np) X.env := by rfl)
    (h2 : ((backTo cpos (starEach [e] X.env)).all (!·.1) && (backToKw cpos (keywordEach [] X.env)).all (·.1.isSome) && decide ([e].length + ([] : List Keyword).length + (if ([] : List Keyword).isEmpty then 0 else 1) < 30)) = true := by rfl)
    (h3 : (apos.endLine == cpos.line) = true := by rfl)
    (h4 : starEach [e] X.env = (false, eval e X.env) :: starEach [] X.env := by rfl) (h5 : (backTo cpos (starEach [] X.env)).any (·.1) = false := by rfl) :
    EX X G xn W (.Call (.Attribute (.Name x np) "append" apos) [e] [] cpos) (appM i m) := by
  refine PE.imp (pe_bm PySem.F.plainAttrs_list PySem.F.slot_list_append PySem.F.type_list_append mt_append (own_look (G := G) hN hv hd hcd) (pa_cons he pa_nil h4) h1 h2 h3 h4 h5) fun σ H Q ⟨ρ, L, M, rl, h⟩ => ?_
  unfold appM at h
  split at h
  · rename_i ds0 e0
    refine ⟨ρ, L, M, ds0, rl, e0, fun a vs e1 e2 => ⟨.inl ⟨rfl, vs, SqL.of e2⟩, ρ, L, M, rl, XP.mono (XP.bind h) ?_⟩⟩
    rintro y H1 ⟨ρ1, L1, M1, d, s1, rl1, r1, h1⟩
    dsimp only at h1
    split at h1
    · rename_i ds e3
      split at h1
      · rename_i hz
        obtain ⟨a', vs1, e4, e5, e6⟩ := RL.own rl1.sl e3
        rw [e1] at e4; cases e4
        obtain ⟨r2, s2⟩ := rl1.updAt e3 e1 e5 (e6.append (.cons r1 .nil))
        exact ⟨a, vs1, y, rfl, rfl, e5, by rw [← e6.length]; exact hz, h1 ρ1 _ .non s2 r2 .non⟩
      · exact h1.elim
    · exact h1.elim
  · exact h.elim

/-- x.pop(e) -/
def ixOk (k : Int) : Bool := decide (-(2 ^ 63) ≤ k) && decide (k < 2 ^ 63)
def popAt (ds : List D) (k : Int) : Option (D × List D) := if ixOk k = true then match seqIndex? k ds.length with
  | some j => match ds[j]? with
    | some d => some (d, ds.eraseIdx j)
    | none => none
  | none => none
  else none
theorem popAt_eq {ds : List D} {k : Int} {p : D × List D} (h : popAt ds k = some p) : -(2 ^ 63) ≤ k ∧ k < 2 ^ 63 ∧ ∃ j, seqIndex? k ds.length = some j ∧ ds[j]? = some p.1 ∧ p.2 = ds.eraseIdx j := by
  unfold popAt at h
  split at h
  · rename_i hk
    unfold ixOk at hk
    rw [Bool.and_eq_true, decide_eq_true_eq, decide_eq_true_eq] at hk
    split at h
    · rename_i j hj
      split at h
      · rename_i d hd
        cases h
        exact ⟨hk.1, hk.2, j, hj, hd, rfl⟩
      · cases h
    · cases h
  · cases h
def popM (i : Nat) (m : MX) : MX := fun L M => match L[i]? with
  | some (.own _) => (m L M).bind fun k L M => match k, L[i]? with
    | .int k, some (.own ds) => match popAt ds k with
      | some p => .ok p.1 (L.set i (.own p.2)) M
      | none => .stk
    | _, _ => .stk
  | _ => .stk
theorem ex_pop (i : Nat) {x : Str} {np apos cpos : Pos} (he : EX X G xn W e m) (hN : X.N[i]? = some x := by rfl) (hv : Vis X.env.scope x := by first | exact Or.inl rfl | exact Or.inr (Or.inl rfl) | exact Or.inr (Or.inr rfl)) (hd : (x == ("__debug__" : Str)) = false := by decide +kernel)
    (hcd : (x == ("__classdict__" : Str)) = false := by decide +kernel) 
    (h1 : attributeBase (.Name x np) "pop" X.env (eval (.Name x np) X.env) = eval (.Name x np) X.env := by rfl)
    (h2 : ((backTo cpos (starEach [e] X.env)).all (!·.1) && (backToKw cpos (keywordEach [] X.env)).all (·.1.isSome) && decide ([e].length + ([] : List Keyword).length + (if ([] : List Keyword).isEmpty then 0 else 1) < 30)) = true := by rfl)
    (h3 : (apos.endLine == cpos.line) = true := by rfl)
    (h4 : starEach [e] X.env = (false, eval e X.env) :: starEach [] X.env := by rfl) (h5 : (backTo cpos (starEach [] X.env)).any (·.1) = false := by rfl) :
    EX X G xn W (.Call (.Attribute (.Name x np) "pop" apos) [e] [] cpos) (popM i m) := by
  refine PE.imp (pe_bm PySem.F.plainAttrs_list PySem.F.slot_list_pop PySem.F.type_list_pop mt_popAt (own_look (G := G) hN hv hd hcd) (pa_cons he pa_nil h4) h1 h2 h3 h4 h5) fun σ H Q ⟨ρ, L, M, rl, h⟩ => ?_
  unfold popM at h
  split at h
  · rename_i ds0 e0
    refine ⟨ρ, L, M, ds0, rl, e0, fun a vs e1 e2 => ⟨.inl ⟨rfl, vs, SqL.of e2⟩, ρ, L, M, rl, XP.mono (XP.bind h) ?_⟩⟩
    rintro y H1 ⟨ρ1, L1, M1, d, s1, rl1, r1, h1⟩
    dsimp only at h1
    split at h1
    · rename_i k ds e3
      split at h1
      · rename_i p hp
        obtain ⟨k1, k2, j, hj, hd', hp2⟩ := popAt_eq hp
        obtain ⟨a', vs1, e4, e5, e6⟩ := RL.own rl1.sl e3
        rw [e1] at e4; cases e4
        cases r1.int'
        obtain ⟨v, hv', rv⟩ := e6.get hd'
        obtain ⟨r2, s2⟩ := rl1.updAt e3 e1 e5 (e6.eraseIdx j)
        rw [hp2] at h1
        exact ⟨a, vs1, k, j, v, rfl, rfl, e5, k1, k2, by rw [← e6.length]; exact hj, hv', h1 ρ1 _ v s2 r2 (rv.step s2)⟩
      · exact h1.elim
    · exact h1.elim
  · exact h.elim
/-- x.pop() -/
def popL (i : Nat) : MX := fun L M => match L[i]? with
  | some (.own ds) => match ds[ds.length - 1]? with
    | some d => .ok d (L.set i (.own ds.dropLast)) M
    | none => .stk
  | _ => .stk
theorem Rs.dropLast {ds : List D} {vs : List V} (r : Rs G ρ H ds vs) : Rs G ρ H ds.dropLast vs.dropLast := by
  rw [List.dropLast_eq_take, List.dropLast_eq_take, r.length]
  exact r.take _
theorem ex_popL (i : Nat) {x : Str} {np apos cpos : Pos} (hN : X.N[i]? = some x := by rfl) (hv : Vis X.env.scope x := by first | exact Or.inl rfl | exact Or.inr (Or.inl rfl) | exact Or.inr (Or.inr rfl)) (hd : (x == ("__debug__" : Str)) = false := by decide +kernel)
    (hcd : (x == ("__classdict__" : Str)) = false := by decide +kernel) 
    (h1 : attributeBase (.Name x np) "pop" X.env (eval (.Name x np) X.env) = eval (.Name x np) X.env := by rfl)
    (h3 : (apos.endLine == cpos.line) = true := by rfl) :
    EX X G xn W (.Call (.Attribute (.Name x np) "pop" apos) [] [] cpos) (popL i) := by
  refine PE.imp (pe_bm0 PySem.F.plainAttrs_list PySem.F.slot_list_pop PySem.F.type_list_pop mt_pop (own_look (G := G) hN hv hd hcd) h1 h3) fun σ H Q ⟨ρ, L, M, rl, h⟩ => ?_
  unfold popL at h
  split at h
  · rename_i ds e0
    split at h
    · rename_i d hd'
      refine ⟨ρ, L, M, ds, rl, e0, fun a vs e1 e2 => ?_⟩
      obtain ⟨a', vs1, e4, e5, e6⟩ := RL.own rl.sl e0
      rw [e1] at e4; cases e4
      rw [e2] at e5; cases e5
      obtain ⟨v, hv', rv⟩ := e6.get hd'
      obtain ⟨r2, s2⟩ := rl.updAt e0 e1 e2 e6.dropLast
      exact ⟨.inl ⟨rfl, vs, SqL.of e2⟩, a, vs, v, rfl, rfl, e2, by rw [← e6.length]; exact hv', h ρ _ v s2 r2 (rv.step s2)⟩
    · exact h.elim
  · exact h.elim
/-- x[k] = e -/
def putM (i : Nat) (m k : MX) : MS := fun L M => match m L M with
  | .ok d L1 M1 => match L1[i]? with
    | some (.own _) => match k L1 M1 with
      | .ok (.int k) L2 M2 => match L2[i]? with
        | some (.own ds) => match ixN ds.length k with
          | some j => .nx (L2.set i (.own (ds.set j d))) M2
          | none => .stk
        | _ => .stk
      | .ok _ _ _ => .stk
      | .err x L1 M1 => .err x L1 M1
      | .stk => .stk
    | _ => .stk
  | .err x L1 M1 => .err x L1 M1
  | .stk => .stk

theorem XP.toO2 {L : LL} {σ : L2.St} {ρ : List Addr} {H : Hp} {Z : L2.Ends} {r : Rx} {Q : VK} {k : D → LL → MM → Ou} (h : OP G xn W ρ H (ownA L σ) Z (match r with | .ok d L1 M1 => k d L1 M1 | .err x L1 M1 => .err x L1 M1 | .stk => .stk))
    (hQ : ∀ ρ1 H1 d L1 M1 v, Stp ρ H (ownA L σ) ρ1 H1 (ownA L1 σ) → Rl G ρ1 H1 L1 σ M1 → R G ρ1 H1 d v → OP G xn W ρ1 H1 (ownA L1 σ) Z (k d L1 M1) → Q v H1) : XP G xn W ρ H L σ r Q := XP.toO h hQ
theorem es_put (i : Nat) {k : Expr} {mk : MX} {x : Str} {np tp : Pos} (he : EX X G xn W e m) (hk : EX X G xn W k mk) (hN : X.N[i]? = some x := by rfl) (hv : Vis X.env.scope x := by first | exact Or.inl rfl | exact Or.inr (Or.inl rfl) | exact Or.inr (Or.inr rfl)) (hd : (x == ("__debug__" : Str)) = false := by decide +kernel)
    (hcd : (x == ("__classdict__" : Str)) = false := by decide +kernel) 
    (ha : ∀ v, assign (.Subscript (.Name x np) k tp) X.env v = (do
      let ov ← holding [v] (eval (.Name x np) X.env)
      let iv ← holding [v, ov] (eval k X.env)
      standAt tp
      holding [v, ov, iv] (setItem ov iv v)  -- 11
      release [v, ov, iv] []) := by intro _; rfl)
    (hs : swapsWithSole [.Subscript (.Name x np) k tp] e pos.line X.env = pure false := by rfl) (hw : swappedStores [.Subscript (.Name x np) k tp] e X.env = pure none := by rfl)
    (h1 : (assignEach [.Subscript (.Name x np) k tp] X.env).map (·.2) = [assign (.Subscript (.Name x np) k tp) X.env] := by rfl) : ES X G xn W (.Assign [.Subscript (.Name x np) k tp] e pos) (putM i m mk) := by
  refine PS.imp (ps_asg he (pg_sub (own_look (G := G) hN hv hd hcd) hk set_list ha) hs hw h1) fun D σ H ⟨ρ, L, M, rl, h⟩ => ⟨ρ, L, M, rl, ?_⟩
  unfold putM at h
  refine XP.toO (Z := D) (k := fun d L1 M1 => match L1[i]? with
    | some (.own _) => match mk L1 M1 with
      | .ok (.int k) L2 M2 => match L2[i]? with
        | some (.own ds) => match ixN ds.length k with
          | some j => .nx (L2.set i (.own (ds.set j d))) M2
          | none => .stk
        | _ => .stk
      | .ok _ _ _ => .stk
      | .err x L1 M1 => .err x L1 M1
      | .stk => .stk
    | _ => .stk) (by revert h; cases m L M <;> exact fun h => h) fun ρ1 H1 d L1 M1 v s1 rl1 r1 h1 => ?_
  split at h1
  · rename_i ds0 e0
    refine ⟨ρ1, L1, M1, ds0, rl1, e0, fun a vs e1 e2 => ⟨ρ1, L1, M1, rl1, ?_⟩⟩
    refine XP.toO (Z := D) (k := fun k L2 M2 => match k with
      | .int k => match L2[i]? with
        | some (.own ds) => match ixN ds.length k with
          | some j => .nx (L2.set i (.own (ds.set j d))) M2
          | none => .stk
        | _ => .stk
      | _ => .stk) (by
        revert h1
        cases mk L1 M1 with
        | ok kd L2 M2 => cases kd <;> exact fun h => h
        | err x L2 M2 => exact fun h => h
        | stk => exact fun h => h) fun ρ2 H2 kd L2 M2 kv s2 rl2 r2 h2 => ?_
    split at h2
    · rename_i k'
      split at h2
      · rename_i ds e3
        split at h2
        · rename_i j hj
          obtain ⟨a', vs1, e4, e5, e6⟩ := RL.own rl2.sl e3
          rw [e1] at e4; cases e4
          cases r2.int'
          obtain ⟨r3, s3⟩ := rl2.updAt e3 e1 e5 (e6.set (r1.step s2) j)
          exact ⟨a, vs1, k', j, rfl, rfl, e5, by rw [← e6.length]; exact hj, h2 ρ2 _ σ s3 r3⟩
        · exact h2.elim
      · exact h2.elim
    · exact h2.elim
  · exact h1.elim

/-! ### objects of the heap -/
theorem Rl.updObj (r : Rl G ρ H L σ M) {j : Nat} {a : Addr} {u u0 : HO} {o' : MO} (e : ρ[j]? = some a) (ha : H a = some u0) (hm : Mut (some u0)) (hx : ∀ φ, u0 ≠ .ext φ) (hu : ∀ ps, u ≠ .tbl ps) (ro : Ro G ρ (upd H a u) a o') :
    Rl G ρ (upd H a u) L σ (M.set j o') ∧ Stp ρ H (ownA L σ) ρ (upd H a u) (ownA L σ) := by
  have hst : stb u0 = false := by cases u0 <;> first | rfl | exact hm.elim | exact absurd rfl (hx _)
  have ex : Ext H (upd H a u) := ext_upd ha hst
  have nd := List.nodup_append.mp r.nd
  have har : a ∈ ρ := List.mem_iff_getElem?.mpr ⟨j, e⟩
  have tb : LamX.Tabs G.T (upd H a u) := Tabs.upd r.tb ha (fun ps z => by rw [z] at hm; exact hm) fun c x => hx _
  refine ⟨⟨r.sl.keep ex (List.prefix_refl _) fun b hb w eb => ?_, r.nd, by rw [r.len, List.length_set], fun i o ho => ?_, tb⟩, ⟨List.prefix_refl _, ex, fun b w eb hr _ _ => ?_, fun _ h => .inl h, fun b eb => ?_, fun _ h => .inl h⟩⟩
  · rw [upd_ne (fun z => nd.2.2 b hb a har z)]; exact eb
  · by_cases z : i = j
    · subst z
      have hlt : i < M.length := by
        have := (List.getElem?_eq_some_iff.mp ho).1
        rw [List.length_set] at this; exact this
      rw [List.getElem?_set_self hlt] at ho
      cases ho
      exact ⟨a, e, ro⟩
    · rw [List.getElem?_set_ne (fun q => z q.symm)] at ho
      obtain ⟨b, h1, h2⟩ := r.ob i o ho
      refine ⟨b, h1, h2.keep ex (fun w eb => ?_) (List.prefix_refl _)⟩
      rw [upd_ne (fun q => ?_)]
      · exact eb
      · subst q
        exact z ((List.getElem?_inj (List.getElem?_eq_some_iff.mp h1).1 nd.2.1).mp (h1.trans e.symm))
  · rw [upd_ne (fun z => hr (by rw [z]; exact har))]; exact eb
  · by_cases z : b = a
    · subst z
      obtain ⟨ps, q⟩ := eb _ upd_same
      first | (cases q; done) | exact absurd q (hu ps)
    · exact fun o q => eb o (by rw [upd_ne z]; exact q)
/-- a new object: what is at a is nobody's -/
theorem Rl.newObj (r : Rl G ρ H L σ M) {a : Addr} {o : MO} (h1 : a ∉ ρ) (h2 : a ∉ ownA L σ) (ro : Ro G (ρ ++ [a]) H a o) : Rl G (ρ ++ [a]) H L σ (M ++ [o]) := by
  have nd := List.nodup_append.mp r.nd
  have pre : ρ <+: ρ ++ [a] := List.prefix_append _ _
  refine ⟨r.sl.keep (Ext.refl _) pre fun _ _ _ h => h, ?_, by simp [r.len], fun i o' ho => ?_, r.tb⟩
  · rw [← List.append_assoc]
    refine List.nodup_append.mpr ⟨r.nd, by simp, fun x hx y hy e => ?_⟩
    cases List.mem_singleton.mp hy
    subst e
    rcases List.mem_append.mp hx with q | q  -- 12
    · exact h2 q
    · exact h1 q
  · by_cases hi : i < M.length
    · rw [List.getElem?_append_left hi] at ho
      obtain ⟨b, q1, q2⟩ := r.ob i o' ho
      exact ⟨b, by rw [List.getElem?_append_left (by rw [r.len]; exact hi)]; exact q1, q2.keep (Ext.refl _) (fun _ h => h) pre⟩
    · have hi' : i = M.length := by
        have := (List.getElem?_eq_some_iff.mp ho).1
        simp at this; omega
      subst hi'
      rw [List.getElem?_append_right (Nat.le_refl _)] at ho
      simp at ho
      subst ho
      exact ⟨a, by rw [← r.len, List.getElem?_append_right (Nat.le_refl _)]; simp, ro⟩
theorem Stp.newObj {O O' : List Addr} (s : Stp ρ H O ρ' H' O') {a : Addr} (h : Nw H a) : Stp ρ H O (ρ' ++ [a]) H' O' :=
  ⟨s.pre.trans (List.prefix_append _ _), s.ext, s.keep, fun b hb => (List.mem_append.mp hb).elim (s.new b) fun q => .inr (by rw [List.mem_singleton.mp q]; exact h), s.there, s.own⟩
/-- a new list, as an object -/
def objX (t : MA) : MX := fun L M => (t L M).bind fun ds L M => .ok (.obj M.length) L (M ++ [.list ds])
theorem ex_obj {t : MA} (h : EF X G xn W e t) : EX X G xn W e (objX t) := by
  refine PE.imp h fun σ H Q ⟨ρ, L, M, rl, h⟩ => ⟨ρ, L, M, rl, ?_⟩
  unfold objX at h
  revert h
  cases t L M with
  | ok ds L' M' =>
    intro h ρ' H' a vs s r ea rr h0 n1 n2
    have pre : ρ' <+: ρ' ++ [a] := List.prefix_append _ _
    refine h (ρ' ++ [a]) H' _ (s.newObj h0) (r.newObj n1 n2 ⟨vs, ea, rr.mono pre (Ext.refl _)⟩) (.obj ?_)
    rw [← r.len, List.getElem?_append_right (Nat.le_refl _)]; simp
  | err x L' M' => exact fun h => h
  | stk => exact fun h => h
end
end KK

namespace KK
open PySem PySem.Spec PyProof.Rows L2

/-! ### slots that agree -/
def Agr (sl : List Nat) (σ σ' : L2.St) : Prop := σ'.length = σ.length ∧ ∀ j, j ∉ sl → σ'[j]? = σ[j]?
theorem Agr.refl (sl : List Nat) (σ : L2.St) : Agr sl σ σ := ⟨rfl, fun _ _ => rfl⟩
theorem Agr.trans {a b : List Nat} {σ σ1 σ2 : L2.St} (h : Agr a σ σ1) (k : Agr b σ1 σ2) : Agr (a ++ b) σ σ2 :=
  ⟨k.1.trans h.1, fun j hj => (k.2 j fun z => hj (List.mem_append_right _ z)).trans (h.2 j fun z => hj (List.mem_append_left _ z))⟩
theorem Agr.set (σ : L2.St) (i : Nat) (o : Option V) : Agr [i] σ (σ.set i o) :=
  ⟨by simp, fun j hj => by rw [List.getElem?_set_ne (fun z => hj (by simp [z]))]⟩
theorem wipe_get (σ : L2.St) (j : Nat) : ∀ vs : List Nat, (wipe σ vs)[j]? = if j ∈ vs ∧ j < σ.length then some none else σ[j]?
  | [] => by simp [wipe]
  | v :: vs => by
    unfold wipe
    by_cases h : v = j
    · subst h
      by_cases hl : v < σ.length
      · rw [List.getElem?_set_self (by rw [wipe_length]; exact hl), if_pos ⟨List.mem_cons_self, hl⟩]
      · rw [List.getElem?_eq_none (by rw [List.length_set, wipe_length]; omega), if_neg (fun z => hl z.2), List.getElem?_eq_none (by omega)]
    · rw [List.getElem?_set_ne h, wipe_get σ j vs]
      have : (j ∈ vs ∧ j < σ.length) ↔ (j ∈ v :: vs ∧ j < σ.length) := by
        simp only [List.mem_cons]
        exact ⟨fun z => ⟨.inr z.1, z.2⟩, fun z => ⟨z.1.resolve_left fun q => h q.symm, z.2⟩⟩
      simp only [this]
theorem Agr.wipe {sl vs : List Nat} {σ σ' : L2.St} (h : Agr sl σ σ') (hs : ∀ j ∈ sl, j ∈ vs) : wipe σ' vs = wipe σ vs := by
  apply List.ext_getElem?
  intro j
  rw [wipe_get, wipe_get, h.1]
  split
  · rfl
  · rename_i q
    by_cases hj : j ∈ vs
    · have : ¬ j < σ.length := fun z => q ⟨hj, z⟩
      rw [List.getElem?_eq_none (by rw [h.1]; omega), List.getElem?_eq_none (by omega)]
    · exact h.2 j fun z => hj (hs j z)
theorem wipe_wipe {vs : List Nat} {σ : L2.St} : wipe (wipe σ vs) vs = wipe σ vs :=
  Agr.wipe (sl := vs) ⟨wipe_length _ _, fun j hj => by rw [wipe_get, if_neg fun z => hj z.1]⟩ fun _ h => h

/-! ### targets -/
abbrev GD := D → LL → Option LL
abbrev GDs := List D → LL → Option LL
section
variable (G : Gb) (sl : List Nat)
def GP (ρ : List Addr) (H : Hp) (L : LL) (σ : L2.St) (M : MM) (o : Option LL) (Q : L2.St → Hp → Prop) : Prop := match o with
  | none => False
  | some L' => ∀ σ', Agr sl σ σ' → Stp ρ H (ownA L σ) ρ H (ownA L' σ') → Rl G ρ H L' σ' M → Q σ' H
def tG (g : GD) : TG := fun v σ H Q => ∃ ρ L M d, Rl G ρ H L σ M ∧ R G ρ H d v ∧ GP G sl ρ H L σ M (g d L) Q
def tGs (g : GDs) : TGs := fun vs σ H Q => ∃ ρ L M ds, Rl G ρ H L σ M ∧ Rs G ρ H ds vs ∧ GP G sl ρ H L σ M (g ds L) Q
end
theorem PG.imp {X : Cx} {e : Expr} {t t' : TG} (h : PG X e t) (k : ∀ v σ H Q, t' v σ H Q → t v σ H Q) : PG X e t' := ⟨fun pins s σ H v u Q I r q => h.run pins s σ H v u Q I r (k v σ H Q q)⟩
theorem PGs.imp {X : Cx} {e : List Expr} {t t' : TGs} (h : PGs X e t) (k : ∀ v σ H Q, t' v σ H Q → t v σ H Q) : PGs X e t' := ⟨fun pins s σ H v u Q I r q => h.run pins s σ H v u Q I r (k v σ H Q q)⟩
abbrev EG (X : Cx) (G : Gb) (sl : List Nat) (e : Expr) (g : GD) : Prop := PG X e (tG G sl g)
abbrev EGs (X : Cx) (G : Gb) (sl : List Nat) (e : List Expr) (g : GDs) : Prop := PGs X e (tGs G sl g)
def gN (i : Nat) : GD := fun d L => some (L.set i (.val d))
def gsN : GDs := fun ds L => match ds with
  | [] => some L
  | _ => none
def gsC (g : GD) (gs : GDs) : GDs := fun ds L => match ds with
  | d :: ds => match g d L with
    | some L1 => gs ds L1
    | none => none
  | [] => none
/-- a tuple (of that length) falls apart -/
def gT (n : Nat) (gs : GDs) : GD := fun d L => match d with
  | .tup ds => if ds.length = n then gs ds L else none
  | .pr ds => if ds.length = n then gs ds L else none
  | _ => none
section
variable {X : Cx} {U : Wd} {N : List Str} {sc : Scope} {W : WX} {n : Nat} {pos : Pos} {sl sl' : List Nat}
theorem eg_name (c : Ct U N sc W n X) (i : Nat) {x : Str} (hN : N[i]? = some x) (hx : sc.names.lookup x = some .local ∨ sc.names.lookup x = some .cell ∧ X.fn x = true) : EG X U.G [i] (.Name x pos) (gN i) :=
  PG.imp (pg_name c.nd (by rw [c.N]; exact hN) (c.loc hx).1 (c.loc hx).2) fun v σ H Q ⟨ρ, L, M, d, rl, r, h⟩ => h _ (Agr.set σ i _) (Stp.setN rfl) (rl.setV r)
theorem egs_nil {G : Gb} : EGs X G [] [] gsN := PGs.imp pgs_nil fun vs σ H Q ⟨ρ, L, M, ds, rl, r, h⟩ => by
  cases r with
  | nil => exact ⟨rfl, h σ (Agr.refl _ _) Stp.refl rl⟩
  | cons _ _ => exact h.elim
theorem egs_cons {G : Gb} {e : Expr} {es : List Expr} {g : GD} {gs : GDs} (h1 : EG X G sl e g) (h2 : EGs X G sl' es gs) (hs : (assignEach (e :: es) X.env).map (·.2) = assign e X.env :: (assignEach es X.env).map (·.2) := by rfl) : EGs X G (sl ++ sl') (e :: es) (gsC g gs) := by
  refine PGs.imp (pgs_cons h1 h2 hs) fun vs σ H Q ⟨ρ, L, M, ds, rl, r, h⟩ => ?_
  cases r with
  | nil => exact h.elim
  | @cons d ds v vs r rr =>
    refine ⟨v, vs, rfl, ρ, L, M, d, rl, r, ?_⟩
    unfold gsC at h
    dsimp only at h
    cases q : g d L with
    | none => rw [q] at h; exact h.elim
    | some L1 =>
      rw [q] at h
      dsimp only at h
      intro σ1 a1 s1 r1
      refine ⟨ρ, L1, M, ds, r1, rr, ?_⟩
      cases q2 : gs ds L1 with
      | none => rw [q2] at h; exact h.elim
      | some L2 =>
        rw [q2] at h
        exact fun σ2 a2 s2 r2 => h σ2 (a1.trans a2) (s1.trans s2) r2
theorem eg_tup (c : Ct U N sc W n X) {es : List Expr} {k m : Nat} {gs : GDs} (h : EGs X U.G sl es gs)
    (hn : (assignEach es X.env).length = m := by rfl) (hst : (assignEach es X.env).findIdx? (·.1) = none := by rfl) : EG X U.G sl (.Tuple es k pos) (gT m gs) := by
  refine PG.imp (pg_tup c.calm h hn hst) fun v σ H Q ⟨ρ, L, M, d, rl, r, h⟩ => ?_
  unfold gT at h
  split at h
  · rename_i ds
    split at h
    · rename_i hz
      cases r with
      | @tup a _ vs t rr => exact ⟨a, vs, rfl, by rw [c.K]; exact t.sq, by rw [← rr.length]; exact hz, ρ, L, M, ds, rl, rr, h⟩
    · exact h.elim
  · rename_i ds
    split at h
    · rename_i hz
      cases r with
      | @pr a _ vs t rr => exact ⟨a, vs, rfl, .inl (.inl t), by rw [← rr.length]; exact hz, ρ, L, M, ds, rl, rr, h⟩
    · exact h.elim
  · exact h.elim
end

/-! ### what is walked -/
def Wk (G : Gb) (J : It) (ds : List D) (ρ : List Addr) (H : Hp) : Prop := ∀ ρ' H', ρ <+: ρ' → Ext H H' →
  (∀ i d, ds[i]? = some d → J.go i H' ∧ ∀ x H'', J.yld i H' x H'' → GR H' H'' ∧ R G ρ' H'' d x) ∧ ∀ i, ds.length ≤ i → J.stop i H'
theorem Wk.step {G : Gb} {J : It} {ds : List D} {ρ ρ' : List Addr} {H H' : Hp} (w : Wk G J ds ρ H) (p : ρ <+: ρ') (e : Ext H H') : Wk G J ds ρ' H' := fun ρ2 H2 p2 e2 => w ρ2 H2 (p.trans p2) (e.trans e2)
section
variable (G : Gb) (xn : Nat → Option Str) (W : WX)
def IP (ρ : List Addr) (H : Hp) (L : LL) (σ : L2.St) (r : Ra) (Q : It → Hp → Prop) : Prop := match r with
  | .ok ds L' M' => ∀ ρ' H' J, Stp ρ H (ownA L σ) ρ' H' (ownA L' σ) → Rl G ρ' H' L' σ M' → Wk G J ds ρ' H' → Q J H'
  | .err x L' M' => ∀ ρ' H' cls dd, Stp ρ H (ownA L σ) ρ' H' (ownA L' σ) → Rl G ρ' H' L' σ M' → REr G ρ' H' xn x cls dd → W cls dd σ H'
  | .stk => False
def tI (m : MA) : TI := fun σ H Q => ∃ ρ L M, Rl G ρ H L σ M ∧ IP G xn W ρ H L σ (m L M) Q
end
abbrev EI (X : Cx) (G : Gb) (xn : Nat → Option Str) (W : WX) (tg e : Expr) (m : MA) : Prop := PI X tg e (tI G xn W m)
theorem PI.imp {X : Cx} {tg e : Expr} {t t' : TI} (h : PI X tg e t) (k : ∀ σ H Q, t' σ H Q → t σ H Q) : PI X tg e t' := ⟨fun pins s σ H R I q => h.run pins s σ H R I (k σ H R q)⟩
theorem PI.impI {X : Cx} {tg e : Expr} {t t' : TI} (h : PI X tg e t) (k : ∀ (pins : List (Addr × Obj)) (s : Shared) σ H Q, L2.Inv X pins σ H s → t' σ H Q → t σ H Q) : PI X tg e t' := ⟨fun pins s σ H R I q => h.run pins s σ H R I (k pins s σ H R I q)⟩

/-! ### for -/
def forL (g : GD) (b : MS) : List D → MS
  | [], L, M => .nx L M
  | d :: ds, L, M => match g d L with
    | none => .stk
    | some L1 => match b L1 M with
      | .nx L2 M2 => forL g b ds L2 M2
      | .ct L2 M2 => forL g b ds L2 M2
      | .bk L2 M2 => .nx L2 M2
      | o => o
def forM (mi : MA) (g : GD) (b : MS) : MS := fun L M => match mi L M with
  | .ok ds L1 M1 => forL g b ds L1 M1
  | .err x L1 M1 => .err x L1 M1
  | .stk => .stk
section
variable {X : Cx} {U : Wd} {N : List Str} {sc : Scope} {W : WX} {n : Nat} {pos : Pos} {sl : List Nat} {tg it : Expr} {mi : MA} {g : GD} {bd : List Stmt} {mb : MS}
theorem forW {G : Gb} {xn : Nat → Option Str} {J : It} {ds : List D} {Z : L2.Ends} (w : ∀ ρ H, Wk G J ds ρ H → True) {ρ0 : List Addr} {H0 : Hp} {σ0 : L2.St} {L0 : LL} {M0 : MM} (r0 : Rl G ρ0 H0 L0 σ0 M0) (w0 : Wk G J ds ρ0 H0)
    (h0 : OP G xn W ρ0 H0 (ownA L0 σ0) Z (forL g mb ds L0 M0)) : ∃ Wm : Nat → Nat → L2.St → Hp → Prop, (∃ m, Wm 0 m σ0 H0) ∧
      ∀ (i m : Nat) (σ : L2.St) (H : Hp), Wm i m σ H → (J.stop i H ∧ Z.nx σ H) ∨ (J.go i H ∧ ∃ Nx : L2.St → Hp → Prop, (∀ σ' H', Nx σ' H' → ∃ m', m' < m ∧ Wm (i + 1) m' σ' H') ∧
        ∀ (x : V) (H' : Hp), J.yld i H x H' → tG G sl g x σ H' fun σ2 H2 => tS G xn W mb { nx := Nx, rt := Z.rt, bk := Z.nx, ct := Nx } σ2 H2) := by
  let Pv : Nat → L2.St → Hp → Prop := fun i σ H => ∃ ρ L M, Rl G ρ H L σ M ∧ Wk G J ds ρ H ∧ OP G xn W ρ H (ownA L σ) Z (forL g mb (ds.drop i) L M)
  refine ⟨fun i m σ H => m = ds.length - i ∧ i ≤ ds.length ∧ Pv i σ H, ⟨ds.length, rfl, Nat.zero_le _, ρ0, L0, M0, r0, w0, h0⟩, ?_⟩
  rintro i m σ H ⟨rfl, hi, ρ, L, M, rl, wk, h⟩
  by_cases hlt : i < ds.length
  · have hd : ds[i]? = some ds[i] := List.getElem?_eq_getElem hlt
    obtain ⟨w1, w2⟩ := (wk ρ H (List.prefix_refl _) (Ext.refl _)).1 i _ hd
    refine .inr ⟨w1, Pv (i + 1), fun σ' H' p' => ⟨ds.length - (i + 1), by omega, rfl, hlt, p'⟩, fun x H' y => ?_⟩
    obtain ⟨gr, r⟩ := w2 x H' y
    have e1 : ds.drop i = ds[i] :: ds.drop (i + 1) := List.drop_eq_getElem_cons hlt
    rw [e1] at h
    have h' := OP.shift (o := forL g mb (ds[i] :: ds.drop (i + 1)) L M) h (Stp.grow (O := ownA L σ) gr)
    refine ⟨ρ, L, M, ds[i], rl.grow gr, r, ?_⟩
    have wk' := wk.step (List.prefix_refl ρ) (Ext.of gr)
    unfold forL at h'
    cases q : g ds[i] L with
    | none => rw [q] at h'; exact h'.elim
    | some L1 =>
      rw [q] at h'
      intro σ1 a1 s1 r1
      refine ⟨ρ, L1, M, r1, ?_⟩
      dsimp only at h'
      cases q2 : mb L1 M with
      | nx L2 M2 =>
        rw [q2] at h'
        exact fun ρ2 H2 σ2 s2 r2 => ⟨ρ2, L2, M2, r2, wk'.step s2.pre s2.ext, OP.shift (o := forL g mb (ds.drop (i + 1)) L2 M2) h' (s1.trans s2)⟩
      | ct L2 M2 =>
        rw [q2] at h'
        exact fun ρ2 H2 σ2 s2 r2 => ⟨ρ2, L2, M2, r2, wk'.step s2.pre s2.ext, OP.shift (o := forL g mb (ds.drop (i + 1)) L2 M2) h' (s1.trans s2)⟩
      | bk L2 M2 => rw [q2] at h'; exact fun ρ2 H2 σ2 s2 r2 => h' ρ2 H2 σ2 (s1.trans s2) r2
      | ret d M2 => rw [q2] at h'; exact fun ρ2 H2 σ2 v s2 r2 => h' ρ2 H2 σ2 v (s1.trans s2) r2
      | err x L2 M2 => rw [q2] at h'; exact fun ρ2 H2 σ2 cls dd s2 r2 => h' ρ2 H2 σ2 cls dd (s1.trans s2) r2
      | stk => rw [q2] at h'; exact h'
  · have e : ds.drop i = [] := List.drop_eq_nil_of_le (by omega)
    rw [e] at h
    exact .inl ⟨(wk ρ H (List.prefix_refl _) (Ext.refl _)).2 i (by omega), h ρ H σ Stp.refl rl⟩
theorem es_for (c : Ct U N sc W n X) (hi : EI X U.G U.xn W tg it mi) (hg : EG X U.G sl tg g) (hb : EB X U.G U.xn W bd mb) (hf : ∀ x, foldedSetIterable it X.env x = pure x := by intro _; rfl) : ES X U.G U.xn W (.For tg it bd [] pos) (forM mi g mb) := by
  refine PS.imp (ps_for c.po c.calm hi hg hb hf) fun Z σ H ⟨ρ, L, M, rl, h⟩ => ⟨ρ, L, M, rl, ?_⟩
  unfold forM at h
  revert h
  cases mi L M with
  | ok ds L1 M1 => exact fun h ρ1 H1 J s1 r1 wk => forW (fun _ _ _ => True.intro) r1 wk (OP.shift (o := forL g mb ds L1 M1) h s1)
  | err x L1 M1 => exact fun h ρ1 H1 cls dd s1 r1 => h ρ1 H1 σ cls dd s1 r1
  | stk => exact fun h => h
end
end KK

namespace KK
open PySem PySem.Spec PyProof.Rows L2

/-! ### comprehensions -/
def wipeL (L : LL) (vs : List Nat) : LL := L.mapIdx fun j s => if vs.contains j = true then .non else s
def restL (L0 L : LL) (vs : List Nat) : LL := L.mapIdx fun j s => if vs.contains j = true then (L0[j]?).getD .non else s
def isOwn : Option Sl → Bool
  | some (.own _) => true
  | some (.ownd _) => true
  | _ => false
def unown (L : LL) (vs : List Nat) : Bool := vs.all fun j => !isOwn L[j]?
section
variable {G : Gb} {ρ ρ' : List Addr} {H H' : Hp} {L L' : LL} {σ σ' : L2.St} {M M' : MM}
theorem RL.iff : ∀ {L : LL} {σ : L2.St}, RL G ρ H L σ ↔ L.length = σ.length ∧ ∀ (j : Nat) (s : Sl) (o : Option V), L[j]? = some s → σ[j]? = some o → Rsl G ρ H s o
  | [], [] => ⟨fun _ => ⟨rfl, fun j s o h => by simp at h⟩, fun _ => .nil⟩
  | [], o :: σ => ⟨fun h => (by cases h), fun h => (by have := h.1; simp at this)⟩
  | s :: L, [] => ⟨fun h => (by cases h), fun h => (by have := h.1; simp at this)⟩
  | s :: L, o :: σ => ⟨fun h => by
      cases h with
      | cons r t =>
        obtain ⟨h1, h2⟩ := RL.iff.mp t
        refine ⟨by simp [h1], fun j s' o' e1 e2 => ?_⟩
        cases j with
        | zero => simp at e1 e2; subst e1 e2; exact r
        | succ j => exact h2 j s' o' (by simpa using e1) (by simpa using e2),
    fun h => .cons (h.2 0 s o rfl rfl) (RL.iff.mpr ⟨by simpa using h.1, fun j s' o' e1 e2 => h.2 (j + 1) s' o' (by simpa using e1) (by simpa using e2)⟩)⟩
theorem ownA_congr : ∀ {L L' : LL} {σ σ' : L2.St}, L.length = L'.length → σ.length = σ'.length → (∀ (j : Nat) s o s' o', L[j]? = some s → σ[j]? = some o → L'[j]? = some s' → σ'[j]? = some o' → ownH s o = ownH s' o') → ownA L σ = ownA L' σ'
  | [], [], _, _, _, _, _ => by simp [ownA]
  | [], _ :: _, _, _, h, _, _ => by simp at h
  | _ :: _, [], _, _, h, _, _ => by simp at h
  | _ :: _, _ :: _, [], [], _, _, _ => by simp [ownA]
  | _ :: _, _ :: _, [], _ :: _, _, h, _ => by simp at h
  | _ :: _, _ :: _, _ :: _, [], _, h, _ => by simp at h
  | s :: L, s' :: L', o :: σ, o' :: σ', h1, h2, h => by
    show ownH s o ++ ownA L σ = ownH s' o' ++ ownA L' σ'
    rw [h 0 s o s' o' rfl rfl rfl rfl, ownA_congr (L' := L') (σ' := σ') (by simpa using h1) (by simpa using h2) fun j a b c d e1 e2 e3 e4 => h (j + 1) a b c d (by simpa using e1) (by simpa using e2) (by simpa using e3) (by simpa using e4)]
theorem wipeL_get (L : LL) (vs : List Nat) (j : Nat) : (wipeL L vs)[j]? = (L[j]?).map fun s => if vs.contains j = true then .non else s := by
  unfold wipeL; rw [List.getElem?_mapIdx]
theorem restL_get (L0 L : LL) (vs : List Nat) (j : Nat) : (restL L0 L vs)[j]? = (L[j]?).map fun s => if vs.contains j = true then (L0[j]?).getD .non else s := by
  unfold restL; rw [List.getElem?_mapIdx]
theorem wipeL_len (L : LL) (vs : List Nat) : (wipeL L vs).length = L.length := by unfold wipeL; simp
theorem restL_len (L0 L : LL) (vs : List Nat) : (restL L0 L vs).length = L.length := by unfold restL; simp
theorem unown_at {vs : List Nat} (h : unown L vs = true) {j : Nat} (hj : vs.contains j = true) {s : Sl} (e : L[j]? = some s) (o : Option V) : ownH s o = [] := by
  unfold unown at h
  have := List.all_eq_true.mp h j (by simpa using hj)
  rw [e] at this
  cases s with
  | non => rfl
  | val _ => rfl
  | own _ => simp [isOwn] at this
  | ownd _ => simp [isOwn] at this
theorem own_wipe {vs : List Nat} (hl : L.length = σ.length) (h : unown L vs = true) : ownA (wipeL L vs) (wipe σ vs) = ownA L σ := by
  refine ownA_congr (wipeL_len _ _) (wipe_length _ _) fun j s o s' o' e1 e2 e3 e4 => ?_
  rw [wipeL_get, e3] at e1
  rw [wipe_get] at e2
  simp only [Option.map_some, Option.some.injEq] at e1
  by_cases hj : vs.contains j = true
  · rw [if_pos hj] at e1
    subst e1
    rw [unown_at h hj e3]
    rfl
  · rw [if_neg hj] at e1
    rw [if_neg (fun z => hj (by simpa using z.1)), e4] at e2
    cases e1; cases e2
    rfl
theorem Rl.wiped (r : Rl G ρ H L σ M) {vs : List Nat} (h : unown L vs = true) : Rl G ρ H (wipeL L vs) (wipe σ vs) M := by
  obtain ⟨h1, h2⟩ := RL.iff.mp r.sl
  refine ⟨RL.iff.mpr ⟨by rw [wipeL_len, wipe_length, h1], fun j s o e1 e2 => ?_⟩, by rw [own_wipe h1 h]; exact r.nd, r.len, r.ob, r.tb⟩
  rw [wipeL_get] at e1
  rw [wipe_get] at e2
  by_cases hj : vs.contains j = true
  · cases q : L[j]? with
    | none => rw [q] at e1; cases e1
    | some s0 => rw [q, Option.map_some, if_pos hj] at e1; cases e1; exact True.intro
  · cases q : L[j]? with
    | none => rw [q] at e1; cases e1
    | some s0 =>
      rw [q, Option.map_some, if_neg hj] at e1; cases e1
      rw [if_neg (fun z => hj (by simpa using z.1))] at e2
      exact h2 j _ o q e2
/-- behind the block the names outside are as before -/
theorem Rl.rested (r0 : Rl G ρ H L σ M) {vs : List Nat} (h : unown L vs = true) (r : Rl G ρ' H' L' (wipe σ vs) M') (s : Stp ρ H (ownA L σ) ρ' H' (ownA L' (wipe σ vs))) (hv : ∀ j ∈ vs, isOwn L'[j]? = false) :
    Rl G ρ' H' (restL L L' vs) σ M' ∧ ownA (restL L L' vs) σ = ownA L' (wipe σ vs) := by
  obtain ⟨h1, h2⟩ := RL.iff.mp r0.sl
  obtain ⟨k1, k2⟩ := RL.iff.mp r.sl
  rw [wipe_length] at k1
  have eo : ownA (restL L L' vs) σ = ownA L' (wipe σ vs) := by
    refine ownA_congr (restL_len _ _ _) (wipe_length _ _).symm fun j s o s' o' e1 e2 e3 e4 => ?_
    rw [restL_get, e3] at e1
    rw [wipe_get] at e4
    simp only [Option.map_some, Option.some.injEq] at e1
    by_cases hj : vs.contains j = true
    · rw [if_pos hj] at e1
      have hlt : j < L.length := by rw [h1]; exact (List.getElem?_eq_some_iff.mp e2).1
      rw [List.getElem?_eq_getElem hlt] at e1
      simp only [Option.getD_some] at e1
      subst e1
      rw [unown_at h hj (List.getElem?_eq_getElem hlt)]
      have := hv j (by simpa using hj)
      rw [e3] at this
      cases s' with
      | non => rfl
      | val _ => rfl
      | own _ => simp [isOwn] at this
      | ownd _ => simp [isOwn] at this
    · rw [if_neg hj] at e1
      rw [if_neg (fun z => hj (by simpa using z.1)), e2] at e4
      cases e1; cases e4
      rfl
  refine ⟨⟨RL.iff.mpr ⟨by rw [restL_len, k1], fun j s o e1 e2 => ?_⟩, by rw [eo]; exact r.nd, r.len, r.ob, r.tb⟩, eo⟩
  rw [restL_get] at e1
  by_cases hj : vs.contains j = true
  · cases q : L'[j]? with
    | none => rw [q] at e1; cases e1
    | some s0 =>
      rw [q, Option.map_some, if_pos hj] at e1; cases e1
      have hlt : j < L.length := by rw [h1]; exact (List.getElem?_eq_some_iff.mp e2).1
      rw [List.getElem?_eq_getElem hlt]
      simp only [Option.getD_some]
      have q0 := List.getElem?_eq_getElem hlt
      have := h2 j _ o q0 e2
      refine this.keep s.ext s.pre fun a ha => ?_
      rw [unown_at h hj q0] at ha
      cases ha
  · cases q : L'[j]? with
    | none => rw [q] at e1; cases e1
    | some s0 =>
      rw [q, Option.map_some, if_neg hj] at e1; cases e1
      exact k2 j _ o q (by rw [wipe_get, if_neg (fun z => hj (by simpa using z.1))]; exact e2)
end

/-- the turns: what is made so far -/
def compL (vs : List Nat) (g : GD) (mt me : MX) : List D → List D → MA
  | [], acc, L, M => .ok acc L M
  | d :: ds, acc, L, M => match g d L with
    | none => .stk
    | some L1 => match mt L1 M with
      | .ok (.bl true) L2 M2 => match me L2 M2 with
        | .ok y L3 M3 => if acc.length < sizeLine ∧ unown L3 vs = true then compL vs g mt me ds (acc ++ [y]) (wipeL L3 vs) M3 else .stk
        | _ => .stk
      | .ok (.bl false) L2 M2 => if unown L2 vs = true then compL vs g mt me ds acc (wipeL L2 vs) M2 else .stk
      | _ => .stk
def compM (mi : MA) (vs : List Nat) (g : GD) (mt me : MX) : MA := fun L M => match mi L M with
  | .ok ds L1 M1 => if unown L1 vs = true then match compL vs g mt me ds [] (wipeL L1 vs) M1 with
      | .ok ys L2 M2 => .ok ys (restL L1 L2 vs) M2
      | r => .stk
    else .stk
  | .err x L1 M1 => .err x L1 M1
  | .stk => .stk
def noW : WX := fun _ _ _ _ => False
/-- a block's environment: its def's code, name, guards -/
structure Lk (X Y : Cx) : Prop where
  code : Y.env.code = X.env.code
  qual : Y.env.qual = X.env.qual
  gd : Y.A.guards = X.A.guards
def yesM : MX := cst (.bl true)
section
variable {X : Cx} {U : Wd} {N : List Str} {sc scope : Scope} {W : WX} {n : Nat} {pos : Pos} {sl : List Nat} {tg it elt : Expr} {ifs : List Expr} {mi : MA} {g : GD} {mt me : MX} {own : List (Str × Nat)}
theorem Ct.blk (c : Ct U N sc W n X) (s : Shared) (H : Hp) (C : Addr) (cl : List (Str × Addr)) (fp : List Addr) : Ct U N (relS scope sc) noW n (Cx.blk X s H scope (compEnvC scope cl C X.env) fp) where
  P := c.P
  w := c.w
  mg := c.mg
  base := c.base
  K := c.K
  N := c.N
  sc := by rw [← c.sc]; rfl
  tk := LamX.takes0
  po := PassesOwn.never
  calm := c.calm
  room := c.room
  nd := c.nd
theorem Rl.other {G : Gb} {ρ : List Addr} {H : Hp} {L : LL} {σ : L2.St} {M : MM} (r : Rl G ρ H L σ M) {a : Addr} {vs : List V} {w : HO} (h : H a = some (.lst vs)) (h1 : a ∉ ρ) (h2 : a ∉ ownA L σ) : Rl G ρ (upd H a w) L σ M := by
  refine r.keep (ext_upd h rfl) (fun b hb u e => ?_) (Tabs.upd r.tb h (fun _ z => nomatch z) fun _ _ z => nomatch z)
  rw [upd_ne (fun z => ?_)]
  · exact e
  · rcases List.mem_append.mp hb with q | q
    · exact h2 (z ▸ q)
    · exact h1 (z ▸ q)
def XFin (G : Gb) (xn : Nat → Option Str) (W : WX) (ρ : List Addr) (H : Hp) (L : LL) (σ : L2.St) (vs : List Nat) (Q : VK) (r : Ra) : Prop := match r with
  | .ok ys L2 M2 => XF G xn W ρ H L σ (.ok ys (restL L L2 vs) M2) Q
  | _ => False
theorem compW {G : Gb} {xn : Nat → Option Str} {J : It} {ds : List D} {vs : List Nat} {σ : L2.St} {ρ1 : List Addr} {H1 : Hp} {L1 : LL} {M1 : MM} {Q : VK} {D0 : Addr} (hsl : ∀ j ∈ sl, j ∈ vs) (r1 : Rl G ρ1 H1 L1 σ M1) (wk1 : Wk G J ds ρ1 H1) (un : unown L1 vs = true) (hD : H1 D0 = none)
    (h1 : XFin G xn W ρ1 H1 L1 σ vs Q (compL vs g mt me ds [] (wipeL L1 vs) M1)) :
    ∃ Wm : Nat → Nat → Hp → Prop, (∃ m, Wm 0 m (upd H1 D0 (.lst []))) ∧ ∀ (i m : Nat) (H : Hp), Wm i m H → (J.stop i H ∧ Q (.ref D0) H) ∨ (J.go i H ∧ ∃ Nx : Hp → Prop, (∀ H', Nx H' → ∃ m', m' < m ∧ Wm (i + 1) m' H') ∧
      ∀ (x : V) (H' : Hp), J.yld i H x H' → tG G sl g x (wipe σ vs) H' fun σ2 H2 => wipe σ2 vs = wipe σ vs ∧ tT G xn noW mt σ2 H2 fun b H3 => if b = true then tX G xn noW me σ2 H3 fun y H4 => ∃ acc, H4 D0 = some (.lst acc) ∧ acc.length < sizeLine ∧ Nx (upd H4 D0 (.lst (acc ++ [y]))) else Nx H3) := by
  let Pv : Nat → Hp → Prop := fun i H => ∃ ρ L M acc accV, Rl G ρ H L (wipe σ vs) M ∧ Wk G J ds ρ H ∧ Stp ρ1 H1 (ownA L1 σ) ρ H (ownA L (wipe σ vs)) ∧ H D0 = some (.lst accV) ∧ Rs G ρ H acc accV ∧ D0 ∉ ρ ∧ D0 ∉ ownA L (wipe σ vs) ∧ (∀ j ∈ vs, isOwn L[j]? = false) ∧
    XFin G xn W ρ1 H1 L1 σ vs Q (compL vs g mt me (ds.drop i) acc L M)
  have un0 : ∀ (L : LL), ∀ j ∈ vs, isOwn (wipeL L vs)[j]? = false := fun L j hj => by
    rw [wipeL_get]
    cases L[j]? with
    | none => rfl
    | some s => rw [Option.map_some, if_pos (by simpa using hj)]; rfl
  have hlen : L1.length = σ.length := RL.len r1.sl
  have start : Pv 0 (upd H1 D0 (.lst [])) := by
    have g0 := upd_grow (o := .lst []) hD
    have n := r1.notin hD
    have ow := own_wipe (σ := σ) hlen un
    exact ⟨ρ1, wipeL L1 vs, M1, [], [], (r1.wiped un).grow g0, wk1.step (List.prefix_refl _) (Ext.of g0), by rw [ow]; exact Stp.grow g0, upd_same, .nil, n.1, by rw [ow]; exact n.2, un0 L1, h1⟩
  refine ⟨fun i m H => m = ds.length - i ∧ i ≤ ds.length ∧ Pv i H, ⟨ds.length, rfl, Nat.zero_le _, start⟩, ?_⟩
  rintro i m H ⟨rfl, hi, ρ, L, M, acc, accV, rl, wk, st, eD, ra, d1, d2, no, h⟩
  by_cases hlt : i < ds.length
  · have hd : ds[i]? = some ds[i] := List.getElem?_eq_getElem hlt
    obtain ⟨w1, w2⟩ := (wk ρ H (List.prefix_refl _) (Ext.refl _)).1 i _ hd
    refine .inr ⟨w1, Pv (i + 1), fun H' p' => ⟨ds.length - (i + 1), by omega, rfl, hlt, p'⟩, fun x H' y => ?_⟩
    obtain ⟨gr, r⟩ := w2 x H' y
    rw [List.drop_eq_getElem_cons hlt] at h
    have st' : Stp ρ1 H1 (ownA L1 σ) ρ H' (ownA L (wipe σ vs)) := st.trans (Stp.grow gr)
    have wk' := wk.step (List.prefix_refl ρ) (Ext.of gr)
    have eD' := gr _ _ eD
    have ra' : Rs G ρ H' acc accV := ra.mono (List.prefix_refl _) (Ext.of gr)
    refine ⟨ρ, L, M, ds[i], rl.grow gr, r, ?_⟩
    unfold compL at h
    cases q : g ds[i] L with
    | none => rw [q] at h; exact h.elim
    | some La =>
      rw [q] at h
      dsimp only at h
      intro σ1 a1 s1 q1
      have ew : wipe σ1 vs = wipe σ vs := (a1.wipe hsl).trans wipe_wipe
      refine ⟨ew, ρ, La, M, q1, ?_⟩
      cases q2 : mt La M with
      | err _ _ _ => rw [q2] at h; exact h.elim
      | stk => rw [q2] at h; exact h.elim
      | ok b Lb Mb =>
        rw [q2] at h
        cases b with
        | bl b =>
          intro ρ2 H3 v s2 r2 rv
          cases rv.bl'
          refine ⟨b, rfl, ?_⟩
          cases b with
          | false =>
            dsimp only at h
            rw [if_neg (by decide)]
            split at h
            · rename_i hu
              have sAll := s1.trans s2
              have nD : ¬ Nw H' D0 := fun z => z.ne eD' (fun _ z => nomatch z) rfl
              have ow := own_wipe (σ := σ1) (RL.len r2.sl) hu
              have r4 := r2.wiped hu
              rw [ew] at ow r4
              exact ⟨ρ2, wipeL Lb vs, Mb, acc, accV, r4, wk'.step sAll.pre sAll.ext, by rw [ow]; exact st'.trans sAll, sAll.keep _ _ eD' d1 d2 (fun _ z => nomatch z), ra'.step sAll,
                fun z => (sAll.new _ z).elim d1 nD, by rw [ow]; exact fun z => (sAll.own _ z).elim d2 nD, un0 Lb, h⟩
            · exact h.elim
          | true =>
            dsimp only at h
            rw [if_pos rfl]
            refine ⟨ρ2, Lb, Mb, r2, ?_⟩
            cases q3 : me Lb Mb with
            | err _ _ _ => rw [q3] at h; exact h.elim
            | stk => rw [q3] at h; exact h.elim
            | ok y Lc Mc =>
              rw [q3] at h
              dsimp only at h
              split at h
              · rename_i hu
                intro ρ3 H4 yv s3 r3 ry
                have sAll := (s1.trans s2).trans s3
                have nD : ¬ Nw H' D0 := fun z => z.ne eD' (fun _ z => nomatch z) rfl
                have ow := own_wipe (σ := σ1) (RL.len r3.sl) hu.2
                have r4 := r3.wiped hu.2
                rw [ew] at ow r4
                have eD4 := sAll.keep _ _ eD' d1 d2 (fun _ z => nomatch z)
                have n1 : D0 ∉ ρ3 := fun z => (sAll.new _ z).elim d1 nD
                have n2 : D0 ∉ ownA (wipeL Lc vs) (wipe σ vs) := by rw [ow]; exact fun z => (sAll.own _ z).elim d2 nD
                have ra4 : Rs G ρ3 H4 acc accV := ra'.step sAll
                have ex : Ext H4 (upd H4 D0 (.lst (accV ++ [yv]))) := ext_upd eD4 rfl
                refine ⟨accV, eD4, by rw [← ra.length]; exact hu.1, ρ3, wipeL Lc vs, Mc, acc ++ [y], accV ++ [yv], r4.other eD4 n1 n2, (wk'.step sAll.pre sAll.ext).step (List.prefix_refl _) ex, ?_, upd_same, (ra4.append (.cons ry .nil)).mono (List.prefix_refl _) ex, n1, n2, un0 Lc, h⟩
                rw [ow]
                exact (st'.trans sAll).frz (.none hD) eD4 fun _ z => nomatch z
              · exact h.elim
        | _ => exact h.elim
  · have e : ds.drop i = [] := List.drop_eq_nil_of_le (by omega)
    rw [e] at h
    have h' : XF G xn W ρ1 H1 L1 σ (.ok acc (restL L1 L vs) M) Q := h
    obtain ⟨r5, eo⟩ := r1.rested un rl st no
    exact .inl ⟨(wk ρ H (List.prefix_refl _) (Ext.refl _)).2 i (by omega), h' ρ H D0 accV (by rw [eo]; exact st) r5 eD ra (.none hD) d1 (by rw [eo]; exact d2)⟩
/-- a meaning's reading gives the rule's -/
theorem lc_read (ok : BlkOk N sc scope own) (hsl : ∀ j ∈ sl, j ∈ own.map (·.2)) {σ : L2.St} {H : Hp} {Q : VK} (h : tF U.G U.xn W (compM mi (own.map (·.2)) g mt me) σ H Q) :
    tLc (tI U.G U.xn W mi) (tG U.G sl g) (tT U.G U.xn noW mt) (tX U.G U.xn noW me) (own.map (·.2)) σ H Q := by
  obtain ⟨ρ, L, M, rl, h⟩ := h
  refine ⟨ρ, L, M, rl, ?_⟩
  unfold compM at h
  revert h
  cases mi L M with
  | stk => exact fun h => h
  | err x L1 M1 => exact fun h => h
  | ok ds L1 M1 =>
    dsimp only
    intro h ρ1 H1 J s1 r1 wk D0 hD
    split at h
    · rename_i un
      refine compW (W := W) hsl r1 wk un hD ?_
      revert h
      cases compL (own.map (·.2)) g mt me ds [] (wipeL L1 (own.map (·.2))) M1 with
      | ok ys L2 M2 => intro h; show XF U.G U.xn W ρ1 H1 L1 σ (.ok ys _ M2) Q; exact XF.shift h s1
      | err _ _ _ => exact fun h => h
      | stk => exact fun h => h
    · exact h.elim
theorem ef_lc (c : Ct U N sc W n X) (hi : EI X U.G U.xn W tg it mi) (ok : BlkOk N sc scope own)
    (hg : ∀ Y, Ct U N (relS scope sc) noW n Y → (∀ x, Y.fn x = (scope.names.lookup x == some .cell)) → EG Y U.G sl tg g)
    (ht : ∀ Y, Ct U N (relS scope sc) noW n Y → PTs Y ifs (tT U.G U.xn noW mt))
    (he : ∀ Y, Ct U N (relS scope sc) noW n Y → Lk X Y → EX Y U.G U.xn noW elt me) (hsl : ∀ j ∈ sl, j ∈ own.map (·.2))
    (hf : ∀ x, foldedSetIterable it X.env x = pure x := by intro _; rfl) : EF X U.G U.xn W (.ListComp elt [⟨tg, it, ifs, 0⟩] scope pos) (compM mi (own.map (·.2)) g mt me) := by
  have ok' : BlkOk X.N X.env.scope scope own := by rw [c.N, c.sc]; exact ok
  exact PE.imp (pe_lc c.calm c.nd hi ok' (fun s H C cl fp => hg _ (c.blk s H C cl fp) fun _ => rfl) (fun s H C cl fp => ht _ (c.blk s H C cl fp)) (fun s H C cl fp => he _ (c.blk s H C cl fp) ⟨rfl, rfl, rfl⟩) hf) fun σ H Q h => lc_read ok hsl h
/-- x = [.. for ..] -/
theorem own_lc {i : Nat} {t : MA} {Z : L2.Ends} {σ : L2.St} {H : Hp} (h : tS U.G U.xn W (ownM i t) Z σ H) : tF U.G U.xn W t σ H (fun v H1 => Z.nx (σ.set i (some v)) H1) := by
  obtain ⟨ρ, L, M, r, h⟩ := h
  refine ⟨ρ, L, M, r, ?_⟩
  unfold ownM at h
  revert h
  cases t L M with
  | stk => exact fun h => h
  | err x L1 M1 => exact fun h ρ1 H1 cls dd s r1 => h ρ1 H1 σ cls dd s r1
  | ok ds L1 M1 =>
    refine fun h ρ1 H1 a vs s r1 ea rr h0 n1 n2 => h ρ1 H1 _ ⟨s.pre, s.ext, s.keep, s.new, s.there, fun b hb => ?_⟩ (r1.setOwn ea rr n1 n2)
    rcases (own_set (ds := ds) (i := i) (List.nodup_append.mp r1.nd).1 n2).2 b hb with q | q
    · exact .inr (q ▸ h0)
    · exact s.own b q
theorem es_lc (c : Ct U N sc W n X) {i : Nat} {y : Str} {py spos : Pos} (hN : N[i]? = some y) (hy : sc.names.lookup y = some .local) (hl : (py.line == pos.line) = true) (hno : (scope.names.any fun (n, k) => n == y && (k == .local || k == .cell)) = false) (hkind : sc.kind = .function)
    (hi : EI X U.G U.xn W tg it mi) (ok : BlkOk N sc scope own)
    (hg : ∀ Y, Ct U N (relS scope sc) noW n Y → (∀ x, Y.fn x = (scope.names.lookup x == some .cell)) → EG Y U.G sl tg g)
    (ht : ∀ Y, Ct U N (relS scope sc) noW n Y → PTs Y ifs (tT U.G U.xn noW mt))
    (he : ∀ Y, Ct U N (relS scope sc) noW n Y → Lk X Y → EX Y U.G U.xn noW elt me) (hsl : ∀ j ∈ sl, j ∈ own.map (·.2))
    (hf : ∀ x, foldedSetIterable it X.env x = pure x := by intro _; rfl) : ES X U.G U.xn W (.Assign [.Name y py] (.ListComp elt [⟨tg, it, ifs, 0⟩] scope pos) spos) (ownM i (compM mi (own.map (·.2)) g mt me)) := by
  have ok' : BlkOk X.N X.env.scope scope own := by rw [c.N, c.sc]; exact ok
  have sy : X.env.scope.names.lookup y = some .local := by rw [c.sc]; exact hy
  refine PS.imp (ps_setLc c.calm c.nd (by rw [c.N]; exact hN) sy (sw_true (by rw [c.sc]; exact hkind) sy hl hno) hi ok' (fun s H C cl fp => hg _ (c.blk s H C cl fp) fun _ => rfl) (fun s H C cl fp => ht _ (c.blk s H C cl fp)) (fun s H C cl fp => he _ (c.blk s H C cl fp) ⟨rfl, rfl, rfl⟩) hf) fun Z σ H h => ?_
  exact lc_read ok hsl (own_lc h)
theorem ets_nil {Y : Cx} {G : Gb} {xn : Nat → Option Str} : PTs Y [] (tT G xn noW yesM) := ⟨fun pins s σ H Q I ⟨ρ, L, M, rl, h⟩ => pts_nil.run pins s σ H Q I (by
  obtain ⟨b, e, q⟩ := h ρ H (.bl true) Stp.refl rl (.bl true)
  cases e; exact q)⟩
theorem ets_one {Y : Cx} {G : Gb} {xn : Nat → Option Str} {cc : Expr} {m : MX} (h : ET Y G xn noW cc m) : PTs Y [cc] (tT G xn noW m) := pts_one h
end
end KK

namespace KK
open PySem PySem.Spec PyProof.Rows L2

/-! ### what a for walks over -/
def iAny (K : PySem.W.Frag) (te : TE) : TI := fun σ H R => te σ H fun v H1 => (∃ a xs, v = .ref a ∧ SqL K H1 a xs ∧ R (Itl K a) H1) ∨ (∃ a xs, v = .ref a ∧ SqT K H1 a xs ∧ R (Itt K a) H1) ∨ ∃ x, v = .str x ∧ R (Its x) H1
theorem pi_any {X : Cx} {tg e : Expr} {te : TE} (he : PE X e te) : PI X tg e (iAny X.K te) := by
  refine ⟨fun pins s σ H R I h => ?_⟩  -- 13
  refine thn (he.run pins s σ H _ I h) fun v s1 ⟨x, H1, I1, r1, q1⟩ => ?_
  rcases q1 with ⟨a, xs, e, hq, q⟩ | ⟨a, xs, e, hq, q⟩ | ⟨y, ex, q⟩
  · subst e
    cases r1
    obtain ⟨its, rv, p, hz⟩ := I1.list hq  -- 14
    refine wpAny_pyIter_list p.isList ?_  -- 15
    refine ⟨s1.heap.objs.size, [s1.heap.objs.size], _, _, H1, rfl, I1.kept (t' := s1.toks) fun b o e => Heap.get?_push_of_some _ e, turn_list a _, ⟨_, Heap.get?_push_size _ rfl, rfl, rfl⟩, fun b hb => ?_, q⟩  -- 16
    have e : b = s1.heap.objs.size := by simpa using hb  -- 17
    subst e
    exact I1.fpOk (Nat.le_refl _) (I1.hok.fresh (Nat.le_refl _))  -- 18
  · subst e
    cases r1
    obtain ⟨its, rv, p, hz⟩ := I1.tuple hq  -- 19
    refine wpAny_pyIter_tuple (show s1.heap.IsTuple a its.toArray from p) ?_  -- 20
    refine ⟨s1.heap.objs.size, [s1.heap.objs.size], _, _, H1, rfl, I1.kept (t' := s1.toks) fun b o e => Heap.get?_push_of_some _ e, turn_tuple a _, ⟨_, Heap.get?_push_size _ rfl, rfl, rfl⟩, fun b hb => ?_, q⟩  -- 21
    have e : b = s1.heap.objs.size := by simpa using hb  -- 22
    subst e
    exact I1.fpOk (Nat.le_refl _) (I1.hok.fresh (Nat.le_refl _))  -- 23
  · subst ex
    obtain ⟨t, rfl⟩ := r1
    cases ha : y.cps.all (· < 128)  -- 24
    · exact wpAny_pyIter_wide ha (pi_one (tk := s1.toks) I1 _ (turn_str _ y t "str_iterator" (.inr rfl)) ⟨_, Heap.get?_push_size _ rfl, rfl, rfl⟩ q)
    · exact wpAny_pyIter_ascii ha (pi_one (tk := s1.toks) I1 _ (turn_str _ y t "str_ascii_iterator" (.inl rfl)) ⟨_, Heap.get?_push_size _ rfl, rfl, rfl⟩ q)
/-- the items of a thing -/
def items : D → Option (List D)
  | .lst ds => some ds
  | .tup ds => some ds
  | .kl ds => some ds
  | .str x => some (x.cps.toList.map fun c => .str ⟨#[c]⟩)  -- 25
  | _ => none
def itemsM (m : MX) : MA := fun L M => (m L M).bindA fun d L M => match items d with
  | some ds => .ok ds L M
  | none => .stk
section
variable {X : Cx} {U : Wd} {N : List Str} {sc : Scope} {W : WX} {n : Nat} {pos : Pos} {tg e : Expr} {m : MX} {G : Gb} {ρ : List Addr} {H : Hp}
theorem wk_list {K : PySem.W.Frag} {a : Addr} {ds : List D} {vs : List V} (h : ∀ H', Ext H H' → SqL K H' a vs) (r : Rs G ρ H ds vs) : Wk G (Itl K a) ds ρ H := fun ρ' H' p e => by
  have r' := r.mono p e
  have h1 := h H' e
  refine ⟨fun i d hd => ?_, fun i hl => ⟨vs, h1, by rw [← r'.length]; exact hl⟩⟩
  obtain ⟨v, hv, rv⟩ := r'.get hd
  refine ⟨⟨vs, v, h1, hv⟩, fun x H'' y => ?_⟩
  obtain ⟨rfl, y⟩ := y
  have := y vs h1
  rw [hv] at this; cases this
  exact ⟨fun _ _ h => h, rv⟩
theorem wk_tup {K : PySem.W.Frag} {a : Addr} {ds : List D} {vs : List V} (h : ∀ H', Ext H H' → SqT K H' a vs) (r : Rs G ρ H ds vs) : Wk G (Itt K a) ds ρ H := fun ρ' H' p e => by
  have r' := r.mono p e
  have h1 := h H' e
  refine ⟨fun i d hd => ?_, fun i hl => ⟨vs, h1, by rw [← r'.length]; exact hl⟩⟩
  obtain ⟨v, hv, rv⟩ := r'.get hd
  refine ⟨⟨vs, v, h1, hv⟩, fun x H'' y => ?_⟩
  obtain ⟨rfl, y⟩ := y
  have := y vs h1
  rw [hv] at this; cases this
  exact ⟨fun _ _ h => h, rv⟩
theorem wk_str {x : Str} : Wk G (Its x) (x.cps.toList.map fun c => .str ⟨#[c]⟩) ρ H := fun ρ' H' p e => by
  refine ⟨fun i d hd => ?_, fun i hl => (by show x.cps.size ≤ i; simpa using hl)⟩
  rw [List.getElem?_map] at hd
  cases q : x.cps.toList[i]? with
  | none => rw [q] at hd; cases hd
  | some c =>
    rw [q] at hd; cases hd
    have q' : x.cps[i]? = some c := by simpa using q
    have hlt : i < x.cps.size := (Array.getElem?_eq_some_iff.mp q').1
    refine ⟨hlt, fun v H'' y => ?_⟩
    obtain ⟨rfl, c', e1, rfl⟩ := y
    rw [q'] at e1; cases e1
    exact ⟨fun _ _ h => h, .str _⟩
theorem ei_any (c : Ct U N sc W n X) (he : EX X U.G U.xn W e m) : EI X U.G U.xn W tg e (itemsM m) := by
  refine PI.imp (pi_any he) fun σ H Q ⟨ρ, L, M, rl, h⟩ => ⟨ρ, L, M, rl, ?_⟩
  unfold itemsM at h
  revert h
  cases m L M with
  | err x L1 M1 => exact fun h => h
  | stk => exact fun h => h
  | ok d L1 M1 =>
    intro h ρ1 H1 v s1 r1 rv
    cases rv with
    | @tup a ds vs t rr => exact .inr (.inl ⟨a, vs, rfl, by rw [c.K]; exact t.sq, h ρ1 H1 _ s1 r1 (by rw [c.K]; exact wk_tup (fun H' e => (t.ext e).sq) rr)⟩)
    | @lst a ds vs t rr => exact .inl ⟨a, vs, rfl, by rw [c.K]; exact t.sq, h ρ1 H1 _ s1 r1 (by rw [c.K]; exact wk_list (fun H' e => (t.ext e).sq) rr)⟩
    | @kl a ds vs t rr => exact .inl ⟨a, vs, rfl, by rw [c.K]; exact t.sq, h ρ1 H1 _ s1 r1 (by rw [c.K]; exact wk_list (fun H' e => t.sq) rr)⟩
    | str x => exact .inr (.inr ⟨x, rfl, h ρ1 H1 _ s1 r1 wk_str⟩)
    | _ => exact h.elim
/-! range -/
def rngD (lo : Int) (k : Nat) : List D := (List.range k).map fun i => .int (lo + (i : Nat))
theorem wk_rng {lo : Int} {k : Nat} : Wk G (Itr lo k) (rngD lo k) ρ H := fun ρ' H' p e => by
  refine ⟨fun i d hd => ?_, fun i hl => (by show k ≤ i; simpa [rngD] using hl)⟩
  unfold rngD at hd
  rw [List.getElem?_map] at hd
  cases q : (List.range k)[i]? with
  | none => rw [q] at hd; cases hd
  | some j =>
    rw [q] at hd; cases hd
    obtain ⟨hlt, e1⟩ := List.getElem?_eq_some_iff.mp q
    rw [List.getElem_range] at e1
    subst e1
    refine ⟨(by show i < k; simpa using hlt), fun v H'' y => ?_⟩
    obtain ⟨rfl, rfl⟩ := y
    exact ⟨fun _ _ h => h, .int _⟩
def ok62 (i : Int) : Bool := decide (-(2 ^ 62) ≤ i) && decide (i < 2 ^ 62)
theorem ok62_ {i : Int} (h : ok62 i = true) : -(2 ^ 62) ≤ i ∧ i < 2 ^ 62 := by
  unfold ok62 at h
  rw [Bool.and_eq_true, decide_eq_true_eq, decide_eq_true_eq] at h
  exact h
def Ra.bindL (r : Ra) (k : List D → MA) : Ra := match r with
  | .ok ds L M => k ds L M
  | .err x L M => .err x L M
  | .stk => .stk
def rng1 (t : MA) : MA := fun L M => (t L M).bindL fun ds L M => match ds with
  | [.int j] => if ok62 j = true then .ok (rngD 0 j.toNat) L M else .stk
  | _ => .stk
def rng2 (t : MA) : MA := fun L M => (t L M).bindL fun ds L M => match ds with
  | [.int i, .int j] => if ok62 i = true ∧ ok62 j = true then .ok (rngD i (j - i).toNat) L M else .stk
  | _ => .stk
theorem Rs.one {d : D} {vs : List V} (r : Rs G ρ H [d] vs) : ∃ v, vs = [v] ∧ R G ρ H d v := by
  cases r with
  | cons r t => cases t; exact ⟨_, rfl, r⟩
theorem Rs.two {d e : D} {vs : List V} (r : Rs G ρ H [d, e] vs) : ∃ v u, vs = [v, u] ∧ R G ρ H d v ∧ R G ρ H e u := by
  cases r with
  | cons r t => obtain ⟨u, rfl, r2⟩ := Rs.one t; exact ⟨_, u, rfl, r, r2⟩
theorem Rs.three {d e f : D} {vs : List V} (r : Rs G ρ H [d, e, f] vs) : ∃ v u w, vs = [v, u, w] ∧ R G ρ H d v ∧ R G ρ H e u ∧ R G ρ H f w := by
  cases r with
  | cons r t => obtain ⟨u, w, rfl, r2, r3⟩ := Rs.two t; exact ⟨_, u, w, rfl, r, r2, r3⟩
theorem XA.bindI {xn : Nat → Option Str} {L : LL} {σ : L2.St} {r : Ra} {k : List D → MA} {Q : It → Hp → Prop} (h : IP G xn W ρ H L σ (r.bindL k) Q) :
    XA G xn W ρ H L σ r fun vs H1 => ∃ ρ1 L1 M1 ds, Stp ρ H (ownA L σ) ρ1 H1 (ownA L1 σ) ∧ Rl G ρ1 H1 L1 σ M1 ∧ Rs G ρ1 H1 ds vs ∧ IP G xn W ρ1 H1 L1 σ (k ds L1 M1) Q := by
  cases r with
  | stk => exact h
  | err x L1 M1 => exact h
  | ok ds L1 M1 =>
    intro ρ1 H1 vs s1 r1 rr
    refine ⟨ρ1, L1, M1, ds, s1, r1, rr, ?_⟩
    revert h
    show IP G xn W ρ H L σ (k ds L1 M1) Q → _
    cases k ds L1 M1 with
    | stk => exact fun h => h
    | err x L2 M2 => exact fun h ρ' H' cls dd s' => h ρ' H' cls dd (s1.trans s')
    | ok es L2 M2 => exact fun h ρ' H' J s' => h ρ' H' J (s1.trans s')
variable {a b : Expr} {p : Pos} {t : MA}
theorem Ct.gl (c : Ct U N sc W n X) {x : Str} (h : sc.names.lookup x = some .globalImplicit) : Gl X x := by
  show X.env.scope.names.lookup x = _
  rw [c.sc]; exact h
theorem Ct.mg' (c : Ct U N sc W n X) {x : Str} {o : Option Value} (h : U.mg x = o) : X.mg x = o := by rw [c.mg]; exact h
theorem ei_range1 (c : Ct U N sc W n X) (hg : sc.names.lookup ("range" : Str) = some .globalImplicit) (hm : U.mg "range" = none) (ha : EA X U.G U.xn W [a] t) (hs : starEach [a] X.env = [(false, eval a X.env)] := by rfl) :
    EI X U.G U.xn W tg (.Call (.Name "range" p) [a] [] pos) (rng1 t) := by
  refine PI.imp (pi_range1 (c.gl hg) (c.mg' hm) ha hs) fun σ H Q ⟨ρ, L, M, rl, h⟩ => ⟨ρ, L, M, rl, XA.mono (XA.bindI h) ?_⟩
  rintro vs H1 ⟨ρ1, L1, M1, ds, s1, r1, rr, h1⟩
  split at h1
  · rename_i j
    split at h1
    · rename_i hj
      obtain ⟨v, rfl, rv⟩ := Rs.one rr
      cases rv.int'
      obtain ⟨k1, k2⟩ := ok62_ hj
      exact ⟨j, rfl, k1, k2, h1 ρ1 H1 _ Stp.refl r1 wk_rng⟩
    · exact h1.elim
  · exact h1.elim
theorem ei_range2 (c : Ct U N sc W n X) (hg : sc.names.lookup ("range" : Str) = some .globalImplicit) (hm : U.mg "range" = none) (ha : EA X U.G U.xn W [a, b] t) (hs : starEach [a, b] X.env = [(false, eval a X.env), (false, eval b X.env)] := by rfl) (hs2 : starEach [b] X.env = [(false, eval b X.env)] := by rfl) :
    EI X U.G U.xn W tg (.Call (.Name "range" p) [a, b] [] pos) (rng2 t) := by
  refine PI.imp (pi_range2 (c.gl hg) (c.mg' hm) ha hs hs2) fun σ H Q ⟨ρ, L, M, rl, h⟩ => ⟨ρ, L, M, rl, XA.mono (XA.bindI h) ?_⟩
  rintro vs H1 ⟨ρ1, L1, M1, ds, s1, r1, rr, h1⟩
  split at h1
  · rename_i i j
    split at h1
    · rename_i hj
      obtain ⟨v, u, rfl, rv, ru⟩ := Rs.two rr
      cases rv.int'
      cases ru.int'
      obtain ⟨k1, k2⟩ := ok62_ hj.1
      obtain ⟨k3, k4⟩ := ok62_ hj.2
      exact ⟨i, j, rfl, ⟨k1, k2, k3, k4⟩, h1 ρ1 H1 _ Stp.refl r1 wk_rng⟩
    · exact h1.elim
  · exact h1.elim
end
end KK

namespace KK
open PySem PySem.Spec PyProof.Rows L2

/-! ### calls of what is built in -/
abbrev RC := List V → Hp → VK → Prop
def B1 (G : Gb) (r : RC) (f : D → Option D) : Prop := ∀ (ρ : List Addr) (H : Hp) (L : LL) (σ : L2.St) (M : MM) (d : D) (v : V) (z : D) (Q : VK), Rl G ρ H L σ M → RB G ρ H d v → f d = some z → (∀ H' u, GR H H' → R G ρ H' z u → Q u H') → r [v] H Q
def B2 (G : Gb) (r : RC) (f : D → D → Option D) : Prop := ∀ (ρ : List Addr) (H : Hp) (L : LL) (σ : L2.St) (M : MM) (d e : D) (v u : V) (z : D) (Q : VK), Rl G ρ H L σ M → RB G ρ H d v → RB G ρ H e u → f d e = some z → (∀ H' u, GR H H' → R G ρ H' z u → Q u H') → r [v, u] H Q
/-- a new list comes of it -/
def F1 (G : Gb) (r : RC) (f : D → Option (List D)) : Prop := ∀ (ρ : List Addr) (H : Hp) (L : LL) (σ : L2.St) (M : MM) (d : D) (v : V) (ds : List D) (Q : VK), Rl G ρ H L σ M → RB G ρ H d v → f d = some ds → (∀ p ys, H p = none → Rs G ρ H ds ys → Q (.ref p) (upd H p (.lst ys))) → r [v] H Q
def un1 (f : D → Option D) (m : MX) : MX := fun L M => (m L M).bind fun d L M => match f d with
  | some z => .ok z L M
  | none => .stk
def unF (f : D → Option (List D)) (m : MX) : MA := fun L M => (m L M).bindA fun d L M => match f d with
  | some z => .ok z L M
  | none => .stk
section
variable {X : Cx} {U : Wd} {N : List Str} {sc : Scope} {W : WX} {n : Nat} {p pos : Pos} {x : Str} {e e2 : Expr} {m m2 : MX} {r : RC} {f : D → Option D} {f2 : D → D → Option D} {fl : D → Option (List D)} {id : String}
theorem b1_read {T : TA} (hT : T = tCons (tB U.G U.xn W m) tNil) (b : B1 U.G r f) {σ : L2.St} {H : Hp} {Q : VK} (h : tX U.G U.xn W (un1 f m) σ H Q) : tCB r T σ H Q := by
  obtain ⟨ρ, L, M, rl, h⟩ := h
  subst hT
  refine ⟨ρ, L, M, rl, XB.mono (XB.bind h) ?_⟩
  rintro v H1 ⟨ρ1, L1, M1, d, s1, rl1, r1, h1⟩
  cases q : f d with
  | none => rw [q] at h1; exact h1.elim
  | some z => rw [q] at h1; exact b ρ1 H1 L1 σ M1 d v z Q rl1 r1 q fun H' u g rz => h1 ρ1 H' u (Stp.grow g) (rl1.grow g) rz
theorem ex_b1 (c : Ct U N sc W n X) (hc : CallR X (.builtin id) r) (hv : bootBuiltins x = some (.builtin id)) (hg : sc.names.lookup x = some .globalImplicit) (hm : U.mg x = none) (b : B1 U.G r f) (he : EXB X U.G U.xn W e m)
    (hx : x ≠ "__name__" := by decide +kernel) (hd : (x == ("__debug__" : Str)) = false := by decide +kernel) (hs : starEach [e] X.env = (false, eval e X.env) :: starEach [] X.env := by rfl) (hp : (backTo pos (starEach [] X.env)).any (·.1) = false := by rfl) :
    EX X U.G U.xn W (.Call (.Name x p) [e] [] pos) (un1 f m) :=
  PE.imp (pe_callB hc (c.gl hg) (c.mg' hm) hv (pa_cons he pa_nil hs) hx hd hs hp) fun σ H Q h => b1_read rfl b h
theorem ex_t1 (c : Ct U N sc W n X) (hc : CallR X (.type id) r) (hv : bootBuiltins x = some (.type id)) (hg : sc.names.lookup x = some .globalImplicit) (hm : U.mg x = none) (b : B1 U.G r f) (he : EXB X U.G U.xn W e m)
    (hx : x ≠ "__name__" := by decide +kernel) (hd : (x == ("__debug__" : Str)) = false := by decide +kernel) (hs : starEach [e] X.env = (false, eval e X.env) :: starEach [] X.env := by rfl) (hp : (backTo pos (starEach [] X.env)).any (·.1) = false := by rfl) :
    EX X U.G U.xn W (.Call (.Name x p) [e] [] pos) (un1 f m) :=
  PE.imp (pe_callTy hc (c.gl hg) (c.mg' hm) hv (pa_cons he pa_nil hs) hx hd hs hp) fun σ H Q h => b1_read rfl b h
theorem f1_read {T : TA} (hT : T = tCons (tB U.G U.xn W m) tNil) (b : F1 U.G r fl) {σ : L2.St} {H : Hp} {Q : VK} (h : tF U.G U.xn W (unF fl m) σ H Q) : tCB r T σ H Q := by
  obtain ⟨ρ, L, M, rl, h⟩ := h
  subst hT
  refine ⟨ρ, L, M, rl, XB.mono (XB.bindF h) ?_⟩
  rintro v H1 ⟨ρ1, L1, M1, d, s1, rl1, r1, h1⟩
  cases q : fl d with
  | none => rw [q] at h1; exact h1.elim
  | some z => rw [q] at h1; exact b ρ1 H1 L1 σ M1 d v z Q rl1 r1 q fun p ys hp rr => XF.give h1 rl1 rr hp
theorem ef_b1 (c : Ct U N sc W n X) (hc : CallR X (.builtin id) r) (hv : bootBuiltins x = some (.builtin id)) (hg : sc.names.lookup x = some .globalImplicit) (hm : U.mg x = none) (b : F1 U.G r fl) (he : EXB X U.G U.xn W e m)
    (hx : x ≠ "__name__" := by decide +kernel) (hd : (x == ("__debug__" : Str)) = false := by decide +kernel) (hs : starEach [e] X.env = (false, eval e X.env) :: starEach [] X.env := by rfl) (hp : (backTo pos (starEach [] X.env)).any (·.1) = false := by rfl) :
    EF X U.G U.xn W (.Call (.Name x p) [e] [] pos) (unF fl m) :=
  PE.imp (pe_callB hc (c.gl hg) (c.mg' hm) hv (pa_cons he pa_nil hs) hx hd hs hp) fun σ H Q h => f1_read rfl b h
theorem ef_t1 (c : Ct U N sc W n X) (hc : CallR X (.type id) r) (hv : bootBuiltins x = some (.type id)) (hg : sc.names.lookup x = some .globalImplicit) (hm : U.mg x = none) (b : F1 U.G r fl) (he : EXB X U.G U.xn W e m)
    (hx : x ≠ "__name__" := by decide +kernel) (hd : (x == ("__debug__" : Str)) = false := by decide +kernel) (hs : starEach [e] X.env = (false, eval e X.env) :: starEach [] X.env := by rfl) (hp : (backTo pos (starEach [] X.env)).any (·.1) = false := by rfl) :
    EF X U.G U.xn W (.Call (.Name x p) [e] [] pos) (unF fl m) :=
  PE.imp (pe_callTy hc (c.gl hg) (c.mg' hm) hv (pa_cons he pa_nil hs) hx hd hs hp) fun σ H Q h => f1_read rfl b h
def un2 (f : D → D → Option D) (m m2 : MX) : MX := binM f m m2
/-- two arguments; the first is a value -/
theorem ex_b2 (c : Ct U N sc W n X) (hc : CallR X (.builtin id) r) (hv : bootBuiltins x = some (.builtin id)) (hg : sc.names.lookup x = some .globalImplicit) (hm : U.mg x = none) (b : B2 U.G r f2) (he : EX X U.G U.xn W e m) (he2 : EX X U.G U.xn W e2 m2)
    (hx : x ≠ "__name__" := by decide +kernel) (hd : (x == ("__debug__" : Str)) = false := by decide +kernel) (hs : starEach [e, e2] X.env = (false, eval e X.env) :: starEach [e2] X.env := by rfl) (hs2 : starEach [e2] X.env = (false, eval e2 X.env) :: starEach [] X.env := by rfl) (hp : (backTo pos (starEach [e2] X.env)).any (·.1) = false := by rfl) :
    EX X U.G U.xn W (.Call (.Name x p) [e, e2] [] pos) (binM f2 m m2) := by
  refine PE.imp (pe_callB hc (c.gl hg) (c.mg' hm) hv (pa_cons he (pa_cons he2 pa_nil hs2) hs) hx hd hs hp) fun σ H Q ⟨ρ, L, M, rl, h⟩ => ?_
  refine ⟨ρ, L, M, rl, XP.mono (XP.bind h) ?_⟩
  rintro v H1 ⟨ρ1, L1, M1, d, s1, rl1, r1, h1⟩
  refine ⟨ρ1, L1, M1, rl1, XP.mono (XP.bind h1) ?_⟩
  rintro u H2 ⟨ρ2, L2, M2, d2, s2, rl2, r2, h2⟩
  dsimp only at h2
  cases q : f2 d d2 with
  | none => rw [q] at h2; exact h2.elim
  | some z => rw [q] at h2; exact b ρ2 H2 L2 σ M2 d d2 v u z Q rl2 (.r (r1.step s2)) (.r r2) q fun H' u g rz => h2 ρ2 H' u (Stp.grow g) (rl2.grow g) rz
end

/-! data -/
def lenD : D → Option D
  | .lst ds => some (.int (ds.length : Nat))
  | .tup ds => some (.int (ds.length : Nat))
  | .kl ds => some (.int (ds.length : Nat))
  | .str x => if x.length ≤ sizeLine then some (.int (x.length : Nat)) else none
  | _ => none
def absD : D → Option D
  | .int i => some (.int (if i < 0 then -i else i))  -- 26
  | _ => none
def intD : D → Option D
  | .int i => some (.int i)
  | .bl b => some (.int (if b then 1 else 0))
  | .str x => match PySem.intText? x with
    | some n => if x.length ≤ 640 then some (.int n) else none
    | none => none
  | _ => none
def minD : D → D → Option D
  | .int i, .int j => some (.int (if j < i then j else i))
  | _, _ => none
def maxD : D → D → Option D
  | .int i, .int j => some (.int (if j > i then j else i))
  | _, _ => none
def tupD : D → Option D
  | .lst ds => some (.tup ds)
  | .kl ds => some (.tup ds)
  | .tup ds => some (.tup ds)
  | _ => none
def listD : D → Option (List D)
  | .lst ds => some ds
  | .kl ds => some ds
  | .tup ds => some ds
  | _ => none
def bools : List D → Option (List Bool)
  | [] => some []
  | .bl b :: ds => (bools ds).map (b :: ·)
  | _ => none
def allD : D → Option D
  | .lst ds => (bools ds).map fun bs => .bl (bs.all id)
  | _ => none
def anyD : D → Option D
  | .lst ds => (bools ds).map fun bs => .bl (bs.any id)
  | _ => none
section
variable {X : Cx} {U : Wd} {N : List Str} {sc : Scope} {W : WX} {n : Nat} {G : Gb} {ρ : List Addr} {H : Hp}
theorem RB.seq {d : D} {ds : List D} {v : V} (hd : d = .lst ds ∨ d = .kl ds ∨ d = .tup ds) (r : RB G ρ H d v) : ∃ a vs, v = .ref a ∧ (SqL G.K H a vs ∨ SqT G.K H a vs) ∧ Rs G ρ H ds vs := by
  rcases hd with rfl | rfl | rfl
  · obtain ⟨a, vs, h1, h2, h3⟩ := r.list
    exact ⟨a, vs, h1, .inl h2, h3⟩
  · cases r with
    | r r => cases r with
      | kl t r => exact ⟨_, _, rfl, .inl t.sq, r⟩
  · obtain ⟨a, vs, h1, h2, h3⟩ := r.tuple
    exact ⟨a, vs, h1, .inr h2, h3⟩
theorem b_len (c : Ct U N sc W n X) : B1 U.G (fun xs H Q => (∃ p ys, xs = [.ref p] ∧ (SqL X.K H p ys ∨ SqT X.K H p ys) ∧ Q (.int ys.length) H) ∨ ∃ z, xs = [.str z] ∧ z.length ≤ sizeLine ∧ Q (.int z.length) H) lenD := by
  intro ρ H L σ M d v z Q rl r h k
  have seq : ∀ ds, (d = .lst ds ∨ d = .kl ds ∨ d = .tup ds) → z = .int (ds.length : Nat) → ∃ p ys, [v] = [V.ref p] ∧ (SqL X.K H p ys ∨ SqT X.K H p ys) ∧ Q (.int ys.length) H := fun ds hd hz => by
    obtain ⟨a, vs, rfl, h1, h2⟩ := r.seq hd
    rw [← c.K] at h1
    subst hz
    exact ⟨a, vs, rfl, h1, k H _ (fun _ _ h => h) (by rw [← h2.length]; exact .int _)⟩
  unfold lenD at h
  split at h
  · cases h; exact .inl (seq _ (.inl rfl) rfl)
  · cases h; exact .inl (seq _ (.inr (.inr rfl)) rfl)
  · cases h; exact .inl (seq _ (.inr (.inl rfl)) rfl)
  · split at h
    · rename_i x hz
      cases h; cases r.str
      exact .inr ⟨x, rfl, hz, k H _ (fun _ _ h => h) (.int _)⟩
    · cases h
  · cases h
theorem b_abs : B1 G (fun xs H Q => ∃ i, xs = [.int i] ∧ Q (.int (if i < 0 then -i else i)) H) absD := by
  intro ρ H L σ M d v z Q rl r h k
  unfold absD at h
  split at h
  · cases h; cases r.int; exact ⟨_, rfl, k H _ (fun _ _ h => h) (.int _)⟩
  · cases h
theorem b_int : B1 G (fun xs H Q => ((∃ i, xs = [.int i] ∧ Q (.int i) H) ∨ ∃ k, xs = [.bl k] ∧ Q (.int (if k then 1 else 0)) H) ∨ ∃ a n, xs = [.str a] ∧ PySem.intText? a = some n ∧ a.length ≤ 640 ∧ Q (.int n) H) intD := by
  intro ρ H L σ M d v z Q rl r h k
  unfold intD at h
  split at h
  · cases h; cases r.int; exact .inl (.inl ⟨_, rfl, k H _ (fun _ _ h => h) (.int _)⟩)
  · cases h; cases r.bl; exact .inl (.inr ⟨_, rfl, k H _ (fun _ _ h => h) (.int _)⟩)
  · split at h
    · rename_i q
      split at h
      · rename_i hz
        cases h; cases r.str
        exact .inr ⟨_, _, rfl, q, hz, k H _ (fun _ _ h => h) (.int _)⟩
      · cases h
    · cases h
  · cases h
theorem b_min : B2 G (fun xs H Q => ∃ i j, xs = [.int i, .int j] ∧ Q (.int (if j < i then j else i)) H) minD := by
  intro ρ H L σ M d e v u z Q rl r r2 h k
  unfold minD at h
  split at h
  · cases h; cases r.int; cases r2.int; exact ⟨_, _, rfl, k H _ (fun _ _ h => h) (.int _)⟩
  · cases h
theorem b_max : B2 G (fun xs H Q => ∃ i j, xs = [.int i, .int j] ∧ Q (.int (if j > i then j else i)) H) maxD := by
  intro ρ H L σ M d e v u z Q rl r r2 h k
  unfold maxD at h
  split at h
  · cases h; cases r.int; cases r2.int; exact ⟨_, _, rfl, k H _ (fun _ _ h => h) (.int _)⟩
  · cases h
theorem b_tup (c : Ct U N sc W n X) : B1 U.G (fun xs H Q => ∃ p ys, xs = [.ref p] ∧ ((SqL X.K H p ys ∧ NewT H ys Q) ∨ (SqT X.K H p ys ∧ Q (.ref p) H))) tupD := by
  intro ρ H L σ M d v z Q rl r h k
  have lst : ∀ ds, (d = .lst ds ∨ d = .kl ds) → z = .tup ds → ∃ p ys, [v] = [V.ref p] ∧ ((SqL X.K H p ys ∧ NewT H ys Q) ∨ (SqT X.K H p ys ∧ Q (.ref p) H)) := fun ds hd hz => by
    have : ∃ a vs, v = .ref a ∧ SqL U.G.K H a vs ∧ Rs U.G ρ H ds vs := by
      rcases hd with rfl | rfl
      · exact r.list
      · cases r with
        | r r => cases r with
          | kl t r => exact ⟨_, _, rfl, t.sq, r⟩
    obtain ⟨a, vs, rfl, h1, h2⟩ := this
    rw [← c.K] at h1
    subst hz
    exact ⟨a, vs, rfl, Or.inl ⟨h1, fun l o hl ho => k _ _ (upd_grow hl) (.tup (.inl ⟨o, upd_same, ho⟩) (h2.mono (List.prefix_refl _) (Ext.of (upd_grow hl))))⟩⟩
  unfold tupD at h
  split at h
  · cases h; exact lst _ (.inl rfl) rfl
  · cases h; exact lst _ (.inr rfl) rfl
  · cases h
    have r' := r
    obtain ⟨a, vs, rfl, h1, h2⟩ := r.tuple
    rw [← c.K] at h1
    cases r' with
    | r r' => exact ⟨a, vs, rfl, Or.inr ⟨h1, k H _ (fun _ _ h => h) r'⟩⟩
  · cases h
theorem f_list (c : Ct U N sc W n X) : F1 U.G (fun xs H Q => ∃ p ys, xs = [.ref p] ∧ (SqL X.K H p ys ∨ SqT X.K H p ys) ∧ ∀ l, H l = none → Q (.ref l) (upd H l (.lst ys))) listD := by
  intro ρ H L σ M d v ds Q rl r h k
  have : d = .lst ds ∨ d = .kl ds ∨ d = .tup ds := by
    unfold listD at h
    split at h <;> cases h
    · exact .inl rfl
    · exact .inr (.inl rfl)
    · exact .inr (.inr rfl)
  obtain ⟨a, vs, rfl, h1, h2⟩ := r.seq this
  rw [← c.K] at h1
  exact ⟨a, vs, rfl, h1, fun l hl => k l vs hl h2⟩
theorem Rs.bools : ∀ {ds : List D} {bs : List Bool} {vs : List V}, Rs G ρ H ds vs → KK.bools ds = some bs → vs = bs.map V.bl
  | [], bs, vs, r, e => by cases r; cases e; rfl
  | d :: ds, bs, vs, r, e => by
    cases r with
    | cons r t =>
      cases d with
      | bl b =>
        unfold KK.bools at e
        cases q : KK.bools ds with
        | none => rw [q] at e; cases e  -- 27
        | some bs' =>
          rw [q] at e; cases e
          cases r.bl'
          rw [Rs.bools t q]; rfl
      | _ => cases e
theorem b_all (c : Ct U N sc W n X) : B1 U.G (rAll X.K) allD := by
  intro ρ H L σ M d v z Q rl r h k
  unfold allD at h
  split at h
  · rename_i ds
    cases q : KK.bools ds with
    | none => rw [q] at h; cases h
    | some bs =>
      rw [q] at h; cases h
      obtain ⟨a, vs, rfl, h1, h2⟩ := r.list
      rw [← c.K, Rs.bools h2 q] at h1
      exact ⟨a, bs, rfl, h1, k H _ (fun _ _ h => h) (.bl _)⟩
  · cases h
theorem b_any (c : Ct U N sc W n X) : B1 U.G (rAny X.K) anyD := by
  intro ρ H L σ M d v z Q rl r h k
  unfold anyD at h
  split at h
  · rename_i ds
    cases q : KK.bools ds with
    | none => rw [q] at h; cases h
    | some bs =>
      rw [q] at h; cases h
      obtain ⟨a, vs, rfl, h1, h2⟩ := r.list
      rw [← c.K, Rs.bools h2 q] at h1
      exact ⟨a, bs, rfl, h1, k H _ (fun _ _ h => h) (.bl _)⟩
  · cases h
end
end KK

namespace KK
open PySem PySem.Spec PyProof.Rows L2

/-! ### in, is, subscripts, slices -/
theorem any_py : ∀ {ds : List D} {ps : List PyData} {d : D} {p : PyData}, pys ds = some ps → py d = some p → (ps.any fun z => PyData.eqv z p) = ds.any fun z => eqv z d
  | [], ps, d, p, h, _ => by cases h; rfl
  | x :: ds, ps, d, p, h, hp => by
    simp only [pys] at h
    split at h
    · rename_i q qs e1 e2
      cases h
      rw [List.any_cons, List.any_cons, eqv_py e1 hp, any_py e2 hp]
    · cases h
def inD : D → D → Option D
  | .str x, .str y => match x.cps.toList with
    | [c] => some (.bl (decide (c ∈ y.cps.toList)))
    | _ => none
  | d, .lst ds => if dep d ≤ 60 ∧ depA ds ≤ 60 then some (.bl (ds.any fun z => eqv z d)) else none
  | d, .tup ds => if dep d ≤ 60 ∧ depA ds ≤ 60 then some (.bl (ds.any fun z => eqv z d)) else none
  | _, _ => none
def ninD (x y : D) : Option D := match inD x y with
  | some (.bl b) => some (.bl (!b))
  | _ => none
section
variable {X : Cx} {U : Wd} {N : List Str} {sc : Scope} {W : WX} {n : Nat} {G : Gb} {ρ : List Addr} {H : Hp}
theorem sign_eq {x : Str} {c : Nat} (h : x.cps.toList = [c]) : x = ⟨#[c]⟩ := by
  cases x with
  | mk a => cases a with
    | mk l => simp at h; subst h; rfl
theorem in_data (c : Ct U N sc W n X) {d : D} {ds : List D} (hd : dep d ≤ 60) (hds : depA ds ≤ 60) {x y : V} {v u : Value} {pins : List (Addr × Obj)} {σ : L2.St} {s : Shared} {tp : Bool} (I : L2.Inv X pins σ H s) (rx : L2.RelV x v) (ry : L2.RelV y u)
    (r1 : R U.G ρ H d x) (r2 : RB U.G ρ H (if tp then .tup ds else .lst ds) y) {Q : VK} {neg : Bool} (q : Q (.bl (if neg then !(ds.any fun z => eqv z d) else ds.any fun z => eqv z d)) H) :
    wpAny (model X.prog X.w) X.A (compareOp (if neg then .NotIn else .In) v u) (EP X pins σ Q) X.xe s := by
  obtain ⟨p, e1, k1, k2⟩ := py_dep (d := d) (by omega)
  obtain ⟨ps, e2, k3, k4⟩ := pys_dep (xs := ds) (by omega)
  have D1 : Dp X.K H x p := by rw [c.K]; exact r1.dp e1
  obtain ⟨as, w1⟩ := Dp.reads I p x v D1 rx
  have hu : X.A.units + 1 + min (PyData.depthAll ps) p.depth < cLine := by have := c.room.un; omega
  rw [← any_py e2 e1] at q
  cases tp with
  | true =>
    have D2 : Dp X.K H y (.tuple ps) := by rw [c.K]; exact r2.dp (by simp only [if_true, py, e2, Option.map])
    obtain ⟨bs, w2⟩ := Dp.reads I (.tuple ps) y u D2 ry
    cases neg with
    | true => exact SeqAt.notIn_tuple_reads w2 w1 k4 k2 hu ⟨.bl _, H, I, rfl, q⟩
    | false => exact SeqAt.in_tuple_reads w2 w1 k4 k2 hu ⟨.bl _, H, I, rfl, q⟩
  | false =>
    have D2 : Dp X.K H y (.list ps) := by rw [c.K]; exact r2.dp (by simp only [Bool.false_eq_true, if_false, py, e2, Option.map])
    obtain ⟨bs, w2⟩ := Dp.reads I (.list ps) y u D2 ry
    cases neg with
    | true => exact SeqAt.notIn_list_reads w2 w1 k4 k2 hu ⟨.bl _, H, I, rfl, q⟩
    | false => exact SeqAt.in_list_reads w2 w1 k4 k2 hu ⟨.bl _, H, I, rfl, q⟩
theorem od_in (c : Ct U N sc W n X) : OpD X U.G (compareOp .In) inD := by
  rintro pins s σ' H x y v u Q I rx ry ⟨ρ, L, σ, M, d, e, z, rl, r1, r2, hf, q⟩
  unfold inD at hf
  split at hf
  · split at hf
    · rename_i k hk
      cases hf; cases r1.str'; cases r2.str
      rw [sign_eq hk] at rx
      exact op_in_sign pins s σ' H _ _ v u Q I rx ry ⟨k, _, rfl, rfl, q H _ (fun _ _ h => h) (.bl _)⟩
    · cases hf
  · split at hf
    · rename_i h
      cases hf
      exact in_data (tp := false) (neg := false) c h.1 h.2 I rx ry r1 r2 (q H _ (fun _ _ h => h) (.bl _))
    · cases hf
  · split at hf
    · rename_i h
      cases hf
      exact in_data (tp := true) (neg := false) c h.1 h.2 I rx ry r1 r2 (q H _ (fun _ _ h => h) (.bl _))
    · cases hf
  · cases hf
theorem od_nin (c : Ct U N sc W n X) : OpD X U.G (compareOp .NotIn) ninD := by
  rintro pins s σ' H x y v u Q I rx ry ⟨ρ, L, σ, M, d, e, z, rl, r1, r2, hf, q⟩
  unfold ninD inD at hf
  split at hf
  · rename_i b hb
    cases hf
    split at hb
    · split at hb
      · rename_i k hk
        cases hb; cases r1.str'; cases r2.str
        rw [sign_eq hk] at rx
        exact op_notIn_sign pins s σ' H _ _ v u Q I rx ry ⟨k, _, rfl, rfl, q H _ (fun _ _ h => h) (.bl _)⟩
      · cases hb
    · split at hb
      · rename_i h
        cases hb
        exact in_data (tp := false) (neg := true) c h.1 h.2 I rx ry r1 r2 (q H _ (fun _ _ h => h) (.bl _))
      · cases hb
    · split at hb
      · rename_i h
        cases hb
        exact in_data (tp := true) (neg := true) c h.1 h.2 I rx ry r1 r2 (q H _ (fun _ _ h => h) (.bl _))
      · cases hb
    · cases hb
  · cases hf

/-! x is None -/
def isNone : D → Bool
  | .non => true
  | _ => false
def isD : D → D → Option D
  | d, .non => some (.bl (isNone d))
  | .bl a, .bl b => some (.bl (decide (a = b)))
  | _, _ => none
def nisD : D → D → Option D
  | d, .non => some (.bl (!isNone d))
  | .bl a, .bl b => some (.bl (!decide (a = b)))
  | _, _ => none
theorem R.isNon {d : D} {v : V} (r : R G ρ H d v) : decide (v = .non) = isNone d := by
  cases r <;> rfl
theorem od_is : OpD X G (compareOp .Is) isD := by
  rintro pins s σ' H x y v u Q I rx ry ⟨ρ, L, σ, M, d, e, z, rl, r1, r2, hf, q⟩
  unfold isD at hf
  split at hf
  · cases hf; cases r2.non
    exact op_isN pins s σ' H _ _ v u Q I rx ry ⟨rfl, by rw [r1.isNon]; exact q H _ (fun _ _ h => h) (.bl _)⟩
  · cases hf; cases r1.bl'; cases r2.bl
    exact op_isBl pins s σ' H _ _ v u Q I rx ry ⟨_, _, rfl, rfl, q H _ (fun _ _ h => h) (.bl _)⟩
  · cases hf
theorem od_nis : OpD X G (compareOp .IsNot) nisD := by
  rintro pins s σ' H x y v u Q I rx ry ⟨ρ, L, σ, M, d, e, z, rl, r1, r2, hf, q⟩
  unfold nisD at hf
  split at hf
  · cases hf; cases r2.non
    exact op_notN pins s σ' H _ _ v u Q I rx ry ⟨rfl, by rw [r1.isNon]; exact q H _ (fun _ _ h => h) (.bl _)⟩
  · cases hf; cases r1.bl'; cases r2.bl
    exact op_notBl pins s σ' H _ _ v u Q I rx ry ⟨_, _, rfl, rfl, q H _ (fun _ _ h => h) (.bl _)⟩
  · cases hf

/-! x[i] -/
def ixD : D → D → Option D
  | .lst ds, .int i => atI ds i
  | .tup ds, .int i => atI ds i
  | .str x, .int i => if x.length ≤ sizeLine then (atI x.cps.toList i).map fun c => .str ⟨#[c]⟩ else none
  | _, _ => none
theorem Rs.at {ds : List D} {vs : List V} {i : Int} {d : D} (r : Rs G ρ H ds vs) (h : atI ds i = some d) : ∃ v, atI vs i = some v ∧ R G ρ H d v := by
  unfold atI at h ⊢
  rw [r.length] at h
  cases q : ixN vs.length i with
  | none => rw [q] at h; cases h
  | some j => rw [q] at h; exact r.get h
theorem XB.bindB {xn : Nat → Option Str} {L : LL} {σ : L2.St} {r : Rx} {k : D → MX} {Q : VK} (h : XB G xn W ρ H L σ (r.bind k) Q) : XB G xn W ρ H L σ r fun v H1 => ∃ ρ1 L1 M1 d, Stp ρ H (ownA L σ) ρ1 H1 (ownA L1 σ) ∧ Rl G ρ1 H1 L1 σ M1 ∧ RB G ρ1 H1 d v ∧ XB G xn W ρ1 H1 L1 σ (k d L1 M1) Q := by
  cases r with
  | stk => exact h
  | err x L' M' => exact h
  | ok d L' M' =>
    intro ρ1 H1 v s1 r1 rv
    refine ⟨ρ1, L', M', d, s1, r1, rv, ?_⟩
    revert h
    show XB G xn W ρ H L σ (k d L' M') Q → _
    cases k d L' M' with
    | ok d2 L2 M2 => exact fun h ρ' H' v s' => h ρ' H' v (s1.trans s')
    | err x L2 M2 => exact fun h ρ' H' cls dd s' => h ρ' H' cls dd (s1.trans s')
    | stk => exact fun h => h
theorem RB.step {ρ' : List Addr} {H' : Hp} {O O' : List Addr} {d : D} {v : V} (r : R G ρ H d v) (s : Stp ρ H O ρ' H' O') : RB G ρ' H' d v := .r (r.mono s.pre s.ext)
/-- an int, nothing happens -/
abbrev MP := LL → MM → Option Int
def tP (G : Gb) (f : MP) : TE := fun σ H Q => ∃ ρ L M i, Rl G ρ H L σ M ∧ f L M = some i ∧ Q (.int i) H
abbrev EP (X : Cx) (G : Gb) (e : Expr) (f : MP) : Prop := PE X e (tP G f)
def cstP (i : Int) : MP := fun _ _ => some i
def locP (i : Nat) : MP := fun L _ => match L[i]? with
  | some (.val (.int k)) => some k
  | _ => none
def opP (g : Int → Int → Int) (f h : MP) : MP := fun L M => match f L M, h L M with
  | some i, some j => some (g i j)
  | _, _ => none
theorem ep_int {G : Gb} {i : Int} {j : Nat} {pos : Pos} : EP X G (.Constant (.int i) j pos) (cstP i) := PE.imp pe_int fun σ H Q ⟨ρ, L, M, k, rl, e, q⟩ => by cases e; exact q
theorem ep_loc (c : Ct U N sc W n X) (i : Nat) {x : Str} {pos : Pos} (hN : N[i]? = some x) (hv : sc.names.lookup x = some .local ∨ sc.names.lookup x = some .cell ∨ sc.names.lookup x = some .free)
    (hd : (x == ("__debug__" : Str)) = false := by decide +kernel) (hcd : (x == ("__classdict__" : Str)) = false := by decide +kernel) : EP X U.G (.Name x pos) (locP i) := by
  refine PE.imp (pe_var (i := i) (by rw [c.N]; exact hN) (by unfold Vis; rw [c.sc]; exact hv) hd hcd) fun σ H Q ⟨ρ, L, M, k, rl, e, q⟩ => ?_
  unfold locP at e
  split at e
  · rename_i j hj
    cases e
    obtain ⟨v, e1, r⟩ := rl.sl.val hj
    cases r.int'
    exact ⟨_, e1, q⟩
  · cases e
theorem ep_add {G : Gb} {a b : Expr} {f h : MP} {pos : Pos} (ha : EP X G a f) (hb : EP X G b h) : EP X G (.BinOp a .Add b pos) (opP (· + ·) f h) := by
  refine PE.imp (pe_op op_add ha hb) fun σ H Q ⟨ρ, L, M, k, rl, e, q⟩ => ?_
  unfold opP at e
  split at e
  · rename_i i j e1 e2
    cases e
    exact ⟨ρ, L, M, i, rl, e1, ρ, L, M, j, rl, e2, i, j, rfl, rfl, q⟩
  · cases e
theorem ep_sub {G : Gb} {a b : Expr} {f h : MP} {pos : Pos} (ha : EP X G a f) (hb : EP X G b h) : EP X G (.BinOp a .Sub b pos) (opP (· - ·) f h) := by
  refine PE.imp (pe_op op_sub ha hb) fun σ H Q ⟨ρ, L, M, k, rl, e, q⟩ => ?_
  unfold opP at e
  split at e
  · rename_i i j e1 e2
    cases e
    exact ⟨ρ, L, M, i, rl, e1, ρ, L, M, j, rl, e2, i, j, rfl, rfl, q⟩
  · cases e
def ixPM (m : MX) (f : MP) : MX := fun L M => (m L M).bind fun d L M => match f L M with
  | some i => match ixD d (.int i) with
    | some z => .ok z L M
    | none => .stk
  | none => .stk
theorem ex_ix (c : Ct U N sc W n X) {a b : Expr} {ma : MX} {f : MP} {pos : Pos} (ha : EXB X U.G U.xn W a ma) (hb : EP X U.G b f) (hs : PlainIx b) : EX X U.G U.xn W (.Subscript a b pos) (ixPM ma f) := by
  refine PE.imp (pe_ix ix_seq ha hb hs) fun σ H Q ⟨ρ, L, M, rl, h⟩ => ⟨ρ, L, M, rl, XB.mono (XB.bind h) ?_⟩
  rintro x H1 ⟨ρ1, L1, M1, d, s1, r1, rv, h1⟩
  cases q0 : f L1 M1 with
  | none => rw [q0] at h1; exact h1.elim
  | some i =>
    rw [q0] at h1
    dsimp only at h1
    refine ⟨ρ1, L1, M1, i, r1, q0, ?_⟩
    cases q : ixD d (.int i) with
    | none => rw [q] at h1; exact h1.elim
    | some z =>
      rw [q] at h1
      cases d with
      | lst ds =>
        obtain ⟨p, vs, rfl, hq, rr⟩ := rv.list
        obtain ⟨v, hv, rz⟩ := rr.at q
        exact .inl ⟨p, vs, _, v, rfl, rfl, by rw [c.K]; exact hq, hv, h1 ρ1 H1 v Stp.refl r1 rz⟩
      | tup ds =>
        obtain ⟨p, vs, rfl, hq, rr⟩ := rv.tuple
        obtain ⟨v, hv, rz⟩ := rr.at q
        exact .inr (.inl ⟨p, vs, _, v, rfl, rfl, by rw [c.K]; exact hq, hv, h1 ρ1 H1 v Stp.refl r1 rz⟩)
      | str x =>
        unfold ixD at q
        dsimp only at q
        split at q
        · rename_i hz
          cases rv.str
          cases q2 : atI x.cps.toList i with
          | none => rw [q2] at q; cases q
          | some k => rw [q2] at q; cases q; exact .inr (.inr ⟨_, _, k, rfl, rfl, hz, q2, h1 ρ1 H1 _ Stp.refl r1 (.str _)⟩)
        · cases q
      | _ => cases q
/-- .. the thing as a value, the place anything -/
theorem ex_ixe (c : Ct U N sc W n X) {a b : Expr} {ma mb : MX} {pos : Pos} (ha : EX X U.G U.xn W a ma) (hb : EX X U.G U.xn W b mb) (hs : PlainIx b) : EX X U.G U.xn W (.Subscript a b pos) (binM ixD ma mb) := by
  refine PE.imp (pe_ix ix_seq ha hb hs) fun σ H Q ⟨ρ, L, M, rl, h⟩ => ⟨ρ, L, M, rl, XP.mono (XP.bind h) ?_⟩
  rintro x H1 ⟨ρ1, L1, M1, d, s1, r1, rv1, h1⟩
  refine ⟨ρ1, L1, M1, r1, XP.mono (XP.bind h1) ?_⟩
  rintro y H2 ⟨ρ2, L2, M2, j, s2, r2, rj, h2⟩
  dsimp only at h2
  have rv : RB U.G ρ2 H2 d x := RB.step rv1 s2
  cases q : ixD d j with
  | none => rw [q] at h2; exact h2.elim
  | some z =>
    rw [q] at h2
    unfold ixD at q
    split at q
    · obtain ⟨p, vs, rfl, hq, rr⟩ := rv.list
      obtain ⟨v, hv, rz⟩ := rr.at q
      cases rj.int'
      exact .inl ⟨p, vs, _, v, rfl, rfl, by rw [c.K]; exact hq, hv, h2 ρ2 H2 v Stp.refl r2 rz⟩
    · obtain ⟨p, vs, rfl, hq, rr⟩ := rv.tuple
      obtain ⟨v, hv, rz⟩ := rr.at q
      cases rj.int'
      exact .inr (.inl ⟨p, vs, _, v, rfl, rfl, by rw [c.K]; exact hq, hv, h2 ρ2 H2 v Stp.refl r2 rz⟩)
    · split at q
      · rename_i hz
        cases rv.str
        cases rj.int'
        cases q2 : atI _ _ with
        | none => rw [q2] at q; cases q
        | some k => rw [q2] at q; cases q; exact .inr (.inr ⟨_, _, k, rfl, rfl, hz, q2, h2 ρ2 H2 _ Stp.refl r2 (.str _)⟩)
      · cases q
    · cases q
/-! x[lo:hi] -/
def cutD (ds : List D) (lo hi : Option Int) : List D := (ds.drop (HT.sIx ds.length 0 lo)).take (HT.sIx ds.length ds.length hi - HT.sIx ds.length 0 lo)
theorem Rs.cut {ds : List D} {vs : List V} (r : Rs G ρ H ds vs) (lo hi : Option Int) : Rs G ρ H (cutD ds lo hi) (cutV vs lo hi) := by
  unfold cutD cutV
  rw [← r.length]
  exact (r.drop _).take _
/-- a bound, or none -/
def tPO (G : Gb) (f : LL → MM → Option (Option Int)) : L2.TO := fun σ H Q => ∃ ρ L M i, Rl G ρ H L σ M ∧ f L M = some i ∧ Q i H
abbrev EPO (X : Cx) (G : Gb) (e : Option Expr) (f : LL → MM → Option (Option Int)) : Prop := PO X e (tPO G f)
theorem PO.imp {e : Option Expr} {t t' : L2.TO} (h : PO X e t) (k : ∀ σ H Q, t' σ H Q → t σ H Q) : PO X e t' := ⟨fun pins s σ H Q I q => h.run pins s σ H Q I (k σ H Q q)⟩
def noP : LL → MM → Option (Option Int) := fun _ _ => some none
def soP (f : MP) : LL → MM → Option (Option Int) := fun L M => (f L M).map some
theorem epo_no : EPO X G none noP := PO.imp po_none fun σ H Q ⟨ρ, L, M, k, rl, e, q⟩ => by cases e; exact q
theorem epo_so {e : Expr} {f : MP} (h : EP X G e f) : EPO X G (some e) (soP f) := PO.imp (po_some h) fun σ H Q ⟨ρ, L, M, k, rl, e, q⟩ => by
  unfold soP at e
  cases q2 : f L M with
  | none => rw [q2] at e; cases e
  | some i => rw [q2] at e; cases e; exact ⟨ρ, L, M, i, rl, q2, i, rfl, q⟩
/-- a slice of a tuple, a text: a value -/
def slD (d : D) (lo hi : Option Int) : Option D := match d with
  | .tup ds => some (.tup (cutD ds lo hi))
  | .str x => if x.length ≤ sizeLine then some (.str (cutS x lo hi)) else none
  | _ => none
def slM (m : MX) (f g : LL → MM → Option (Option Int)) : MX := fun L M => (m L M).bind fun d L M => match f L M, g L M with
  | some lo, some hi => match slD d lo hi with
    | some z => .ok z L M
    | none => .stk
  | _, _ => .stk
theorem cutV_all {vs : List V} {lo hi : Option Int} (h : HT.sIx vs.length 0 lo = 0 ∧ HT.sIx vs.length vs.length hi = vs.length) : cutV vs lo hi = vs := by
  unfold cutV; rw [h.1, h.2]; simp
theorem cutD_all {ds : List D} {vs : List V} {lo hi : Option Int} (r : Rs G ρ H ds vs) (h : HT.sIx vs.length 0 lo = 0 ∧ HT.sIx vs.length vs.length hi = vs.length) : cutD ds lo hi = ds := by
  unfold cutD; rw [r.length, h.1, h.2, ← r.length]; simp
theorem ex_sl (c : Ct U N sc W n X) {e : Expr} {lo hi : Option Expr} {m : MX} {f g : LL → MM → Option (Option Int)} {pos p2 : Pos} (he : EXB X U.G U.xn W e m) (hl : EPO X U.G lo f) (hh : EPO X U.G hi g) : EX X U.G U.xn W (.Subscript e (.Slice lo hi none p2) pos) (slM m f g) := by
  refine PE.imp (pe_slice (sl_tupZ.or sl_str) he hl hh) fun σ H Q ⟨ρ, L, M, rl, h⟩ => ⟨ρ, L, M, rl, XB.mono (XB.bind h) ?_⟩
  rintro x H1 ⟨ρ1, L1, M1, d, s1, r1, rv, h1⟩
  split at h1
  · rename_i lo hi q1 q2
    refine ⟨ρ1, L1, M1, lo, r1, q1, ρ1, L1, M1, hi, r1, q2, ?_⟩
    split at h1
    · rename_i z q
      unfold slD at q
      split at q
      · cases q
        obtain ⟨p, vs, rfl, hq, rr⟩ := rv.tuple
        refine .inl ⟨p, vs, rfl, by rw [c.K]; exact hq, fun w => ?_, fun w q o hq ho => ?_⟩
        · rw [cutD_all rr w] at h1
          cases rv with
          | r rv => exact h1 ρ1 H1 _ Stp.refl r1 rv
        · have gr := upd_grow (o := .frz o (.tup (cutV vs lo hi))) hq
          exact h1 ρ1 _ _ (Stp.grow gr) (r1.grow gr) (.tup (.inl ⟨o, upd_same, ho⟩) ((rr.cut lo hi).mono (List.prefix_refl _) (Ext.of gr)))
      · split at q
        · rename_i hz
          cases q; cases rv.str
          exact .inr ⟨_, rfl, hz, h1 ρ1 H1 _ Stp.refl r1 (.str _)⟩
        · cases q
      · cases q
    · exact h1.elim
  · exact h1.elim
/-- a slice of a list: a new list -/
def slF (m : MX) (f g : LL → MM → Option (Option Int)) : MA := fun L M => (m L M).bindA fun d L M => match d, f L M, g L M with
  | .lst ds, some lo, some hi => .ok (cutD ds lo hi) L M
  | _, _, _ => .stk
theorem ef_sl (c : Ct U N sc W n X) {e : Expr} {lo hi : Option Expr} {m : MX} {f g : LL → MM → Option (Option Int)} {pos p2 : Pos} (he : EXB X U.G U.xn W e m) (hl : EPO X U.G lo f) (hh : EPO X U.G hi g) : EF X U.G U.xn W (.Subscript e (.Slice lo hi none p2) pos) (slF m f g) := by
  refine PE.imp (pe_slice sl_list he hl hh) fun σ H Q ⟨ρ, L, M, rl, h⟩ => ⟨ρ, L, M, rl, XB.mono (XB.bindF h) ?_⟩
  rintro x H1 ⟨ρ1, L1, M1, d, s1, r1, rv, h1⟩
  split at h1
  · rename_i ds lo hi q1 q2
    refine ⟨ρ1, L1, M1, lo, r1, q1, ρ1, L1, M1, hi, r1, q2, ?_⟩
    obtain ⟨p, vs, rfl, hq, rr⟩ := rv.list
    exact ⟨p, vs, rfl, by rw [c.K]; exact hq, fun l hl => XF.give h1 r1 (rr.cut lo hi) hl⟩
  · exact h1.elim
end
end KK

namespace KK
open PySem PySem.Spec PyProof.Rows L2

/-! ### isinstance, a built-in class -/
def tyD : D → Option String
  | .non => some "NoneType"
  | .bl _ => some "bool"
  | .int _ => some "int"
  | .str _ => some "str"
  | .tup _ => some "tuple"
  | .lst _ => some "list"
  | _ => none
def isA (T : String) (a : String) : Bool := a == T || (T == "int" && a == "bool")
def isiD (T : String) (d : D) : Option D := (tyD d).map fun a => .bl (isA T a)
section
variable {X : Cx} {U : Wd} {N : List Str} {sc : Scope} {W : WX} {n : Nat} {G : Gb} {ρ : List Addr} {H : Hp} {p p2 pos : Pos}
theorem R.tyX {K : PySem.W.Frag} (hK : K = G.K) {d : D} {v : V} {a : String} (r : R G ρ H d v) (h : tyD d = some a) : TyX K H v (.type a) := by
  cases r with
  | non => cases h; exact .base .non
  | bl b => cases h; exact .base (.bl b)
  | int b => cases h; exact .base (.int b)
  | str b => cases h; exact .base (.str b)
  | tup t _ =>
    cases h
    rcases t with ⟨o, q, _⟩ | ⟨o, its, k, q, c, _⟩
    · exact .fTuple q
    · exact .kTuple (by rw [hK]; exact q) c.1
  | lst t _ => cases h; obtain ⟨o, q⟩ := t; exact .base (.frz q)
  | _ => cases h
def tyNames : List String := ["NoneType", "bool", "int", "str", "tuple", "list"]
theorem kit_all {K : PySem.W.Frag} {T a : String} (hT : T = "tuple" ∨ T = "str" ∨ T = "int" ∨ T = "bool") (h : ∃ d : D, tyD d = some a) : PySem.W.kitOne K (.type a) (.type T) = some (isA T a) := by
  have ha : a ∈ tyNames := by
    obtain ⟨d, h⟩ := h
    cases d <;> cases h <;> simp [tyNames]
  have all : ∀ T ∈ ["tuple", "str", "int", "bool"], ∀ a ∈ tyNames, kitB a T = some (isA T a) := by decide +kernel
  exact kit_ty (all T (by rcases hT with rfl | rfl | rfl | rfl <;> simp) a ha)
theorem ex_isi (c : Ct U N sc W n X) {x : Str} {T : String} {e : Expr} {m : MX} (he : EX X U.G U.xn W e m) (hT : T = "tuple" ∨ T = "str" ∨ T = "int" ∨ T = "bool") (hb : bootBuiltins x = some (.type T)) (hgx : sc.names.lookup x = some .globalImplicit) (hmx : U.mg x = none)
    (hg : sc.names.lookup ("isinstance" : Str) = some .globalImplicit) (hm : U.mg "isinstance" = none) (hv : bootBuiltins "isinstance" = some (.builtin "isinstance")) (hdx : (x == ("__debug__" : Str)) = false) (hnx : x ≠ "__name__")
    (hs : starEach [e, .Name x p2] X.env = (false, eval e X.env) :: starEach [.Name x p2] X.env := by rfl) (hs2 : starEach [.Name x p2] X.env = (false, eval (.Name x p2) X.env) :: starEach [] X.env := by rfl) (hp : (backTo pos (starEach [.Name x p2] X.env)).any (·.1) = false := by rfl) :
    EX X U.G U.xn W (.Call (.Name "isinstance" p) [e, .Name x p2] [] pos) (un1 (isiD T) m) := by
  have hty : PE X (.Name x p2) (tC (.ty T)) := pe_bltn (c.gl hgx) (c.mg' hmx) hb rfl hnx hdx
  refine PE.imp (pe_callB call_isi (c.gl hg) (c.mg' hm) hv (pa_cons he (pa_cons hty pa_nil hs2) hs) (by decide +kernel) (by decide +kernel) hs hp) fun σ H Q ⟨ρ, L, M, rl, h⟩ => ?_
  refine ⟨ρ, L, M, rl, XP.mono (XP.bind h) ?_⟩
  rintro v H1 ⟨ρ1, L1, M1, d, s1, r1, rv, h1⟩
  dsimp only at h1
  unfold isiD at h1
  cases q : tyD d with
  | none => rw [q] at h1; exact h1.elim
  | some a =>
    rw [q] at h1
    exact ⟨v, .ty T, .type a, .type T, _, rfl, .ty T, rv.tyX c.K q, kit_all hT ⟨d, q⟩, h1 ρ1 H1 _ Stp.refl r1 (.bl _)⟩

/-! ### a list + a list -/
theorem op_catL : OpR X (binaryOp .Add) (fun x y H Q => ∃ a b zs ws, x = .ref a ∧ y = .ref b ∧ Rd H a (.lst zs) ∧ Rd H b (.lst ws) ∧ zs.length + ws.length ≤ sizeLine ∧ ∀ p, H p = none → Q (.ref p) (upd H p (.lst (zs ++ ws)))) := by
  rintro pins s σ H x y v u Q I rx ry ⟨a, b, zs, ws, rfl, rfl, ha, hb, hz, k⟩
  cases rx
  cases ry
  obtain ⟨_, us, k1, v1, g1⟩ := ha.ok I.hok
  obtain ⟨_, us2, k2, v2, g2⟩ := hb.ok I.hok
  refine PySem.P.add_list g1 g2 ?_ (by rw [List.size_toArray, List.size_toArray, ← v1.length, ← v2.length]; exact hz)
  have e : us.toArray ++ us2.toArray = (us ++ us2).toArray := by simp
  rw [e]
  exact ⟨.ref _, _, I.lnew (t' := s.toks) (v1.append v2) (by rw [List.length_append]; exact hz), rfl, k _ I.fresh⟩
theorem RB.rd {ds : List D} {v : V} (r : RB G ρ H (.lst ds) v) : ∃ a vs, v = .ref a ∧ Rd H a (.lst vs) ∧ Rs G ρ H ds vs := by
  cases r with
  | r r => cases r with
    | lst t r => exact ⟨_, _, rfl, t.rd, r⟩
  | l h r => exact ⟨_, _, rfl, .inl h, r⟩
def catF (ta tb : MX) : MA := fun L M => (ta L M).bindA fun x L1 M1 => (tb L1 M1).bindA fun y L2 M2 => match x, y with
  | .lst xs, .lst ys => if xs.length + ys.length ≤ sizeLine then .ok (xs ++ ys) L2 M2 else .stk
  | _, _ => .stk
theorem XP.bindF {xn : Nat → Option Str} {L : LL} {σ : L2.St} {r : Rx} {k : D → MA} {Q : VK} (h : XF G xn W ρ H L σ (r.bindA k) Q) :
    XP G xn W ρ H L σ r fun v H1 => ∃ ρ1 L1 M1 d, Stp ρ H (ownA L σ) ρ1 H1 (ownA L1 σ) ∧ Rl G ρ1 H1 L1 σ M1 ∧ R G ρ1 H1 d v ∧ XF G xn W ρ1 H1 L1 σ (k d L1 M1) Q := by
  cases r with
  | ok d L' M' => exact fun ρ' H' v s a b => ⟨ρ', L', M', d, s, a, b, XF.shift (r := k d L' M') h s⟩
  | err x L' M' => exact h
  | stk => exact h
theorem ef_cat {a b : Expr} {ma mb : MX} {xn : Nat → Option Str} (ha : EX X G xn W a ma) (hb : EXB X G xn W b mb) : EF X G xn W (.BinOp a .Add b pos) (catF ma mb) := by
  refine PE.imp (pe_op op_catL ha hb) fun σ H Q ⟨ρ, L, M, rl, h⟩ => ⟨ρ, L, M, rl, XP.mono (XP.bindF h) ?_⟩
  rintro x H1 ⟨ρ1, L1, M1, d, s1, r1, rv1, h1⟩
  refine ⟨ρ1, L1, M1, r1, XB.mono (XB.bindF h1) ?_⟩
  rintro y H2 ⟨ρ2, L2, M2, d2, s2, r2, rv2, h2⟩
  split at h2
  · split at h2
    · rename_i hz
      obtain ⟨p1, vs, rfl, q1, w1⟩ := (RB.step rv1 s2).rd
      obtain ⟨p2, us, rfl, q2, w2⟩ := rv2.rd
      exact ⟨p1, p2, vs, us, rfl, rfl, q1, q2, by rw [← w1.length, ← w2.length]; exact hz, fun p hp => XF.give h2 r2 (w1.append w2) hp⟩
    · exact h2.elim
  · exact h2.elim

/-! ### (x, ..) * n -/
def repD : D → D → Option D
  | .tup ds, .int k => if ds ≠ [] ∧ 2 ≤ k ∧ k ≤ 1000 ∧ ds.length ≤ 1000 then some (.tup (List.replicate k.toNat ds).flatten) else none
  | _, _ => none

/-! ### t.index(x): names -/
def allStr : List D → Option (List Str)
  | [] => some []
  | .str x :: ds => (allStr ds).map (x :: ·)
  | _ => none
theorem Rs.allStr : ∀ {ds : List D} {bs : List Str} {vs : List V}, Rs G ρ H ds vs → KK.allStr ds = some bs → vs = bs.map V.str
  | [], bs, vs, r, e => by cases r; cases e; rfl
  | d :: ds, bs, vs, r, e => by
    cases r with
    | cons r t =>
      cases d with
      | str b =>
        unfold KK.allStr at e
        cases q : KK.allStr ds with
        | none => rw [q] at e; cases e  -- 28
        | some bs' =>
          rw [q] at e; cases e
          cases r.str'
          rw [Rs.allStr t q]; rfl
      | _ => cases e
def idx (x : Str) : List Str → Option Nat
  | [] => none
  | y :: ys => if y = x then some 0 else (idx x ys).map (· + 1)
theorem idx_eq {x : Str} : ∀ {ys : List Str} {j : Nat}, idx x ys = some j → ys[j]? = some x ∧ ∀ m, m < j → ys[m]? ≠ some x
  | [], j, h => by cases h
  | y :: ys, j, h => by
    unfold idx at h
    split at h
    · rename_i e
      cases h
      exact ⟨by rw [e]; rfl, fun m hm => absurd hm (Nat.not_lt_zero m)⟩
    · rename_i e
      cases q : idx x ys with
      | none => rw [q] at h; cases h
      | some k =>
        rw [q] at h; cases h
        obtain ⟨h1, h2⟩ := idx_eq q
        refine ⟨by simpa using h1, fun m hm => ?_⟩
        cases m with
        | zero => intro z; exact e (by simpa using z)
        | succ m => have := h2 m (Nat.lt_of_succ_lt_succ hm); simpa using this
def idxD : D → D → Option D
  | .tup ds, .str x => match KK.allStr ds with
    | some ys => (idx x ys).map fun j => .int (j : Nat)
    | none => none
  | _, _ => none
def idxM (mo m : MX) : MX := fun L M => (mo L M).bind fun d L1 M1 => match d with
  | .tup ds => (m L1 M1).bind fun y L2 M2 => match idxD (.tup ds) y with
    | some z => .ok z L2 M2
    | none => .stk
  | _ => .stk
theorem ex_index (c : Ct U N sc W n X) {o e : Expr} {mo m : MX} {apos cpos : Pos} (ho : EX X U.G U.xn W o mo) (he : EX X U.G U.xn W e m)
    (h1 : attributeBase o "index" X.env (eval o X.env) = eval o X.env := by rfl)
    (h2 : ((backTo cpos (starEach [e] X.env)).all (!·.1) && (backToKw cpos (keywordEach [] X.env)).all (·.1.isSome) && decide ([e].length + ([] : List Keyword).length + (if ([] : List Keyword).isEmpty then 0 else 1) < 30)) = true := by rfl)
    (h3 : (apos.endLine == cpos.line) = true := by rfl) (h4 : starEach [e] X.env = (false, eval e X.env) :: starEach [] X.env := by rfl) (h5 : (backTo cpos (starEach [] X.env)).any (·.1) = false := by rfl) :
    EX X U.G U.xn W (.Call (.Attribute o "index" apos) [e] [] cpos) (idxM mo m) := by
  refine PE.imp (pe_tm PySem.F.slot_tuple_index PySem.F.type_tuple_index mt_tup_index ho (pa_cons he pa_nil h4) h1 h2 h3 h4 h5) fun σ H Q ⟨ρ, L, M, rl, h⟩ => ⟨ρ, L, M, rl, XP.mono (XP.bind h) ?_⟩
  rintro x H1 ⟨ρ1, L1, M1, d, s1, r1, rv1, h1⟩
  cases d with
  | tup ds =>
    have ty : ∃ a, x = .ref a ∧ ((∃ o zs, H1 a = some (.frz o (.tup zs)) ∧ TO o) ∨ ∃ o, X.K.lookup a = some o ∧ TO o) := by
      cases rv1 with
      | @tup a _ vs t rr =>
        rcases t with ⟨o, q, k⟩ | ⟨o, its, j, q, k, _⟩
        · exact ⟨a, rfl, .inl ⟨o, vs, q, k⟩⟩
        · exact ⟨a, rfl, .inr ⟨o, by rw [c.K]; exact q, k⟩⟩
    refine ⟨ty, ρ1, L1, M1, r1, XP.mono (XP.bind h1) ?_⟩
    rintro y H2 ⟨ρ2, L2, M2, d2, s2, r2, rv2, h2⟩
    dsimp only at h2
    cases q : idxD (.tup ds) d2 with
    | none => rw [q] at h2; exact h2.elim
    | some z =>
      rw [q] at h2
      unfold idxD at q
      split at q
      · rename_i ds' k e1
        cases e1
        split at q
        · rename_i ys e2
          cases q3 : idx k ys with
          | none => rw [q3] at q; cases q
          | some j =>
            rw [q3] at q; cases q
            obtain ⟨p, vs, rfl, hq, rr⟩ := (RB.step rv1 s2).tuple
            cases rv2.str'
            have e3 := rr.allStr e2
            subst e3
            obtain ⟨i1, i2⟩ := idx_eq q3
            exact ⟨p, ys, k, j, rfl, rfl, by rw [c.K]; exact hq, i1, i2, h2 ρ2 H2 _ Stp.refl r2 (.int _)⟩
        · cases q
      · cases q
  | _ => exact h1.elim
end
end KK

namespace KK
open PySem PySem.Spec PyProof.Rows L2

/-! ### an exception that is held -/
section
variable {X : Cx} {pins : List (Addr × Obj)} {σ : L2.St} {H : Hp} {s : Shared}  -- 29
theorem xo_ok {P : Program} {w : World} {h : Heap} {a : Addr} {cls : Value} {dd : Option Addr} {oe : Obj} {vs : Array Value} (e : h.get? a = some oe) (z : Zc cls dd oe) (d : oe.data = .fields vs) : ObjOk P w H h a (XO cls dd a) :=
  ⟨⟨oe, vs, e, z, d⟩, ⟨oe, e⟩, fun h1 h2 ⟨o, v, q1, q2⟩ k => ⟨o, v, k o q1, q2⟩⟩
/-- what flew and was caught is tracked from now on -/
theorem Inv.hold {a : Addr} {oe : Obj} {vs : Array Value} {cls : Value} {dd : Option Addr} (I : L2.Inv X ((a, oe) :: pins) σ H s) (hz : Zc cls dd oe) (hd : oe.data = .fields vs) (h0 : X.s_0.heap.get? a = none) (hp : ∀ p ∈ X.pn ++ pins, p.1 ≠ a)
    (hc : ∀ x c, X.env.cells.lookup x = some c → c ≠ a) : L2.Inv X pins σ (upd H a (XO cls dd a)) s := by
  obtain ⟨ga, na, nl, nf, _⟩ := I.pin (a, oe) (by simp)
  have g := upd_grow (o := XO cls dd a) na
  have ne0 : ∀ b o, X.s_0.heap.get? b = some o → b ≠ a := fun b o e z => by rw [z, h0] at e; cases e
  refine ⟨I.ok, I.os, I.bare, ⟨I.base.keep, I.base.slot, fun b o e n hx => ?_, I.base.there, fun b zs e => g _ _ (I.base.tups b zs e), fun b o u e => g _ _ (I.base.frzs b o u e), fun b ps e => ?_⟩, I.loc, I.cell, ?_, fun x c e => ?_, fun p hpm => ?_, ?_, I.len⟩
  · rw [upd_ne (ne0 b o e)]; exact I.base.free b o e n hx
  · obtain ⟨m, q⟩ := I.base.tbls b ps e  -- 30
    exact ⟨m, g _ _ q⟩
  · rw [upd_ne (fun z => nl z.symm)]; exact I.free
  · rw [upd_ne (hc x c e)]; exact I.freeC x c e
  · obtain ⟨q1, q2, q3⟩ := I.pin p (by
      rcases List.mem_append.mp hpm with w | w
      · exact List.mem_append_left _ w
      · exact List.mem_append_right _ (List.mem_cons_of_mem _ w))
    exact ⟨q1, by rw [upd_ne (hp p hpm)]; exact q2, q3⟩
  · exact L2.HOk.laidN I.hok (fun _ _ e => e) na (xo_ok ga hz hd)
/-- try: BODY / except c as n: y = n: what is wished of an exception of the body (slot i is n's, slot k is y's) -/
def wKeep (K : PySem.W.Frag) (n : Nat) (c : Value) (i k : Nat) (Z : L2.Ends) : WX := fun cls d σ H =>
  ∃ b, PySem.W.exmOne K cls c = some b ∧ (b = true → σ.length = n → ∀ a, H a = none → Z.nx (((σ.set i (some (.ref a))).set k (some (.ref a))).set i none) (upd H a (XO cls d a))) ∧ (b = false → False)
theorem ps_try_keep {x n y : Str} {c : Value} {i k : Nat} {body : List Stmt} {np yp vp sp pos pos' : Pos} {tb : WX → TS}
    (hs : X.stack = X.env :: X.outer) (hf : X.env.frame = some X.env.locals) (hex : X.ex = []) (hN : X.N.Nodup) (hi : X.N[i]? = some n) (hln : X.env.kindOf n = some .local) (hk : X.N[k]? = some y) (hly : X.env.kindOf y = some .local) (hik : i < X.N.length) (hne : k ≠ i) (hcl : X.env.cells = []) (hnc : Names X x c)
    (hdn : (n == ("__debug__" : Str)) = false) (hcn : (n == ("__classdict__" : Str)) = false)
    (hb : ∀ (W : WX) (pn : List (Addr × Obj)) (xe : Value → Shared → Prop), Takes (X.tr pn xe) W → PassesOwn (model X.prog X.w) X.A X.env xe → PSs (X.tr pn xe) body (tb W)) :
    PS X (.Try body [.ExceptHandler (some (.Name x np)) (some n) [.Assign [.Name y yp] (.Name n vp) sp] pos'] [] [] pos) (fun Z σ H => tb (wKeep X.K X.N.length c i k Z) Z σ H) := by
  refine ⟨fun pins s σ H Z I h => ?_⟩
  have ok := I.ok
  have hlen := I.len
  have frames : X.A.frames = some (X.env :: X.outer) := by rw [ok.frames, hs]
  have hloc : Loc X.env.scope n := .inl hln  -- 31
  refine wpAny_Try_except ?_
  refine wpAny_mono ((hb (wKeep X.K X.N.length c i k Z) (X.pn ++ pins) (fun e s₁ => wpAny (model X.prog X.w) X.A (noteFrame e X.env) (fun _ s₂ => wpAny (model X.prog X.w) X.A (setFlight e none) (fun _ s₃ =>
    wpAny (model X.prog X.w) X.A (handleBy e X.env [.ExceptHandler (some (.Name x np)) (some n) [.Assign [.Name y yp] (.Name n vp) sp] pos']) (SP X pins Z) X.xe s₃) X.xe s₂) X.xe s₁) (fun u s' xx => ?_) PassesOwn.looking).run [] s σ H Z (I.toTry _) h) (fun f s1 hsp => ?_) (fun e s1 he => he)
  · obtain ⟨a, B, sI, pins', τ, H', cls, d, rfl, J', nb, up, sky, na, os, ag, b, hb1, hyes, hno⟩ := xx
    have J : L2.Inv X pins τ H' sI := J'.ofTry ok
    have sky' : Sky B (X.env :: X.outer) a (Zc cls d) X.env.locals s'.heap := by rw [← hs]; exact sky  -- 32
    show wpAny (model X.prog X.w) X.A (noteFrame (.ref a) X.env) _ _ _  -- 33
    refine Sky.land Zc.steady frames hf sky' fun u3 fl up3 => ?_
    have J3 : L2.Inv X pins τ H' { s' with heap := u3 } := J.landed nb fl.1 (up.trans up3) os ag
    obtain ⟨o3, w3, e3, z3, d3⟩ := fl.there
    have off : ∀ {h : Heap} {o : Obj} {vs : Array Value}, h.FunFrames B (X.env :: X.outer) → h.get? a = some o → o.data = .fields vs → a ∉ frs (X.env :: X.outer) := fun {h o vs} ff e dd hm => by
      obtain ⟨_, o', e', nd⟩ := ff.mem hm
      rw [e] at e'; cases e'
      exact nd _ dd
    have nfr := off fl.2.2.1 e3 d3
    have nL : a ≠ X.env.locals := fun z => nfr (List.mem_filterMap.mpr ⟨X.env, List.mem_cons_self, by rw [hf, z]⟩)  -- 34
    have nF : a ∉ X.fs := fun hm => by  -- 35
      obtain ⟨e, he, q⟩ := List.mem_filterMap.mp hm  -- 36
      exact nfr (List.mem_filterMap.mpr ⟨e, List.mem_cons_of_mem _ he, q⟩)  -- 37
    -- what is new for the state in which it was raised
    have new : sI.heap.get? a = none := by
      cases q : sI.heap.get? a with
      | none => rfl
      | some o =>
        have := nb a o q (by rw [hs]; exact nfr)
        rw [fl.2.1] at this; cases this
    have new0 : X.s_0.heap.get? a = none := by
      cases q : X.s_0.heap.get? a with
      | none => rfl
      | some o =>
        obtain ⟨o', e'⟩ := J.base.there a o q (by rw [hex]; exact fun z => nomatch z)
        rw [new] at e'; cases e'
    have apart : ∀ p ∈ X.pn ++ pins, p.1 ≠ a := fun p hp z => by
      have := (J.pin p hp).1
      rw [z, new] at this; cases this
    have S3 := J3.suite e3 d3 na nL nF
    refine wpAny_handleBy_cons (codeAny_handlers_test ?_) (by intro q; cases q)  -- 38
    have LT : PySem.W.Looks (model X.prog X.w) u3 (typeOf (.ref a)) cls := fun A Q E s k q => wpAny_typeOf_ref (k _ _ e3) (by rw [z3.1]; exact q)
    have LM := PySem.W.exm_one (M := model X.prog X.w) (J3.kIn) LT hb1  -- 39
    have test : ∀ {Q : Value → Shared → Prop} {E : Value → Shared → Prop}, Q c { s' with heap := u3 } → wpAny (model X.prog X.w) (X.A.mark (some (.ref a))) (eval (.Name x np) X.env) Q E { s' with heap := u3 } := fun {Q E} q => by
      obtain ⟨hg, hdbg, hm | ⟨hm, hv, hnn⟩⟩ := hnc
      · exact ld_glob (X := X.suite a ((a, o3) :: (X.pn ++ pins))) S3 hg hm q hdbg
      · exact ld_blt (X := X.suite a ((a, o3) :: (X.pn ++ pins))) S3 hg hm hv q hnn hdbg
    refine test (LM.here ?_)
    cases b with
    | false => exact (hno rfl).elim
    | true =>
      refine codeAny_handlers_suite_as (HandSPX.lands_againZ fl fun u4 fl4 up4 => ?_)
      have J4 : L2.Inv X pins τ H' { s' with heap := u4 } := J.landed nb fl4.1 ((up.trans up3).trans up4) os ag
      obtain ⟨o4, w4, e4, z4, d4⟩ := fl4.there
      have S4 := J4.suite e4 d4 na nL nF
      refine store_ok (X := X.suite a ((a, o4) :: (X.pn ++ pins))) (v := .ref a) S4 hN hi hloc rfl (fun s5 S5 => ?_) (.inr hln)
      have hst : PSs (X.suite a ((a, o4) :: (X.pn ++ pins))) [.Assign [.Name y yp] (.Name n vp) sp] (tAsg (tVar i) (gName k)) :=
        pss_one (ps_set hN hk (.inl hly) (pe_var hi (.inl hln) hdn hcn) (by rfl) (.inr hly))
      have hτ : i < τ.length := by rw [J.len]; exact hik
      have gi : (τ.set i (some (V.ref a)))[i]? = some (some (V.ref a)) := List.getElem?_set_self hτ
      refine wpAny_mono (hst.run [] s5 _ H' { nx := fun σ6 H6 => σ6 = ((τ.set i (some (V.ref a))).set k (some (V.ref a))) ∧ H6 = H', rt := fun _ _ => False } S5 ⟨.ref a, gi, rfl, rfl⟩) (fun f s6 hsp => ?_) (fun _ _ z => False.elim z)
      cases f with
      | next =>
        obtain ⟨σ6, H6, S6, rfl, rfl⟩ := hsp
        have T6 : L2.Inv X ((a, o4) :: pins) _ H6 s6 := ⟨ok, S6.os, S6.bare, S6.base, S6.loc, S6.cell, S6.free, S6.freeC, fun p hp => S6.pin p (by
          rcases List.mem_append.mp hp with w | w
          · exact List.mem_append_left _ (List.mem_cons_of_mem _ (List.mem_append_left _ w))
          · rcases List.mem_cons.mp w with w | w
            · exact List.mem_append_left _ (by rw [w]; exact List.mem_cons_self)
            · exact List.mem_append_left _ (List.mem_cons_of_mem _ (List.mem_append_right _ w))), S6.hok, S6.len⟩
        refine gone_ok T6 hN hi hln fun s7 J7 => ?_
        exact ⟨_, _, Inv.hold J7 z4 d4 new0 apart (fun x c e => by rw [hcl] at e; cases e), hyes rfl J.len a na⟩
      | brk => obtain ⟨_, _, _, q⟩ := hsp; exact q.elim
      | cont => obtain ⟨_, _, _, q⟩ := hsp; exact q.elim
      | ret u => obtain ⟨_, _, _, _, _, q⟩ := hsp; exact q.elim
  · cases f with
    | next =>
      obtain ⟨σ', H', J', q⟩ := hsp
      exact wpAny_execs_nil ⟨σ', H', J'.ofTry ok, q⟩  -- 40
    | brk =>
      obtain ⟨σ', H', J', q⟩ := hsp
      exact ⟨σ', H', J'.ofTry ok, q⟩  -- 41
    | cont =>
      obtain ⟨σ', H', J', q⟩ := hsp
      exact ⟨σ', H', J'.ofTry ok, q⟩  -- 42
    | ret u =>
      obtain ⟨v, σ', H', J', r, q⟩ := hsp  -- 43
      exact ⟨v, σ', H', J'.ofTry ok, r, q⟩  -- 44
/-- what _law_caught makes of the lambda that it gets -/
def TTc (K : PySem.W.Frag) (CS : Addr) : (XK → Hp → VK → Prop) → Hp → VK → Prop := fun tl H Q =>
  tl (fun cls dd H' => ∃ b, PySem.W.exmOne K cls (.ref CS) = some b ∧ (b = true → ∀ a, H' a = none → Q (.ref a) (upd H' a (XO cls dd a))) ∧ (b = false → False)) H fun _ H' => Q .non H'
theorem caught_gives {Ng : List Str} {x a n y e q : Str} {sg : Scope} {g CS : Addr} {cdg : Value} {i k j : Nat} {p1 p2 p3 np yp vp sp pos' pos yp1 cp sp1 rp rps : Pos} (hnd : Ng.Nodup) (hi : Ng[i]? = some n) (hk : Ng[k]? = some y) (hne : k ≠ i) (h0k : 0 ≠ k) (hil : i < Ng.length) (hkl : k < Ng.length)
    (hln : sg.names.lookup n = some .local) (hly : sg.names.lookup y = some .local) (hcl : ∀ m, cellsFrom m sg.names [] = []) (hge : sg.names.lookup e = some .globalImplicit) (hme : X.mg e = some (.ref CS)) (hde : (e == ("__debug__" : Str)) = false)
    (hdn : (n == ("__debug__" : Str)) = false) (hcn : (n == ("__classdict__" : Str)) = false) (hdy : (y == ("__debug__" : Str)) = false) (hcy : (y == ("__classdict__" : Str)) = false) (h0 : ∀ f : Addr, (L2.start Ng [V.ref f])[0]? = some (some (V.ref f))) (hsl : ∀ f : Addr, (L2.start Ng [V.ref f]).length = Ng.length) :
    LamX.GivesTo X Ng x sg g cdg [.Assign [.Name y yp1] (.Constant .none j cp) sp1, .Try [.Expr (.Call (.Name a p1) [] [] p2) p3] [.ExceptHandler (some (.Name e np)) (some n) [.Assign [.Name y yp] (.Name n vp) sp] pos'] [] [] pos, .Return (some (.Name y rp)) rps] a q (TTc X.K CS) := by
  intro f c' s H Q tl act hc h
  let Y := (cxOf C8.CX0 X.prog X.w X.K X.mg X.base Ng x sg g cdg X.A X.stack s H C8.E0).nox
  have hgl : Gl Y e := hge
  have st1 : PS Y (.Assign [.Name y yp1] (.Constant .none j cp) sp1) (tAsg (tC .non) (gName k)) := ps_set (X := Y) hnd hk (.inl hly) pe_non (by rfl) (.inl rfl)
  have st2 := ps_try_keep (X := Y) (x := e) (n := n) (y := y) (c := .ref CS) (i := i) (k := k) (body := [.Expr (.Call (.Name a p1) [] [] p2) p3]) (np := np) (yp := yp) (vp := vp) (sp := sp) (pos := pos) (pos' := pos')
    (tb := fun W D σ H => ∃ Ech : XK, (∀ cls d σ' H', Ech cls d H' → W cls d σ' H') ∧ σ[0]? = some (some (.ref f)) ∧ H c' = some (LamX.CodeO c' q) ∧ tl Ech H fun _ H' => D.nx σ H')
    rfl rfl rfl hnd hi hln hk hly hil hne (hcl _) ⟨hgl, hde, .inl hme⟩ hdn hcn (fun W pn xe tk _ => by
      refine ⟨fun pins s' σ H' D I h' => ?_⟩
      obtain ⟨Ech, hW, q1, q2, q3⟩ := h'
      have hp := act W pn xe Ech p1 p2 tk hW  -- 45
      exact (pss_one (ps_expr (pos := p3) hp)).run pins s' σ H' D I ⟨q1, q2, q3⟩)
  have st3 : PS Y (.Return (some (.Name y rp)) rps) (tRet (tVar k)) := ps_ret (pe_var hk (.inl hly) hdy hcy)
  refine ⟨_, pss_cons st1 (pss_cons st2 (pss_one st3)), ?_⟩
  have gk : ∀ {σ : L2.St} {v : V}, σ.length = Ng.length → (σ.set k (some v))[k]? = some (some v) := fun {σ v} hl => List.getElem?_set_self (by rw [hl]; exact hkl)
  refine ⟨fun cls dd H' => ∃ b, PySem.W.exmOne X.K cls (.ref CS) = some b ∧ (b = true → ∀ a, H' a = none → Q (.ref a) (upd H' a (XO cls dd a))) ∧ (b = false → False), fun cls d σ' H' ⟨b, e1, e2, e3⟩ => ⟨b, e1, fun hb hl a na => ?_, e3⟩, ?_, hc, ?_⟩
  · refine ⟨.ref a, ?_, e2 hb a na⟩
    rw [List.getElem?_set_ne (fun z => hne z.symm)]
    exact gk (by rw [List.length_set]; exact hl)
  · rw [List.getElem?_set_ne (fun z => h0k z.symm)]
    exact h0 f
  · have e : (fun (_ : V) (H' : Hp) => tRet (tVar k) { nx := fun _ H' => Q .non H', rt := Q } ((L2.start Ng [V.ref f]).set k (some V.non)) H') = fun _ H' => Q .non H' := by
      funext v H'
      apply propext
      have g := gk (σ := L2.start Ng [V.ref f]) (v := V.non) (hsl f)
      exact ⟨fun ⟨w, q1, q2⟩ => by rw [g] at q1; cases q1; exact q2, fun q2 => ⟨_, g, q2⟩⟩
    show tl _ H (fun (_ : V) (H' : Hp) => tRet (tVar k) { nx := fun _ H' => Q .non H', rt := Q } ((L2.start Ng [V.ref f]).set k (some V.non)) H')
    rw [e]
    exact h
end


/-! ### _law_caught(lambda: e) -/
def excD (xn : Nat → Option Str) (x : Er) : D := match xn x.c with
  | none => .exc x.c []
  | some f => .exc x.c [(f, x.v)]
def caughtM (xn : Nat → Option Str) (cb : Nat → Option Bool) (m : MX) : MX := fun L M => match m L M with
  | .ok _ L1 M1 => .ok .non L1 M1
  | .err x L1 M1 => if cb x.c = some true then .ok (excD xn x) L1 M1 else .stk
  | .stk => .stk
section
variable {G : Gb} {ρ : List Addr} {H H1 : Hp} {L : LL} {σ : L2.St} {M : MM}
theorem Rl.extN (r : Rl G ρ H L σ M) (e : LamX.ExtN H H1) (t : LamX.Tabs G.T H1) : Rl G ρ H1 L σ M ∧ Stp ρ H (ownA L σ) ρ H1 (ownA L σ) := by
  have ex : Ext H H1 := fun b o h st => e b o h fun ps z => by rw [z] at st; cases st
  refine ⟨r.keep ex (fun a ha u h => e a u h fun ps z => ?_) t, ⟨List.prefix_refl _, ex, fun b o h _ _ nt => e b o h nt, fun _ h => .inl h, fun b n o h => ?_, fun _ h => .inl h⟩⟩
  · rcases List.mem_append.mp ha with w | w
    · obtain ⟨o, q, mu⟩ := RL.own_some r.sl a w
      rw [h] at q; cases q; rw [z] at mu; exact mu
    · obtain ⟨o, q, mu⟩ := r.ob_some a w
      rw [h] at q; cases q; rw [z] at mu; exact mu
  · by_cases z : ∃ ps, o = .tbl ps
    · exact z
    · exact n o (e b o h fun ps q => z ⟨ps, q⟩)
theorem excD_rel {xn : Nat → Option Str} {x : Er} {cls : Value} {dd : Option Addr} (h : REr G ρ H xn x cls dd) {a : Addr} (ha : H a = none) : R G ρ (upd H a (XO cls dd a)) (excD xn x) (.ref a) := by
  obtain ⟨rfl, h⟩ := h
  have g := upd_grow (o := XO (.ref (G.ca x.c)) dd a) ha
  unfold excD
  split at h
  · rename_i q
    try rw [q]
    obtain ⟨_, rfl⟩ := h
    exact .exc0 upd_same
  · rename_i f q
    try rw [q]
    obtain ⟨d, z, rfl, k, r⟩ := h
    exact .exc1 upd_same (g _ _ k) (r.mono (List.prefix_refl _) (Ext.of g))
end
section
variable {X : Cx} {U : Wd} {N : List Str} {sc : Scope} {W : WX} {n : Nat}
theorem Ct.lam (c : Ct U N sc W n X) {scope : Scope} {k : Nat} {A : Around} {outer : List Env} {s : Shared} {H : Hp} {E : XK} {f c' : Addr} (hr : Room k (A.deeper (LamX.lamEnv X scope s.heap.objs.size f c'))) :
    Ct U N scope (fun cls d _ H => E cls d H) k (LamX.lamCx X A outer s H E scope f c') :=
  ⟨c.P, c.w, c.mg, c.base, c.K, c.N, rfl, takes_of rfl rfl rfl rfl, passes_of rfl, rfl, hr, c.nd⟩
theorem ex_caught {x a : Str} {g cc P CS : Addr} {k : Nat} {pg : Arguments} {bg : List Stmt} {sg : Scope} {dV kV doc pm cdv ct oc : Value} {an od : Option Addr} {osl : Array (Option Value)} {Ng : List Str} {params : Arguments} {body : Expr} {scope : Scope} {p lpos pos : Pos} {m : MX} {cb : Nat → Option Bool}
    (c : Ct U N sc W n X) (hk : k + 2 ≤ n) (hg : sc.names.lookup x = some .globalImplicit) (hm : U.mg x = some (.ref g)) (hkp : PySem.W.keepIn U.G.K (.ref g) = true) (lk : U.G.K.lookup g = some ⟨oc, od, .func (PySem.W.fnOf x x pg bg sg dV kV doc pm an cdv ct), osl⟩) (hcg : PySem.W.codeIn U.G.K cdv x = true)
    (hb : L2.Binds U.G.K (PySem.W.fnOf x x pg bg sg dV kV doc pm an cdv ct) [a] []) (Sg : FnScope Ng [a] sg) (hNg : Ng[0]? = some a) (hva : Vis sg a)
    (hG : ∀ X : Cx, X.mg = U.mg → ∀ q, LamX.GivesTo X Ng x sg g cdv bg a q (TTc X.K CS))
    (TB : LamX.TabB X.base X.mg cc P) (hcode : X.env.code = .ref cc) (hmT : (P, X.env.qual ++ "<lambda>") ∈ U.G.T) (hu : ∀ q ∈ U.G.T, q.1 = P → q.2 = X.env.qual ++ "<lambda>") (hL : LamX.LamS sc scope) (hdef : defaultsOf params X.env = ([], []))
    (hbind : ∀ (q : Str) (cl : List (Str × Addr)) (pm cv ctv : Value), bindArgs (PySem.W.kla_fn "<lambda>" q params body scope cl pm cv ctv) ⟨[], []⟩ = pure [])  -- 46
    (hcb : ∀ i b, cb i = some b → PySem.W.exmOne U.G.K (.ref (U.G.ca i)) (.ref CS) = some b)
    (hbody : ∀ (Y : Cx) (W : WX), Ct U N scope W k Y → SI W → EX Y U.G U.xn W body m)
    (hdb : (x == ("__debug__" : Str)) = false) (hd : (a == ("__debug__" : Str)) = false) (hcd : (a == ("__classdict__" : Str)) = false) :
    EX X U.G U.xn W (.Call (.Name x p) [.Lambda params body scope lpos] [] pos) (caughtM U.xn cb m) := by
  refine PE.imp (LamX.pe_lamcall (T := U.G.T) (t := fun E => tX U.G U.xn (fun cls d _ H => E cls d H) m) (k := k) (c.gl hg) (c.mg' hm) (by rw [c.K]; exact hkp) (by rw [c.K]; exact lk) (by rw [c.K]; exact hcg) (by rw [c.K]; exact hb) Sg hNg hva (hG X c.mg _) TB hcode hmT hu (c.room.mono hk)
    (by rw [c.sc]; exact hL) hdef hbind (fun A outer s H E f c' hr => hbody _ _ (c.lam hr) fun _ _ _ _ _ h => h) hdb hd hcd) fun σ H Q ⟨ρ, L, M, rl, h⟩ => ⟨rl.tb, fun H1 eN T1 => ?_⟩
  obtain ⟨r1, s1⟩ := rl.extN eN T1
  refine ⟨ρ, L, M, r1, ?_⟩
  unfold caughtM at h
  revert h
  cases m L M with
  | stk => exact fun h => h
  | ok d L1 M1 => exact fun h ρ' H' v s' a' rv => h ρ' H' .non (s1.trans s') a' .non
  | err x L1 M1 =>
    dsimp only
    intro h ρ' H' cls dd s' a' re
    split at h
    · rename_i q
      have e := hcb _ _ q
      refine ⟨true, by rw [c.K, re.1]; exact e, fun _ a ha => ?_, fun z => nomatch z⟩
      have gr := upd_grow (o := XO cls dd a) ha
      exact h ρ' _ (.ref a) ((s1.trans s').trans (Stp.grow gr)) (a'.grow gr) (excD_rel re ha)
    · exact h.elim
end

/-! ### raise X('..'), an own class of exceptions without an __init__ -/
abbrev veTail : List Value := [.type "ValueError", .type "Exception", .type "BaseException", .type "object"]  -- 47
structure ExcF (U : Wd) (c : Nat) (x : Str) : Prop where
  mg : U.mg x = some (.ref (U.G.ca c))
  kp : PySem.W.keepIn U.G.K (.ref (U.G.ca c)) = true
  ok : PySem.W.excIn U.G.K (U.G.ca c) veTail "ValueError.__new__" = true
  sb : PySem.W.subIn U.G.K (.ref (U.G.ca c)) (.type "BaseException") = some true
  ty : PySem.W.typeIn U.G.K (.ref (U.G.ca c)) = some (.type "type")
  no : U.xn c = none
def raiseM (c : Nat) : MS := fun L M => .err ⟨c, .non⟩ L M
section
variable {X : Cx} {U : Wd} {N : List Str} {sc : Scope} {W : WX} {n : Nat}
theorem es_raise (ct : Ct U N sc W n X) {c j : Nat} {x m : Str} {p p2 p3 pos : Pos} (F : ExcF U c x) (hg : sc.names.lookup x = some .globalImplicit) (hdb : (x == ("__debug__" : Str)) = false := by decide +kernel) :
    ES X U.G U.xn W (.Raise (some (.Call (.Name x p) [.Constant (.str m) j p2] [] p3)) none pos) (raiseM c) := by
  refine PS.imp (ps_raise ct.calm ct.tk (pmk_own PySem.F.excBase_ValueError (by rw [ct.K]; exact F.ok) (ct.mg' F.mg) (by rw [ct.K]; exact F.kp) (raises_own (by rw [ct.K]; exact F.sb) (by rw [ct.K]; exact F.ty)) (ct.gl hg) hdb)) fun Z σ H ⟨ρ, L, M, rl, h⟩ => ?_
  exact h ρ H σ _ none Stp.refl rl ⟨rfl, by rw [F.no]; exact ⟨rfl, rfl⟩⟩
/-- what is never reached -/
theorem es_stk {st : Stmt} : ES X U.G U.xn W st (fun _ _ => .stk) := ⟨fun pins s σ H Q I ⟨ρ, L, M, rl, h⟩ => h.elim⟩
theorem ex_stk {e : Expr} : EX X U.G U.xn W e (fun _ _ => .stk) := ⟨fun pins s σ H Q I ⟨ρ, L, M, rl, h⟩ => h.elim⟩
end
end KK

/-! ## zip of three tuples -/
namespace KK
open PySem PySem.Spec PyProof.Rows L2
open PySem.Sem (wp)

/-- three held in a tuple -/
abbrev Is3 (h : Heap) (T : Addr) (a b c : Value) : Prop := h.get? T = some { cls := .type "tuple", data := .seq #[a, b, c] }
/-- six own addresses, three walked over, all apart -/
structure Ap3 (z A B j1 j2 j3 t1 t2 t3 : Addr) : Prop where
  Az : A ≠ z
  Bz : B ≠ z
  p1z : j1 ≠ z
  p2z : j2 ≠ z
  p3z : j3 ≠ z
  AB : A ≠ B
  A1 : A ≠ j1
  A2 : A ≠ j2
  A3 : A ≠ j3
  B1 : B ≠ j1
  B2 : B ≠ j2
  B3 : B ≠ j3
  p12 : j1 ≠ j2
  p13 : j1 ≠ j3
  p23 : j2 ≠ j3
  s1 : ∀ c ∈ [z, B, j1, j2, j3], t1 ≠ c
  s2 : ∀ c ∈ [z, B, j1, j2, j3], t2 ≠ c
  s3 : ∀ c ∈ [z, B, j1, j2, j3], t3 ≠ c
section
variable {prog : Program} {w : World} {A₀ : Around} {E : Value → Shared → Prop} {s : Shared}
theorem upd3 {T : Addr} {a b c x : Value} {k : Nat} {Q : Unit → Shared → Prop} (hT : Is3 s.heap T a b c)
    (h : ∀ h', h'.get? T = some { cls := .type "tuple", data := .seq ((#[a, b, c] : Array Value).setIfInBounds k x) } → Heap.SameBut T s.heap h' → Q () { s with heap := h' }) :
    wpAny (model prog w) A₀ (updateSeq T (·.setIfInBounds k x)) Q E s := by
  refine wpAny_updateSeq hT rfl (h _ ?_ (Heap.SameBut.update ..))  -- 48
  rw [Heap.get?_update_self _ hT rfl]  -- 49
  simp [Obj.mapSeq]
variable {z A B j1 j2 j3 t1 t2 t3 : Addr} {k : Nat} {xs ys zs : Array Value} {a b c : Value}
theorem zip3_item {x y v : Value} {Q : Value → Shared → Prop} (D : Ap3 z A B j1 j2 j3 t1 t2 t3)
    (hz : IsZip s.heap z A B .none) (hA : Is3 s.heap A (.ref j1) (.ref j2) (.ref j3)) (hB : Is3 s.heap B a b c)
    (h1 : s.heap.IsTupleIter j1 t1 k) (h2 : s.heap.IsTupleIter j2 t2 k) (h3 : s.heap.IsTupleIter j3 t3 k) (g1 : s.heap.IsTuple t1 xs) (g2 : s.heap.IsTuple t2 ys) (g3 : s.heap.IsTuple t3 zs)
    (hx : xs[k]? = some x) (hy : ys[k]? = some y) (hv : zs[k]? = some v)
    (hQ : ∀ h', IsZip h' z A B (rawInt s.heap.objs.size) → Is3 h' B x y v → h'.IsTupleIter j1 t1 (k + 1) → h'.IsTupleIter j2 t2 (k + 1) → h'.IsTupleIter j3 t3 (k + 1) → Is3 h' s.heap.objs.size x y v → h'.objs.size = s.heap.objs.size + 1 →
      (∀ d o, d ∉ [z, B, j1, j2, j3] → s.heap.get? d = some o → h'.get? d = some o) → Q (.ref s.heap.objs.size) { s with heap := h' }) :
    wpAny (model prog w) A₀ (Builtin.«zip.__next__» ⟨[.ref z], []⟩) (fun fin s' => ∃ v, fin = .done (.ret v) ∧ Q v s') E s := by
  have in1 : ∀ d, d ∈ [z, B, j1, j2, j3] ↔ d = z ∨ d = B ∨ d = j1 ∨ d = j2 ∨ d = j3 := fun d => by simp
  show wpAny _ _ (field (.ref z) 2 >>= _) _ _ _  -- 50
  refine wpAny_bind (wpAny_field hz rfl (x := .bool false) rfl ?_)  -- 51
  show wpAny _ _ (field (.ref z) 3 >>= _) _ _ _  -- 52
  refine wpAny_bind (wpAny_field hz rfl (x := .ref A) rfl (wpAny_bind (wpAny_seqItems hA rfl ?_)))
  show wpAny _ _ (Builtin.SmallTypes.ownedTupleIsFree (.ref z) >>= _) _ _ _  -- 53
  refine wpAny_bind ?_
  unfold Builtin.SmallTypes.ownedTupleIsFree  -- 54
  refine wpAny_bind (wpAny_field hz rfl (x := .none) rfl (wpAny_pure ?_))  -- 55
  simp only [if_true]
  refine wpAny_bind (wpAny_rule (wpAny_bind (wpAny_field hz rfl (x := .ref B) rfl (wpAny_bind (wpAny_setField_rec hz (by simp) fun u₁ z₁ e₁ => ?_)))))
  replace z₁ : IsZip u₁ z A B .ellipsis := z₁
  refine wpAny_bind ?_
  simp only [List.zipIdx_cons, List.zipIdx_nil, List.forIn_cons, List.forIn_nil]  -- 56
  have x₁ := e₁.extBut
  -- the first
  refine wpAny_bind (wpAny_bind (wpAny_onRaise ?_))  -- 57
  show wpAny _ _ (Builtin.SmallTypes.nextOf (.ref j1) >>= _) _ _ _
  refine wpAny_bind (RZ.nextOf_tuple_item (h1.extBut x₁ D.p1z) (g1.extBut x₁ (D.s1 z (by simp))) hx fun u₂ k₂ e₂ => wpAny_pure ?_)
  have x₂ := e₂.extBut
  have B₂ : Is3 u₂ B a b c := x₂ _ _ D.B1 (x₁ _ _ D.Bz hB)
  refine wpAny_bind (wpAny_seqItems B₂ rfl (wpAny_bind (upd3 B₂ fun u₃ B₃ e₃ => wpAny_bind (wpAny_letGo (wpAny_pure ?_)))))
  replace B₃ : Is3 u₃ B x b c := B₃
  have x₃ := e₃.extBut
  -- the second
  refine wpAny_bind (wpAny_bind (wpAny_onRaise ?_))  -- 58
  show wpAny _ _ (Builtin.SmallTypes.nextOf (.ref j2) >>= _) _ _ _
  refine wpAny_bind (RZ.nextOf_tuple_item (((h2.extBut x₁ D.p2z).extBut x₂ D.p12.symm).extBut x₃ D.B2.symm) (((g2.extBut x₁ (D.s2 z (by simp))).extBut x₂ (D.s2 j1 (by simp))).extBut x₃ (D.s2 B (by simp))) hy fun u₄ k₄ e₄ => wpAny_pure ?_)
  have x₄ := e₄.extBut
  have B₄ : Is3 u₄ B x b c := x₄ _ _ D.B2 B₃
  refine wpAny_bind (wpAny_seqItems B₄ rfl (wpAny_bind (upd3 B₄ fun u₅ B₅ e₅ => wpAny_bind (wpAny_letGo (wpAny_pure ?_)))))
  replace B₅ : Is3 u₅ B x y c := B₅
  have x₅ := e₅.extBut
  -- the third
  refine wpAny_bind (wpAny_bind (wpAny_onRaise ?_))  -- 59
  show wpAny _ _ (Builtin.SmallTypes.nextOf (.ref j3) >>= _) _ _ _
  refine wpAny_bind (RZ.nextOf_tuple_item (((((h3.extBut x₁ D.p3z).extBut x₂ D.p13.symm).extBut x₃ D.B3.symm).extBut x₄ D.p23.symm).extBut x₅ D.B3.symm)
    (((((g3.extBut x₁ (D.s3 z (by simp))).extBut x₂ (D.s3 j1 (by simp))).extBut x₃ (D.s3 B (by simp))).extBut x₄ (D.s3 j2 (by simp))).extBut x₅ (D.s3 B (by simp))) hv fun u₆ k₆ e₆ => wpAny_pure ?_)
  have x₆ := e₆.extBut
  have B₆ : Is3 u₆ B x y c := x₆ _ _ D.B3 B₅
  refine wpAny_bind (wpAny_seqItems B₆ rfl (wpAny_bind (upd3 B₆ fun u₇ B₇ e₇ => wpAny_bind (wpAny_letGo (wpAny_pure (wpAny_pure ?_))))))
  replace B₇ : Is3 u₇ B x y v := B₇
  have x₇ := e₇.extBut
  refine wpAny_bind (wpAny_seqItems B₇ rfl (wpAny_bind (wpAny_newTuple ?_)))
  have size : u₇.objs.size = s.heap.objs.size := by rw [e₇.1, e₆.1, e₅.1, e₄.1, e₃.1, e₂.1, e₁.1]
  have all : ∀ d o, d ∉ [z, B, j1, j2, j3] → s.heap.get? d = some o → u₇.get? d = some o := fun d o n e => by
    have m := fun q => n ((in1 d).mpr q)
    exact x₇ _ _ (fun q => m (.inr (.inl q))) (x₆ _ _ (fun q => m (.inr (.inr (.inr (.inr q))))) (x₅ _ _ (fun q => m (.inr (.inl q))) (x₄ _ _ (fun q => m (.inr (.inr (.inr (.inl q))))) (x₃ _ _ (fun q => m (.inr (.inl q))) (x₂ _ _ (fun q => m (.inr (.inr (.inl q)))) (x₁ _ _ (fun q => m (.inl q)) e))))))
  have z₇ : IsZip u₇ z A B .ellipsis := x₇ _ _ D.Bz.symm (x₆ _ _ D.p3z.symm (x₅ _ _ D.Bz.symm (x₄ _ _ D.p2z.symm (x₃ _ _ D.Bz.symm (x₂ _ _ D.p1z.symm z₁)))))
  have i1 : u₇.IsTupleIter j1 t1 (k + 1) := ((((k₂.extBut x₃ D.B1.symm).extBut x₄ D.p12).extBut x₅ D.B1.symm).extBut x₆ D.p13).extBut x₇ D.B1.symm
  have i2 : u₇.IsTupleIter j2 t2 (k + 1) := ((k₄.extBut x₅ D.B2.symm).extBut x₆ D.p23).extBut x₇ D.B2.symm
  have i3 : u₇.IsTupleIter j3 t3 (k + 1) := k₆.extBut x₇ D.B3.symm
  have zlt : z < u₇.objs.size := Heap.lt_size z₇
  show wpAny _ _ (Builtin.SmallTypes.ownedTupleHandOut (.ref z) (.ref u₇.objs.size) >>= _) _ _ _
  refine wpAny_bind ?_
  unfold Builtin.SmallTypes.ownedTupleHandOut  -- 60
  have z₈ : IsZip (u₇.push { cls := .type "tuple", data := .seq #[x, y, v] }) z A B .ellipsis := Heap.get?_push_of_some _ z₇
  refine wpAny_bind (wpAny_setField_rec z₈ (by simp) fun u₉ z₉ e₉ => ?_)
  replace z₉ : IsZip u₉ z A B (rawInt u₇.objs.size) := z₉
  refine wpAny_setField_rec z₉ (by simp) fun u' z' e' => ?_
  replace z' : IsZip u' z A B (rawInt u₇.objs.size) := z'
  have up : ∀ d o, d ≠ z → u₇.get? d = some o → u'.get? d = some o := fun d o n e => e'.extBut _ _ n (e₉.extBut _ _ n (Heap.get?_push_of_some _ e))
  have T' : Is3 u' u₇.objs.size x y v := e'.extBut _ _ (Nat.ne_of_gt zlt) (e₉.extBut _ _ (Nat.ne_of_gt zlt) (Heap.get?_push_size _ rfl))
  have n' : u'.objs.size = u₇.objs.size + 1 := by rw [e'.1, e₉.1, Heap.size_push]
  rw [size] at z' T' n'
  refine wpAny_pure ⟨_, rfl, ?_⟩  -- 61
  show Q (.ref u₇.objs.size) _
  rw [size]
  exact hQ u' z' (up _ _ D.Bz B₇) (i1.at fun o e => up _ o D.p1z e) (i2.at fun o e => up _ o D.p2z e) (i3.at fun o e => up _ o D.p3z e) T' n' fun d o n e => up d o (fun q => n (by simp [q])) (all d o n e)
theorem zip3_end {Q : Fin → Shared → Prop} (hh : A₀.handled = none) (D : Ap3 z A B j1 j2 j3 t1 t2 t3)
    (hz : IsZip s.heap z A B .none) (hA : Is3 s.heap A (.ref j1) (.ref j2) (.ref j3)) (hB : Is3 s.heap B a b c)
    (h1 : s.heap.IsTupleIter j1 t1 k) (h2 : s.heap.IsTupleIter j2 t2 k) (h3 : s.heap.IsTupleIter j3 t3 k) (g1 : s.heap.IsTuple t1 xs) (g2 : s.heap.IsTuple t2 ys) (g3 : s.heap.IsTuple t3 zs)
    (hend : xs[k]? = none ∨ ys[k]? = none ∨ zs[k]? = none)
    (hE : ∀ h' e, (∀ d o, d ∉ [z, B, j1, j2, j3] → s.heap.get? d = some o → h'.get? d = some o) → (∃ o, h'.get? e = some o ∧ o.cls = .type "StopIteration") → E (.ref e) { s with heap := h' }) :
    wpAny (model prog w) A₀ (Builtin.«zip.__next__» ⟨[.ref z], []⟩) Q E s := by
  have in1 : ∀ d, d ∈ [z, B, j1, j2, j3] ↔ d = z ∨ d = B ∨ d = j1 ∨ d = j2 ∨ d = j3 := fun d => by simp
  show wpAny _ _ (field (.ref z) 2 >>= _) _ _ _  -- 62
  refine wpAny_bind (wpAny_field hz rfl (x := .bool false) rfl ?_)  -- 63
  show wpAny _ _ (field (.ref z) 3 >>= _) _ _ _  -- 64
  refine wpAny_bind (wpAny_field hz rfl (x := .ref A) rfl (wpAny_bind (wpAny_seqItems hA rfl ?_)))
  show wpAny _ _ (Builtin.SmallTypes.ownedTupleIsFree (.ref z) >>= _) _ _ _  -- 65
  refine wpAny_bind ?_
  unfold Builtin.SmallTypes.ownedTupleIsFree  -- 66
  refine wpAny_bind (wpAny_field hz rfl (x := .none) rfl (wpAny_pure ?_))  -- 67
  simp only [if_true]
  refine wpAny_bind (wpAny_rule (wpAny_bind (wpAny_field hz rfl (x := .ref B) rfl (wpAny_bind (wpAny_setField_rec hz (by simp) fun u₁ z₁ e₁ => ?_)))))
  replace z₁ : IsZip u₁ z A B .ellipsis := z₁
  refine wpAny_bind ?_
  simp only [List.zipIdx_cons, List.zipIdx_nil, List.forIn_cons, List.forIn_nil]  -- 68
  have x₁ := e₁.extBut
  have fin : ∀ {u : Heap} {e : Addr}, IsZip u z A B .ellipsis → (∃ o, u.get? e = some o ∧ o.cls = .type "StopIteration") → e ≠ z := fun {u e} zz ⟨o, ho, hc⟩ q => by
    subst q; rw [zz] at ho; cases ho; simp at hc
  refine wpAny_bind (wpAny_bind (wpAny_onRaise ?_))  -- 69
  show wpAny _ _ (Builtin.SmallTypes.nextOf (.ref j1) >>= _) _ _ _
  cases hx : xs[k]? with
  | none =>
    refine wpAny_bind (RZ.nextOf_tuple_end hh (h1.extBut x₁ D.p1z) (g1.extBut x₁ (D.s1 z (by simp))) hx fun u₂ e x₂ he => ?_)
    have z₂ : IsZip u₂ z A B .ellipsis := x₂ _ _ D.p1z.symm z₁
    have ne := fin z₂ he
    obtain ⟨o, ho, hc⟩ := he
    refine wpAny_setField_rec z₂ (by simp) fun u₃ _ e₃ => hE u₃ e (fun d o n q => ?_) ⟨o, e₃.extBut _ _ ne ho, hc⟩
    have m := fun q => n ((in1 d).mpr q)
    exact e₃.extBut _ _ (fun q => m (.inl q)) (x₂ _ _ (fun q => m (.inr (.inr (.inl q)))) (x₁ _ _ (fun q => m (.inl q)) q))
  | some x =>
    refine wpAny_bind (RZ.nextOf_tuple_item (h1.extBut x₁ D.p1z) (g1.extBut x₁ (D.s1 z (by simp))) hx fun u₂ k₂ e₂ => wpAny_pure ?_)
    have x₂ := e₂.extBut
    have B₂ : Is3 u₂ B a b c := x₂ _ _ D.B1 (x₁ _ _ D.Bz hB)
    refine wpAny_bind (wpAny_seqItems B₂ rfl (wpAny_bind (upd3 B₂ fun u₃ B₃ e₃ => wpAny_bind (wpAny_letGo (wpAny_pure ?_)))))
    replace B₃ : Is3 u₃ B x b c := B₃
    have x₃ := e₃.extBut
    have z₃ : IsZip u₃ z A B .ellipsis := x₃ _ _ D.Bz.symm (x₂ _ _ D.p1z.symm z₁)
    refine wpAny_bind (wpAny_bind (wpAny_onRaise ?_))  -- 70
    show wpAny _ _ (Builtin.SmallTypes.nextOf (.ref j2) >>= _) _ _ _
    cases hy : ys[k]? with
    | none =>
      refine wpAny_bind (RZ.nextOf_tuple_end hh (((h2.extBut x₁ D.p2z).extBut x₂ D.p12.symm).extBut x₃ D.B2.symm) (((g2.extBut x₁ (D.s2 z (by simp))).extBut x₂ (D.s2 j1 (by simp))).extBut x₃ (D.s2 B (by simp))) hy fun u₄ e x₄ he => ?_)
      have z₄ : IsZip u₄ z A B .ellipsis := x₄ _ _ D.p2z.symm z₃
      have ne := fin z₄ he
      obtain ⟨o, ho, hc⟩ := he
      refine wpAny_setField_rec z₄ (by simp) fun u₅ _ e₅ => hE u₅ e (fun d o n q => ?_) ⟨o, e₅.extBut _ _ ne ho, hc⟩
      have m := fun q => n ((in1 d).mpr q)
      exact e₅.extBut _ _ (fun q => m (.inl q)) (x₄ _ _ (fun q => m (.inr (.inr (.inr (.inl q))))) (x₃ _ _ (fun q => m (.inr (.inl q))) (x₂ _ _ (fun q => m (.inr (.inr (.inl q)))) (x₁ _ _ (fun q => m (.inl q)) q))))
    | some y =>
      have hv : zs[k]? = none := by
        rcases hend with q | q | q
        · rw [hx] at q; cases q
        · rw [hy] at q; cases q
        · exact q
      refine wpAny_bind (RZ.nextOf_tuple_item (((h2.extBut x₁ D.p2z).extBut x₂ D.p12.symm).extBut x₃ D.B2.symm) (((g2.extBut x₁ (D.s2 z (by simp))).extBut x₂ (D.s2 j1 (by simp))).extBut x₃ (D.s2 B (by simp))) hy fun u₄ k₄ e₄ => wpAny_pure ?_)
      have x₄ := e₄.extBut
      have B₄ : Is3 u₄ B x b c := x₄ _ _ D.B2 B₃
      refine wpAny_bind (wpAny_seqItems B₄ rfl (wpAny_bind (upd3 B₄ fun u₅ B₅ e₅ => wpAny_bind (wpAny_letGo (wpAny_pure ?_)))))
      have x₅ := e₅.extBut
      have z₅ : IsZip u₅ z A B .ellipsis := x₅ _ _ D.Bz.symm (x₄ _ _ D.p2z.symm z₃)
      refine wpAny_bind (wpAny_bind (wpAny_onRaise ?_))  -- 71
      show wpAny _ _ (Builtin.SmallTypes.nextOf (.ref j3) >>= _) _ _ _
      refine wpAny_bind (RZ.nextOf_tuple_end hh (((((h3.extBut x₁ D.p3z).extBut x₂ D.p13.symm).extBut x₃ D.B3.symm).extBut x₄ D.p23.symm).extBut x₅ D.B3.symm)
        (((((g3.extBut x₁ (D.s3 z (by simp))).extBut x₂ (D.s3 j1 (by simp))).extBut x₃ (D.s3 B (by simp))).extBut x₄ (D.s3 j2 (by simp))).extBut x₅ (D.s3 B (by simp))) hv fun u₆ e x₆ he => ?_)
      have z₆ : IsZip u₆ z A B .ellipsis := x₆ _ _ D.p3z.symm z₅
      have ne := fin z₆ he
      obtain ⟨o, ho, hc⟩ := he
      refine wpAny_setField_rec z₆ (by simp) fun u₇ _ e₇ => hE u₇ e (fun d o n q => ?_) ⟨o, e₇.extBut _ _ ne ho, hc⟩
      have m := fun q => n ((in1 d).mpr q)
      exact e₇.extBut _ _ (fun q => m (.inl q)) (x₆ _ _ (fun q => m (.inr (.inr (.inr (.inr q))))) (x₅ _ _ (fun q => m (.inr (.inl q))) (x₄ _ _ (fun q => m (.inr (.inr (.inr (.inl q))))) (x₃ _ _ (fun q => m (.inr (.inl q))) (x₂ _ _ (fun q => m (.inr (.inr (.inl q)))) (x₁ _ _ (fun q => m (.inl q)) q))))))
end

/-! the tuples as they stand, the items in new triples -/
def Itz3 (K : PySem.W.Frag) (t1 t2 t3 : Addr) : It :=
  ⟨fun i H => ∃ (xs ys zs : List V) (x y z : V), SqT K H t1 xs ∧ SqT K H t2 ys ∧ SqT K H t3 zs ∧ xs[i]? = some x ∧ ys[i]? = some y ∧ zs[i]? = some z,
    fun i H v H' => ∃ T x y z, v = .ref T ∧ H T = none ∧ H' = upd H T (.tup [x, y, z]) ∧ (∀ xs, SqT K H t1 xs → xs[i]? = some x) ∧ (∀ ys, SqT K H t2 ys → ys[i]? = some y) ∧ ∀ zs, SqT K H t3 zs → zs[i]? = some z,
    fun i H => ∃ xs ys zs : List V, SqT K H t1 xs ∧ SqT K H t2 ys ∧ SqT K H t3 zs ∧ (xs.length ≤ i ∨ ys.length ≤ i ∨ zs.length ≤ i)⟩
theorem turn_zip3 {P : Program} {w : World} {K : PySem.W.Frag} {elts : List Expr} {kk : Nat} {tpos : Pos} {z A B j1 j2 j3 t1 t2 t3 : Addr} (D : Ap3 z A B j1 j2 j3 t1 t2 t3) :
    Turn P w K (.Tuple elts kk tpos) (Itz3 K t1 t2 t3) [z, A, B, j1, j2, j3] z (fun i h => IsZip h z A B .none ∧ Is3 h A (.ref j1) (.ref j2) (.ref j3) ∧ (∃ x y v, Is3 h B x y v) ∧ h.IsTupleIter j1 t1 i ∧ h.IsTupleIter j2 t2 i ∧ h.IsTupleIter j3 t3 i) where
  mem := by simp
  obj := fun i h ⟨hz, hA, ⟨x, y, v, hB⟩, ⟨o1, e1, _, d1⟩, ⟨o2, e2, _, d2⟩, ⟨o3, e3, _, d3⟩⟩ q hq => by
    have e' : q = z ∨ q = A ∨ q = B ∨ q = j1 ∨ q = j2 ∨ q = j3 := by simpa using hq
    rcases e' with r | r | r | r | r | r <;> rw [r]
    · exact ⟨_, hz, fun v q => nomatch q⟩
    · exact ⟨_, hA, fun v q => nomatch q⟩
    · exact ⟨_, hB, fun v q => nomatch q⟩
    · exact ⟨o1, e1, fun v q => by rw [d1] at q; cases q⟩
    · exact ⟨o2, e2, fun v q => by rw [d2] at q; cases q⟩
    · exact ⟨o3, e3, fun v q => by rw [d3] at q; cases q⟩
  keep := fun i h h' ⟨hz, hA, ⟨x, y, v, hB⟩, h1, h2, h3⟩ kp =>
    ⟨kp z (by simp) _ hz, kp A (by simp) _ hA, ⟨x, y, v, kp B (by simp) _ hB⟩, h1.at fun o q => kp j1 (by simp) o q, h2.at fun o q => kp j2 (by simp) o q, h3.at fun o q => kp j3 (by simp) o q⟩
  item := by
    rintro X rfl rfl rfl hc i pins s σ H E I hf ⟨hz, hA, ⟨x0, y0, v0, hB⟩, h1, h2, h3⟩ ⟨xs, ys, zs, x, y, v, q1, q2, q3, hx, hy, hv⟩
    obtain ⟨us1, r1, p1, _⟩ := I.tuple q1
    obtain ⟨us2, r2, p2, _⟩ := I.tuple q2
    obtain ⟨us3, r3, p3, _⟩ := I.tuple q3
    obtain ⟨w1, m1, n1⟩ := r1.get hx
    obtain ⟨w2, m2, n2⟩ := r2.get hy
    obtain ⟨w3, m3, n3⟩ := r3.get hv
    have zl : z < s.heap.objs.size := Heap.lt_size hz
    have hT : s.TypeIs (.ref z) "zip" := ⟨_, hz, rfl⟩  -- 72
    unfold pyNext
    refine wpAny_bind (wpAny_attempt (wpAny_callSpecial?_slot (name := Str.ofString "__next__") hT F.slot_zip_next (wpAny_call_entry F.slot_zip_next hT F.entry_zip_next
      (zip3_item D hz hA hB h1 h2 h3 p1 p2 p3 (x := w1) (y := w2) (v := w3) (by simpa using m1) (by simpa using m2) (by simpa using m3) fun u zz BB g1 g2 g3 hN hs hk => wpAny_pure ?_) (F.args_zip_next_1 _))))
    refine ⟨_, rfl, wpAny_letOwnedTupleGo_zip (s := { s with heap := u }) zz fun u' zz' sb => ?_⟩
    have hN' : u'.get? s.heap.objs.size = some { cls := .type "tuple", data := .seq #[w1, w2, w3] } := (sb.2 _ (Nat.ne_of_gt zl)).trans hN
    have new : ObjOk X.prog X.w (upd H s.heap.objs.size (.tup [x, y, v])) u' s.heap.objs.size (.tup [x, y, v]) :=
      ⟨by show 3 ≤ sizeLine; decide, [w1, w2, w3], .cons n1 (.cons n2 (.cons n3 .nil)), ⟨_, hN', rfl, _, rfl⟩⟩
    have J : L2.Inv X pins σ (upd H s.heap.objs.size (.tup [x, y, v])) { s with heap := u' } :=
      I.turnedNew (t' := s.toks) (ch := [z, A, B, j1, j2, j3]) (fun d o nb q => (sb.2 d (fun r => nb (by simp [r]))).trans (hk d o (fun r => nb (by
        have r' : d = z ∨ d = B ∨ d = j1 ∨ d = j2 ∨ d = j3 := by simpa using r
        rcases r' with r | r | r | r | r <;> simp [r])) q)) hf (Nat.le_refl _) new
    have A' : Is3 u A (.ref j1) (.ref j2) (.ref j3) := hk _ _ (by simp [D.Az, D.AB, D.A1, D.A2, D.A3]) hA
    refine ⟨.ref s.heap.objs.size, _, J, rfl, ⟨_, x, y, v, rfl, I.hok.fresh (Nat.le_refl _), rfl, fun l hl => by rw [I.tuple_inj hl q1]; exact hx, fun l hl => by rw [I.tuple_inj hl q2]; exact hy, fun l hl => by rw [I.tuple_inj hl q3]; exact hv⟩,
      ⟨zz', (sb.2 _ D.Az).trans A', ⟨w1, w2, w3, (sb.2 _ D.Bz).trans BB⟩, g1.at fun o q => (sb.2 _ D.p1z).trans q, g2.at fun o q => (sb.2 _ D.p2z).trans q, g3.at fun o q => (sb.2 _ D.p3z).trans q⟩, fun d hd => ?_⟩
    have lt : d < s.heap.objs.size := by
      have e' : d = z ∨ d = A ∨ d = B ∨ d = j1 ∨ d = j2 ∨ d = j3 := by simpa using hd
      rcases e' with r | r | r | r | r | r <;> rw [r]
      · exact zl
      · exact Heap.lt_size hA
      · exact Heap.lt_size hB
      · obtain ⟨_, e1, _⟩ := h1; exact Heap.lt_size e1
      · obtain ⟨_, e1, _⟩ := h2; exact Heap.lt_size e1
      · obtain ⟨_, e1, _⟩ := h3; exact Heap.lt_size e1
    rw [upd_ne (Nat.ne_of_lt lt)]
    exact (hf d hd).1
  done := by
    rintro X rfl rfl rfl hc i pins s σ H E I hf ⟨hz, hA, ⟨x0, y0, v0, hB⟩, h1, h2, h3⟩ ⟨xs, ys, zs, q1, q2, q3, he⟩
    obtain ⟨us1, r1, p1, _⟩ := I.tuple q1
    obtain ⟨us2, r2, p2, _⟩ := I.tuple q2
    obtain ⟨us3, r3, p3, _⟩ := I.tuple q3
    have l1 := r1.length
    have l2 := r2.length
    have l3 := r3.length
    have he' : us1.toArray[i]? = none ∨ us2.toArray[i]? = none ∨ us3.toArray[i]? = none := by
      rcases he with q | q | q
      · exact .inl (by simp; omega)
      · exact .inr (.inl (by simp; omega))
      · exact .inr (.inr (by simp; omega))
    have hT : s.TypeIs (.ref z) "zip" := ⟨_, hz, rfl⟩  -- 73
    unfold pyNext
    refine wpAny_bind (wpAny_attempt (wpAny_callSpecial?_slot (name := Str.ofString "__next__") hT F.slot_zip_next (wpAny_call_entry F.slot_zip_next hT F.entry_zip_next
      (zip3_end (I.ok.hd hc) D hz hA hB h1 h2 h3 p1 p2 p3 he' fun u e hk ⟨o, ho, ho2⟩ => ?_) (F.args_zip_next_1 _))))
    refine wpAny_bind (wpAny_isInstance (T := "StopIteration") (b := true) ⟨o, ho, ho2⟩ isSubtype_stop (wpAny_pure ⟨rfl, ?_⟩))
    exact I.turnedL (t' := s.toks) (ch := [z, A, B, j1, j2, j3]) (fun d o nb q => hk d o (fun r => nb (by
        have r' : d = z ∨ d = B ∨ d = j1 ∨ d = j2 ∨ d = j3 := by simpa using r
        rcases r' with r | r | r | r | r <;> simp [r])) q) hf
  self := fun A i s Q E st h => wpAny_pyIter_zip st.1 h  -- 74

theorem typeCall_zip3 (a b c : Value) : checkTypeCall "zip" ⟨[a, b, c], []⟩ = pure () := by kernel_rfl
theorem newCall_zip3 (a b c : Value) : checkBuiltinCall "zip.__new__" ⟨[.type "zip", a, b, c], []⟩ = pure () := by kernel_rfl
theorem init_args4 (a b c d : Value) : argsOk "object.__init__" ⟨[a, b, c, d], []⟩ := by
  unfold argsOk; rw [signature?_of (id := "object.__init__") (n := ['_', '_', 't', 'i', 'n', 'i', '_', '_']) (o := ['t', 'c', 'e', 'j', 'b', 'o']) (by kernel_rfl) F.owner_object]; kernel_rfl
abbrev itO (t : Addr) : Obj := { cls := .type "tuple_iterator", data := .fields #[.ref t, .int 0 0] }
abbrev g1 (h : Heap) (t1 : Addr) : Heap := h.push (itO t1)
abbrev g2 (h : Heap) (t1 t2 : Addr) : Heap := (g1 h t1).push (itO t2)
abbrev g3 (h : Heap) (t1 t2 t3 : Addr) : Heap := (g2 h t1 t2).push (itO t3)
abbrev g4 (h : Heap) (t1 t2 t3 : Addr) : Heap := (g3 h t1 t2 t3).push { cls := .type "tuple", data := .seq #[.ref h.objs.size, .ref (g1 h t1).objs.size, .ref (g2 h t1 t2).objs.size] }
abbrev g5 (h : Heap) (t1 t2 t3 : Addr) : Heap := (g4 h t1 t2 t3).push { cls := .type "tuple", data := .seq #[.none, .none, .none] }
abbrev g6 (h : Heap) (t1 t2 t3 : Addr) : Heap := (g5 h t1 t2 t3).push { cls := .type "zip", data := .fields #[.none, .bool false, .bool false, .ref (g3 h t1 t2 t3).objs.size, .ref (g4 h t1 t2 t3).objs.size] }
theorem meets_zip3 (t1 t2 t3 : Addr) (xs ys zs : Array Value) :
    Meets (Builtin.«zip.__new__» ⟨[.type "zip", .ref t1, .ref t2, .ref t3], []⟩) (fun _ R s => s.heap.IsTuple t1 xs ∧ s.heap.IsTuple t2 ys ∧ s.heap.IsTuple t3 zs ∧
      R (.ok (.ret (.ref (g5 s.heap t1 t2 t3).objs.size))) { s with heap := g6 s.heap t1 t2 t3 }) :=
  .of_wp fun prog w A R s h => by  -- 75
    obtain ⟨hp, g, d, tk, os⟩ := s  -- 76
    obtain ⟨a1, a2, a3, h⟩ := h
    have hsub := sub_zip
    have b1 : Heap.IsTuple (Shared.heap ⟨hp, g, d, tk, os⟩) t1 xs := a1
    have b2 : Heap.IsTuple (Shared.heap ⟨hp.push (itO t1), g, d, tk, os⟩) t2 ys := Heap.IsTuple.push a2 _
    have b3 : Heap.IsTuple (Shared.heap ⟨(hp.push (itO t1)).push (itO t2), g, d, tk, os⟩) t3 zs := Heap.IsTuple.push (Heap.IsTuple.push a3 _) _
    wp_walk using wpAny_pyIter_tuple b1, wpAny_pyIter_tuple b2, wpAny_pyIter_tuple b3
    exact ⟨_, rfl, h⟩
section
variable {prog : Program} {w : World} {A₀ : Around} {E : Value → Shared → Prop} {s : Shared}
theorem call_zip3 {t1 t2 t3 : Addr} {xs ys zs : Array Value} {Q : Value → Shared → Prop} (a1 : s.heap.IsTuple t1 xs) (a2 : s.heap.IsTuple t2 ys) (a3 : s.heap.IsTuple t3 zs)
    (h : ∀ h', IsZip h' (s.heap.objs.size + 5) (s.heap.objs.size + 3) (s.heap.objs.size + 4) .none → Is3 h' (s.heap.objs.size + 3) (.ref s.heap.objs.size) (.ref (s.heap.objs.size + 1)) (.ref (s.heap.objs.size + 2)) →
      Is3 h' (s.heap.objs.size + 4) .none .none .none → h'.IsTupleIter s.heap.objs.size t1 0 → h'.IsTupleIter (s.heap.objs.size + 1) t2 0 → h'.IsTupleIter (s.heap.objs.size + 2) t3 0 →
      (∀ c o, s.heap.get? c = some o → h'.get? c = some o) → Q (.ref (s.heap.objs.size + 5)) { s with heap := h' }) :  -- 77
    wpAny (model prog w) A₀ (call (.type "zip") [.ref t1, .ref t2, .ref t3]) Q E s := by
  refine callType_new F.called_zip (by decide) (typeCall_zip3 _ _ _) (newCall_zip3 _ _ _) (fun obj => init_args4 obj _ _ _) F.entry_zip_new (meets_zip3 t1 t2 t3 xs ys zs) ⟨a1, a2, a3, ?_⟩
  have n1 : (g1 s.heap t1).objs.size = s.heap.objs.size + 1 := Heap.size_push ..
  have n2 : (g2 s.heap t1 t2).objs.size = s.heap.objs.size + 2 := by rw [Heap.size_push, n1]
  have n3 : (g3 s.heap t1 t2 t3).objs.size = s.heap.objs.size + 3 := by rw [Heap.size_push, n2]
  have n4 : (g4 s.heap t1 t2 t3).objs.size = s.heap.objs.size + 4 := by rw [Heap.size_push, n3]
  have n5 : (g5 s.heap t1 t2 t3).objs.size = s.heap.objs.size + 5 := by rw [Heap.size_push, n4]
  have p : ∀ {h : Heap} {o : Obj} {c : Addr} {u : Obj}, h.get? c = some u → (h.push o).get? c = some u := fun e => Heap.get?_push_of_some _ e
  have e6 : (g6 s.heap t1 t2 t3).get? (g5 s.heap t1 t2 t3).objs.size = some _ := Heap.get?_push_size _ rfl
  have e5 : (g6 s.heap t1 t2 t3).get? (g4 s.heap t1 t2 t3).objs.size = some _ := p (Heap.get?_push_size _ rfl)
  have e4 : (g6 s.heap t1 t2 t3).get? (g3 s.heap t1 t2 t3).objs.size = some _ := p (p (Heap.get?_push_size _ rfl))
  have e3 : (g6 s.heap t1 t2 t3).get? (g2 s.heap t1 t2).objs.size = some _ := p (p (p (Heap.get?_push_size _ rfl)))
  have e2 : (g6 s.heap t1 t2 t3).get? (g1 s.heap t1).objs.size = some _ := p (p (p (p (Heap.get?_push_size _ rfl))))
  have e1 : (g6 s.heap t1 t2 t3).get? s.heap.objs.size = some _ := p (p (p (p (p (Heap.get?_push_size _ rfl)))))
  show _ ∧ _
  rw [n3, n4, n5] at e6
  rw [n4] at e5
  rw [n1, n2, n3] at e4
  rw [n2] at e3
  rw [n1] at e2
  rw [n5]
  exact ⟨⟨_, e6, rfl⟩, h _ e6 e4 e5 ⟨_, e1, rfl, rfl⟩ ⟨_, e2, rfl, rfl⟩ ⟨_, e3, rfl, rfl⟩ fun c o x => p (p (p (p (p (p x)))))⟩
end
theorem ap3 (n t1 t2 t3 : Nat) (h1 : t1 < n) (h2 : t2 < n) (h3 : t3 < n) : Ap3 (n + 5) (n + 3) (n + 4) n (n + 1) (n + 2) t1 t2 t3 := by
  have far : ∀ t : Nat, t < n → ∀ c : Nat, c ∈ [n + 5, n + 4, n, n + 1, n + 2] → t ≠ c := fun t ht c hc => by
    simp only [List.mem_cons, List.not_mem_nil, or_false] at hc
    omega
  exact ⟨(by show n + 3 ≠ n + 5; omega), (by show n + 4 ≠ n + 5; omega), (by show n ≠ n + 5; omega), (by show n + 1 ≠ n + 5; omega), (by show n + 2 ≠ n + 5; omega), (by show n + 3 ≠ n + 4; omega), (by show n + 3 ≠ n; omega), (by show n + 3 ≠ n + 1; omega), (by show n + 3 ≠ n + 2; omega),
    (by show n + 4 ≠ n; omega), (by show n + 4 ≠ n + 1; omega), (by show n + 4 ≠ n + 2; omega), (by show n ≠ n + 1; omega), (by show n ≠ n + 2; omega), (by show n + 1 ≠ n + 2; omega), far t1 h1, far t2 h2, far t3 h3⟩
def iZip3 (K : PySem.W.Frag) (ta : TA) : TI := fun σ H R => ta σ H fun vs H1 => ∃ a b c xs ys zs, vs = [.ref a, .ref b, .ref c] ∧ SqT K H1 a xs ∧ SqT K H1 b ys ∧ SqT K H1 c zs ∧ R (Itz3 K a b c) H1
theorem pi_zip3 {X : Cx} {e e2 e3 : Expr} {ta : TA} {p pos tpos : Pos} {elts : List Expr} {kk : Nat} (hg : Gl X "zip") (hm : X.mg "zip" = none) (ha : PA X [e, e2, e3] ta)
    (hs : starEach [e, e2, e3] X.env = (false, eval e X.env) :: starEach [e2, e3] X.env := by rfl) (hpl : (backTo pos (starEach [e2, e3] X.env)).any (·.1) = false := by rfl) :
    PI X (.Tuple elts kk tpos) (.Call (.Name "zip" p) [e, e2, e3] [] pos) (iZip3 X.K ta) := by
  refine ⟨fun pins s σ H R I h => Call_ (ld_blt I hg hm PyProof.Rows.boot_zip (PyProof.Rows.callWith_type1 (thn (ha.run pos pins s σ H _ I h) fun us s1 ⟨vs, H1, I1, r1, q1⟩ => ?_) hs hpl))⟩
  obtain ⟨a, b, c, xs, ys, zs, rfl, q1, q2, q3, q⟩ := q1
  cases r1 with
  | cons r r1 =>
    cases r1 with
    | cons r' r1 =>
      cases r1 with
      | cons r'' r1 =>
        cases r1
        cases r
        cases r'
        cases r''
        obtain ⟨_, _, p1, _⟩ := I1.tuple q1
        obtain ⟨_, _, p2, _⟩ := I1.tuple q2
        obtain ⟨_, _, p3, _⟩ := I1.tuple q3
        obtain ⟨_, o1, _⟩ := id p1
        obtain ⟨_, o2, _⟩ := id p2
        obtain ⟨_, o3, _⟩ := id p3
        refine call_zip3 p1 p2 p3 fun u hz hA hB k1 k2 k3 hk => wpAny_pyIter_zip hz ?_
        have I2 : L2.Inv X pins σ H1 { s1 with heap := u } := I1.kept (t' := s1.toks) hk
        refine ⟨s1.heap.objs.size + 5, [s1.heap.objs.size + 5, s1.heap.objs.size + 3, s1.heap.objs.size + 4, s1.heap.objs.size, s1.heap.objs.size + 1, s1.heap.objs.size + 2], _, _, H1, rfl, I2,
          turn_zip3 (ap3 s1.heap.objs.size a b c (Heap.lt_size o1) (Heap.lt_size o2) (Heap.lt_size o3)), ⟨hz, hA, ⟨_, _, _, hB⟩, k1, k2, k3⟩, fun d hd => ?_, q⟩
        have le : s1.heap.objs.size ≤ d := by
          have e' : d = s1.heap.objs.size + 5 ∨ d = s1.heap.objs.size + 3 ∨ d = s1.heap.objs.size + 4 ∨ d = s1.heap.objs.size ∨ d = s1.heap.objs.size + 1 ∨ d = s1.heap.objs.size + 2 := by simpa using hd
          rcases e' with r | r | r | r | r | r <;> rw [r] <;> first | exact Nat.le_refl _ | exact Nat.le_add_right _ _
        exact I1.fpOk le (I1.hok.fresh le)
end KK

namespace KK
open PySem PySem.Spec PyProof.Rows L2

/-! ### zip, enumerate -/
def zip2 : List D → List D → List D
  | x :: xs, y :: ys => .pr [x, y] :: zip2 xs ys
  | _, _ => []
def zip3 : List D → List D → List D → List D
  | x :: xs, y :: ys, z :: zs => .pr [x, y, z] :: zip3 xs ys zs
  | _, _, _ => []
theorem zip2_get : ∀ {xs ys : List D} {i : Nat} {d : D}, (zip2 xs ys)[i]? = some d → ∃ x y, xs[i]? = some x ∧ ys[i]? = some y ∧ d = .pr [x, y]
  | [], _, i, d, h => by simp [zip2] at h
  | _ :: _, [], i, d, h => by simp [zip2] at h
  | x :: xs, y :: ys, 0, d, h => by simp [zip2] at h; exact ⟨x, y, rfl, rfl, h.symm⟩
  | x :: xs, y :: ys, i + 1, d, h => by
    obtain ⟨a, b, h1, h2, h3⟩ := zip2_get (xs := xs) (ys := ys) (i := i) (d := d) (by simpa [zip2] using h)
    exact ⟨a, b, by simpa using h1, by simpa using h2, h3⟩
theorem zip2_end : ∀ {xs ys : List D} {i : Nat}, (zip2 xs ys).length ≤ i → xs.length ≤ i ∨ ys.length ≤ i
  | [], _, i, h => .inl (Nat.zero_le _)
  | _ :: _, [], i, h => .inr (Nat.zero_le _)
  | x :: xs, y :: ys, 0, h => by simp [zip2] at h
  | x :: xs, y :: ys, i + 1, h => by
    rcases zip2_end (xs := xs) (ys := ys) (i := i) (by simpa [zip2] using h) with q | q
    · exact .inl (by simpa using q)  -- 78
    · exact .inr (by simpa using q)
theorem zip3_get : ∀ {xs ys zs : List D} {i : Nat} {d : D}, (zip3 xs ys zs)[i]? = some d → ∃ x y z, xs[i]? = some x ∧ ys[i]? = some y ∧ zs[i]? = some z ∧ d = .pr [x, y, z]
  | [], _, _, i, d, h => by simp [zip3] at h
  | _ :: _, [], _, i, d, h => by simp [zip3] at h
  | _ :: _, _ :: _, [], i, d, h => by simp [zip3] at h
  | x :: xs, y :: ys, z :: zs, 0, d, h => by simp [zip3] at h; exact ⟨x, y, z, rfl, rfl, rfl, h.symm⟩
  | x :: xs, y :: ys, z :: zs, i + 1, d, h => by
    obtain ⟨a, b, c, h1, h2, h3, h4⟩ := zip3_get (xs := xs) (ys := ys) (zs := zs) (i := i) (d := d) (by simpa [zip3] using h)
    exact ⟨a, b, c, by simpa using h1, by simpa using h2, by simpa using h3, h4⟩
theorem zip3_end' : ∀ {xs ys zs : List D} {i : Nat}, (zip3 xs ys zs).length ≤ i → xs.length ≤ i ∨ ys.length ≤ i ∨ zs.length ≤ i
  | [], _, _, i, h => .inl (Nat.zero_le _)
  | _ :: _, [], _, i, h => .inr (.inl (Nat.zero_le _))
  | _ :: _, _ :: _, [], i, h => .inr (.inr (Nat.zero_le _))
  | x :: xs, y :: ys, z :: zs, 0, h => by simp [zip3] at h
  | x :: xs, y :: ys, z :: zs, i + 1, h => by
    rcases zip3_end' (xs := xs) (ys := ys) (zs := zs) (i := i) (by simpa [zip3] using h) with q | q | q
    · exact .inl (by simpa using q)  -- 79
    · exact .inr (.inl (by simpa using q))
    · exact .inr (.inr (by simpa using q))
section
variable {X : Cx} {U : Wd} {N : List Str} {sc : Scope} {W : WX} {n : Nat} {G : Gb} {ρ : List Addr} {H : Hp} {p pos tpos : Pos} {elts : List Expr} {kk : Nat} {a b c3 : Expr} {t : MA}
theorem wk_zipT {K : PySem.W.Frag} {a b : Addr} {xs ys : List D} {vs us : List V} (h1 : ∀ H', Ext H H' → SqT K H' a vs) (h2 : ∀ H', Ext H H' → SqT K H' b us) (r1 : Rs G ρ H xs vs) (r2 : Rs G ρ H ys us) : Wk G (RZ.ItzT K a b) (zip2 xs ys) ρ H := fun ρ' H' p e => by
  have w1 := r1.mono p e
  have w2 := r2.mono p e
  have q1 := h1 H' e
  have q2 := h2 H' e
  refine ⟨fun i d hd => ?_, fun i hl => ⟨vs, us, q1, q2, by rw [← w1.length, ← w2.length]; exact zip2_end hl⟩⟩
  obtain ⟨x, y, k1, k2, rfl⟩ := zip2_get hd
  obtain ⟨v, m1, s1⟩ := w1.get k1
  obtain ⟨u, m2, s2⟩ := w2.get k2
  refine ⟨⟨vs, us, v, u, q1, q2, m1, m2⟩, fun z H'' yl => ?_⟩
  obtain ⟨T, v', u', rfl, hT, rfl, f1, f2⟩ := yl
  have f1 := f1 vs q1
  have f2 := f2 us q2
  rw [m1] at f1; cases f1
  rw [m2] at f2; cases f2
  have g := upd_grow (o := .tup [v, u]) hT
  exact ⟨g, .pr upd_same (.cons (s1.mono (List.prefix_refl _) (Ext.of g)) (.cons (s2.mono (List.prefix_refl _) (Ext.of g)) .nil))⟩
theorem wk_zipL {K : PySem.W.Frag} {a b : Addr} {xs ys : List D} {vs us : List V} (h1 : ∀ H', Ext H H' → SqL K H' a vs) (h2 : ∀ H', Ext H H' → SqL K H' b us) (r1 : Rs G ρ H xs vs) (r2 : Rs G ρ H ys us) : Wk G (Itz K a b) (zip2 xs ys) ρ H := fun ρ' H' p e => by
  have w1 := r1.mono p e
  have w2 := r2.mono p e
  have q1 := h1 H' e
  have q2 := h2 H' e
  refine ⟨fun i d hd => ?_, fun i hl => ⟨vs, us, q1, q2, by rw [← w1.length, ← w2.length]; exact zip2_end hl⟩⟩
  obtain ⟨x, y, k1, k2, rfl⟩ := zip2_get hd
  obtain ⟨v, m1, s1⟩ := w1.get k1
  obtain ⟨u, m2, s2⟩ := w2.get k2
  refine ⟨⟨vs, us, v, u, q1, q2, m1, m2⟩, fun z H'' yl => ?_⟩
  obtain ⟨T, v', u', rfl, hT, rfl, f1, f2⟩ := yl
  have f1 := f1 vs q1
  have f2 := f2 us q2
  rw [m1] at f1; cases f1
  rw [m2] at f2; cases f2
  have g := upd_grow (o := .tup [v, u]) hT
  exact ⟨g, .pr upd_same (.cons (s1.mono (List.prefix_refl _) (Ext.of g)) (.cons (s2.mono (List.prefix_refl _) (Ext.of g)) .nil))⟩
theorem wk_zip3 {K : PySem.W.Frag} {a b c : Addr} {xs ys zs : List D} {vs us ws : List V} (h1 : ∀ H', Ext H H' → SqT K H' a vs) (h2 : ∀ H', Ext H H' → SqT K H' b us) (h3 : ∀ H', Ext H H' → SqT K H' c ws)
    (r1 : Rs G ρ H xs vs) (r2 : Rs G ρ H ys us) (r3 : Rs G ρ H zs ws) : Wk G (Itz3 K a b c) (zip3 xs ys zs) ρ H := fun ρ' H' p e => by
  have w1 := r1.mono p e
  have w2 := r2.mono p e
  have w3 := r3.mono p e
  have q1 := h1 H' e
  have q2 := h2 H' e
  have q3 := h3 H' e
  refine ⟨fun i d hd => ?_, fun i hl => ⟨vs, us, ws, q1, q2, q3, by rw [← w1.length, ← w2.length, ← w3.length]; exact zip3_end' hl⟩⟩
  obtain ⟨x, y, z, k1, k2, k3, rfl⟩ := zip3_get hd
  obtain ⟨v, m1, s1⟩ := w1.get k1
  obtain ⟨u, m2, s2⟩ := w2.get k2
  obtain ⟨w, m3, s3⟩ := w3.get k3
  refine ⟨⟨vs, us, ws, v, u, w, q1, q2, q3, m1, m2, m3⟩, fun z H'' yl => ?_⟩
  obtain ⟨T, v', u', w', rfl, hT, rfl, f1, f2, f3⟩ := yl
  have f1 := f1 vs q1
  have f2 := f2 us q2
  have f3 := f3 ws q3
  rw [m1] at f1; cases f1
  rw [m2] at f2; cases f2
  rw [m3] at f3; cases f3
  have g := upd_grow (o := .tup [v, u, w]) hT
  exact ⟨g, .pr upd_same (.cons (s1.mono (List.prefix_refl _) (Ext.of g)) (.cons (s2.mono (List.prefix_refl _) (Ext.of g)) (.cons (s3.mono (List.prefix_refl _) (Ext.of g)) .nil)))⟩
def zip2M (t : MA) : MA := fun L M => (t L M).bindL fun ds L M => match ds with
  | [.tup xs, .tup ys] => .ok (zip2 xs ys) L M
  | [.lst xs, .lst ys] => .ok (zip2 xs ys) L M
  | _ => .stk
def zip3M (t : MA) : MA := fun L M => (t L M).bindL fun ds L M => match ds with
  | [.tup xs, .tup ys, .tup zs] => .ok (zip3 xs ys zs) L M
  | _ => .stk
theorem R.tupS {ds : List D} {v : V} (r : R G ρ H (.tup ds) v) : ∃ a vs, v = .ref a ∧ TpL G.K H a vs ∧ Rs G ρ H ds vs := by
  cases r with
  | tup t r => exact ⟨_, _, rfl, t, r⟩
theorem R.lstS {ds : List D} {v : V} (r : R G ρ H (.lst ds) v) : ∃ a vs, v = .ref a ∧ FzL G.K H a vs ∧ Rs G ρ H ds vs := by
  cases r with
  | lst t r => exact ⟨_, _, rfl, t, r⟩
theorem ei_zip2 (c : Ct U N sc W n X) (hg : sc.names.lookup ("zip" : Str) = some .globalImplicit) (hm : U.mg "zip" = none) (ha : EA X U.G U.xn W [a, b] t)
    (hs : starEach [a, b] X.env = (false, eval a X.env) :: starEach [b] X.env := by rfl) (hp : (backTo pos (starEach [b] X.env)).any (·.1) = false := by rfl) :
    EI X U.G U.xn W (.Tuple elts kk tpos) (.Call (.Name "zip" p) [a, b] [] pos) (zip2M t) := by
  refine PI.imp (RZ.pi_zipA (c.gl hg) (c.mg' hm) ha hs hp) fun σ H Q ⟨ρ, L, M, rl, h⟩ => ⟨ρ, L, M, rl, XA.mono (XA.bindI h) ?_⟩
  rintro vs H1 ⟨ρ1, L1, M1, ds, s1, r1, rr, h1⟩
  split at h1
  · obtain ⟨v, u, rfl, w1, w2⟩ := Rs.two rr
    obtain ⟨p1, vs, rfl, t1, k1⟩ := w1.tupS
    obtain ⟨p2, us, rfl, t2, k2⟩ := w2.tupS
    refine ⟨p1, p2, vs, us, rfl, .inr ⟨by rw [c.K]; exact t1.sq, by rw [c.K]; exact t2.sq, h1 ρ1 H1 _ Stp.refl r1 ?_⟩⟩
    rw [c.K]
    exact wk_zipT (fun H' e => (t1.ext e).sq) (fun H' e => (t2.ext e).sq) k1 k2
  · obtain ⟨v, u, rfl, w1, w2⟩ := Rs.two rr
    obtain ⟨p1, vs, rfl, t1, k1⟩ := w1.lstS
    obtain ⟨p2, us, rfl, t2, k2⟩ := w2.lstS
    refine ⟨p1, p2, vs, us, rfl, .inl ⟨by rw [c.K]; exact t1.sq, by rw [c.K]; exact t2.sq, h1 ρ1 H1 _ Stp.refl r1 ?_⟩⟩
    rw [c.K]
    exact wk_zipL (fun H' e => (t1.ext e).sq) (fun H' e => (t2.ext e).sq) k1 k2
  · exact h1.elim
theorem ei_zip3 (c : Ct U N sc W n X) (hg : sc.names.lookup ("zip" : Str) = some .globalImplicit) (hm : U.mg "zip" = none) (ha : EA X U.G U.xn W [a, b, c3] t)
    (hs : starEach [a, b, c3] X.env = (false, eval a X.env) :: starEach [b, c3] X.env := by rfl) (hp : (backTo pos (starEach [b, c3] X.env)).any (·.1) = false := by rfl) :
    EI X U.G U.xn W (.Tuple elts kk tpos) (.Call (.Name "zip" p) [a, b, c3] [] pos) (zip3M t) := by
  refine PI.imp (pi_zip3 (c.gl hg) (c.mg' hm) ha hs hp) fun σ H Q ⟨ρ, L, M, rl, h⟩ => ⟨ρ, L, M, rl, XA.mono (XA.bindI h) ?_⟩
  rintro vs H1 ⟨ρ1, L1, M1, ds, s1, r1, rr, h1⟩
  split at h1
  · obtain ⟨v, u, w, rfl, w1, w2, w3⟩ := Rs.three rr
    obtain ⟨p1, vs, rfl, t1, k1⟩ := w1.tupS
    obtain ⟨p2, us, rfl, t2, k2⟩ := w2.tupS
    obtain ⟨p3, ws, rfl, t3, k3⟩ := w3.tupS
    refine ⟨p1, p2, p3, vs, us, ws, rfl, by rw [c.K]; exact t1.sq, by rw [c.K]; exact t2.sq, by rw [c.K]; exact t3.sq, h1 ρ1 H1 _ Stp.refl r1 ?_⟩
    rw [c.K]
    exact wk_zip3 (fun H' e => (t1.ext e).sq) (fun H' e => (t2.ext e).sq) (fun H' e => (t3.ext e).sq) k1 k2 k3
  · exact h1.elim
end
end KK

namespace KK
open PySem PySem.Spec PyProof.Rows L2

/-! ### instances -/
def putD (f : Str) (d : D) : List (Str × D) → List (Str × D)
  | [] => [(f, d)]
  | (g, x) :: r => if g = f then (g, d) :: r else (g, x) :: putD f d r
def lookD (f : Str) : List (Str × D) → Option D
  | [] => none
  | (g, x) :: r => if f = g then some x else lookD f r
section
variable {G : Gb} {ρ : List Addr} {H : Hp}
theorem putD_rel {f : Str} {d : D} {y : V} (r : R G ρ H d y) : ∀ {fs : List (Str × D)} {vs : List V}, Rs G ρ H (fs.map (·.2)) vs →
    ∃ us, putF f y ((fs.map (·.1)).zip vs) = ((putD f d fs).map (·.1)).zip us ∧ Rs G ρ H ((putD f d fs).map (·.2)) us
  | [], vs, h => by cases h; exact ⟨[y], rfl, .cons r .nil⟩
  | (g, x) :: fs, vs, h => by
    cases h with
    | @cons _ _ v vs q t =>
      by_cases e : g = f
      · refine ⟨y :: vs, ?_, ?_⟩
        · show (if g = f then (g, y) :: _ else _) = ((if g = f then (g, d) :: fs else _).map (·.1)).zip _
          rw [if_pos e, if_pos e]; rfl
        · unfold putD; rw [if_pos e]; exact .cons r t
      · obtain ⟨us, h1, h2⟩ := putD_rel r t
        refine ⟨v :: us, ?_, ?_⟩
        · show (if g = f then _ else (g, v) :: putF f y _) = ((if g = f then _ else (g, x) :: putD f d fs).map (·.1)).zip _
          rw [if_neg e, if_neg e]
          show (g, v) :: putF f y ((fs.map (·.1)).zip vs) = (g, v) :: ((putD f d fs).map (·.1)).zip us
          rw [h1]
        · unfold putD; rw [if_neg e]; exact .cons q h2
theorem lookD_rel {f : Str} {d : D} : ∀ {fs : List (Str × D)} {vs : List V}, Rs G ρ H (fs.map (·.2)) vs → lookD f fs = some d → ∃ v, ((fs.map (·.1)).zip vs).lookup f = some v ∧ R G ρ H d v
  | [], vs, h, e => by cases e
  | (g, x) :: fs, vs, h, e => by
    cases h with
    | @cons _ _ v vs q t =>
      unfold lookD at e
      by_cases z : f = g
      · rw [if_pos z] at e; cases e
        exact ⟨v, by show (match f == g with | true => some v | false => _) = _; rw [beq_iff_eq.mpr z], q⟩
      · rw [if_neg z] at e
        obtain ⟨u, h1, h2⟩ := lookD_rel t e
        exact ⟨u, (by simp only [List.map_cons, List.zip_cons_cons, List.lookup, beq_false_of_ne z]; exact h1), h2⟩
theorem lookD_no {f : Str} : ∀ {fs : List (Str × D)} {vs : List V}, lookD f fs = none → ((fs.map fun p => p.1).zip vs).lookup f = none
  | [], vs, e => by simp
  | (g, x) :: fs, [], e => by simp
  | (g, x) :: fs, v :: vs, e => by
    unfold lookD at e
    by_cases z : f = g
    · rw [if_pos z] at e; cases e
    · rw [if_neg z] at e
      show (match f == g with | true => some v | false => List.lookup f ((fs.map (·.1)).zip vs)) = none
      rw [beq_false_of_ne z]
      exact lookD_no e
end
/-- the class numbered c of the world: its instances have fields of any name that is told here -/
structure ClF (U : Wd) (c : Nat) : Prop where
  cls : Cls U.G.K (U.G.ca c)
def instOf (M : MM) (c : Nat) (d : D) : Option (Nat × List (Str × D)) := match d with
  | .obj i => match M[i]? with
    | some (.inst c' fs) => if c' = c then some (i, fs) else none
    | _ => none
  | _ => none
theorem instOf_eq {M : MM} {c : Nat} {d : D} {i : Nat} {fs : List (Str × D)} (h : instOf M c d = some (i, fs)) : d = .obj i ∧ M[i]? = some (.inst c fs) := by
  unfold instOf at h
  split at h
  · split at h
    · rename_i c' fs' e
      split at h
      · rename_i q
        cases h; subst q
        exact ⟨rfl, e⟩
      · cases h
    · cases h
  · cases h
/-- o.f -/
def fldM (c : Nat) (f : Str) (m : MX) : MX := fun L M => (m L M).bind fun d L M => match instOf M c d with
  | some (_, fs) => match lookD f fs with
    | some z => .ok z L M
    | none => .stk
  | none => .stk
section
variable {X : Cx} {U : Wd} {N : List Str} {sc : Scope} {W : WX} {n c : Nat} {e o v : Expr} {m mo mv : MX} {f : Str} {pos tpos : Pos}
theorem ex_fld (ct : Ct U N sc W n X) (k : ClF U c) (no : NoAttr U.G.K (U.G.ca c) f) (he : EX X U.G U.xn W e m) (hb : attributeBase e f X.env (eval e X.env) = eval e X.env := by rfl) : EX X U.G U.xn W (.Attribute e f pos) (fldM c f m) := by
  refine PE.imp (pe_fld he hb) fun σ H Q ⟨ρ, L, M, rl, h⟩ => ⟨ρ, L, M, rl, XP.mono (XP.bind h) ?_⟩
  rintro x H1 ⟨ρ1, L1, M1, d, s1, r1, rv, h1⟩
  dsimp only at h1
  split at h1
  · rename_i i fs q
    obtain ⟨qa, qb⟩ := instOf_eq q
    subst qa
    split at h1
    · rename_i z hz
      obtain ⟨a, q1, dx, vs, q2, q3⟩ := r1.ob i _ qb
      cases rv with
      | obj e1 =>
        rw [q1] at e1; cases e1
        obtain ⟨w, w1, w2⟩ := lookD_rel q3 hz
        exact ⟨a, _, dx, _, w, rfl, q2, by rw [ct.K]; exact k.cls, by rw [ct.K]; exact no, w1, h1 ρ1 H1 w Stp.refl r1 w2⟩
    · exact h1.elim
  · exact h1.elim
/-- o.f = v -/
def setF (c : Nat) (f : Str) (mo mv : MX) : MS := fun L M => match mv L M with
  | .ok d L1 M1 => match mo L1 M1 with
    | .ok o L2 M2 => match instOf M2 c o with
      | some (i, fs) => if fs.length < 1000 then .nx L2 (M2.set i (.inst c (putD f d fs))) else .stk
      | none => .stk
    | .err x L1 M1 => .err x L1 M1
    | .stk => .stk
  | .err x L1 M1 => .err x L1 M1
  | .stk => .stk
theorem es_fld (ct : Ct U N sc W n X) (k : ClF U c) (no : NoAttr U.G.K (U.G.ca c) f) (ho : EX X U.G U.xn W o mo) (hv : EX X U.G U.xn W v mv) (hs : swapsWith v (some (.Attribute o f tpos)) pos.line X.env = pure false := by rfl) : ES X U.G U.xn W (.Assign [.Attribute o f tpos] v pos) (setF c f mo mv) := by
  refine PS.imp (ps_fld ho hv hs) fun Z σ H ⟨ρ, L, M, rl, h⟩ => ⟨ρ, L, M, rl, ?_⟩
  unfold setF at h
  refine XP.toO (Z := Z) (k := fun d L1 M1 => match mo L1 M1 with
    | .ok o L2 M2 => match instOf M2 c o with
      | some (i, fs) => if fs.length < 1000 then .nx L2 (M2.set i (.inst c (putD f d fs))) else .stk
      | none => .stk
    | .err x L1 M1 => .err x L1 M1
    | .stk => .stk) h fun ρ1 H1 d L1 M1 y s1 r1 rv h1 => ⟨ρ1, L1, M1, r1, ?_⟩
  refine XP.toO (Z := Z) (k := fun o L2 M2 => match instOf M2 c o with
      | some (i, fs) => if fs.length < 1000 then .nx L2 (M2.set i (.inst c (putD f d fs))) else .stk
      | none => .stk) h1 fun ρ2 H2 ob L2 M2 x s2 r2 rx h2 => ?_
  split at h2
  · rename_i i fs q
    obtain ⟨qa, qb⟩ := instOf_eq q
    subst qa
    split at h2
    · rename_i hz
      obtain ⟨a, q1, dx, vs, q2, q3⟩ := r2.ob i _ qb
      cases rx with
      | obj e1 =>
        rw [q1] at e1; cases e1
        obtain ⟨us, w1, w2⟩ := putD_rel (f := f) (rv.step s2) q3
        have hl : ((fs.map (·.1)).zip vs).length < 1000 := by
          have := q3.length
          rw [List.length_map] at this
          rw [List.length_zip, List.length_map]
          omega
        have gr : Ext H2 (upd H2 a (.ins (U.G.ca c) dx (putF f y ((fs.map (·.1)).zip vs)))) := ext_upd q2 rfl
        obtain ⟨r3, s3⟩ := r2.updObj (u := .ins (U.G.ca c) dx (putF f y ((fs.map (·.1)).zip vs))) (o' := .inst c (putD f d fs)) q1 q2 True.intro (fun _ z => nomatch z) (fun _ z => nomatch z)
          ⟨dx, us, by rw [upd_same, w1], w2.mono (List.prefix_refl _) gr⟩
        exact ⟨a, _, dx, _, rfl, q2, by rw [ct.K]; exact k.cls, by rw [ct.K]; exact no, hl, h2 ρ2 _ σ s3 r3⟩
    · exact h2.elim
  · exact h2.elim
end

/-! ### functions by their place alone; methods; making -/
def LenOf (t : MA) (n : Nat) : Prop := ∀ L M ds L' M', t L M = .ok ds L' M' → ds.length = n
theorem len_nil : LenOf nilA 0 := fun L M ds L' M' h => by unfold nilA at h; cases h; rfl
theorem len_cons {m : MX} {t : MA} {n : Nat} (h : LenOf t n) : LenOf (consA m t) (n + 1) := fun L M ds L' M' e => by
  unfold consA at e
  cases q : m L M with
  | err _ _ _ => rw [q] at e; cases e
  | stk => rw [q] at e; cases e
  | ok d L1 M1 =>
    rw [q] at e
    dsimp only at e
    cases q2 : t L1 M1 with
    | err _ _ _ => rw [q2] at e; cases e
    | stk => rw [q2] at e; cases e
    | ok es La Ma =>
      rw [q2] at e
      have e' : Ra.ok (d :: es) La Ma = Ra.ok ds L' M' := e
      cases e'
      exact congrArg (· + 1) (h L1 M1 es _ _ q2)
structure FnB (U : Wd) (i : Nat) (ps : List Str) (k : Nat) (F : MF) : Prop where
  ok : ∃ fd, Binds U.G.K fd ps [] ∧ FnOk U.P U.w U.G.K U.mg U.base (L2.CX U.P U.w) k (U.G.fa i) fd ps (spF U.G U.xn ps.length F)
def methM (c : Nat) (f : Str) (F : MF) (mo : MX) (t : MA) : MX := fun L M => (mo L M).bind fun o L M => match instOf M c o with
  | some (_, fs) => match lookD f fs with
    | some _ => .stk
    | none => (t L M).bind fun ds L M => frX L (F (o :: ds) M)
  | none => .stk
section
variable {X : Cx} {U : Wd} {N : List Str} {sc : Scope} {W : WX} {n c k i : Nat} {ps : List Str} {F : MF} {e o : Expr} {es : List Expr} {mo : MX} {t : MA} {f : Str} {pos apos p : Pos} {x : Str}
theorem FnB.at (ct : Ct U N sc W n X) (b : FnB U i ps k F) (hk : k ≤ n) : ∃ fd, Binds X.K fd ps [] ∧ FnOk X.prog X.w X.K X.mg X.base (L2.CX X.prog X.w) n (U.G.fa i) fd ps (spF U.G U.xn ps.length F) := by
  obtain ⟨fd, hb, fo⟩ := b.ok
  exact ⟨fd, by rw [ct.K]; exact hb, by rw [ct.P, ct.w, ct.K, ct.mg, ct.base]; exact fo.mono hk⟩
theorem passU (ct : Ct U N sc W n X) : Passes (L2.CX X.prog X.w) X (fun cls d H => ∀ σ, W cls d σ H) := fun pins σ H s e s' I cx => passAt ct.tk σ pins H s e s' I (by
  obtain ⟨a, B, H', cls, d, h1, h2, h3, h4, h5, h6, h7, z⟩ := cx
  exact ⟨a, B, H', cls, d, h1, h2, h3, h4, h5, h6, h7, z σ⟩)
theorem FP.toU {G : Gb} {xn : Nat → Option Str} (si : SI W) {ρ : List Addr} {H : Hp} {L : LL} {σ : L2.St} {M : MM} {r : Fr} {Q : VK} (rl : Rl G ρ H L σ M) (h : XP G xn W ρ H L σ (frX L r) Q) : FP G xn ρ H r Q (fun cls d H => ∀ σ, W cls d σ H) := by
  cases r with
  | ok d M' => exact fun ρ' H' v s a b => h ρ' H' v s.own0 (rl.back s a) b
  | err y M' => exact fun ρ' H' cls dd s a b σ' => si _ _ _ _ _ (h ρ' H' cls dd s.own0 (rl.back s a) b)
  | stk => exact h
theorem ex_meth (ct : Ct U N sc W n X) (si : SI W) (kc : ClF U c) (hm : Meth U.G.K (U.G.ca c) f (U.G.fa i)) (b : FnB U i ps k F) (hk : k ≤ n) (ho : EX X U.G U.xn W o mo) (ht : EA X U.G U.xn W (e :: es) t)
    {j : Nat} (hlen : LenOf t j) (hj : j + 1 = ps.length) {pl : Sem Bool}
    (hst : starEach (e :: es) X.env = (false, eval e X.env) :: starEach es X.env := by rfl) (hpl : (backTo pos (starEach es X.env)).any (·.1) = false := by rfl)  -- 80
    (hev : eval (.Call (.Attribute o f apos) (e :: es) [] pos) X.env = (do
      let ov ← eval o X.env
      standAt apos.atName
      let (f, first) ← holding [ov] (getMethod ov f pl)
      callWith pos f first (backTo pos (starEach (e :: es) X.env)) (backToKw pos (keywordEach [] X.env))) := by rfl) :  -- 81
    EX X U.G U.xn W (.Call (.Attribute o f apos) (e :: es) [] pos) (methM c f F mo t) := by
  obtain ⟨fd, hb, fo⟩ := b.at ct hk
  refine PE.imp (pe_meth (pl := pl) ho (by rw [ct.K]; exact kc.cls) (by rw [ct.K]; exact hm) fo ct.room hb .nil (passU ct) ht hst hpl hev) fun σ H Q ⟨ρ, L, M, rl, h⟩ => ⟨ρ, L, M, rl, XP.mono (XP.bind h) ?_⟩
  rintro x H1 ⟨ρ1, L1, M1, d, s1, r1, rv, h1⟩
  dsimp only at h1
  split at h1
  · rename_i j' fs q
    obtain ⟨qa, qb⟩ := instOf_eq q
    subst qa
    split at h1
    · exact h1.elim
    · rename_i hz
      obtain ⟨a, q1, dx, vs, q2, q3⟩ := r1.ob j' _ qb
      have rv' := rv
      cases rv with
      | obj e1 =>
        rw [q1] at e1; cases e1
        refine ⟨a, dx, _, rfl, q2, lookD_no hz, ρ1, L1, M1, r1, ?_⟩
        have h2 := fun L2 M2 ds => hlen L1 M1 ds L2 M2
        revert h1 h2
        generalize t L1 M1 = r
        intro h1 h2
        cases r with
        | stk => exact h1
        | err y L2 M2 => exact h1
        | ok ds L2 M2 =>
          intro ρ2 H2 ws s2 r2 rr
          have h3 : XP U.G U.xn W ρ2 H2 L2 σ (frX L2 (F (.obj j' :: ds) M2)) Q := XP.shift (r := frX L2 (F (.obj j' :: ds) M2)) h1 s2
          refine ⟨ρ2, M2, .obj j' :: ds, r2.bare, by rw [List.append_nil]; exact .cons (rv'.step s2) rr, ?_, FP.toU si r2 h3⟩
          rw [List.append_nil, List.length_cons, ← rr.length, h2 L2 M2 ds rfl]
          exact hj
  · exact h1.elim
end
end KK

namespace KK
open PySem PySem.Spec PyProof.Rows L2

section
variable {X : Cx} {U : Wd} {N : List Str} {sc : Scope} {W : WX} {n c k i : Nat} {ps : List Str} {F : MF} {e o : Expr} {es : List Expr} {mo m : MX} {t : MA} {f : Str} {pos apos cpos p : Pos} {x : Str}
/-- o.f() -/
theorem ex_meth0 (ct : Ct U N sc W n X) (si : SI W) (kc : ClF U c) (hm : Meth U.G.K (U.G.ca c) f (U.G.fa i)) (b : FnB U i ps k F) (hk : k ≤ n) (ho : EX X U.G U.xn W o mo) (hj : 1 = ps.length) {pl : Sem Bool}
    (hev : eval (.Call (.Attribute o f apos) [] [] pos) X.env = (do
      let ov ← eval o X.env
      standAt apos.atName
      let (f, first) ← holding [ov] (getMethod ov f pl)
      callWith pos f first (backTo pos (starEach [] X.env)) (backToKw pos (keywordEach [] X.env))) := by rfl) :  -- 82
    EX X U.G U.xn W (.Call (.Attribute o f apos) [] [] pos) (methM c f F mo nilA) := by
  obtain ⟨fd, hb, fo⟩ := b.at ct hk
  refine PE.imp (pe_meth0 (pl := pl) ho (by rw [ct.K]; exact kc.cls) (by rw [ct.K]; exact hm) fo ct.room hb .nil (passU ct) hev) fun σ H Q ⟨ρ, L, M, rl, h⟩ => ⟨ρ, L, M, rl, XP.mono (XP.bind h) ?_⟩
  rintro x H1 ⟨ρ1, L1, M1, d, s1, r1, rv, h1⟩
  dsimp only at h1
  split at h1
  · rename_i j' fs q
    obtain ⟨qa, qb⟩ := instOf_eq q
    subst qa
    split at h1
    · exact h1.elim
    · rename_i hz
      obtain ⟨a, q1, dx, vs, q2, q3⟩ := r1.ob j' _ qb
      have rv' := rv
      cases rv with
      | obj e1 =>
        rw [q1] at e1; cases e1
        exact ⟨a, dx, _, rfl, q2, lookD_no hz, ρ1, M1, [.obj j'], r1.bare, .cons rv' .nil, hj, FP.toU si r1 h1⟩
  · exact h1.elim
/-- f(), a def without parameters -/
def call0 (F : MF) : MX := fun L M => frX L (F [] M)
theorem ex_call0 (ct : Ct U N sc W n X) (si : SI W) (fn : FnF U i x [] k F) (hk : k ≤ n) (hg : sc.names.lookup x = some .globalImplicit) (hdb : (x == ("__debug__" : Str)) = false := by decide +kernel) :
    EX X U.G U.xn W (.Call (.Name x p) [] [] pos) (call0 F) := by
  obtain ⟨fd, hb, fo⟩ := fn.ok
  have fo' : FnOk X.prog X.w X.K X.mg X.base (L2.CX X.prog X.w) n (U.G.fa i) fd [] (spF U.G U.xn 0 F) := by rw [ct.P, ct.w, ct.K, ct.mg, ct.base]; exact fo.mono hk
  refine PE.imp (pe_call0 fo' ct.room (ct.gl hg) (by rw [ct.mg]; exact fn.mg) (by rw [ct.K]; exact fn.kp) (by rw [ct.K]; exact hb) .nil (passU ct) hdb) fun σ H Q ⟨ρ, L, M, rl, h⟩ => ?_
  exact ⟨ρ, M, [], rl.bare, .nil, rfl, FP.toU si rl h⟩
/-- C(..) -/
def mkM (c : Nat) (F : MF) (t : MA) : MX := fun L M => (t L M).bind fun ds L M => match F (.obj M.length :: ds) (M ++ [.inst c []]) with
  | .ok .non M' => .ok (.obj M.length) L M'
  | .ok _ _ => .stk
  | .err y M' => .err y L M'
  | .stk => .stk
theorem ex_make (ct : Ct U N sc W (n + 1) X) (si : SI W) (mk : Mk U.G.K (U.G.ca c) (U.G.fa i)) (hmg : U.mg x = some (.ref (U.G.ca c))) (b : FnB U i ps k F) (hk : k ≤ n) (ht : EA X U.G U.xn W (e :: es) t) {j : Nat} (hlen : LenOf t j) (hj : j + 1 = ps.length)
    (hg : sc.names.lookup x = some .globalImplicit) (hdb : (x == ("__debug__" : Str)) = false := by decide +kernel) (he : starEach (e :: es) X.env = (false, eval e X.env) :: starEach es X.env := by rfl) (hpl : (backTo pos (starEach es X.env)).any (·.1) = false := by rfl) :
    EX X U.G U.xn W (.Call (.Name x p) (e :: es) [] pos) (mkM c F t) := by
  obtain ⟨fd, hb, fo⟩ := b.ok
  have fo' : FnOk X.prog X.w X.K X.mg X.base (L2.CX X.prog X.w) n (U.G.fa i) fd ps (spF U.G U.xn ps.length F) := by rw [ct.P, ct.w, ct.K, ct.mg, ct.base]; exact fo.mono hk
  refine PE.imp (pe_make (by rw [ct.K]; exact mk) fo' ct.room (ct.gl hg) (by rw [ct.mg]; exact hmg) (by rw [ct.K]; exact hb) .nil (passU ct) ht hdb he hpl) fun σ H Q ⟨ρ, L, M, rl, h⟩ => ⟨ρ, L, M, rl, ?_⟩
  have h2 := fun L2 M2 ds => hlen L M ds L2 M2
  unfold mkM at h
  revert h h2
  generalize t L M = r
  intro h h2
  cases r with
  | stk => exact h
  | err y L2 M2 => exact h
  | ok ds L1 M1 =>
    intro ρ1 H1 vs s1 r1 rr a dx ha hdx hne
    have g1 : GR H1 (upd H1 dx (.own a)) := upd_grow hdx
    have ha' : upd H1 dx (.own a) a = none := by rw [upd_ne (fun z => hne z.symm)]; exact ha
    have g2 : GR H1 (upd (upd H1 dx (.own a)) a (.ins (U.G.ca c) dx [])) := fun b u e => upd_grow ha' b u (g1 b u e)
    have nt := r1.notin ha
    have pre : ρ1 <+: ρ1 ++ [a] := List.prefix_append _ _
    have r2 : Rl U.G (ρ1 ++ [a]) (upd (upd H1 dx (.own a)) a (.ins (U.G.ca c) dx [])) L1 σ (M1 ++ [.inst c []]) := (r1.grow g2).newObj nt.1 nt.2 ⟨dx, [], upd_same, .nil⟩
    have s2 : Stp ρ1 H1 (ownA L1 σ) (ρ1 ++ [a]) (upd (upd H1 dx (.own a)) a (.ins (U.G.ca c) dx [])) (ownA L1 σ) := (Stp.grow g2).newObj (.none ha)
    have robj : R U.G (ρ1 ++ [a]) (upd (upd H1 dx (.own a)) a (.ins (U.G.ca c) dx [])) (.obj M1.length) (.ref a) := .obj (by rw [← r1.len, List.getElem?_append_right (Nat.le_refl _)]; simp)
    refine ⟨ρ1 ++ [a], M1 ++ [.inst c []], .obj M1.length :: ds, r2.bare, by rw [List.append_nil]; exact .cons robj (rr.mono pre (Ext.of g2)), ?_, ?_⟩
    · rw [List.append_nil, List.length_cons, ← rr.length, h2 L1 M1 ds rfl]; exact hj
    · have h3 := XP.shift (L1 := L1) h s1
      have h4 : XP U.G U.xn W ρ1 H1 L1 σ (match F (.obj M1.length :: ds) (M1 ++ [.inst c []]) with | .ok .non M' => .ok (.obj M1.length) L1 M' | .ok _ _ => .stk | .err y M' => .err y L1 M' | .stk => .stk) Q := h3
      clear h3
      revert h4
      generalize F (.obj M1.length :: ds) (M1 ++ [.inst c []]) = fr
      intro h4
      cases fr with
      | stk => exact h4
      | err y M' => exact fun ρ' H' cls dd s a' re σ' => si _ _ _ _ _ (h4 ρ' H' cls dd (s2.trans s.own0) (r2.back s a') re)
      | ok d M' =>
        cases d with
        | non =>
          intro ρ' H' v s a' rv
          cases rv.non'
          exact ⟨rfl, h4 ρ' H' _ (s2.trans s.own0) (r2.back s a') (robj.mono s.pre s.ext)⟩
        | _ => exact h4.elim
end

/-! ### lists of the heap -/
section
variable {X : Cx} {U : Wd} {N : List Str} {sc : Scope} {W : WX} {n c k i : Nat} {ps : List Str} {F : MF} {e o : Expr} {es : List Expr} {mo m : MX} {t : MA} {f : Str} {pos apos cpos p : Pos} {x : Str} {G : Gb} {xn : Nat → Option Str}
def lstAt (M : MM) (d : D) : Option (Nat × List D) := match d with
  | .obj j => match M[j]? with
    | some (.list ds) => some (j, ds)
    | _ => none
  | _ => none
theorem lstAt_eq {M : MM} {d : D} {j : Nat} {ds : List D} (h : lstAt M d = some (j, ds)) : d = .obj j ∧ M[j]? = some (.list ds) := by
  unfold lstAt at h
  split at h
  · split at h
    · rename_i e; cases h; exact ⟨rfl, e⟩
    · cases h
  · cases h
theorem Rl.lst {ρ : List Addr} {H : Hp} {L : LL} {σ : L2.St} {M : MM} (r : Rl G ρ H L σ M) {j : Nat} {ds : List D} (h : M[j]? = some (.list ds)) {v : V} (rv : R G ρ H (.obj j) v) : ∃ a vs, v = .ref a ∧ ρ[j]? = some a ∧ H a = some (.lst vs) ∧ Rs G ρ H ds vs := by
  obtain ⟨a, q1, vs, q2, q3⟩ := r.ob j _ h
  cases rv with
  | obj e => rw [q1] at e; cases e; exact ⟨a, vs, rfl, q1, q2, q3⟩
theorem Rl.setLst {ρ : List Addr} {H : Hp} {L : LL} {σ : L2.St} {M : MM} (r : Rl G ρ H L σ M) {j : Nat} {a : Addr} {vs us : List V} {es : List D} (h : ρ[j]? = some a) (ha : H a = some (.lst vs)) (rr : Rs G ρ H es us) :
    Rl G ρ (upd H a (.lst us)) L σ (M.set j (.list es)) ∧ Stp ρ H (ownA L σ) ρ (upd H a (.lst us)) (ownA L σ) :=
  r.updObj h ha True.intro (fun _ z => nomatch z) (fun _ z => nomatch z) ⟨us, upd_same, rr.mono (List.prefix_refl _) (ext_upd ha rfl)⟩
/-- o.append(e) -/
def appO (mo m : MX) : MX := fun L M => (mo L M).bind fun o L1 M1 => match lstAt M1 o with
  | some _ => (m L1 M1).bind fun d L2 M2 => match lstAt M2 o with
    | some (j, ds) => if ds.length < sizeLine then .ok .non L2 (M2.set j (.list (ds ++ [d]))) else .stk
    | none => .stk
  | none => .stk
theorem ex_appO (ho : EX X G xn W o mo) (he : EX X G xn W e m)
    (h1 : attributeBase o "append" X.env (eval o X.env) = eval o X.env := by rfl)
    (h2 : ((backTo cpos (starEach [e] X.env)).all (!·.1) && (backToKw cpos (keywordEach [] X.env)).all (·.1.isSome) && decide ([e].length + ([] : List Keyword).length + (if ([] : List Keyword).isEmpty then 0 else 1) < 30)) = true := by rfl)
    (h3 : (apos.endLine == cpos.line) = true := by rfl) (h4 : starEach [e] X.env = (false, eval e X.env) :: starEach [] X.env := by rfl) (h5 : (backTo cpos (starEach [] X.env)).any (·.1) = false := by rfl) :
    EX X G xn W (.Call (.Attribute o "append" apos) [e] [] cpos) (appO mo m) := by
  refine PE.imp (pe_bm PySem.F.plainAttrs_list PySem.F.slot_list_append PySem.F.type_list_append mt_append ho (pa_cons he pa_nil h4) h1 h2 h3 h4 h5) fun σ H Q ⟨ρ, L, M, rl, h⟩ => ⟨ρ, L, M, rl, XP.mono (XP.bind h) ?_⟩
  rintro x H1 ⟨ρ1, L1, M1, d, s1, r1, rv, q⟩
  dsimp only at q
  split at q
  · rename_i p0 e0
    obtain ⟨j0, ds0⟩ := p0
    obtain ⟨ed, e0'⟩ := lstAt_eq e0
    subst ed
    obtain ⟨a, vs, rfl, k1, k2, k3⟩ := r1.lst e0' rv
    refine ⟨.inl ⟨rfl, vs, SqL.of k2⟩, ρ1, L1, M1, r1, XP.mono (XP.bind q) ?_⟩
    rintro y H2 ⟨ρ2, L2, M2, d2, s2, r2, ry, q2⟩
    dsimp only at q2
    split at q2
    · rename_i j ds e2
      obtain ⟨ej, e2⟩ := lstAt_eq e2
      cases ej
      split at q2
      · rename_i hz
        obtain ⟨a', ws, ea, l1, l2, l3⟩ := r2.lst e2 (rv.step s2)
        cases ea
        obtain ⟨r3, s3⟩ := r2.setLst l1 l2 (l3.append (.cons ry .nil))
        exact ⟨a, ws, y, rfl, rfl, l2, by rw [← l3.length]; exact hz, q2 ρ2 _ .non s3 r3 .non⟩
      · exact q2.elim
    · exact q2.elim
  · exact q.elim
/-- o.pop() -/
def popO (mo : MX) : MX := fun L M => (mo L M).bind fun o L1 M1 => match lstAt M1 o with
  | some (j, ds) => match ds[ds.length - 1]? with
    | some d => .ok d L1 (M1.set j (.list ds.dropLast))
    | none => .stk
  | none => .stk
theorem ex_popO (ho : EX X G xn W o mo) (h1 : attributeBase o "pop" X.env (eval o X.env) = eval o X.env := by rfl) (h3 : (apos.endLine == cpos.line) = true := by rfl) :
    EX X G xn W (.Call (.Attribute o "pop" apos) [] [] cpos) (popO mo) := by
  refine PE.imp (pe_bm0 PySem.F.plainAttrs_list PySem.F.slot_list_pop PySem.F.type_list_pop mt_pop ho h1 h3) fun σ H Q ⟨ρ, L, M, rl, h⟩ => ⟨ρ, L, M, rl, XP.mono (XP.bind h) ?_⟩
  rintro x H1 ⟨ρ1, L1, M1, d, s1, r1, rv, q⟩
  dsimp only at q
  split at q
  · rename_i j ds e0
    obtain ⟨ej, e0'⟩ := lstAt_eq e0
    subst ej
    split at q
    · rename_i z hz
      obtain ⟨a, vs, rfl, k1, k2, k3⟩ := r1.lst e0' rv
      obtain ⟨w, hw, rw'⟩ := k3.get hz
      obtain ⟨r3, s3⟩ := r1.setLst k1 k2 k3.dropLast
      exact ⟨.inl ⟨rfl, vs, SqL.of k2⟩, a, vs, w, rfl, rfl, k2, by rw [← k3.length]; exact hw, q ρ1 _ w s3 r3 (rw'.step s3)⟩
    · exact q.elim
  · exact q.elim
/-- o.pop(e) -/
def popAO (mo m : MX) : MX := fun L M => (mo L M).bind fun o L1 M1 => match lstAt M1 o with
  | some _ => (m L1 M1).bind fun k L2 M2 => match k, lstAt M2 o with
    | .int k, some (j, ds) => match popAt ds k with
      | some p => .ok p.1 L2 (M2.set j (.list p.2))
      | none => .stk
    | _, _ => .stk
  | none => .stk
theorem ex_popAO (ho : EX X G xn W o mo) (he : EX X G xn W e m)
    (h1 : attributeBase o "pop" X.env (eval o X.env) = eval o X.env := by rfl)
    (h2 : ((backTo cpos (starEach [e] X.env)).all (!·.1) && (backToKw cpos (keywordEach [] X.env)).all (·.1.isSome) && decide ([e].length + ([] : List Keyword).length + (if ([] : List Keyword).isEmpty then 0 else 1) < 30)) = true := by rfl)
    (h3 : (apos.endLine == cpos.line) = true := by rfl) (h4 : starEach [e] X.env = (false, eval e X.env) :: starEach [] X.env := by rfl) (h5 : (backTo cpos (starEach [] X.env)).any (·.1) = false := by rfl) :
    EX X G xn W (.Call (.Attribute o "pop" apos) [e] [] cpos) (popAO mo m) := by
  refine PE.imp (pe_bm PySem.F.plainAttrs_list PySem.F.slot_list_pop PySem.F.type_list_pop mt_popAt ho (pa_cons he pa_nil h4) h1 h2 h3 h4 h5) fun σ H Q ⟨ρ, L, M, rl, h⟩ => ⟨ρ, L, M, rl, XP.mono (XP.bind h) ?_⟩
  rintro x H1 ⟨ρ1, L1, M1, d, s1, r1, rv, q⟩
  dsimp only at q
  split at q
  · rename_i p0 e0
    obtain ⟨j0, ds0⟩ := p0
    obtain ⟨ed, e0'⟩ := lstAt_eq e0
    subst ed
    obtain ⟨a, vs, rfl, k1, k2, k3⟩ := r1.lst e0' rv
    refine ⟨.inl ⟨rfl, vs, SqL.of k2⟩, ρ1, L1, M1, r1, XP.mono (XP.bind q) ?_⟩
    rintro y H2 ⟨ρ2, L2, M2, d2, s2, r2, ry, q2⟩
    dsimp only at q2
    split at q2
    · rename_i kk j ds e2
      obtain ⟨ej, e2⟩ := lstAt_eq e2
      cases ej
      split at q2
      · rename_i pp hp
        obtain ⟨b1, b2, j', hj, hd, hp2⟩ := popAt_eq hp
        obtain ⟨a', ws, ea, l1, l2, l3⟩ := r2.lst e2 (rv.step s2)
        cases ea
        cases ry.int'
        obtain ⟨w, hw, rw'⟩ := l3.get hd
        obtain ⟨r3, s3⟩ := r2.setLst l1 l2 (l3.eraseIdx j')
        rw [hp2] at q2
        exact ⟨a, ws, kk, j', w, rfl, rfl, l2, b1, b2, by rw [← l3.length]; exact hj, hw, q2 ρ2 _ w s3 r3 (rw'.step s3)⟩
      · exact q2.elim
    · exact q2.elim
  · exact q.elim
/-- x == [], x != [] -/
def emD (d : D) : Option Bool := match d with
  | .lst ds => if depA ds ≤ 59 then some ds.isEmpty else none
  | _ => none
def emM (neg : Bool) (m : MX) : MX := fun L M => (m L M).bind fun d L M => match emD d with
  | some b => .ok (.bl (if neg then !b else b)) L M
  | none => .stk
theorem emD_eq {d : D} {b : Bool} (h : emD d = some b) : ∃ ds, d = .lst ds ∧ depA ds ≤ 59 ∧ eqv (.lst ds) (.lst []) = b := by
  unfold emD at h
  split at h
  · rename_i ds
    split at h
    · rename_i hz
      cases h
      refine ⟨ds, rfl, hz, ?_⟩
      cases ds <;> rfl
    · cases h
  · cases h
theorem em_read (ct : Ct U N sc W n X) {m : MX} {neg : Bool} {op : Value → Value → Sem Value} {σ : L2.St} {H : Hp} {Q : VK}
    (h : tX U.G U.xn W (emM neg m) σ H Q) : tOp (fun x y H Q => ∃ d e, Dp X.K H x d ∧ Dp X.K H y e ∧ SeqAt.shaped d = true ∧ SeqAt.shaped e = true ∧ Q (.bl (if neg then !PyData.eqv d e else PyData.eqv d e)) H) (tB U.G U.xn W m) (tLst tNil) σ H Q := by
  obtain ⟨ρ, L, M, rl, h⟩ := h
  refine ⟨ρ, L, M, rl, XB.mono (XB.bind h) ?_⟩
  rintro x H1 ⟨ρ1, L1, M1, d, s1, r1, rv, q⟩
  cases q0 : emD d with
  | none => rw [q0] at q; exact q.elim
  | some b =>
    rw [q0] at q
    obtain ⟨ds, rfl, hz, hb⟩ := emD_eq q0
    refine ⟨Nat.zero_le _, fun p hp => ?_⟩
    have g := upd_grow (o := .lst []) hp
    obtain ⟨ps, e1, _, _⟩ := pys_dep (xs := ds) (by omega)
    have e2 : py (.lst ds) = some (.list ps) := by simp only [py, e1, Option.map]
    have e3 : py (.lst []) = some (.list []) := rfl
    have dp : Dp X.K (upd H1 p (.lst [])) x (.list ps) := by
      rw [ct.K]
      cases rv with
      | r rv => exact (rv.mono (List.prefix_refl _) (Ext.of g)).dp e2
      | l hl rr => exact .lst (.of (g _ _ hl)) ((rr.mono (List.prefix_refl _) (Ext.of g)).dp e1)
    refine ⟨.list ps, .list [], dp, .lst (.of upd_same) .nil, shaped_dep (d := .lst ds) (by simp only [dep]; omega) e2, rfl, ?_⟩
    rw [eqv_py e2 e3, hb]
    exact q ρ1 _ _ (Stp.grow g) (r1.grow g) (.bl _)
theorem ex_eqE (ct : Ct U N sc W n X) (he : EXB X U.G U.xn W e m) (hm : behindInMarks .Eq (.List [] p) = false := by first | rfl | exact nomark _) : EX X U.G U.xn W (.Compare e [.Eq] [.List [] p] pos) (emM false m) :=
  PE.imp (pe_cmpR (op_eqD (by have := ct.room.un; omega)) he (pe_lst pa_nil) hm) fun σ H Q h => em_read ct (op := compareOp .Eq) h
theorem ex_neE (ct : Ct U N sc W n X) (he : EXB X U.G U.xn W e m) (hm : behindInMarks .NotEq (.List [] p) = false := by first | rfl | exact nomark _) : EX X U.G U.xn W (.Compare e [.NotEq] [.List [] p] pos) (emM true m) :=
  PE.imp (pe_cmpR (op_neD (by have := ct.room.un; omega)) he (pe_lst pa_nil) hm) fun σ H Q h => em_read ct (op := compareOp .NotEq) h
end
end KK

namespace KK
open PySem PySem.Spec PyProof.Rows L2

/-! ### dicts of texts, on the heap -/
def keysT (kvs : List (Str × D)) : List Key := kvs.map fun p => Sum.inr p.1
section
variable {G : Gb} {ρ : List Addr} {H : Hp}
theorem look_val {f : Str} {d : D} : ∀ {kvs : List (Str × D)} {vs : List V}, Rs G ρ H (kvs.map (·.2)) vs → lookD f kvs = some d → ∃ v, valV ((keysT kvs).zip vs) (Sum.inr f : Key) = some v ∧ R G ρ H d v
  | [], vs, h, e => by cases e
  | (g, x) :: fs, vs, h, e => by
    cases h with
    | @cons _ _ v vs q t =>
      unfold lookD at e
      by_cases z : f = g
      · rw [if_pos z] at e; cases e
        exact ⟨v, by unfold keysT; simp [valV, List.find?_cons, z], q⟩
      · rw [if_neg z] at e
        obtain ⟨u, h1, h2⟩ := look_val t e
        refine ⟨u, ?_, h2⟩
        have z' : ¬ g = f := fun q => z q.symm
        unfold keysT at h1 ⊢
        simpa [valV, List.find?_cons, z'] using h1
theorem put_rel {f : Str} {d : D} {y : V} (r : R G ρ H d y) : ∀ {kvs : List (Str × D)} {vs : List V}, Rs G ρ H (kvs.map (·.2)) vs → lookD f kvs ≠ none → (kvs.map (·.1)).Nodup →
    ∃ us, putK ((keysT kvs).zip vs) (Sum.inr f : Key) y = (keysT (putD f d kvs)).zip us ∧ Rs G ρ H ((putD f d kvs).map (·.2)) us := by
  have aux : ∀ {kvs : List (Str × D)} {vs : List V}, Rs G ρ H (kvs.map (·.2)) vs → f ∉ kvs.map (·.1) → (((keysT kvs).zip vs).map fun kv => if kv.1 = (Sum.inr f : Key) then (kv.1, y) else kv) = (keysT kvs).zip vs := by
    intro kvs
    induction kvs with
    | nil => intro vs h _; rfl
    | cons p kvs ih =>
      intro vs h nf
      cases h with
      | @cons _ _ v vs q t =>
        have n1 : ¬ p.1 = f := fun z => nf (by simp [z])
        have n2 : f ∉ kvs.map (·.1) := fun z => nf (by simp at z ⊢; exact .inr z)
        have := ih t n2
        unfold keysT at this ⊢
        simp only [List.map_cons, List.zip_cons_cons, Sum.inr.injEq, n1, if_false]
        rw [this]
  have main : ∀ {kvs : List (Str × D)} {vs : List V}, Rs G ρ H (kvs.map (·.2)) vs → lookD f kvs ≠ none → (kvs.map (·.1)).Nodup →
      (((keysT kvs).zip vs).any fun kv => decide (kv.1 = (Sum.inr f : Key))) = true ∧ ∃ us, (((keysT kvs).zip vs).map fun kv => if kv.1 = (Sum.inr f : Key) then (kv.1, y) else kv) = (keysT (putD f d kvs)).zip us ∧ Rs G ρ H ((putD f d kvs).map (·.2)) us := by
    intro kvs
    induction kvs with
    | nil => intro vs h n; exact absurd rfl n
    | cons p kvs ih =>
      intro vs h n nd
      obtain ⟨g, x⟩ := p
      cases h with
      | @cons _ _ v vs q t =>
        rw [List.map_cons, List.nodup_cons] at nd  -- 83
        by_cases z : g = f
        · subst z
          refine ⟨by unfold keysT; simp, y :: vs, ?_, ?_⟩
          · have := aux (kvs := kvs) t nd.1
            unfold keysT at this ⊢
            unfold putD
            rw [if_pos rfl]
            simp only [List.map_cons, List.zip_cons_cons, if_true]
            rw [this]
          · unfold putD; rw [if_pos rfl]; exact .cons r t
        · have n' : lookD f kvs ≠ none := fun e => n (by unfold lookD; rw [if_neg (fun q => z q.symm)]; exact e)
          obtain ⟨h1, us, h2, h3⟩ := ih t n' nd.2
          refine ⟨by unfold keysT at h1 ⊢; simp only [List.map_cons, List.zip_cons_cons, List.any_cons]; rw [h1]; simp, v :: us, ?_, ?_⟩
          · unfold keysT at h2 ⊢
            unfold putD
            rw [if_neg z]
            simp only [List.map_cons, List.zip_cons_cons, Sum.inr.injEq, z, if_false]
            rw [h2]
          · unfold putD; rw [if_neg z]; exact .cons q h3
  intro kvs vs h n nd
  obtain ⟨h1, us, h2, h3⟩ := main h n nd
  exact ⟨us, by unfold putK; rw [if_pos h1]; exact h2, h3⟩
end
def dicAt (M : MM) (d : D) : Option (Nat × List (Str × D)) := match d with
  | .obj j => match M[j]? with
    | some (.dict ds) => some (j, ds)
    | _ => none
  | _ => none
theorem dicAt_eq {M : MM} {d : D} {j : Nat} {ds : List (Str × D)} (h : dicAt M d = some (j, ds)) : d = .obj j ∧ M[j]? = some (.dict ds) := by
  unfold dicAt at h
  split at h
  · split at h
    · rename_i e; cases h; exact ⟨rfl, e⟩
    · cases h
  · cases h
section
variable {X : Cx} {U : Wd} {N : List Str} {sc : Scope} {W : WX} {n : Nat} {e o : Expr} {mo m : MX} {pos kp tp : Pos} {x : Str} {G : Gb} {xn : Nat → Option Str} {j : Nat}
theorem Rl.dic {ρ : List Addr} {H : Hp} {L : LL} {σ : L2.St} {M : MM} (r : Rl G ρ H L σ M) {j : Nat} {ds : List (Str × D)} (h : M[j]? = some (.dict ds)) {v : V} (rv : R G ρ H (.obj j) v) : ∃ a vs, v = .ref a ∧ ρ[j]? = some a ∧ H a = some (.dK ((keysT ds).zip vs)) ∧ Rs G ρ H (ds.map (·.2)) vs := by
  obtain ⟨a, q1, vs, q2, q3⟩ := r.ob j _ h
  cases rv with
  | obj e => rw [q1] at e; cases e; exact ⟨a, vs, rfl, q1, q2, q3⟩
/-- o['x'] -/
def dgM (x : Str) (mo : MX) : MX := fun L M => (mo L M).bind fun o L1 M1 => match dicAt M1 o with
  | some (_, ds) => match lookD x ds with
    | some z => .ok z L1 M1
    | none => .stk
  | none => .stk
theorem ex_dg (ct : Ct U N sc W n X) (ho : EX X U.G U.xn W o mo) (hs : NoSl (.Constant (.str x) j kp) := by intro _ _; rfl) : EX X U.G U.xn W (.Subscript o (.Constant (.str x) j kp) pos) (dgM x mo) := by
  refine PE.imp (pe_dget (by have := ct.room.un; omega) ho pe_str hs) fun σ H Q ⟨ρ, L, M, rl, h⟩ => ⟨ρ, L, M, rl, XP.mono (XP.bind h) ?_⟩
  rintro v H1 ⟨ρ1, L1, M1, d, s1, r1, rv, q⟩
  dsimp only at q
  split at q
  · rename_i j ds e0
    obtain ⟨ed, e0'⟩ := dicAt_eq e0
    subst ed
    split at q
    · rename_i z hz
      obtain ⟨a, vs, rfl, k1, k2, k3⟩ := r1.dic e0' rv
      obtain ⟨w, w1, w2⟩ := look_val k3 hz
      exact ⟨a, w, rfl, w1 ▸ DGet.k (k := Sum.inr x) k2, q ρ1 H1 w Stp.refl r1 w2⟩
    · exact q.elim
  · exact q.elim
/-- o['x'] = e, the key is there -/
def dpM (x : Str) (mo m : MX) : MS := fun L M => match m L M with
  | .ok d L1 M1 => match mo L1 M1 with
    | .ok o L2 M2 => match dicAt M2 o with
      | some (j, ds) => if lookD x ds ≠ none ∧ ds.length < 1000 ∧ (ds.map (·.1)).Nodup then .nx L2 (M2.set j (.dict (putD x d ds))) else .stk
      | none => .stk
    | .err y L1 M1 => .err y L1 M1
    | .stk => .stk
  | .err y L1 M1 => .err y L1 M1
  | .stk => .stk
theorem es_dp (ct : Ct U N sc W n X) (ho : EX X U.G U.xn W o mo) (he : EX X U.G U.xn W e m) (hs : swapsWith e (some (.Subscript o (.Constant (.str x) j kp) tp)) pos.line X.env = pure false := by rfl) :
    ES X U.G U.xn W (.Assign [.Subscript o (.Constant (.str x) j kp) tp] e pos) (dpM x mo m) := by
  refine PS.imp (ps_dput (by have := ct.room.un; omega) ho pe_str he hs) fun Z σ H ⟨ρ, L, M, rl, h⟩ => ⟨ρ, L, M, rl, ?_⟩
  unfold dpM at h
  refine XP.toO (Z := Z) (k := fun d L1 M1 => match mo L1 M1 with
    | .ok o L2 M2 => match dicAt M2 o with
      | some (j, ds) => if lookD x ds ≠ none ∧ ds.length < 1000 ∧ (ds.map (·.1)).Nodup then .nx L2 (M2.set j (.dict (putD x d ds))) else .stk
      | none => .stk
    | .err y L1 M1 => .err y L1 M1
    | .stk => .stk) h fun ρ1 H1 d L1 M1 y s1 r1 rv h1 => ⟨ρ1, L1, M1, r1, ?_⟩
  refine XP.toO (Z := Z) (k := fun o L2 M2 => match dicAt M2 o with
      | some (j, ds) => if lookD x ds ≠ none ∧ ds.length < 1000 ∧ (ds.map (·.1)).Nodup then .nx L2 (M2.set j (.dict (putD x d ds))) else .stk
      | none => .stk) h1 fun ρ2 H2 ob L2 M2 u s2 r2 rx h2 => ?_
  split at h2
  · rename_i j ds e0
    obtain ⟨ed, e0'⟩ := dicAt_eq e0
    subst ed
    split at h2
    · rename_i hz
      obtain ⟨a, vs, rfl, k1, k2, k3⟩ := r2.dic e0' rx
      obtain ⟨us, w1, w2⟩ := put_rel (f := x) (rv.step s2) k3 hz.1 hz.2.2
      have hl : ((keysT ds).zip vs).length < sizeLine := by
        have : ((keysT ds).zip vs).length ≤ ds.length := by unfold keysT; rw [List.length_zip, List.length_map]; omega
        have : (1000 : Nat) ≤ sizeLine := by decide
        omega
      obtain ⟨r3, s3⟩ := r2.updObj (u := .dK (putK ((keysT ds).zip vs) (Sum.inr x) y)) (o' := .dict (putD x d ds)) k1 k2 True.intro (fun _ z => nomatch z) (fun _ z => nomatch z)
        ⟨us, by rw [upd_same, w1]; rfl, w2.mono (List.prefix_refl _) (ext_upd k2 rfl)⟩
      exact ⟨a, _, rfl, DPut.k (k := Sum.inr x) k2 hl, h2 ρ2 _ σ s3 r3⟩
    · exact h2.elim
  · exact h2.elim

/-! {'x': e, ..}: a new dict on the heap -/
def trsOf (G : Gb) (xn : Nat → Option Str) (W : WX) : List (Str × MX) → List (TE × TE)
  | [] => []
  | (x, m) :: r => (tC (.str x), tX G xn W m) :: trsOf G xn W r
def pairsA : List (Str × MX) → MA
  | [] => nilA
  | (_, m) :: r => consA m (pairsA r)
theorem edp_nil {xps : Pos} : PPs X xps [] [] (trsOf G xn W []) := pps_nil
theorem edp_cons {xps : Pos} {ks : List (Option Expr)} {vs : List Expr} {ps : List (Str × MX)} (he : EX X G xn W e m) (hr : PPs X xps ks vs (trsOf G xn W ps)) : PPs X xps (some (.Constant (.str x) j kp) :: ks) (e :: vs) (trsOf G xn W ((x, m) :: ps)) := pps_cons pe_str he hr
theorem pairs_read {ps : List (Str × MX)} {ρ : List Addr} {H : Hp} {L : LL} {σ : L2.St} {M : MM} (rl : Rl G ρ H L σ M) {Q : List (V × V) → Hp → Prop}
    (h : XA G xn W ρ H L σ (pairsA ps L M) fun vs H1 => Q ((ps.map fun p => V.str p.1).zip vs) H1) : tPairs (trsOf G xn W ps) σ H Q := by
  induction ps generalizing ρ H L M Q with
  | nil => exact h ρ H [] Stp.refl rl .nil
  | cons p ps ih =>
    obtain ⟨x, m⟩ := p
    show tX G xn W m σ H fun y H2 => tPairs (trsOf G xn W ps) σ H2 fun qs H3 => Q ((V.str x, y) :: qs) H3
    refine ⟨ρ, L, M, rl, ?_⟩
    unfold pairsA consA at h
    cases e1 : m L M with
    | stk => rw [e1] at h; exact h
    | err z L1 M1 => rw [e1] at h; exact h
    | ok d L1 M1 =>
      rw [e1] at h
      dsimp only at h
      intro ρ1 H1 v s1 r1 rv
      refine ih r1 ?_
      cases e2 : pairsA ps L1 M1 with
      | stk => rw [e2] at h; exact h
      | err z L2 M2 => rw [e2] at h; exact fun ρ' H' cls dd s' => h ρ' H' cls dd (s1.trans s')
      | ok es L2 M2 =>
        rw [e2] at h
        exact fun ρ2 H2 vs s2 r2 rr => h ρ2 H2 (v :: vs) (s1.trans s2) r2 (.cons (rv.step s2) rr)
def dicX (ps : List (Str × MX)) : MX := fun L M => (pairsA ps L M).bind fun ds L M => .ok (.obj M.length) L (M ++ [.dict ((ps.map (·.1)).zip ds)])
theorem merge_id {kvs : List (Key × V)} (h : (kvs.map (·.1)).Nodup) : mergeK [] kvs = kvs := by
  have : ∀ (more acc : List (Key × V)), ((acc ++ more).map (·.1)).Nodup → more.foldl (fun acc kv => putK acc kv.1 kv.2) acc = acc ++ more := by
    intro more
    induction more with
    | nil => intro acc _; simp
    | cons p more ih =>
      intro acc nd
      have e : putK acc p.1 p.2 = acc ++ [p] := by
        unfold putK
        rw [if_neg]
        intro z
        obtain ⟨q, hq, e⟩ := List.any_eq_true.mp z
        have e' : q.1 = p.1 := by simpa using e
        rw [List.map_append, List.nodup_append] at nd
        exact nd.2.2 q.1 (List.mem_map_of_mem hq) p.1 (by simp) e'
      rw [List.foldl_cons, e, ih (acc ++ [p]) (by simpa using nd)]
      simp
  exact this kvs [] (by simpa using h)
theorem key_zip : ∀ (ps : List (Str × MX)) (us : List V), (ps.map fun p => V.str p.1).zip us = ((ps.map fun p => (Sum.inr p.1 : Key)).zip us).map fun kv => (kV kv.1, kv.2)
  | [], us => by simp
  | p :: ps, [] => by simp
  | p :: ps, u :: us => by
    simp only [List.map_cons, List.zip_cons_cons, key_zip ps us]
    rfl
theorem ex_dic {ps : List (Str × MX)} {ks : List (Option Expr)} {vs : List Expr} (h : PPs X pos ks vs (trsOf G xn W ps)) (hn : (ps.map (·.1)).Nodup) (hz : ps.length ≤ 15)
    (hall : ks.all (·.isSome) = true := by rfl) (hl : ks.length = vs.length := by rfl) (h0 : ks ≠ [] := by simp) (h15 : ks.length ≤ 15 := by decide) : EX X G xn W (.Dict ks vs pos) (dicX ps) := by
  refine PE.imp (pe_disp h hall hl h0 h15) fun σ H Q ⟨ρ, L, M, rl, h⟩ p hp => ?_
  have g := upd_grow (o := .dK []) hp
  have rl' := rl.grow g
  refine pairs_read rl' ?_
  unfold dicX at h
  revert h
  have nt := rl.notin hp
  cases q : pairsA ps L M with
  | stk => exact fun h => h
  | err y L1 M1 => exact fun h ρ' H' cls dd s' => h ρ' H' cls dd ((Stp.grow g).trans s')
  | ok ds L1 M1 =>
    intro h ρ1 H1 us s1 r1 rr
    have hp1 : H1 p = some (.dK []) := s1.keep _ _ upd_same nt.1 nt.2 (fun _ z => nomatch z)
    have hne : ¬ Nw (upd H p (.dK [])) p := fun z => z.ne upd_same (fun _ z => nomatch z) rfl
    have n1 : p ∉ ρ1 := fun z => (s1.new _ z).elim nt.1 hne
    have n2 : p ∉ ownA L1 σ := fun z => (s1.own _ z).elim nt.2 hne
    have hlen : ds.length = ps.length := by
      have : ∀ (ps : List (Str × MX)) (L : LL) (M : MM) (ds : List D) (L1 : LL) (M1 : MM), pairsA ps L M = .ok ds L1 M1 → ds.length = ps.length := by
        intro ps
        induction ps with
        | nil => intro L M ds L1 M1 e; exact len_nil _ _ _ _ _ e
        | cons p ps ih => exact fun L M ds L1 M1 e => len_cons (m := p.2) (t := pairsA ps) (n := ps.length) (fun L M ds L' M' h => ih L M ds L' M' h) L M ds L1 M1 e
      exact this ps L M ds L1 M1 q
    have hul : us.length = ps.length := by rw [← rr.length]; exact hlen
    let kvs : List (Key × V) := (ps.map fun p => (Sum.inr p.1 : Key)).zip us
    have hk : kvs.map (·.1) = ps.map fun p => (Sum.inr p.1 : Key) := by
      show List.map Prod.fst (List.zip _ _) = _
      rw [List.map_fst_zip (by rw [List.length_map]; omega)]
    have hnd : (kvs.map (·.1)).Nodup := by
      rw [hk]
      have : (ps.map fun p => (Sum.inr p.1 : Key)) = (ps.map (·.1)).map Sum.inr := by rw [List.map_map]; rfl
      rw [this]
      exact List.Pairwise.map Sum.inr (fun a b h e => h (Sum.inr.inj e)) hn
    have e1 : (ps.map fun p => V.str p.1).zip us = kvs.map fun kv => (kV kv.1, kv.2) := by
      exact key_zip ps us
    refine ⟨hp1, kvs, e1, by show (List.zip _ _).length ≤ 15; rw [List.length_zip, List.length_map]; omega, ?_⟩
    rw [merge_id hnd]
    have ex : Ext H1 (upd H1 p (.dK kvs)) := ext_upd hp1 rfl
    have kp : ∀ b, b ∈ ownA L1 σ ++ ρ1 → ∀ u, H1 b = some u → upd H1 p (.dK kvs) b = some u := fun b hb u e => by
      rw [upd_ne (fun z => ?_)]
      · exact e
      · rcases List.mem_append.mp hb with w | w
        · exact n2 (z ▸ w)
        · exact n1 (z ▸ w)
    have r2 : Rl G ρ1 (upd H1 p (.dK kvs)) L1 σ M1 := r1.keep ex kp (Tabs.upd r1.tb hp1 (fun _ z => nomatch z) fun _ _ z => nomatch z)
    have pre : ρ1 <+: ρ1 ++ [p] := List.prefix_append _ _
    have r3 : Rl G (ρ1 ++ [p]) (upd H1 p (.dK kvs)) L1 σ (M1 ++ [.dict ((ps.map (·.1)).zip ds)]) := r2.newObj n1 n2 ⟨us, by
      rw [upd_same]
      have : ((ps.map (·.1)).zip ds).map (fun q => (Sum.inr q.1 : Key)) = ps.map fun p => (Sum.inr p.1 : Key) := by
        have e2 : ((ps.map (·.1)).zip ds).map (fun q => (Sum.inr q.1 : Key)) = (((ps.map (·.1)).zip ds).map Prod.fst).map Sum.inr := by rw [List.map_map]; rfl
        rw [e2, List.map_fst_zip (by rw [List.length_map]; omega), List.map_map]; rfl
      show some (HO.dK kvs) = some (HO.dK (List.zip _ us))
      rw [this], by
      have : ((ps.map (·.1)).zip ds).map (·.2) = ds := List.map_snd_zip (by rw [List.length_map]; omega)
      rw [this]
      exact rr.mono pre ex⟩
    have st : Stp ρ H (ownA L σ) ρ1 (upd H1 p (.dK kvs)) (ownA L1 σ) := ((Stp.grow g).trans s1).frz (.none hp) hp1 fun _ z => nomatch z
    refine h (ρ1 ++ [p]) _ _ (st.newObj (.none hp)) r3 (.obj ?_)
    rw [← r1.len, List.getElem?_append_right (Nat.le_refl _)]; simp
end
end KK

namespace KK
open PySem PySem.Spec PyProof.Rows L2

/-! ### isinstance(x, C), C an own class: None, held exceptions, instances -/
section
open PySem.W
variable {prog : Program} {w : World} {A : Around} {E : Value → Shared → Prop} {s : Shared} {K : Frag} {x D : Addr} {ox : Obj} {od : Option Obj}
/-- e.__class__ of an exception of an own class, with or without a dict -/
theorem exc_cls {Q : Option Value → Shared → Prop} (F : ExcC K D) (X : K.In s.heap) (I : InstAt s.heap x ox D od) (h : Q (some (.ref D)) { s with toks := s.toks + 1 }) : wpAny (model prog w) A (getAttr? (.ref x) "__class__") Q E s := by
  have hf : findObj K D od "__class__" = some (.bind (.builtin "getset_descriptor.__get__") (.builtin "object.__class__")) := by
    obtain ⟨cd, hc, _⟩ := any_some F.hd
    unfold findObj
    rw [hc, Option.bind_some, F.ha, Option.bind_some]
    simp [F.hn, F.ht]
  obtain ⟨hp, g, d, t, os⟩ := s
  have T0 := I.type (M := model prog w)
  have T1 := looks_findIn (M := model prog w) X F.hg
  have T2 := looks_findIn (M := model prog w) X F.hk
  have T3 := looks_find (M := model prog w) X I hf
  have isB : Looks (model prog w) hp (isInstance (.ref x) (.type "BaseException")) true := T0.andThen (looks_subIn X F.hs)
  have n2 : (Value.builtin "BaseException.__getattribute__" == Value.builtin "object.__getattribute__") = false := by decide +kernel
  have n1 : (onTheHeap (Value.ref D) && Value.builtin "BaseException.__getattribute__" == Value.builtin "object.__getattribute__") = false := by rw [n2]; rfl
  have n0 : (false && onTheHeap (Value.builtin "BaseException.__getattribute__")) = false := rfl
  unfold getAttr? getAttrBy? getAttrBy; refine wpAny_bind (wpAny_mkText (wpAny_bind (wpAny_attempt (wpAny_holding (wpAny_bind (T0.at (wpAny_bind (T1.at ?_))))))))
  show wpAny _ _ (if (onTheHeap (Value.ref D) && Value.builtin "BaseException.__getattribute__" == Value.builtin "object.__getattribute__") = true then _ else _) _ _ _  -- 84
  rw [n1, if_neg Bool.false_ne_true]
  unfold getAttrByItsOwn hookBefore; refine wpAny_bind ?_
  rw [if_pos (show onTheHeap (Value.ref D) = true from rfl)]; refine T2.at (wpAny_bind (wpAny_attempt (wpAny_holding ?_)))
  unfold callGetattribute; rw [n0, if_neg Bool.false_ne_true]; unfold boundAndCalled; rw [PySem.F.excAttr_ValueError.ga.bind (.ref x)]
  refine wpAny_bind (wpAny_pure (?_ : wpAny _ _ (call (.builtin "BaseException.__getattribute__") [.ref x, .str "__class__" t]) _ _ _))
  refine wpAny_call (codeAny_call_builtin PySem.F.excAttr_ValueError.ga.plain PySem.F.entry_bexc_ga (@check_slot (model prog w) _ _ ⟨hp, g, d, t + 1, os⟩ "BaseException.__getattribute__" "BaseException" "__getattribute__" (.ref x) [.str "__class__" t] [] _ (by decide +kernel) (by decide +kernel) isB (PySem.F.args_bexc_ga (.ref x) (.str "__class__" t)) ?_))
  unfold Builtin.«object.__getattribute__»; refine wpAny_bind (wpAny_of_eq (a := ((Value.ref x : Value), [Value.str "__class__" t])) (by first | rfl | (simp only [slotArgs]; rfl)) ?_)
  refine wpAny_bind (wpAny_pure (wpAny_bind (T0.at (wpAny_bind (T3.at ?_)))))
  show wpAny _ _ (holding [Value.builtin "object.__class__"] (call (.builtin "getset_descriptor.__get__") [.builtin "object.__class__", .ref x, .ref D]) >>= ret) _ _ _  -- 85
  refine wpAny_bind (wpAny_holding (wpAny_call (class_get (s := ⟨hp, g, d, t + 1, os⟩) (ox := ox) (od := od) X I F.hm (wpAny_pure (?_ : wpAny _ _ (handedOut (.ref D)) _ _ _)))))
  rw [handedOut_of (v := .ref D) rfl]  -- 86
  first | exact wpAny_pure (wpAny_pure h) | exact wpAny_pure h | exact wpAny_pure (wpAny_bind (wpAny_pure (wpAny_pure h)))
theorem kitx_excX (F : ExcC K D) : KitX K (.ref x) (.ref D) (fun h => ∃ ox od, InstAt h x ox D od) where
  ty := fun _ _ _ ⟨_, _, I⟩ => I.type
  it := fun M h X _ => by
    obtain ⟨cd, hc, _⟩ := any_some F.hd
    unfold clsIn at hc
    split at hc
    · rename_i _ _ _ _ lk
      exact fun A' Q' E' s' kp w => by
        unfold isType loadHead
        exact wpAny_bind (wpAny_loadPart (kp _ _ (X _ _ lk)) (wpAny_pure w))
    · cases hc
  ne := fun h tp dd its n sl X htp => (handS_kitx_exc (x := x) (ox := { cls := .ref D, data := .plain }) F.hg F.hk F.hs F.hd F.ha F.hn F.ht F.hm).ne h tp dd its n sl X htp
  ca := fun X ⟨_, _, I⟩ k => exc_cls F X I k
end
theorem call_isX {X : Cx} : CallR X (.builtin "isinstance") (fun xs H Q => ∃ (a D : Addr) (dd : Option Addr) (c : V) (cv : Value) (b : Bool), xs = [.ref a, c] ∧ ExcC X.K D ∧ H a = some (XO (.ref D) dd a) ∧ (∀ d, dd = some d → ∃ fs, H d = some (.xd fs)) ∧ (∀ u, L2.RelV c u → u = cv) ∧ PySem.W.kitOne X.K (.ref D) cv = some b ∧ Q (.bl b) H) := by
  rintro pins s σ H xs us Q I r ⟨a, D, dd, c, cv, b, rfl, F, ha, hdd, hcv, e, k⟩
  obtain ⟨u1, u2, rfl, rx, rt⟩ := vals2 r
  cases rx
  have ec := hcv _ rt
  subst ec
  obtain ⟨⟨oe, vs, g, z, d⟩, _, _⟩ := I.hok a _ ha
  have J : ∃ ox od, PySem.W.InstAt s.heap a ox D od := by
    refine ⟨oe, ?_⟩
    obtain ⟨oc, dx, oda, osl⟩ := oe
    obtain ⟨z1, z2⟩ := z
    dsimp only at z1 z2 d
    subst z1 z2 d
    cases dx with
    | none => exact ⟨none, g, rfl, rfl, trivial⟩
    | some dx =>
      obtain ⟨fs, hx⟩ := hdd dx rfl
      obtain ⟨mA, hns, _⟩ := (show ObjOk X.prog X.w H s.heap dx (.xd fs) from I.hok dx _ hx)
      obtain ⟨o, es, ep, e1, _⟩ := hns
      exact ⟨some o, g, rfl, rfl, e1⟩
  exact PySem.W.kia_one (kitx_excX F) I.kIn J e (fun z => nomatch z) fun tk => ⟨.bl b, H, I.kept (t' := tk) fun _ _ z => z, rfl, k⟩
/-- what an own class says, so that isinstance asks its instances rightly -/
structure InsC (K : PySem.W.Frag) (C : Addr) : Prop where  -- 87
  cl : Cls K C
  ha : PySem.W.findIn K (.ref C) "__class__" = some (some (.builtin "object.__class__"))  -- 88
  hn : PySem.W.specialIn K (.builtin "object.__class__") "__get__" = some (some (.builtin "getset_descriptor.__get__"))  -- 89
  ht : PySem.W.takesIn K (.builtin "object.__class__") = some true  -- 90
  hm : PySem.W.mroIn K C (.type "object") = some true  -- 91
/-- the answers: of None, of a class of exceptions, of a class of instances -/
structure IsC (U : Wd) (C : Addr) (nb : Option Bool) (eb ib : Nat → Option Bool) : Prop where
  non : ∀ b, nb = some b → PySem.W.kitOne U.G.K (.type "NoneType") (.ref C) = some b
  exc : ∀ i b, eb i = some b → ExcC U.G.K (U.G.ca i) ∧ PySem.W.kitOne U.G.K (.ref (U.G.ca i)) (.ref C) = some b
  ins : ∀ i b, ib i = some b → InsC U.G.K (U.G.ca i) ∧ PySem.W.kitOne U.G.K (.ref (U.G.ca i)) (.ref C) = some b
def isAns (nb : Option Bool) (eb ib : Nat → Option Bool) (M : MM) : D → Option Bool
  | .non => nb
  | .exc c _ => eb c
  | .obj j => match M[j]? with
    | some (.inst c _) => ib c
    | _ => none
  | _ => none
def isCM (nb : Option Bool) (eb ib : Nat → Option Bool) (m : MX) : MX := fun L M => (m L M).bind fun d L M => match isAns nb eb ib M d with
  | some b => .ok (.bl b) L M
  | none => .stk
section
variable {X : Cx} {U : Wd} {N : List Str} {sc : Scope} {W : WX} {n : Nat} {p p2 pos : Pos}
theorem ex_isC (c : Ct U N sc W n X) {x : Str} {C : Addr} {nb : Option Bool} {eb ib : Nat → Option Bool} {e : Expr} {m : MX} (I : IsC U C nb eb ib) (he : EX X U.G U.xn W e m) (hmx : U.mg x = some (.ref C)) (hgx : sc.names.lookup x = some .globalImplicit)
    (hg : sc.names.lookup ("isinstance" : Str) = some .globalImplicit) (hm : U.mg "isinstance" = none) (hv : bootBuiltins "isinstance" = some (.builtin "isinstance")) (hdx : (x == ("__debug__" : Str)) = false)
    (hs : starEach [e, .Name x p2] X.env = (false, eval e X.env) :: starEach [.Name x p2] X.env := by rfl) (hs2 : starEach [.Name x p2] X.env = (false, eval (.Name x p2) X.env) :: starEach [] X.env := by rfl) (hp : (backTo pos (starEach [.Name x p2] X.env)).any (·.1) = false := by rfl) :
    EX X U.G U.xn W (.Call (.Name "isinstance" p) [e, .Name x p2] [] pos) (isCM nb eb ib m) := by
  have hty : PE X (.Name x p2) (tC (.ref C)) := pe_glob (c.gl hgx) (c.mg' hmx) rfl hdx
  refine PE.imp (pe_callB (call_isi.or call_isX) (c.gl hg) (c.mg' hm) hv (pa_cons he (pa_cons hty pa_nil hs2) hs) (by decide +kernel) (by decide +kernel) hs hp) fun σ H Q ⟨ρ, L, M, rl, h⟩ => ?_
  refine ⟨ρ, L, M, rl, XP.mono (XP.bind h) ?_⟩
  rintro v H1 ⟨ρ1, L1, M1, d, s1, r1, rv, h1⟩
  dsimp only at h1
  cases q : isAns nb eb ib M1 d with
  | none => rw [q] at h1; exact h1.elim
  | some b =>
    rw [q] at h1
    have fin : Q (.bl b) H1 := h1 ρ1 H1 _ Stp.refl r1 (.bl b)
    unfold isAns at q
    split at q
    · cases rv.non'
      exact .inl ⟨.non, .ref C, .type "NoneType", .ref C, b, rfl, .own C, .base .non, by rw [c.K]; exact I.non b q, fin⟩
    · rename_i i _
      obtain ⟨F, k⟩ := I.exc i b q
      cases rv with
      | @exc0 a _ ha => exact .inr ⟨a, _, none, .ref C, .ref C, b, rfl, by rw [c.K]; exact F, ha, fun _ z => (nomatch z), fun u hu => hu, by rw [c.K]; exact k, fin⟩
      | @exc1 a d _ f v z ha hd _ => exact .inr ⟨a, _, some d, .ref C, .ref C, b, rfl, by rw [c.K]; exact F, ha, fun _ z => by cases z; exact ⟨_, hd⟩, fun u hu => hu, by rw [c.K]; exact k, fin⟩
    · rename_i j
      split at q
      · rename_i i fs e0
        obtain ⟨F, k⟩ := I.ins i b q
        obtain ⟨a, q1, dx, vs, q2, q3⟩ := r1.ob j _ e0
        cases rv with
        | obj e1 =>
          rw [q1] at e1; cases e1
          exact .inl ⟨.ref a, .ref C, .ref (U.G.ca i), .ref C, b, rfl, .own C, .base (.ins q2 (by rw [c.K]; exact F.cl) (by rw [c.K]; exact F.ha) (by rw [c.K]; exact F.hn) (by rw [c.K]; exact F.ht) (by rw [c.K]; exact F.hm)), by rw [c.K]; exact k, fin⟩
      · cases q
    · cases q
end
end KK

namespace KK
open PySem PySem.Spec PyProof.Rows L2

/-! ### defs that are told that no repr is under way (no guard stands around the call) -/
structure FnG (P : Program) (w : World) (K : PySem.W.Frag) (mg : Str → Option Value) (base : Heap) (CX : CXT) (k : Nat) (f : Addr) (fd : FuncData) (ps : List Str) (sp : Sp) : Prop where
  len : ∀ vs H Q E, sp vs H Q E → vs.length = ps.length  -- 92
  run : ∀ (A : Around) (outer : List Env) (s : Shared) (H : Hp) (args : Args) (us : List Value) (vs : List V) (Q : VK) (E : XK), Room k A → A.guards = some [] → Env0 P w K mg base A outer s H → BindsTo s fd args (ps.zip us) → Vals vs us → sp vs H Q E →
    codeAny (model P w) A (.call (.ref f) args) (CR CX outer P w H s Q E) s  -- 93
section
variable {P : Program} {w : World} {K : PySem.W.Frag} {mg : Str → Option Value} {base : Heap}  -- 94
theorem FnG.mono {CX : CXT} {j k : Nat} {f : Addr} {fd : FuncData} {ps : List Str} {sp : Sp} (F : FnG P w K mg base CX j f fd ps sp) (h : j ≤ k) : FnG P w K mg base CX k f fd ps sp :=
  ⟨F.len, fun A outer s H args us vs Q E r => F.run A outer s H args us vs Q E (r.mono h)⟩
theorem fn_ofG {CX : CXT} {k : Nat} {f : Addr} {name qual : Str} {params : Arguments} {body : List Stmt} {scope : Scope} {dV kV doc pm cdv ct oc : Value} {an od : Option Addr} {osl : Array (Option Value)} {N ps : List Str} {sp : Sp}
    (lk : K.lookup f = some ⟨oc, od, .func (PySem.W.fnOf name qual params body scope dV kV doc pm an cdv ct), osl⟩) (hcd : PySem.W.codeIn K cdv qual = true) (S : FnScope N ps scope) (len : ∀ vs H Q E, sp vs H Q E → vs.length = ps.length)
    (hbody : ∀ (A : Around) (outer : List Env) (s : Shared) (H : Hp) (vs : List V) (Q : VK) (E : XK), Room k (A.deeper (envOfC qual scope s.heap.objs.size f cdv)) → (A.deeper (envOfC qual scope s.heap.objs.size f cdv)).guards = some [] → sp vs H Q E →
      ∃ t, PSs (cxOf CX P w K mg base N qual scope f cdv A outer s H E) body t ∧ t { nx := fun _ H' => Q .non H', rt := Q } (start N vs) H) :  -- 95
    FnG P w K mg base CX (k + 1) f (PySem.W.fnOf name qual params body scope dV kV doc pm an cdv ct) ps sp := by
  refine ⟨len, fun A outer s H args us vs Q E room guard e0 hb hv hsp => ?_⟩
  have hlen := len _ _ _ _ hsp
  have inK : K.In s.heap := e0.mod.kin.keeps fun b o e => (e0.bs b o e).1
  have lim : s.heap.NoLimit := e0.mod.nolimit.keeps fun b o e => (e0.bs b o e).1  -- 96
  have kinds : ∀ y ∈ ps.zip us, scope.names.lookup y.1 = some .local ∨ (scope.names.lookup y.1 = some .cell ∧ ((cellsFrom (s.heap.objs.size + 1) scope.names []).lookup y.1).isSome = true) := fun y hy =>
    (S.par y.1 (List.of_mem_zip hy).1).imp id fun q => ⟨q, PySem.W.cellsFrom_some _ _ _ (.inl q)⟩
  refine codeAny_call_function room.depth (inK _ _ lk) rfl S.co S.gen rfl (PySem.W.codeRec_of inK hcd) (hb _ _ _ _ (wpAny_newFunctionEnv_cells S.kind kinds fun env he s1 x => ?_))
  subst he
  refine ⟨lim.keeps x.toInCall.keep, codeAny_func ?_⟩  -- 97
  obtain ⟨t, ht, hq⟩ := hbody A outer s H vs Q E (room.deeper _) guard hsp
  have I : L2.Inv (cxOf CX P w K mg base N qual scope f cdv A outer s H E) [] (start N vs) H s1 := inv_start S room.hd e0 hlen hv x
  refine wpAny_mono (ht.run [] s1 (start N vs) H _ I hq) (fun fl s' hs => ?_) fun e s' hs => hs  -- 98
  cases fl with
  | ret u =>
    obtain ⟨v, σ', H', J, rv, q⟩ := hs  -- 99
    exact ⟨v, H', J.os, J.bare, J.base, J.hok, rv, q⟩
  | next =>
    obtain ⟨σ', H', J, q⟩ := hs
    exact ⟨.non, H', J.os, J.bare, J.base, J.hok, rfl, q⟩
  | brk => obtain ⟨_, _, _, q⟩ := hs; exact q.elim
  | cont => obtain ⟨_, _, _, q⟩ := hs; exact q.elim
theorem gn_ok {fa ca : Nat → Addr} {T : List (Addr × Str)} {xn : Nat → Option Str} {x qual : Str} {st : Stmt} {f : Addr} {fd : FuncData} {N ps : List Str} {k : Nat} {m : MS} (F : Fun K x qual st f fd) (S : FnScope N ps (defScope st))
    (body : ∀ (X : Cx) (W : WX), Ct ⟨P, w, mg, base, ⟨K, fa, ca, T⟩, xn⟩ N (defScope st) W k X → (∀ x, X.fn x = true) → SI W → X.A.guards = some [] → EB X ⟨K, fa, ca, T⟩ xn W (defBody st) m) :
    FnG P w K mg base (L2.CX P w) (k + 1) f fd ps (spF ⟨K, fa, ca, T⟩ xn ps.length (defM N.length m)) := by
  obtain ⟨oc, od, kV, doc, pm, an, cdv, ct, osl, rfl, lk, hcd⟩ := F.ex  -- 100
  refine fn_ofG lk hcd S (fun vs H Q E ⟨ρ, M, ds, _, _, hl, _⟩ => hl) fun A outer s H vs Q E hr hg h => ?_
  obtain ⟨ρ, M, ds, rl, rs, hl, h⟩ := h
  refine ⟨_, body _ _ (ct_of S hr) (fun _ => rfl) (fun _ _ _ _ _ h => h) hg, ρ, ini N.length ds, M, ini_rl rl rs, ?_⟩
  have e : ownA (ini N.length ds) (L2.start N vs) = [] := ini_own
  rw [e]
  unfold defM at h
  cases q : m (ini N.length ds) M with
  | nx L1 M1 => rw [q] at h; exact fun ρ' H' σ' s a => h ρ' H' .non s.bare a.bare .non
  | ret d M1 => rw [q] at h; exact fun ρ' H' σ' v s a b => h ρ' H' v s.bare a.bare b
  | bk L1 M1 => rw [q] at h; exact h.elim
  | ct L1 M1 => rw [q] at h; exact h.elim
  | err y L1 M1 => rw [q] at h; exact fun ρ' H' σ' cls dd s a b => h ρ' H' cls dd s.bare a.bare b
  | stk => rw [q] at h; exact h
end
structure FnGF (U : Wd) (i : Nat) (x : Str) (ps : List Str) (k : Nat) (F : MF) : Prop where
  mg : U.mg x = some (.ref (U.G.fa i))
  kp : PySem.W.keepIn U.G.K (.ref (U.G.fa i)) = true
  ok : ∃ fd, Binds U.G.K fd ps [] ∧ FnG U.P U.w U.G.K U.mg U.base (L2.CX U.P U.w) k (U.G.fa i) fd ps (spF U.G U.xn ps.length F)
section
variable {X : Cx} {U : Wd} {N : List Str} {sc : Scope} {W : WX} {n k i j : Nat} {x : Str} {ps : List Str} {F : MF} {e : Expr} {es : List Expr} {t : MA} {p pos : Pos}
theorem ex_callG (c : Ct U N sc W n X) (gd : X.A.guards = some []) (f : FnGF U i x ps k F) (hk : k ≤ n) (ht : EA X U.G U.xn W (e :: es) t) (hlen : LenOf t j) (hj : j = ps.length) (hg : sc.names.lookup x = some .globalImplicit)
    (hdb : (x == ("__debug__" : Str)) = false := by decide +kernel) (he : starEach (e :: es) X.env = (false, eval e X.env) :: starEach es X.env := by rfl) (hpl : (backTo pos (starEach es X.env)).any (·.1) = false := by rfl) :
    EX X U.G U.xn W (.Call (.Name x p) (e :: es) [] pos) (callM F t) := by
  obtain ⟨fd, hb, fo⟩ := f.ok
  have fo' : FnG X.prog X.w X.K X.mg X.base (L2.CX X.prog X.w) n (U.G.fa i) fd ps (spF U.G U.xn ps.length F) := by rw [c.P, c.w, c.K, c.mg, c.base]; exact fo.mono hk
  have hb' : Binds X.K fd ps [] := by rw [c.K]; exact hb
  have run : PE X (.Call (.Name x p) (e :: es) [] pos) (fun σ H Q => tA U.G U.xn W t σ H fun vs H1 => spF U.G U.xn ps.length F vs H1 Q (WE W σ)) := by
    refine ⟨fun pins s σ H Q I h => wpAny_Call_Name_kw (ld_glob I (c.gl hg) (c.mg' f.mg) ?_ hdb)⟩
    refine PySem.W.callWith_K (h₀ := X.base) I.ok.mod.kin (by rw [c.K]; exact f.kp) (thn (ht.run pos pins s σ H _ I h) fun us s1 ⟨vs, H1, I1, r, q⟩ => ⟨I1.kIn, ?_⟩) he hpl
    have hl : us.length = ps.length := by rw [← r.length]; exact fo'.len _ _ _ _ q
    have b := hb' s1 us I1.kIn (by rw [List.append_nil]; exact hl)
    rw [List.append_nil] at b
    refine wpAny_call (codeAny_mono (fo'.run X.A X.stack s1 H1 ⟨us, []⟩ us vs Q (WE W σ) c.room gd I1.env0 b r q) fun rr s' hq => ?_)
    cases rr with
    | error e => exact passAt c.tk σ pins H1 s1 e s' I1 hq
    | ok fl =>
      cases fl with
      | ret u => exact I1.after hq
      | next => exact hq.elim
      | brk => exact hq.elim
      | cont => exact hq.elim
  refine PE.imp run fun σ H Q ⟨ρ, L, M, rl, h⟩ => ⟨ρ, L, M, rl, ?_⟩
  have h2 := fun L1 M1 ds => hlen L M ds L1 M1
  unfold callM at h
  revert h h2
  generalize t L M = r
  intro h h2
  cases r with
  | stk => exact h
  | err y L1 M1 => exact h
  | ok ds L1 M1 =>
    intro ρ1 H1 vs s1 rl1 r1
    have h3 : XP U.G U.xn W ρ1 H1 L1 σ (frX L1 (F ds M1)) Q := XP.shift (r := frX L1 (F ds M1)) h s1
    exact ⟨ρ1, M1, ds, rl1.bare, r1, by rw [← r1.length, h2 L1 M1 ds rfl]; exact hj, FP.toX rl1 h3⟩

/-! ### repr of data -/
def reprD (d : D) : Option D := match d with
  | .lst _ | .tup _ => match py d with
    | some q => if dep d ≤ 60 ∧ q.showable = true ∧ q.shown.length ≤ sizeLine then some (.str q.shown) else none
    | none => none
  | _ => none
theorem call_reprD (gd : X.A.guards = some []) (hu : X.A.units + 100 < cLine) : CallR X (.builtin "repr") (fun xs H Q => ∃ (a : Addr) (q : PyData), xs = [.ref a] ∧ Dp X.K H (.ref a) q ∧ q.canLay0 = true ∧ q.depth ≤ 60 ∧ q.showable = true ∧ q.shown.length ≤ sizeLine ∧ Q (.str q.shown) H) := by
  rintro pins s σ H xs us Q I r ⟨a, q, rfl, hd, hl, hdep, hs, hz, k⟩
  obtain ⟨u, rfl, rx⟩ := vals1 r  -- 101
  cases rx
  obtain ⟨as, rd⟩ := Dp.reads I q (.ref a) (.ref a) hd rfl
  exact repr_of_reads' rd hs (PyData.noDict_hsm (PyData.hasDict_of_canLay q hl)) gd (by omega) (fun _ _ h => h) (fun h' t tk kp => ⟨.str q.shown, H, I.kept (t' := tk) kp, ⟨t, rfl⟩, k⟩) hz
theorem b_repr (c : Ct U N sc W n X) (gd : X.A.guards = some []) : B1 U.G (fun xs H Q => ∃ (a : Addr) (q : PyData), xs = [.ref a] ∧ Dp X.K H (.ref a) q ∧ q.canLay0 = true ∧ q.depth ≤ 60 ∧ q.showable = true ∧ q.shown.length ≤ sizeLine ∧ Q (.str q.shown) H) reprD := by
  intro ρ H L σ M d v z Q rl r h k
  have main : ∀ q, py d = some q → dep d ≤ 60 → q.showable = true → q.shown.length ≤ sizeLine → z = .str q.shown → (∃ a, v = .ref a) → ∃ (a : Addr) (q : PyData), [v] = [.ref a] ∧ Dp X.K H (.ref a) q ∧ q.canLay0 = true ∧ q.depth ≤ 60 ∧ q.showable = true ∧ q.shown.length ≤ sizeLine ∧ Q (.str q.shown) H := by
    rintro q e1 e2 e3 e4 rfl ⟨a, rfl⟩
    obtain ⟨q', e5, e6, e7⟩ := py_dep (d := d) (by omega)
    rw [e1] at e5; cases e5
    exact ⟨a, q, rfl, by rw [c.K]; exact r.dp e1, e7, by omega, e3, e4, k H _ (fun _ _ h => h) (.str _)⟩
  unfold reprD at h
  split at h
  · rename_i ds
    split at h
    · rename_i q e1
      split at h
      · rename_i hz
        cases h
        obtain ⟨a, vs, rfl, _, _⟩ := r.list
        exact main q e1 hz.1 hz.2.1 hz.2.2 rfl ⟨a, rfl⟩
      · cases h
    · cases h
  · rename_i ds
    split at h
    · rename_i q e1
      split at h
      · rename_i hz
        cases h
        obtain ⟨a, vs, rfl, _, _⟩ := r.tuple
        exact main q e1 hz.1 hz.2.1 hz.2.2 rfl ⟨a, rfl⟩
      · cases h
    · cases h
  · cases h
end
end KK

namespace KK
open PySem PySem.Spec PyProof.Rows L2

/-! ### the end of a row: the law's promise is told of the caller, around whom no repr is under way -/
def atT (cs : List (Addr × Addr)) (b : Addr) : Prop := b ∈ cs.map (·.2)
instance (cs : List (Addr × Addr)) (b : Addr) : Decidable (atT cs b) := by unfold atT; infer_instance
section
variable {P : Program} {w : World} {K : PySem.W.Frag} {mg mb : Str → Option Value} {CX : CXT} {k : Nat} {fa a : Addr} {cs : List (Addr × Addr)} {fd : FuncData} {x : Str} {sp : Sp} {s₁ : Shared} {vs : List Value} {ns : List Int}
/-- what is asked of the heap at the start -/
structure Sta (K : PySem.W.Frag) (mg mb : Str → Option Value) (cs : List (Addr × Addr)) (a : Addr) (vs : List Value) (s₁ : Shared) : Prop where
  kx : K.In s₁.heap
  ns : s₁.heap.Ns mainGlobals mg
  bt : s₁.heap.Ns builtinsNs mb
  bb : ∀ x : Str, x ≠ "__name__" → mb x = bootBuiltins x
  lim : s₁.heap.NoLimit
  gens : s₁.gens = #[]
  tab : ∀ p ∈ cs, s₁.heap.get? p.2 = some { cls := .none, data := .fields #[] }
  ntab : ∀ p ∈ cs, K.lookup p.2 = none
  code : ∀ p ∈ cs, PySem.W.CodeHd s₁.heap p.1 p.2
  mod : ∃ (bm : Addr) (ob : Obj), mg "__builtins__" = some (.ref bm) ∧ bm ≠ builtinsNs ∧ s₁.heap.get? bm = some ob ∧ ob.cls = .type "module" ∧ ob.dict = some builtinsNs ∧ ob.data = .plain
  scr : s₁.heap.get? a = some { cls := .type "list", data := .seq vs.toArray }
theorem Sta.isT (S : Sta K mg mb cs a vs s₁) {b : Addr} (h : atT cs b) : s₁.heap.get? b = some { cls := .none, data := .fields #[] } := by
  obtain ⟨p, hp, rfl⟩ := List.mem_map.mp h  -- 102
  exact S.tab p hp
theorem Sta.aT (S : Sta K mg mb cs a vs s₁) : ¬ atT cs a := fun z => by
  have q := S.isT z
  rw [S.scr] at q
  exact nomatch (congrArg Obj.data (Option.some.inj q) : Data.seq vs.toArray _ = Data.fields #[])
/-- the abstract heap at the start -/
structure Beg (P : Program) (w : World) (K : PySem.W.Frag) (cs : List (Addr × Addr)) (a : Addr) (ns : List Int) (s₁ : Shared) (H : Hp) : Prop where
  tb : ∀ p ∈ cs, H p.2 = some (.tbl #[])
  only : ∀ b, H b = none ∨ atT cs b ∨ ∃ o zs, H b = some (.frz o (.lst zs))
  sq : (∃ o, H a = some (.frz o (.lst (ns.map V.int)))) ∨ KlL K a (ns.map V.int)
  hok : HOk P w H s₁.heap
  few : ∀ b, H b ≠ none → b = a ∨ atT cs b
  nk : H a ≠ none → K.lookup a = none
theorem Beg.untr (S : Sta K mg mb cs a vs s₁) {H : Hp} (B : Beg P w K cs a ns s₁ H) {b : Addr} {o : Obj} (e : s₁.heap.get? b = some o) (h1 : ∀ vs n, o.data ≠ .seq vs n) (h2 : o.data ≠ .fields #[]) : H b = none := by
  cases q : H b with
  | none => rfl
  | some u =>
    exfalso
    rcases B.few b (by rw [q]; simp) with z | z
    · rw [z, S.scr] at e; cases e; exact h1 _ _ rfl
    · rw [S.isT z] at e; cases e; exact h2 rfl
theorem Beg.nsp (S : Sta K mg mb cs a vs s₁) {H : Hp} (B : Beg P w K cs a ns s₁ H) {b : Addr} {m : Str → Option Value} (h : s₁.heap.Ns b m) : (hidT s₁.heap H).Ns b m := by
  obtain ⟨o, es, ep, e, d, r⟩ := h
  exact ⟨o, es, ep, hidT_get e (B.untr S e (fun _ _ z => by rw [d] at z; cases z) fun z => by rw [d] at z; cases z), d, r⟩
theorem Beg.kin (S : Sta K mg mb cs a vs s₁) {H : Hp} (B : Beg P w K cs a ns s₁ H) : K.In (hidT s₁.heap H) := fun b o e => hidT_get (S.kx b o e) (by
  cases q : H b with
  | none => rfl
  | some u =>
    exfalso
    rcases B.few b (by rw [q]; simp) with z | z
    · subst z; rw [B.nk (by rw [q]; simp)] at e; cases e
    · obtain ⟨p, hp, rfl⟩ := List.mem_map.mp z
      rw [S.ntab p hp] at e; cases e)
theorem Beg.tabB (S : Sta K mg mb cs a vs s₁) {H : Hp} (B : Beg P w K cs a ns s₁ H) : ∀ p ∈ cs, LamX.TabB (hidT s₁.heap H) mg p.1 p.2 := fun p hp => by
  have tp := S.tab p hp
  refine ⟨?_, ?_, fun z => ?_⟩
  · obtain ⟨o, us, file, tf, flags, tg, inF, text, tt, e1, r1, r2, r3, r4, r5, r6, r7, r8, ne⟩ := S.code p hp
    refine ⟨o, us, file, tf, flags, tg, inF, text, tt, hidT_get e1 (B.untr S e1 (fun _ _ z => ?_) fun z => ?_), r1, r2, r3, r4, r5, r6, r7, r8, ne⟩
    · rw [r2] at z; cases z
    · rw [r2] at z; cases z; simp at r3
  · obtain ⟨bm, ob, b1, b2, b3, b4, b5, b6⟩ := S.mod
    refine ⟨bm, ob, b1, b2, fun q => ?_, fun q => ?_, hidT_get b3 (B.untr S b3 (fun _ _ z => ?_) fun z => ?_), b4, b5, b6⟩
    · obtain ⟨o, es, ep, e, hd, _⟩ := S.ns
      rw [q, e] at b3; cases b3
      rw [hd] at b6; cases b6
    · rw [q, tp] at b3; cases b3; cases b6
    · rw [b6] at z; cases z
    · rw [b6] at z; cases z
  · obtain ⟨o, es, ep, e, hd, _⟩ := S.ns
    rw [z, tp] at e; cases e; cases hd
theorem Beg.call (S : Sta K mg mb cs a vs s₁) {H : Hp} (B : Beg P w K cs a ns s₁ H) (hr : Room k callerA) (F : ∀ base : Heap, K.In base → base.Ns mainGlobals mg → (∀ p ∈ cs, LamX.TabB base mg p.1 p.2) → FnG P w K mg base CX k fa fd [x] sp)
    (hbind : ∀ (s : Shared) (u : Value), BindsTo s fd ⟨[u], []⟩ [(x, u)]) (hsp : sp [.ref a] H (fun v _ => v = .bl true) fun _ _ _ => False) (hCX : ∀ H e s', CX [] H s₁ (fun _ _ _ => False) e s' → False) :
    codeAny (model P w) callerA (.call (.ref fa) ⟨[.ref a], []⟩) (fun r s' => r = .ok (.ret (.bool true)) ∧ OldK s₁.heap s'.heap ∧ s'.os = s₁.os ∧ AllBare s'.gens) s₁ := by  -- 103
  have M : L2.Mod K mg (hidT s₁.heap H) := ⟨B.kin S, B.nsp S S.ns, ⟨mb, B.nsp S S.bt, S.bb⟩, let ⟨mc, h1, h2⟩ := S.lim; ⟨mc, B.nsp S h1, h2⟩⟩
  have e0 : Env0 P w K mg (hidT s₁.heap H) callerA [] s₁ H :=
    ⟨rfl, M, fun b o e => of_hidT e, Nat.le_of_eq (hidT_size _ _), trivial, fun b hb => absurd (show b ∈ ([] : List Addr) from hb) (by simp), B.hok, .of_eq S.gens⟩
  refine codeAny_mono ((F _ (B.kin S) (B.nsp S S.ns) (B.tabB S)).run callerA [] s₁ H ⟨[.ref a], []⟩ [.ref a] [.ref a] _ _ hr rfl e0 (hbind s₁ (.ref a)) (.cons rfl .nil) hsp) fun r s' h => ?_
  cases r with
  | error e => exact (hCX H e s' h).elim  -- 104
  | ok fl =>
    cases fl with
    | next => exact h.elim
    | brk => exact h.elim
    | cont => exact h.elim
    | ret u =>
      obtain ⟨v, H', os, bare, un, ok2, r', q⟩ := h
      have q' : v = .bl true := q
      subst q'
      obtain rfl : u = Value.bool true := r'  -- 105
      have stay : ∀ b o, ¬ atT cs b → s₁.heap.get? b = some o → s'.heap.get? b = some o := fun b o nb e => by
        cases q : H b with
        | none => exact un.keep b o e q (fun z => absurd (show b ∈ ([] : List Addr) from z) (by simp)) (by simp)
        | some u =>
          rcases B.only b with z | z | ⟨ob, zs, z⟩
          · rw [q] at z; cases z
          · exact absurd z nb
          · have e1 := (B.hok b _ z).1
            have e2 := (ok2 b _ (un.frzs b ob _ z)).1
            rw [e] at e1; cases e1
            exact e2
      have grown : ∀ p ∈ cs, ∃ more : Array Value, s'.heap.get? p.2 = some { cls := .none, data := .fields more } := fun p hp => by  -- 106
        obtain ⟨more, z⟩ := un.tbls p.2 #[] (B.tb p hp)
        exact ⟨_, ok2 p.2 _ z⟩
      refine ⟨rfl, ⟨fun b o e => ?_, fun b o e => ?_⟩, os, bare⟩  -- 107
      · by_cases hb : atT cs b
        · obtain ⟨p, hp, ep⟩ := List.mem_map.mp hb  -- 108
          obtain ⟨more, hm⟩ := grown p hp  -- 109
          rw [← ep] at e ⊢
          rw [S.tab p hp] at e; cases e
          exact .inr (.inl ⟨((S.code p hp).tab (S.tab p hp)).isCodeTable, rfl, #[], more, rfl, by rw [Array.empty_append]; exact hm⟩)
        · exact .inl (stay b o hb e)
      · by_cases hb : atT cs b
        · obtain ⟨p, hp, ep⟩ := List.mem_map.mp hb  -- 110
          obtain ⟨more, hm⟩ := grown p hp  -- 111
          rw [← ep]
          exact ⟨_, hm⟩
        · exact ⟨o, stay b o hb e⟩
/-- the heap at the start, in either way in which the script may stand -/
theorem Sta.beg (S : Sta K mg mb cs a vs s₁) (hi : IntsAre vs ns) (hl : ns.length ≤ sizeLine) : ∃ H, Beg P w K cs a ns s₁ H := by
  have rv := vals_ints hi
  have lv := hi.length
  have aT := S.aT
  have mT : ∀ p ∈ cs, atT cs p.2 := fun p hp => List.mem_map.mpr ⟨p, hp, rfl⟩
  cases hk : K.lookup a with
  | some o =>
    have e := S.kx a o hk
    rw [S.scr] at e; cases e
    let H : Hp := fun b => if atT cs b then some (.tbl #[]) else none
    have yes : ∀ {b}, atT cs b → H b = some (.tbl #[]) := fun h => if_pos h
    have no : ∀ {b}, ¬ atT cs b → H b = none := fun h => if_neg h
    refine ⟨H, fun p hp => yes (mT p hp), fun b => ?_, .inr ⟨_, vs.toArray, _, hk, rfl, rfl, rfl, by rw [List.size_toArray, lv]; exact hl, by simpa using rv⟩, fun b u z => ?_, fun b z => ?_, fun z => absurd (no aT) z⟩
    · by_cases hb : atT cs b
      · exact .inr (.inl hb)
      · exact .inl (no hb)
    · by_cases hb : atT cs b
      · rw [yes hb] at z; cases z; exact S.isT hb
      · rw [no hb] at z; cases z
    · by_cases hb : atT cs b
      · exact .inr hb
      · exact absurd (no hb) z
  | none =>
    let H : Hp := fun b => if b = a then some (.frz { cls := .type "list", data := .seq vs.toArray } (.lst (ns.map V.int))) else if atT cs b then some (.tbl #[]) else none
    have ata : H a = some (.frz { cls := .type "list", data := .seq vs.toArray } (.lst (ns.map V.int))) := if_pos rfl
    have yes : ∀ {b}, b ≠ a → atT cs b → H b = some (.tbl #[]) := fun n h => (if_neg n).trans (if_pos h)
    have no : ∀ {b}, b ≠ a → ¬ atT cs b → H b = none := fun n h => (if_neg n).trans (if_neg h)
    refine ⟨H, fun p hp => yes (fun z => aT (z ▸ mT p hp)) (mT p hp), fun b => ?_, .inl ⟨_, ata⟩, fun b u z => ?_, fun b z => ?_, fun _ => hk⟩
    · by_cases n : b = a
      · rw [n]; exact .inr (.inr ⟨_, _, ata⟩)
      · by_cases hb : atT cs b
        · exact .inr (.inl hb)
        · exact .inl (no n hb)
    · by_cases n : b = a
      · rw [n, ata] at z; cases z; rw [n]
        exact ⟨S.scr, by rw [List.length_map]; exact hl, vs, _, rv, S.scr⟩
      · by_cases hb : atT cs b
        · rw [yes n hb] at z; cases z; exact S.isT hb
        · rw [no n hb] at z; cases z
    · by_cases n : b = a
      · exact .inl n
      · by_cases hb : atT cs b
        · exact .inr hb
        · exact absurd (no n hb) z
theorem law_callG (S : Sta K mg mb cs a vs s₁) (hi : IntsAre vs ns) (hl : ns.length ≤ sizeLine) (hr : Room k callerA) (F : ∀ base : Heap, K.In base → base.Ns mainGlobals mg → (∀ p ∈ cs, LamX.TabB base mg p.1 p.2) → FnG P w K mg base CX k fa fd [x] sp)
    (hbind : ∀ (s : Shared) (u : Value), BindsTo s fd ⟨[u], []⟩ [(x, u)]) (hsp : ∀ H, Beg P w K cs a ns s₁ H → sp [.ref a] H (fun v _ => v = .bl true) fun _ _ _ => False) (hCX : ∀ H e s', CX [] H s₁ (fun _ _ _ => False) e s' → False) :
    codeAny (model P w) callerA (.call (.ref fa) ⟨[.ref a], []⟩) (fun r s' => r = .ok (.ret (.bool true)) ∧ OldK s₁.heap s'.heap ∧ s'.os = s₁.os ∧ AllBare s'.gens) s₁ := by  -- 112
  obtain ⟨H, B⟩ := S.beg (P := P) (w := w) hi hl
  exact B.call S hr F hbind (hsp H B) hCX
/-- what is known of the law at the head's heap -/
def LawG (l : PySem.W.OpenLaw) (w : World) (K : PySem.W.Frag) (CX : CXT) (k n : Nat) (x : Str) (mg : Str → Option Value) (fa : Addr) (h : Heap) : Prop :=
  ∃ (fd : FuncData) (cs : List (Addr × Addr)) (sp : Sp), (∀ p ∈ cs, h.get? p.2 = some { cls := .none, data := .fields #[] }) ∧ (∀ p ∈ cs, K.lookup p.2 = none) ∧ (∀ p ∈ cs, PySem.W.CodeHd h p.1 p.2) ∧ (∀ (s : Shared) (u : Value), BindsTo s fd ⟨[u], []⟩ [(x, u)]) ∧  -- 113
    (∀ (H : Hp) (a : Addr) (vs : List Value) (ns : List Int) (s : Shared), ns.length ≤ n → (∀ z ∈ ns, Builtin.Int.intBits z ≤ 1048576) → Beg l.prog w K cs a ns s H → sp [.ref a] H (fun v _ => v = .bl true) fun _ _ _ => False) ∧
    ∀ base : Heap, K.In base → base.Ns mainGlobals mg → (∀ p ∈ cs, LamX.TabB base mg p.1 p.2) → FnG l.prog w K mg base CX k fa fd [x] sp
theorem walk_ofG {l : PySem.W.OpenLaw} {n k : Nat} {q : Program} {loose : List Str} {XP : (Str → Option Value) → Heap → Prop} {YP : World → Heap → Prop} {d : DefRec} {CX : World → CXT} {x : Str}
    (hn : l.most = some n) (hn2 : n ≤ sizeLine) (hdf : d.params.defaults = []) (hr : Room k callerA)  -- 114
    (F : ∀ (w : World) (mg : Str → Option Value) (fa : Addr) (h : Heap), YP w h → h.Ns mainGlobals mg → mg d.name = some (.ref fa) → ∃ K : PySem.W.Frag, K.In h ∧ LawG l w K (CX w) k n x mg fa h)
    (hCX : ∀ (w : World) (H : Hp) (s : Shared) (e : Value) (s' : Shared), CX w [] H s (fun _ _ _ => False) e s' → False) :  -- 115
    PySem.W.WalkO q loose XP YP l.row.toRowW d [] (fun f vs => PySem.call f vs) := by  -- 116
  refine Att.attach_callB hn hdf fun w s₀ s₁ mg mb fa o pm cd doc a vs ns G Y ho hd hcd hmg hobj hints hlen hbits hg => ?_  -- 117
  obtain ⟨K, KX, fd, cs, sp, hT, nT, C, hb, hsp, hF⟩ := F w mg fa _ Y G.T.g hmg  -- 118
  have S : Sta K mg mb cs a vs s₁ := ⟨KX, G.T.g, G.T.b, G.T.builtins, G.T.nolimit, hg, hT, nT, C, G.T.bmain, hobj⟩
  exact law_callG S hints (Nat.le_trans hlen hn2) hr hF hb (fun H B => hsp H a vs ns s₁ hlen hbits B) fun H e s' => hCX w H s₁ e s'
end
end KK

namespace KK
open PySem PySem.Spec PyProof.Rows L2

/-! ### names, by where one stands -/
abbrev Seen (sc : Scope) (x : Str) : Prop := sc.names.lookup x = some .local ∨ sc.names.lookup x = some .cell ∨ sc.names.lookup x = some .free
section
variable {X : Cx} {U : Wd} {N : List Str} {sc : Scope} {W : WX} {n : Nat} {x : Str} {pos : Pos}
theorem Ct.vis (c : Ct U N sc W n X) (h : Seen sc x) : Vis X.env.scope x := by unfold Vis; rw [c.sc]; exact h
theorem Ct.at_ (c : Ct U N sc W n X) {i : Nat} (h : N[i]? = some x) : X.N[i]? = some x := by rw [c.N]; exact h
theorem nv (c : Ct U N sc W n X) (i : Nat) (hN : N[i]? = some x) (hv : Seen sc x) (hd : (x == ("__debug__" : Str)) = false := by decide +kernel) (hcd : (x == ("__classdict__" : Str)) = false := by decide +kernel) : EX X U.G U.xn W (.Name x pos) (locM i) := ex_loc i (c.at_ hN) (c.vis hv) hd hcd
theorem nf (c : Ct U N sc W n X) (i : Nat) (hN : N[i]? = some x) (hv : Seen sc x) (hd : (x == ("__debug__" : Str)) = false := by decide +kernel) (hcd : (x == ("__classdict__" : Str)) = false := by decide +kernel) : EX X U.G U.xn W (.Name x pos) (frzM i) := ex_frz i (c.at_ hN) (c.vis hv) hd hcd
theorem nb (c : Ct U N sc W n X) (i : Nat) (hN : N[i]? = some x) (hv : Seen sc x) (hd : (x == ("__debug__" : Str)) = false := by decide +kernel) (hcd : (x == ("__classdict__" : Str)) = false := by decide +kernel) : EXB X U.G U.xn W (.Name x pos) (locB i) := exb_loc i (c.at_ hN) (c.vis hv) hd hcd
end

/-! ### chains of compares, minus -/
def chainM (f g : D → D → Option D) (ma mb mc : MX) : MX := fun L M => (ma L M).bind fun x L1 M1 => (mb L1 M1).bind fun y L2 M2 => match f x y with
  | some (.bl true) => (mc L2 M2).bind fun z L3 M3 => match g y z with
    | some u => .ok u L3 M3
    | none => .stk
  | some (.bl false) => .ok (.bl false) L2 M2
  | _ => .stk
section
variable {X : Cx} {U : Wd} {N : List Str} {sc : Scope} {W : WX} {n : Nat} {x : Str} {pos : Pos} {G : Gb} {xn : Nat → Option Str} {a b e : Expr} {m ma mb : MX}
theorem chain_read {f g : D → D → Option D} {mc : MX} {σ : L2.St} {H : Hp} {Q : VK} (h : tX G xn W (chainM f g ma mb mc) σ H Q) : tChain (r2D G f) (r2D G g) (tX G xn W ma) (tX G xn W mb) (tX G xn W mc) σ H Q := by
  obtain ⟨ρ, L, M, rl, h⟩ := h
  refine ⟨ρ, L, M, rl, XP.mono (XP.bind h) ?_⟩
  rintro v H1 ⟨ρ1, L1, M1, d, s1, r1, rv, h1⟩
  refine ⟨ρ1, L1, M1, r1, XP.mono (XP.bind h1) ?_⟩
  rintro u H2 ⟨ρ2, L2, M2, d2, s2, r2, ru, h2⟩
  dsimp only at h2
  split at h2
  · rename_i q
    refine ⟨ρ2, L2, σ, M2, d, d2, .bl true, r2, rv.step s2, .r ru, q, fun H' w gr rw => ?_⟩
    cases rw
    refine ⟨true, rfl, ?_⟩
    rw [if_pos rfl]
    refine ⟨ρ2, L2, M2, r2.grow gr, XP.mono (XP.bind (XP.shift h2 (Stp.grow gr))) ?_⟩
    rintro z H3 ⟨ρ3, L3, M3, d3, s3, r3, rz, h3⟩
    dsimp only at h3
    cases q2 : g d2 d3 with
    | none => rw [q2] at h3; exact h3.elim
    | some k =>
      rw [q2] at h3
      exact ⟨ρ3, L3, σ, M3, d2, d3, k, r3, (ru.mono (List.prefix_refl _) (Ext.of gr)).step s3, .r rz, q2, fun H' w gr rw => h3 ρ3 H' w (Stp.grow gr) (r3.grow gr) rw⟩
  · rename_i q
    refine ⟨ρ2, L2, σ, M2, d, d2, .bl false, r2, rv.step s2, .r ru, q, fun H' w gr rw => ?_⟩
    cases rw
    refine ⟨false, rfl, ?_⟩
    rw [if_neg (by decide)]
    exact h2 ρ2 H' _ (Stp.grow gr) (r2.grow gr) (.bl _)
  · exact h2.elim
theorem ex_chain {op op' : CmpOp} {f g : D → D → Option D} {c : Expr} {mc : MX} (ho : OpD X G (compareOp op) f) (ho' : OpD X G (compareOp op') g) (ha : EX X G xn W a ma) (hb : EX X G xn W b mb) (hc : EX X G xn W c mc)
    (hm : lastMarks [op, op'] [b, c] = false := by with_unfolding_all rfl) : EX X G xn W (.Compare a [op, op'] [b, c] pos) (chainM f g ma mb mc) := PE.imp (pe_chain ho ho' ha hb hc hm) fun _ _ _ h => chain_read h
theorem et_chain {op op' : CmpOp} {f g : D → D → Option D} {c : Expr} {mc : MX} (ho : OpD X G (compareOp op) f) (ho' : OpD X G (compareOp op') g) (ha : EX X G xn W a ma) (hb : EX X G xn W b mb) (hc : EX X G xn W c mc)
    (hm : lastMarks [op, op'] [b, c] = false := by with_unfolding_all rfl) : ET X G xn W (.Compare a [op, op'] [b, c] pos) (chainM f g ma mb mc) := PT.imp (pt_chain ho ho' ha hb hc hm) fun _ _ _ h => chain_read h
theorem op2B_read {f : D → D → Option D} {σ : L2.St} {H : Hp} {Q : VK} (h : tX G xn W (binM f ma mb) σ H Q) : tOp (r2D G f) (tX G xn W ma) (tB G xn W mb) σ H Q := by
  obtain ⟨ρ, L, M, rl, h⟩ := h
  refine ⟨ρ, L, M, rl, XP.mono (XP.bind h) ?_⟩
  rintro x H1 ⟨ρ1, L1, M1, d, s1, rl1, r1, h1⟩
  refine ⟨ρ1, L1, M1, rl1, XB.mono (XB.bind h1) ?_⟩
  rintro y H2 ⟨ρ2, L2, M2, d2, s2, rl2, r2, h2⟩
  cases e : f d d2 with
  | none => rw [e] at h2; exact h2.elim
  | some z =>
    rw [e] at h2
    exact ⟨ρ2, L2, σ, M2, d, d2, z, rl2, r1.step s2, r2, e, fun H' v g rz => h2 ρ2 H' v (Stp.grow g) (rl2.grow g) rz⟩
theorem et_cmpB {op : CmpOp} {f : D → D → Option D} (ho : OpD X G (compareOp op) f) (ha : EX X G xn W a ma) (hb : EXB X G xn W b mb) (hm : behindInMarks op b = false := by first | rfl | exact nomark _) : ET X G xn W (.Compare a [op] [b] pos) (binM f ma mb) := PT.imp (pt_cmpR ho ha hb hm) fun _ _ _ h => op2B_read h
/-- -e -/
def negD : D → Option D
  | .int i => some (.int (-i))
  | _ => none
def un1M (f : D → Option D) (m : MX) : MX := fun L M => (m L M).bind fun d L M => match f d with
  | some z => .ok z L M
  | none => .stk
theorem ex_neg (he : EX X G xn W e m) : EX X G xn W (.UnaryOp .USub e pos) (un1M negD m) := by
  refine PE.imp (pe_un un_neg he) fun σ H Q ⟨ρ, L, M, rl, h⟩ => ⟨ρ, L, M, rl, XP.mono (XP.bind h) ?_⟩
  rintro v H1 ⟨ρ1, L1, M1, d, s1, r1, rv, h1⟩
  dsimp only at h1
  split at h1
  · rename_i z q
    unfold negD at q
    split at q
    · cases q; cases rv.int'
      exact ⟨_, rfl, h1 ρ1 H1 _ Stp.refl r1 (.int _)⟩
    · cases q
  · exact h1.elim
theorem ep_neg {f : MP} (ha : EP X G a f) : EP X G (.UnaryOp .USub a pos) (fun L M => (f L M).map fun i => -i) := by
  refine PE.imp (pe_un un_neg ha) fun σ H Q ⟨ρ, L, M, k, rl, e, q⟩ => ?_
  dsimp only at e
  cases q2 : f L M with
  | none => rw [q2] at e; cases e
  | some i => rw [q2] at e; cases e; exact ⟨ρ, L, M, i, rl, q2, i, rfl, q⟩

/-! ### return without a value, while -/
def retN : MS := fun _ M => .ret .non M
theorem es_retN : ES X G xn W (.Return none pos) retN := PS.imp ps_retN fun D σ H ⟨ρ, L, M, rl, h⟩ => h ρ H [] .non Stp.refl.bare rl.bare .non
def whL (c : MX) (b : MS) : Nat → MS
  | 0, _, _ => .stk
  | k + 1, L, M => match c L M with
    | .ok (.bl true) L1 M1 => match b L1 M1 with
      | .nx L2 M2 => whL c b k L2 M2
      | .ct L2 M2 => whL c b k L2 M2
      | .bk L2 M2 => .nx L2 M2
      | o => o
    | .ok (.bl false) L1 M1 => .nx L1 M1
    | .ok _ _ _ => .stk
    | .err x L1 M1 => .err x L1 M1
    | .stk => .stk
theorem es_while {U : Wd} {N : List Str} {sc : Scope} {n : Nat} (ct : Ct U N sc W n X) (fuel : Nat) {c : Expr} {body : List Stmt} {mc : MX} {mb : MS} (hc : ET X G xn W c mc) (hb : EB X G xn W body mb) : ES X G xn W (.While c body [] pos) (whL mc mb fuel) := by
  refine PS.imp (ps_while ct.po hc hb) fun Z σ H ⟨ρ, L, M, rl, h⟩ => ?_
  refine ⟨fun k σ H => ∃ ρ L M, Rl G ρ H L σ M ∧ OP G xn W ρ H (ownA L σ) Z (whL mc mb k L M), ⟨fuel, ρ, L, M, rl, h⟩, ?_⟩
  rintro k σ H ⟨ρ, L, M, rl, h⟩
  refine ⟨ρ, L, M, rl, ?_⟩
  cases k with
  | zero => exact h.elim
  | succ k =>
    unfold whL at h
    cases q : mc L M with
    | stk => rw [q] at h; exact h
    | err x L1 M1 => rw [q] at h; exact fun ρ' H' cls dd s a b => h ρ' H' σ cls dd s a b
    | ok d L1 M1 =>
      rw [q] at h
      intro ρ1 H1 v s1 r1 rv
      cases d with
      | bl t =>
        cases rv
        refine ⟨t, rfl, ?_⟩
        cases t with
        | false =>
          rw [if_neg (by decide)]
          exact h ρ1 H1 σ s1 r1
        | true =>
          rw [if_pos rfl]
          refine ⟨fun σ' H' => ∃ ρ L M, Rl G ρ H' L σ' M ∧ OP G xn W ρ H' (ownA L σ') Z (whL mc mb k L M), fun σ' H' p => ⟨k, Nat.lt_succ_self k, p⟩, ρ1, L1, M1, r1, ?_⟩
          dsimp only at h
          cases q2 : mb L1 M1 with
          | nx L2 M2 => rw [q2] at h; exact fun ρ2 H2 σ2 s2 r2 => ⟨ρ2, L2, M2, r2, OP.shift (o := whL mc mb k L2 M2) h (s1.trans s2)⟩
          | ct L2 M2 => rw [q2] at h; exact fun ρ2 H2 σ2 s2 r2 => ⟨ρ2, L2, M2, r2, OP.shift (o := whL mc mb k L2 M2) h (s1.trans s2)⟩
          | bk L2 M2 => rw [q2] at h; exact fun ρ2 H2 σ2 s2 r2 => h ρ2 H2 σ2 (s1.trans s2) r2
          | ret d M2 => rw [q2] at h; exact fun ρ2 H2 σ2 v s2 r2 => h ρ2 H2 σ2 v (s1.trans s2) r2
          | err x L2 M2 => rw [q2] at h; exact fun ρ2 H2 σ2 cls dd s2 r2 => h ρ2 H2 σ2 cls dd (s1.trans s2) r2
          | stk => rw [q2] at h; exact h
      | _ => exact h.elim
end
end KK

namespace KK
open PySem PySem.Spec PyProof.Rows L2

/-! ### one of several is put into its slot -/
section
variable {G : Gb} {ρ ρ' : List Addr} {H H' : Hp} {M : MM}
theorem own_put {s : Sl} {o : Option V} : ∀ {L : LL} {σ : L2.St} {i : Nat}, (ownH s o ++ ownA L σ).Nodup → (ownA (L.set i s) (σ.set i o)).Nodup ∧ ∀ b ∈ ownA (L.set i s) (σ.set i o), b ∈ ownH s o ++ ownA L σ
  | [], σ, i, _ => by simp [ownA]
  | t :: L, [], i, _ => by cases i <;> simp [ownA]
  | t :: L, q :: σ, 0, nd => by
    have e : ownA ((t :: L).set 0 s) ((q :: σ).set 0 o) = ownH s o ++ ownA L σ := rfl
    have e2 : ownA (t :: L) (q :: σ) = ownH t q ++ ownA L σ := rfl
    rw [e, e2]
    rw [e2] at nd
    have nd' := List.nodup_append.mp nd
    exact ⟨List.nodup_append.mpr ⟨nd'.1, (List.nodup_append.mp nd'.2.1).2.1, fun a ha b hb => nd'.2.2 a ha b (List.mem_append_right _ hb)⟩, fun b hb => (List.mem_append.mp hb).elim (fun h => List.mem_append_left _ h) fun h => List.mem_append_right _ (List.mem_append_right _ h)⟩
  | t :: L, q :: σ, i + 1, nd => by
    have e : ownA ((t :: L).set (i + 1) s) ((q :: σ).set (i + 1) o) = ownH t q ++ ownA (L.set i s) (σ.set i o) := rfl
    have e2 : ownA (t :: L) (q :: σ) = ownH t q ++ ownA L σ := rfl
    rw [e, e2]
    rw [e2] at nd
    have nd' := List.nodup_append.mp nd
    have nd2 := List.nodup_append.mp nd'.2.1
    obtain ⟨h1, h2⟩ := own_put (L := L) (σ := σ) (i := i) (s := s) (o := o) (List.nodup_append.mpr ⟨nd'.1, nd2.2.1, fun a ha b hb => nd'.2.2 a ha b (List.mem_append_right _ hb)⟩)
    refine ⟨List.nodup_append.mpr ⟨nd2.1, h1, fun a ha b hb z => ?_⟩, fun b hb => ?_⟩
    · subst z
      rcases List.mem_append.mp (h2 a hb) with k | k
      · exact nd'.2.2 a k a (List.mem_append_left _ ha) rfl
      · exact nd2.2.2 a ha a k rfl
    · rcases List.mem_append.mp hb with k | k
      · exact List.mem_append_right _ (List.mem_append_left _ k)
      · rcases List.mem_append.mp (h2 b k) with j | j
        · exact List.mem_append_left _ j
        · exact List.mem_append_right _ (List.mem_append_right _ j)
theorem Rl.put {L : LL} {σ : L2.St} {s : Sl} {o : Option V} (r : Rl G ρ H (s :: L) (o :: σ) M) (i : Nat) : Rl G ρ H (L.set i s) (σ.set i o) M ∧ ∀ b ∈ ownA (L.set i s) (σ.set i o), b ∈ ownA (s :: L) (o :: σ) := by
  have nd : (ownA (s :: L) (o :: σ) ++ ρ).Nodup := r.nd
  have nd' := List.nodup_append.mp nd
  obtain ⟨n1, n2⟩ := own_put (i := i) (show (ownH s o ++ ownA L σ).Nodup from nd'.1)
  cases r.sl with
  | cons hs ht => exact ⟨⟨ht.set hs i, List.nodup_append.mpr ⟨n1, nd'.2.1, fun a ha b hb => nd'.2.2 a (n2 a ha) b hb⟩, r.len, r.ob, r.tb⟩, n2⟩
theorem Stp.sub {O O' O'' : List Addr} (s : Stp ρ H O ρ' H' O') (h : ∀ b ∈ O'', b ∈ O') : Stp ρ H O ρ' H' O'' := ⟨s.pre, s.ext, s.keep, s.new, s.there, fun b hb => s.own b (h b hb)⟩
end

/-! ### several at once: values and new lists -/
inductive Rn where
  | ok (ss : List Sl) (L : LL) (M : MM) | err (x : Er) (L : LL) (M : MM) | stk
abbrev MN := LL → MM → Rn
def Rn.cons (s : Sl) : Rn → Rn
  | .ok ss L M => .ok (s :: ss) L M
  | r => r
def nilN : MN := fun L M => .ok [] L M
def valN (m : MX) (t : MN) : MN := fun L M => match m L M with
  | .ok d L1 M1 => (t L1 M1).cons (.val d)
  | .err x L1 M1 => .err x L1 M1
  | .stk => .stk
def newN (m : MA) (t : MN) : MN := fun L M => match m L M with
  | .ok ds L1 M1 => (t L1 M1).cons (.own ds)
  | .err x L1 M1 => .err x L1 M1
  | .stk => .stk
section
variable (G : Gb) (xn : Nat → Option Str) (W : WX)
def XN (ρ : List Addr) (H : Hp) (L : LL) (σ : L2.St) (r : Rn) (Q : List V → Hp → Prop) : Prop := match r with
  | .ok ss L' M' => ∀ ρ' H' vs, Stp ρ H (ownA L σ) ρ' H' (ownA (ss ++ L') (vs.map some ++ σ)) → Rl G ρ' H' (ss ++ L') (vs.map some ++ σ) M' → vs.length = ss.length → Q vs H'
  | .err x L' M' => ∀ ρ' H' cls dd, Stp ρ H (ownA L σ) ρ' H' (ownA L' σ) → Rl G ρ' H' L' σ M' → REr G ρ' H' xn x cls dd → W cls dd σ H'
  | .stk => False
def tN (m : MN) : TA := fun σ H Q => ∃ ρ L M, Rl G ρ H L σ M ∧ XN G xn W ρ H L σ (m L M) Q
end
abbrev EN (X : Cx) (G : Gb) (xn : Nat → Option Str) (W : WX) (es : List Expr) (m : MN) : Prop := PA X es (tN G xn W m)
section
variable {X : Cx} {U : Wd} {N : List Str} {sc : Scope} {n : Nat} {G : Gb} {xn : Nat → Option Str} {W : WX} {e : Expr} {es : List Expr} {m : MX} {mf : MA} {t : MN} {pos : Pos}
theorem en_nil : EN X G xn W [] nilN := PA.imp pa_nil fun σ H Q ⟨ρ, L, M, rl, h⟩ => h ρ H [] Stp.refl rl rfl
theorem en_val (he : EX X G xn W e m) (ht : EN X G xn W es t) (hs : starEach (e :: es) X.env = (false, eval e X.env) :: starEach es X.env := by rfl) : EN X G xn W (e :: es) (valN m t) := by
  refine PA.imp (pa_cons he ht hs) fun σ H Q ⟨ρ, L, M, rl, h⟩ => ⟨ρ, L, M, rl, ?_⟩
  unfold valN at h
  cases e1 : m L M with
  | stk => rw [e1] at h; exact h
  | err x L1 M1 => rw [e1] at h; exact h
  | ok d L1 M1 =>
    rw [e1] at h
    dsimp only at h
    intro ρ1 H1 v s1 r1 rv
    refine ⟨ρ1, L1, M1, r1, ?_⟩
    cases e2 : t L1 M1 with
    | stk => rw [e2] at h; exact h
    | err x L2 M2 => rw [e2] at h; exact fun ρ' H' cls dd s' => h ρ' H' cls dd (s1.trans s')
    | ok ss L2 M2 =>
      rw [e2] at h
      exact fun ρ2 H2 vs s2 r2 hl => h ρ2 H2 (v :: vs) (s1.trans s2) ⟨.cons (rv.step s2) r2.sl, r2.nd, r2.len, r2.ob, r2.tb⟩ (congrArg (· + 1) hl)
theorem en_new (he : EF X G xn W e mf) (ht : EN X G xn W es t) (hs : starEach (e :: es) X.env = (false, eval e X.env) :: starEach es X.env := by rfl) : EN X G xn W (e :: es) (newN mf t) := by
  refine PA.imp (pa_cons he ht hs) fun σ H Q ⟨ρ, L, M, rl, h⟩ => ⟨ρ, L, M, rl, ?_⟩
  unfold newN at h
  cases e1 : mf L M with
  | stk => rw [e1] at h; exact h
  | err x L1 M1 => rw [e1] at h; exact h
  | ok d L1 M1 =>
    rw [e1] at h
    dsimp only at h
    intro ρ1 H1 a us s1 r1 ha ru nw n1 n2
    refine ⟨ρ1, L1, M1, r1, ?_⟩
    cases e2 : t L1 M1 with
    | stk => rw [e2] at h; exact h
    | err x L2 M2 => rw [e2] at h; exact fun ρ' H' cls dd s' => h ρ' H' cls dd (s1.trans s')
    | ok ss L2 M2 =>
      rw [e2] at h
      intro ρ2 H2 vs s2 r2 hl
      have ha2 := s2.keep a _ ha n1 n2 fun ps z => nomatch z
      have m1 : a ∉ ρ2 := fun z => (s2.new a z).elim n1 fun q => q.ne ha (fun _ z => nomatch z) rfl
      have m2 : a ∉ ownA (ss ++ L2) (vs.map some ++ σ) := fun z => (s2.own a z).elim n2 fun q => q.ne ha (fun _ z => nomatch z) rfl
      have nd := List.nodup_append.mp r2.nd
      have st : Stp ρ H (ownA L σ) ρ2 H2 (a :: ownA (ss ++ L2) (vs.map some ++ σ)) := by
        have s3 := s1.trans s2
        exact ⟨s3.pre, s3.ext, s3.keep, s3.new, s3.there, fun b hb => (List.mem_cons.mp hb).elim (fun z => .inr (z ▸ nw)) (s3.own b)⟩
      refine h ρ2 H2 (.ref a :: vs) st ⟨.cons ⟨us, ha2, ru.step s2⟩ r2.sl, ?_, r2.len, r2.ob, r2.tb⟩ (congrArg (· + 1) hl)
      show (a :: ownA (ss ++ L2) (vs.map some ++ σ) ++ ρ2).Nodup
      exact List.nodup_cons.mpr ⟨fun z => (List.mem_append.mp z).elim m2 m1, r2.nd⟩

def envOf (sc : Scope) (e : Env) : Env := { e with scope := sc }
theorem swap_env {ts : List Expr} {v : Expr} {e e' : Env} (h : e.scope = e'.scope) : swappedStores ts v e = swappedStores ts v e' := by
  unfold swappedStores Env.blockKind Env.kindOf
  rw [h]
def par2 (i j : Nat) (t : MN) : MS := fun L M => match t L M with
  | .ok [s, u] L1 M1 => .nx ((L1.set i s).set j u) M1
  | .ok _ _ _ => .stk
  | .err x L1 M1 => .err x L1 M1
  | .stk => .stk
theorem es_par2 (c : Ct U N sc W n X) (i j : Nat) {x y : Str} {a b : Expr} {px py pt : Pos} {kt k2 pt2} {t : MN} (hij : i ≠ j) (ht : EN X U.G U.xn W [a, b] t) (hi : N[i]? = some x) (hj : N[j]? = some y) (hx : sc.names.lookup x = some .local) (hy : sc.names.lookup y = some .local) 
    (hw : ∀ e : Env, swappedStores [.Tuple [.Name x px, .Name y py] kt pt] (.Tuple [a, b] k2 pt2) { e with scope := sc } = pure (some [x, y]))
    (hs : swapsWithSole [.Tuple [.Name x px, .Name y py] kt pt] (.Tuple [a, b] k2 pt2) pos.line X.env = pure false := by rfl) :  -- 119
    ES X U.G U.xn W (.Assign [.Tuple [.Name x px, .Name y py] kt pt] (.Tuple [a, b] k2 pt2) pos) (par2 i j t) := by
  refine PS.imp (ps_par c.calm c.nd (c.at_ hi) (c.at_ hj) hij (by rw [c.sc]; exact hx) (by rw [c.sc]; exact hy) ht ?_ hs) fun Z σ H ⟨ρ, L, M, rl, h⟩ => ⟨ρ, L, M, rl, ?_⟩
  · rw [swap_env (e' := { X.env with scope := sc }) c.sc]; exact hw _
  · unfold par2 at h
    cases e : t L M with
    | stk => rw [e] at h; exact h
    | err x L1 M1 => rw [e] at h; exact fun ρ' H' cls dd s r => h ρ' H' σ cls dd s r
    | ok ss L1 M1 =>
      rw [e] at h
      intro ρ1 H1 vs s1 r1 hl
      match ss, vs, hl, h, s1, r1 with
      | [s, u], [v, w], _, h, s1, r1 =>
        refine ⟨v, w, rfl, ?_⟩
        obtain ⟨r2, q2⟩ := Rl.put (L := u :: L1) (σ := some w :: σ) r1 (i + 1)
        obtain ⟨r3, q3⟩ := Rl.put (L := L1.set i s) (σ := σ.set i (some v)) r2 j
        exact h ρ1 H1 _ (s1.sub fun b hb => q2 b (q3 b hb)) r3
      | [], _, _, h, _, _ => exact h.elim
      | [_], _, _, h, _, _ => exact h.elim
      | _ :: _ :: _ :: _, _, _, h, _, _ => exact h.elim
def par3 (i j k : Nat) (t : MN) : MS := fun L M => match t L M with
  | .ok [s, u, w] L1 M1 => .nx (((L1.set i s).set j u).set k w) M1
  | .ok _ _ _ => .stk
  | .err x L1 M1 => .err x L1 M1
  | .stk => .stk
theorem es_par3 (c : Ct U N sc W n X) (i j k : Nat) {x y z : Str} {a b d : Expr} {px py pz pt : Pos} {kt k2 pt2} {t : MN} (hij : i ≠ j) (hik : i ≠ k) (hjk : j ≠ k) (ht : EN X U.G U.xn W [a, b, d] t) (hi : N[i]? = some x) (hj : N[j]? = some y) (hk : N[k]? = some z) (hx : sc.names.lookup x = some .local) (hy : sc.names.lookup y = some .local) (hz : sc.names.lookup z = some .local) 
    (hw : ∀ e : Env, swappedStores [.Tuple [.Name x px, .Name y py, .Name z pz] kt pt] (.Tuple [a, b, d] k2 pt2) { e with scope := sc } = pure (some [x, y, z]))
    (hs : swapsWithSole [.Tuple [.Name x px, .Name y py, .Name z pz] kt pt] (.Tuple [a, b, d] k2 pt2) pos.line X.env = pure false := by rfl) :
    ES X U.G U.xn W (.Assign [.Tuple [.Name x px, .Name y py, .Name z pz] kt pt] (.Tuple [a, b, d] k2 pt2) pos) (par3 i j k t) := by
  refine PS.imp (ps_par3 c.calm c.nd (c.at_ hi) (c.at_ hj) (c.at_ hk) hij hik hjk (by rw [c.sc]; exact hx) (by rw [c.sc]; exact hy) (by rw [c.sc]; exact hz) ht ?_ hs) fun Z σ H ⟨ρ, L, M, rl, h⟩ => ⟨ρ, L, M, rl, ?_⟩
  · rw [swap_env (e' := { X.env with scope := sc }) c.sc]; exact hw _
  · unfold par3 at h
    cases e : t L M with
    | stk => rw [e] at h; exact h
    | err x L1 M1 => rw [e] at h; exact fun ρ' H' cls dd s r => h ρ' H' σ cls dd s r
    | ok ss L1 M1 =>
      rw [e] at h
      intro ρ1 H1 vs s1 r1 hl
      match ss, vs, hl, h, s1, r1 with
      | [s, u, p], [v, w, q], _, h, s1, r1 =>
        refine ⟨v, w, q, rfl, ?_⟩
        obtain ⟨r2, q2⟩ := Rl.put (L := u :: p :: L1) (σ := some w :: some q :: σ) r1 (i + 2)
        obtain ⟨r3, q3⟩ := Rl.put (L := p :: L1.set i s) (σ := some q :: σ.set i (some v)) r2 (j + 1)
        obtain ⟨r4, q4⟩ := Rl.put (L := (L1.set i s).set j u) (σ := (σ.set i (some v)).set j (some w)) r3 k
        exact h ρ1 H1 _ (s1.sub fun b hb => q2 b (q3 b (q4 b hb))) r4
      | [], _, _, h, _, _ => exact h.elim
      | [_], _, _, h, _, _ => exact h.elim
      | [_, _], _, _, h, _, _ => exact h.elim
      | _ :: _ :: _ :: _ :: _, _, _, h, _, _ => exact h.elim
end
end KK

namespace KK
open PySem PySem.Spec PyProof.Rows L2

/-! ### x != y where the class has an own __eq__ alone -/
section
variable {prog : Program} {w : World} {A : Around} {E : Value → Shared → Prop} {s : Shared} {K : PySem.W.Frag} {x C f : Addr} {ox : Obj} {od : Option Obj} {b : Value}
abbrev neS : Slot "object" "__ne__" "object.__ne__" := F.cmp_object.ne
theorem ne_bound {M : Model} {args : List Value} {Q : Option Value → Shared → Prop} (X : K.In s.heap) (I : PySem.W.InstAt s.heap x ox C od) (hs : PySem.W.findIn K (.ref C) "__ne__" = some (some (.builtin "object.__ne__")))
    (h : wpAny M A (call (.builtin "object.__ne__") (.ref x :: args)) (fun v => Q (some v)) E s) : wpAny M A (callSpecialIfBound? (.ref x) "__ne__" args) Q E s := by
  simp only [callSpecialIfBound?, bindSpecialIfBound?]  -- 120
  refine wpAny_holding (wpAny_bind (wpAny_bind (wpAny_bind (I.type.here ((PySem.W.looks_findIn X hs).here ?_)))))  -- 121
  simp only [F.cmp_object.ne.bind]
  refine wpAny_bind (wpAny_askSetting (wpAny_ite ?_))  -- 122
  have fin : wpAny M A (call (.builtin "object.__ne__") ([.ref x] ++ args) >>= fun v => pure (some v)) Q E s := wpAny_bind (wpAny_mono h (fun v s' h' => wpAny_pure h') fun _ _ h' => h')
  split
  · exact wpAny_bind (wpAny_pure (wpAny_pure (by exact fin)))
  · exact wpAny_tryCatch (wpAny_bind (wpAny_pure (wpAny_pure (by exact fin))))
theorem ne_check {M : Model} {Q : Unit → Shared → Prop} (X : K.In s.heap) (I : PySem.W.InstAt s.heap x ox C od) (hs : PySem.W.subIn K (.ref C) (.type "object") = some true) (h : Q () s) :
    wpAny M A (checkBuiltinCall "object.__ne__" ⟨[.ref x, b], []⟩) Q E s := by
  have ha := F.cmpArgs_ne (.ref x) b
  simp only [checkBuiltinCall, F.cmpKind_ne, F.cmpSplit_ne]
  refine wpAny_bind ?_
  unfold isInstance
  refine wpAny_bind (I.type.here ((PySem.W.looks_subIn X hs).here ?_))
  cases hsig : Manifest.signature? "object.__ne__" with
  | none => exact wpAny_pure h
  | some sig =>
    simp only [argsOk, hsig] at ha  -- 123
    have h2 : Bind.checkArgs "object.__ne__" sig ⟨[.ref x, b], []⟩ = pure () := ha
    show wpAny M A (Bind.checkArgs "object.__ne__" sig ⟨[.ref x, b], []⟩) Q E _
    rw [h2]
    exact wpAny_pure h
theorem ne_rich {Q : Value → Shared → Prop} (hu : A.units + 1 < cLine) (X : K.In s.heap) (I : PySem.W.InstAt s.heap x ox C od) (hb : PySem.W.Looks (model prog w) s.heap (typeOf b) (.ref C))
    (hne : PySem.W.findIn K (.ref C) "__ne__" = some (some (.builtin "object.__ne__"))) (hsub : PySem.W.subIn K (.ref C) (.type "object") = some true)
    (hs : PySem.W.findIn K (.ref C) "__eq__" = some (some (.ref f))) (hf : PySem.W.isFn K (.ref f) = true)
    (h : codeAny (model prog w) A.in1 (.call (.ref f) ⟨[.ref x, b], []⟩) (fun r s' => (∃ k, r = .ok (.ret (.bool k)) ∧ Q (.bool !k) s') ∨ ∃ e, r = .error e ∧ E e s') s) : wpAny (model prog w) A (richCompare .NotEq (.ref x) b) Q E s := by
  unfold richCompare
  simp only [oneThing_ref]
  refine wpAny_holding (wpAny_bind (wpAny_cRoomFor (Nat.lt_of_succ_lt hu) ?_))
  refine wpAny_bind (I.type.here (wpAny_bind (hb.here ?_)))  -- 124
  rw [if_neg (by simp)]
  refine wpAny_bind (wpAny_pure ?_)  -- 125
  simp only [Bool.false_eq_true, if_false]  -- 126
  unfold tryCompare
  refine wpAny_bind (wpAny_bind (ne_bound X I hne (wpAny_call (codeAny_call_builtin F.cmp_object.ne.plain F.cmpEntry_ne (ne_check X I hsub ?_)))))
  unfold Builtin.«object.__ne__»  -- 127
  repeat (first | with_reducible refine wpAny_cRoomFor hu ?_ | (with_reducible refine PySem.W.ifBound_K X I hs hf ?_) | wp_step)
  refine codeAny_mono h fun r s' z => ?_
  rcases z with ⟨k, rfl, q⟩ | ⟨e, rfl, q⟩
  · dsimp only
    wp_walk
    exact q
  · exact q
end
def rOwn (C : Addr) (sp : Sp) (E : XK) (g : Bool → Bool) : R2 := fun x y H Q => ∃ a b dx dy fs gs, x = .ref a ∧ y = .ref b ∧ H a = some (.ins C dx fs) ∧ H b = some (.ins C dy gs) ∧ sp [.ref a, .ref b] H (fun v H' => ∃ t, v = .bl t ∧ Q (.bl (g t)) H') E
section
variable {X : Cx} {n : Nat} {CX : CXT} {C f : Addr} {fd : FuncData} {ps : List Str} {sp : Sp} {E : XK}
theorem own_back {pins : List (Addr × Obj)} {s : Shared} {σ : L2.St} {H : Hp} {A : Around} {x y : Addr} {Z : VK} (F : FnOk X.prog X.w X.K X.mg X.base CX n f fd ps sp) (hr : Room n A) (hA : A.frames = X.A.frames) (hb : Binds X.K fd ps []) (hx : Passes CX X E) (I : L2.Inv X pins σ H s)
    (hsp : sp [.ref x, .ref y] H Z E) : codeAny (model X.prog X.w) A (.call (.ref f) ⟨[.ref x, .ref y], []⟩) (fun r s' => (∃ v, r = .ok (.ret v) ∧ L2.EP X pins σ Z v s') ∨ ∃ e, r = .error e ∧ X.xe e s') s := by
  have e0 : Env0 X.prog X.w X.K X.mg X.base A X.stack s H := by  -- 128
    have e := I.env0
    exact ⟨by rw [hA]; exact e.frames, e.mod, e.bs, e.bsz, e.funs, e.frf, e.hok, e.bare⟩
  have hl := F.len _ _ _ _ hsp
  have r2 : Vals [V.ref x, V.ref y] [Value.ref x, Value.ref y] := .cons rfl (.cons rfl .nil)
  refine codeAny_mono (F.run A X.stack s H ⟨[.ref x, .ref y], []⟩ [.ref x, .ref y] [.ref x, .ref y] _ E hr e0 (by
    have := hb s [.ref x, .ref y] I.kIn (by simpa using hl)
    simpa using this) r2 hsp) fun r s' hq => ?_
  cases r with
  | error e => exact .inr ⟨e, rfl, hx pins σ H s e s' I hq⟩
  | ok fl =>
    cases fl with
    | ret w => exact .inl ⟨w, rfl, I.after hq⟩
    | next => exact False.elim hq
    | brk => exact False.elim hq
    | cont => exact False.elim hq
theorem op_own (F : FnOk X.prog X.w X.K X.mg X.base CX n f fd ps sp) (hr : Room n X.A) (hs : PySem.W.findIn X.K (.ref C) "__eq__" = some (some (.ref f))) (hf : PySem.W.isFn X.K (.ref f) = true) (hb : Binds X.K fd ps []) (hx : Passes CX X E) :
    OpR X (compareOp .Eq) (rOwn C sp E fun t => t) := by
  rintro pins s σ H x y v u Q I rx ry ⟨a, b, dx, dy, fs, gs, rfl, rfl, ha, hb', hsp⟩
  cases rx
  cases ry
  obtain ⟨mA, J, _⟩ := ins_get I.hok ha  -- 129
  obtain ⟨mB, J', _⟩ := ins_get I.hok hb'  -- 130
  obtain ⟨od, J, _⟩ := J.look
  obtain ⟨od', J', _⟩ := J'.look  -- 131
  obtain ⟨m, hF⟩ := I.fr
  show wpAny (model X.prog X.w) X.A (richCompare .Eq (.ref a) (.ref b)) (L2.EP X pins σ Q) X.xe s
  refine PySem.W.cmp_K (op := .Eq) (tb := .ref C) hr.units0 hF I.ok.mod.kin J J'.type (by simp [PySem.W.notFirst]) hs hf ?_
  refine wpAny_call (codeAny_mono (own_back F hr rfl hb hx I hsp) fun r s' z => ?_)
  rcases z with ⟨w, rfl, z, H', I', rz, t, ez, q⟩ | ⟨e, rfl, q⟩
  · subst ez
    cases rz
    exact ⟨.bl t, H', I', rfl, q⟩
  · exact q
theorem op_ownNe (F : FnOk X.prog X.w X.K X.mg X.base CX n f fd ps sp) (hr : Room (n + 1) X.A) (hs : PySem.W.findIn X.K (.ref C) "__eq__" = some (some (.ref f))) (hf : PySem.W.isFn X.K (.ref f) = true)
    (hne : PySem.W.findIn X.K (.ref C) "__ne__" = some (some (.builtin "object.__ne__"))) (hsub : PySem.W.subIn X.K (.ref C) (.type "object") = some true) (hb : Binds X.K fd ps []) (hx : Passes CX X E) :
    OpR X (compareOp .NotEq) (rOwn C sp E fun t => !t) := by
  rintro pins s σ H x y v u Q I rx ry ⟨a, b, dx, dy, fs, gs, rfl, rfl, ha, hb', hsp⟩
  cases rx
  cases ry
  obtain ⟨mA, J, _⟩ := ins_get I.hok ha  -- 132
  obtain ⟨mB, J', _⟩ := ins_get I.hok hb'  -- 133
  obtain ⟨od, J, _⟩ := J.look
  obtain ⟨od', J', _⟩ := J'.look  -- 134
  show wpAny (model X.prog X.w) X.A (richCompare .NotEq (.ref a) (.ref b)) (L2.EP X pins σ Q) X.xe s
  refine ne_rich (by have := hr.un; omega) I.kIn J J'.type hne hsub hs hf ?_
  refine codeAny_mono (own_back F hr.in1 rfl hb hx I hsp) fun r s' z => ?_
  rcases z with ⟨w, rfl, z, H', I', rz, t, ez, q⟩ | ⟨e, rfl, q⟩
  · subst ez
    cases rz
    exact .inl ⟨t, rfl, .bl !t, H', I', rfl, q⟩
  · exact .inr ⟨e, rfl, q⟩
end
/-- what is known of the own == -/
structure EqO (U : Wd) (c i : Nat) (ps : List Str) (k : Nat) (F : MF) : Prop where
  two : ps.length = 2
  b : FnB U i ps k F
  eq : PySem.W.findIn U.G.K (.ref (U.G.ca c)) "__eq__" = some (some (.ref (U.G.fa i)))
  fn : PySem.W.isFn U.G.K (.ref (U.G.fa i)) = true
  ne : PySem.W.findIn U.G.K (.ref (U.G.ca c)) "__ne__" = some (some (.builtin "object.__ne__"))
  ob : PySem.W.subIn U.G.K (.ref (U.G.ca c)) (.type "object") = some true
def eqO (neg : Bool) (c : Nat) (F : MF) (ma mb : MX) : MX := fun L M => (ma L M).bind fun x L1 M1 => (mb L1 M1).bind fun y L2 M2 => match instOf M2 c x, instOf M2 c y with
  | some _, some _ => match F [x, y] M2 with
    | .ok (.bl t) M3 => .ok (.bl (if neg then !t else t)) L2 M3
    | .err e M3 => .err e L2 M3
    | _ => .stk
  | _, _ => .stk
section
variable {X : Cx} {U : Wd} {N : List Str} {sc : Scope} {W : WX} {n c i k : Nat} {ps : List Str} {F : MF} {a b : Expr} {ma mb : MX} {pos : Pos}
theorem XP.mapO {G : Gb} {xn : Nat → Option Str} {ρ : List Addr} {H : Hp} {L : LL} {σ : L2.St} {M : MM} {r : Fr} {g : Bool → Bool} {Q : VK} (si : SI W) (rl : Rl G ρ H L σ M) (h : XP G xn W ρ H L σ (match r with | .ok (.bl t) M3 => .ok (.bl (g t)) L M3 | .err e M3 => .err e L M3 | _ => .stk) Q) :
    FP G xn ρ H r (fun v H' => ∃ t, v = .bl t ∧ Q (.bl (g t)) H') (fun cls d H => ∀ σ, W cls d σ H) := by
  cases r with
  | stk => exact h
  | err y M' => exact fun ρ' H' cls dd s a b σ' => si _ _ _ _ _ (h ρ' H' cls dd s.own0 (rl.back s a) b)
  | ok d M' =>
    cases d with
    | bl t =>
      intro ρ' H' v s a b
      cases b.bl'
      exact ⟨t, rfl, h ρ' H' _ s.own0 (rl.back s a) (.bl _)⟩
    | _ => exact h.elim
theorem own_read (ct : Ct U N sc W n X) (si : SI W) (I : EqO U c i ps k F) {neg : Bool} {op : Value → Value → Sem Value} {σ : L2.St} {H : Hp} {Q : VK} (h : tX U.G U.xn W (eqO neg c F ma mb) σ H Q) :
    tOp (rOwn (U.G.ca c) (spF U.G U.xn ps.length F) (fun cls d H => ∀ σ, W cls d σ H) fun t => if neg then !t else t) (tX U.G U.xn W ma) (tX U.G U.xn W mb) σ H Q := by
  obtain ⟨ρ, L, M, rl, h⟩ := h
  refine ⟨ρ, L, M, rl, XP.mono (XP.bind h) ?_⟩
  rintro x H1 ⟨ρ1, L1, M1, d, s1, r1, rv, h1⟩
  refine ⟨ρ1, L1, M1, r1, XP.mono (XP.bind h1) ?_⟩
  rintro y H2 ⟨ρ2, L2, M2, d2, s2, r2, ru, h2⟩
  dsimp only at h2
  split at h2
  · rename_i p q e1 e2
    obtain ⟨i1, fs⟩ := p
    obtain ⟨i2, gs⟩ := q
    obtain ⟨qa, qb⟩ := instOf_eq e1
    obtain ⟨qc, qd⟩ := instOf_eq e2
    subst qa qc
    have rv2 := rv.step s2
    obtain ⟨a, a1, dx, vs, a2, a3⟩ := r2.ob i1 _ qb
    obtain ⟨b, b1, dy, us, b2, b3⟩ := r2.ob i2 _ qd
    have rv3 := rv2
    have ru3 := ru
    cases rv2 with
    | obj e3 =>
      cases ru with
      | obj e4 =>
        rw [a1] at e3; cases e3
        rw [b1] at e4; cases e4
        exact ⟨a, b, dx, dy, _, _, rfl, rfl, a2, b2, ρ2, M2, [.obj i1, .obj i2], r2.bare, .cons rv3 (.cons ru3 .nil), by rw [I.two]; rfl, XP.mapO si r2 h2⟩
  · exact h2.elim
theorem ex_eqO (ct : Ct U N sc W n X) (si : SI W) (I : EqO U c i ps k F) (hk : k ≤ n) (ha : EX X U.G U.xn W a ma) (hb : EX X U.G U.xn W b mb) (hm : behindInMarks .Eq b = false := by first | rfl | exact nomark _) : EX X U.G U.xn W (.Compare a [.Eq] [b] pos) (eqO false c F ma mb) := by
  obtain ⟨fd, hb', fo⟩ := I.b.at ct hk
  exact PE.imp (pe_cmpR (op_own fo ct.room (by rw [ct.K]; exact I.eq) (by rw [ct.K]; exact I.fn) hb' (passU ct)) ha hb hm) fun σ H Q h => own_read (op := compareOp .Eq) ct si I h
theorem ex_neO (ct : Ct U N sc W (n + 1) X) (si : SI W) (I : EqO U c i ps k F) (hk : k ≤ n) (ha : EX X U.G U.xn W a ma) (hb : EX X U.G U.xn W b mb) (hm : behindInMarks .NotEq b = false := by first | rfl | exact nomark _) : EX X U.G U.xn W (.Compare a [.NotEq] [b] pos) (eqO true c F ma mb) := by
  obtain ⟨fd, hb', fo⟩ := I.b.at ct (Nat.le_succ_of_le hk)
  obtain ⟨fd, hb', fo⟩ := I.b.ok
  have fo' : FnOk X.prog X.w X.K X.mg X.base (L2.CX X.prog X.w) n (U.G.fa i) fd ps (spF U.G U.xn ps.length F) := by rw [ct.P, ct.w, ct.K, ct.mg, ct.base]; exact fo.mono hk
  exact PE.imp (pe_cmpR (op_ownNe fo' ct.room (by rw [ct.K]; exact I.eq) (by rw [ct.K]; exact I.fn) (by rw [ct.K]; exact I.ne) (by rw [ct.K]; exact I.ob) (by rw [ct.K]; exact hb') (passU ct)) ha hb hm) fun σ H Q h => own_read (op := compareOp .NotEq) ct si I h
end
end KK

namespace KK
open PySem PySem.Spec PyProof.Rows L2

/-! ### sorted(texts) -/
def strLe (x y : Str) : Bool := !decide (y.cps.toList < x.cps.toList)
def sortStr (xs : List Str) : List Str := xs.mergeSort strLe
theorem strLe_iff {x y : Str} : strLe x y = true ↔ x.cps.toList ≤ y.cps.toList := by
  unfold strLe
  rw [Bool.not_eq_true', decide_eq_false_iff_not, List.not_lt]
theorem strLe_trans (a b c : Str) (h : strLe a b = true) (k : strLe b c = true) : strLe a c = true := by
  rw [strLe_iff] at *
  exact List.le_trans h k
theorem strLe_total (a b : Str) : (strLe a b || strLe b a) = true := by
  rw [Bool.or_eq_true, strLe_iff, strLe_iff]
  exact List.le_total _ _
theorem strLe_anti {a b : Str} (h : strLe a b = true) (k : strLe b a = true) : a = b := by
  rw [strLe_iff] at *
  obtain ⟨⟨a⟩⟩ := a
  obtain ⟨⟨b⟩⟩ := b
  have e : a = b := List.le_antisymm h k
  rw [e]
theorem rising_pw : ∀ {l : List Str} {p : Str}, risingS p l = true → (p :: l).Pairwise (fun a b => strLe a b = true)
  | [], p, _ => by simp
  | x :: r, p, h => by
    have h' : (!ltCps x.cps.toList p.cps.toList && risingS x r) = true := h
    rw [Bool.and_eq_true, ltCps_eq] at h'
    have ih := rising_pw h'.2
    have e : strLe p x = true := h'.1
    refine List.pairwise_cons.mpr ⟨fun y hy => ?_, ih⟩
    rcases List.mem_cons.mp hy with z | z
    · rw [z]; exact e
    · exact strLe_trans _ _ _ e ((List.pairwise_cons.mp ih).1 y z)
theorem sorted_pw : ∀ {l : List Str}, sortedS l = true → l.Pairwise (fun a b => strLe a b = true)
  | [], _ => .nil
  | x :: r, h => rising_pw h
theorem sort_one {xs ys : List Str} (p : ys.Perm xs) (h : sortedS ys = true) : ys = sortStr xs :=
  List.Perm.eq_of_pairwise (fun a b _ _ h k => strLe_anti h k) (sorted_pw h) (List.pairwise_mergeSort strLe_trans strLe_total xs) (p.trans (List.mergeSort_perm xs strLe).symm)
def sortD : D → Option (List D)
  | .lst ds => match allStr ds with
    | some xs => if xs.length < 64 then some ((sortStr xs).map D.str) else none
    | none => none
  | _ => none
section
variable {X : Cx} {U : Wd} {N : List Str} {sc : Scope} {W : WX} {n : Nat} {G : Gb} {ρ : List Addr} {H : Hp}
theorem rs_strs : ∀ (xs : List Str), Rs G ρ H (xs.map D.str) (xs.map V.str)
  | [] => .nil
  | x :: xs => .cons (.str x) (rs_strs xs)
theorem f_sorted (c : Ct U N sc W n X) : F1 U.G (rSortedS X.K) sortD := by
  intro ρ H L σ M d v ds Q rl r e q
  unfold sortD at e
  split at e
  · rename_i es
    cases q2 : allStr es with
    | none => rw [q2] at e; cases e
    | some xs =>
      rw [q2] at e
      dsimp only at e
      split at e
      · rename_i hz
        cases e
        obtain ⟨a, vs, rfl, hq, rr⟩ := r.list
        have ev := rr.allStr q2
        subst ev
        refine ⟨a, xs, rfl, by rw [c.K]; exact hq, hz, fun ys p hp hs hn => ?_⟩
        rw [sort_one hp hs]
        exact q p _ hn (rs_strs _)
      · cases e
  · cases e

/-! ### data (by first | exact Or.inl rfl | exact Or.inr (Or.inl rfl) | exact Or.inr (Or.inr rfl)) through the heap -/
def vd (M : MM) : D → D
  | .tup ds => .tup (ds.map (vw M))
  | d => vw M d
theorem R.vw {L : LL} {σ : L2.St} {M : MM} (a : Rl G ρ H L σ M) {d : D} {v : V} (b : R G ρ H d v) : RB G ρ H (vw M d) v := by
  unfold KK.vw
  split
  · rename_i i
    cases b with
    | obj e =>
      split
      · rename_i ds q
        obtain ⟨a', h1, vs, h2, h3⟩ := a.ob i _ q
        rw [e] at h1; cases h1
        exact .l h2 h3
      · rename_i kvs q
        obtain ⟨a', h1, vs, h2, h3⟩ := a.ob i _ q
        rw [e] at h1; cases h1
        exact .dk h2 (by rw [List.length_map, ← h3.length, List.length_map]) h3
      · exact .r (.obj e)
  · exact .r b
theorem Rs.vw {L : LL} {σ : L2.St} {M : MM} (a : Rl G ρ H L σ M) : ∀ {ds : List D} {vs : List V} {ps : List PyData}, Rs G ρ H ds vs → pys (ds.map (KK.vw M)) = some ps → DpAll G.K H vs ps
  | _, _, _, .nil, e => by cases e; exact .nil
  | _, _, _, .cons r t, e => by
    simp only [List.map_cons, pys] at e
    split at e
    · rename_i p ps e1 e2
      cases e
      exact .cons ((r.vw a).dp e1) (Rs.vw a t e2)
    · cases e
theorem R.vd {L : LL} {σ : L2.St} {M : MM} (a : Rl G ρ H L σ M) {d : D} {v : V} {p : PyData} (b : R G ρ H d v) (e : py (KK.vd M d) = some p) : Dp G.K H v p := by
  unfold KK.vd at e
  split at e
  · simp only [py, Option.map_eq_some_iff] at e
    obtain ⟨ps, e, rfl⟩ := e
    cases b with
    | tup t r => exact .tup t.sq (r.vw a e)
  · exact (b.vw a).dp e
def eqV (neg : Bool) (ma mb : MX) : MX := fun L M => (ma L M).bind fun x L1 M1 => (mb L1 M1).bind fun y L2 M2 => if dep (vd M2 x) ≤ 60 ∧ dep (vd M2 y) ≤ 60 then .ok (.bl (if neg then !eqv (vd M2 x) (vd M2 y) else eqv (vd M2 x) (vd M2 y))) L2 M2 else .stk
theorem eqv_read (c : Ct U N sc W n X) {ma mb : MX} {neg : Bool} {σ : L2.St} {H : Hp} {Q : VK} (h : tX U.G U.xn W (eqV neg ma mb) σ H Q) :
    tOp (fun x y H Q => ∃ d e, Dp X.K H x d ∧ Dp X.K H y e ∧ SeqAt.shaped d = true ∧ SeqAt.shaped e = true ∧ Q (.bl (if neg then !PyData.eqv d e else PyData.eqv d e)) H) (tX U.G U.xn W ma) (tX U.G U.xn W mb) σ H Q := by
  obtain ⟨ρ, L, M, rl, h⟩ := h
  refine ⟨ρ, L, M, rl, XP.mono (XP.bind h) ?_⟩
  rintro x H1 ⟨ρ1, L1, M1, d, s1, r1, rv, h1⟩
  refine ⟨ρ1, L1, M1, r1, XP.mono (XP.bind h1) ?_⟩
  rintro y H2 ⟨ρ2, L2, M2, d2, s2, r2, ru, h2⟩
  dsimp only at h2
  split at h2
  · rename_i hz
    obtain ⟨p, e1, _, _⟩ := py_dep (d := vd M2 d) (by omega)
    obtain ⟨p', e2, _, _⟩ := py_dep (d := vd M2 d2) (by omega)
    refine ⟨p, p', by rw [c.K]; exact (rv.step s2).vd r2 e1, by rw [c.K]; exact ru.vd r2 e2, shaped_dep hz.1 e1, shaped_dep hz.2 e2, ?_⟩
    rw [eqv_py e1 e2]
    exact h2 ρ2 H2 _ Stp.refl r2 (.bl _)
  · exact h2.elim
theorem ex_eqV (c : Ct U N sc W n X) {a b : Expr} {ma mb : MX} {pos : Pos} (ha : EX X U.G U.xn W a ma) (hb : EX X U.G U.xn W b mb) (hm : behindInMarks .Eq b = false := by first | rfl | exact nomark _) : EX X U.G U.xn W (.Compare a [.Eq] [b] pos) (eqV false ma mb) :=
  PE.imp (pe_cmpR (op_eqD (by have := c.room.un; omega)) ha hb hm) fun σ H Q h => eqv_read (neg := false) c h
theorem ex_neV (c : Ct U N sc W n X) {a b : Expr} {ma mb : MX} {pos : Pos} (ha : EX X U.G U.xn W a ma) (hb : EX X U.G U.xn W b mb) (hm : behindInMarks .NotEq b = false := by first | rfl | exact nomark _) : EX X U.G U.xn W (.Compare a [.NotEq] [b] pos) (eqV true ma mb) :=
  PE.imp (pe_cmpR (op_neD (by have := c.room.un; omega)) ha hb hm) fun σ H Q h => eqv_read (neg := true) c h
end
end KK

namespace KK
open PySem PySem.Spec PyProof.Rows L2

/-! ### target = value -/
def asgM (m : MX) (g : GD) : MS := fun L M => match m L M with
  | .ok d L1 M1 => match g d L1 with
    | some L2 => .nx L2 M1
    | none => .stk
  | .err x L1 M1 => .err x L1 M1
  | .stk => .stk
section
variable {X : Cx} {U : Wd} {N : List Str} {sc : Scope} {W : WX} {n : Nat} {sl : List Nat} {G : Gb} {xn : Nat → Option Str} {tg e : Expr} {m ma mb : MX} {g : GD} {pos : Pos}
theorem es_asg (he : EX X G xn W e m) (hg : EG X G sl tg g) (hs : swapsWithSole [tg] e pos.line X.env = pure false := by rfl) (hw : swappedStores [tg] e X.env = pure none := by rfl)
    (h1 : (assignEach [tg] X.env).map (·.2) = [assign tg X.env] := by rfl) : ES X G xn W (.Assign [tg] e pos) (asgM m g) := by
  refine PS.imp (ps_asg he hg hs hw h1) fun Z σ H ⟨ρ, L, M, rl, h⟩ => ⟨ρ, L, M, rl, ?_⟩
  unfold asgM at h
  refine XP.toO (k := fun d L1 M1 => match g d L1 with | some L2 => .nx L2 M1 | none => .stk) h fun ρ1 H1 d L1 M1 v s r rv h1 => ?_
  refine ⟨ρ1, L1, M1, d, r, rv, ?_⟩
  cases q : g d L1 with
  | none => rw [q] at h1; exact h1
  | some L2 => rw [q] at h1; exact fun σ' ag s2 r2 => h1 ρ1 H1 σ' s2 r2

/-! ### t * n -/
def rRepZ (K : PySem.W.Frag) : R2 := fun x y H Q => ∃ a k zs, x = .ref a ∧ y = .int k ∧ SqT K H a zs ∧ zs ≠ [] ∧ 2 ≤ k ∧ k ≤ 1000 ∧ zs.length ≤ 1000 ∧ NewT H (List.replicate k.toNat zs).flatten Q
theorem op_repZ {X : Cx} : OpR X (binaryOp .Mult) (rRepZ X.K) := by
  rintro pins s σ H x y v u Q I rx ry ⟨a, k, zs, rfl, rfl, ha, hne, k2, k9, hz, q⟩
  cases rx
  obtain ⟨tk, rfl⟩ := ry
  obtain ⟨us, hv, ⟨⟨oc, od, oda, osl⟩, ho, ec, nn, ed⟩, _⟩ := I.tuple ha
  dsimp only at ec ed
  subst ec ed
  have el : us.length = zs.length := hv.length.symm
  have un : us ≠ [] := fun e => hne (by rw [e] at el; exact List.eq_nil_of_length_eq_zero el.symm)
  have ue : us.toArray.isEmpty = false := by cases us with | nil => exact absurd rfl un | cons p q => rfl
  have es : us.toArray.size = zs.length := by rw [List.size_toArray, el]
  have em : ((us.toArray.size : Nat) : Int) * k ≤ 1000000 := by
    rw [es]
    have w1 : ((zs.length : Nat) : Int) * k ≤ 1000 * k := Int.mul_le_mul_of_nonneg_right (by omega) (by omega)
    omega
  have fl : (List.replicate k.toNat us).flatten.length ≤ sizeLine := by
    rw [PyProof.Rows.lm_len_rep_flat, el, sizeLine_eq]
    have w2 : k.toNat * zs.length ≤ 1000 * 1000 := Nat.mul_le_mul (by omega) hz
    omega
  have g0 : (decide (k < -(2 ^ 63)) || decide (k ≥ 2 ^ 63)) = false := by rw [decide_eq_false (by omega), decide_eq_false (by omega)] <;> rfl
  have g1 : (us.toArray.isEmpty || k == 1) = false := by rw [ue, Bool.false_or]; exact beq_eq_false_iff_ne.mpr (by omega)
  have g2 : (decide (k ≤ 0) || us.toArray.isEmpty) = false := by rw [ue, Bool.or_false]; exact decide_eq_false (by omega)
  have g3 : Builtin.Tuple.tupleTooMany (((us.toArray.size : Nat) : Int) * k) = false := by unfold Builtin.Tuple.tupleTooMany; rw [sizeLine_eq]; exact decide_eq_false (by omega)
  refine wpAny_binaryOp_repeat_ref (T := "tuple") (U := "int") (by decide) ⟨_, ho, rfl⟩ (fun s' => typeIs_int s' k tk) noFill_tuple_mul F.fills_int_mul F.slot_int_rmul repeat_tuple F.slot_int_index.lookup (call_meets F.slot_int_rmul (typeIs_int s k tk) F.entry_int_rmul (F.args_int_rmul_2 _ _) (int_rmul_tuple k tk a us.toArray nn od osl) ⟨ho, rfl, ⟨_, ho, rfl⟩, call_meets F.slot_tuple_mul ⟨_, ho, rfl⟩ F.entry_tuple_mul (F.args_tuple_mul_2 _ _) (tuple_mulW a us.toArray nn od osl k tk g0 g1 g2 (by omega) g3 (by rw [size_rep, List.size_toArray]; exact fl)) ⟨ho, ?_⟩⟩)
  rw [size_rep]
  exact ⟨.ref s.heap.objs.size, _, Inv.tlay (tk := s.toks) I (hv.rep k.toNat) (by rw [(hv.rep k.toNat).length]; exact fl), rfl, q _ _ I.fresh ⟨rfl, rfl⟩⟩
def repTD : D → D → Option D
  | .tup ds, .int k => if ds ≠ [] ∧ 2 ≤ k ∧ k ≤ 1000 ∧ ds.length ≤ 1000 then some (.tup (List.replicate k.toNat ds).flatten) else none
  | _, _ => none
theorem Rs.flat {ρ : List Addr} {H : Hp} {ds : List D} {vs : List V} (r : Rs G ρ H ds vs) : ∀ k : Nat, Rs G ρ H (List.replicate k ds).flatten (List.replicate k vs).flatten
  | 0 => .nil
  | k + 1 => by
    rw [List.replicate_succ, List.replicate_succ, List.flatten_cons, List.flatten_cons]  -- 135
    exact r.append (Rs.flat r k)
theorem od_rep (c : Ct U N sc W n X) : OpD X U.G (binaryOp .Mult) repTD := by
  rintro pins s σ' H x y v u Q I rx ry ⟨ρ, L, σ, M, d, e, z, rl, r1, r2, hf, q⟩
  unfold repTD at hf
  split at hf
  · split at hf
    · rename_i hz
      cases hf
      obtain ⟨a, vs, rfl, t1, s1⟩ := (RB.r r1).tuple
      cases r2.int
      have hl := s1.length
      refine op_repZ pins s σ' H _ _ v u Q I rx ry ⟨a, _, vs, rfl, rfl, by rw [c.K]; exact t1, fun e => hz.1 ?_, hz.2.1, hz.2.2.1, by rw [← hl]; exact hz.2.2.2, fun p o hp ho => ?_⟩
      · subst e; cases s1; rfl
      · exact q _ _ (upd_grow hp) (.tup (.inl ⟨o, upd_same, ho⟩) ((s1.flat _).mono (List.prefix_refl _) (Ext.of (upd_grow hp))))
    · cases hf
  · cases hf
end
end KK

namespace KK
open PySem PySem.Spec PyProof.Rows L2

/-! ### an own exception over ValueError: its __init__ says super().__init__(y); self.f = y -/
abbrev supBody (x y fn : Str) (p0 p1 p2 p3 p4 p5 p6 p7 p8 p9 : Pos) : List Stmt :=
  [.Expr (.Call (.Attribute (.Call (.Name "super" p0) [] [] p1) "__init__" p2) [.Name y p3] [] p4) p5, .Assign [.Attribute (.Name x p6) fn p7] (.Name y p8) p9]
section
variable {prog : Program} {w : World} {A : Around} {E : Value → Shared → Prop} {h : Heap} {g : Array GenState} {d : Drawn} {t : Nat} {os : OsState}  -- 136
variable {nm q : Str} {C N : Addr} {bs bm : List Value} {hdct : Bool} {sn : List Str} {sub : List Value} {ab : Bool} {col : Option Bool} {dd : Option Addr} {k0 k1 k2 k3 k5 : Option Value}  -- 137
/-- the wrapper ValueError.__init__, bound to e, is called -/
theorem call_vw {u e t0 : Addr} {rest : List Value} {Q : Value → Shared → Prop}
    (hC : h.get? C = some (excClassObj nm q C N bs bm hdct sn sub ab col dd k0 k1 k2 k3 k5 "ValueError.__new__")) (he : h.get? e = some (HandSPX.excO C t0)) (hu : h.get? u = some (PySem.W.kxs_mw "ValueError.__init__" e)) (hrest : rest.length ≤ sizeLine)
    (hq : ∀ h' t1, (∀ b o, b ≠ e → h.get? b = some o → h'.get? b = some o) → h'.get? e = some (HandSPX.excO C t1) → Q .none ⟨h', g, d, t, os⟩) : wpAny (model prog w) A (call (.ref u) rest) Q E ⟨h, g, d, t, os⟩ := by
  refine wpAny_call (codeAny_of_tree ?_)  -- 138
  show wpAny _ A.in1 (callAny (.ref u) ⟨rest, []⟩) _ _ _  -- 139
  simp only [callAny]
  refine wpAny_bind (wpAny_load hu ?_)  -- 140
  simp only [PySem.W.kxs_mw, show (Value.type "method-wrapper" == Value.type "method" || Value.type "method-wrapper" == Value.type "builtin_function_or_method" || Value.type "method-wrapper" == Value.type "method-wrapper") = true by decide, if_true]
  refine PySem.W.KFB.if_so (by decide) ?_  -- 141
  refine wpAny_bind (PySem.W.check_bound_init F.excBase_ValueError.toExcCallFacts hC he rfl ?_)
  refine wpAny_bind (wpAny_pure (wpAny_pure ?_))  -- 142
  refine ⟨plainId_quiet F.excBase_ValueError.init.plain _, codeAny_builtin F.excBase_ValueError.initEntry ?_⟩
  exact PySem.W.exc_init_tree (cls := .ref C) (t0 := t0) (dv := none) (c2 := .none) (c3 := .none) (b4 := .bool false) he hrest fun h' k e' _ => hq h' _ k e'
end
section
variable {prog : Program} {w : World} {A : Around} {s : Shared} {K : PySem.W.Frag} {R : Result → Shared → Prop} {mg mb : Str → Option Value}
/-- what the written part says of such a class -/
structure SupC (K : PySem.W.Frag) (main : Str) (C f : Addr) (x y fn : Str) : Prop where
  ne : x ≠ y
  oc : OexC K C
  no : PySem.W.findIn K (.ref C) fn = some none
  ini : PySem.W.findIn K (.ref C) "__init__" = some (some (.ref f))
  tyf : PySem.W.typeIn K (.ref f) = some (.type "function")
  any : PySem.W.nsIn K cStatics "thirdparty.any" = some none
  sup : PySem.W.nsIn K mainGlobals "super" = some none
  sin : PySem.W.ks_superIn K C C "__init__" = some (some (.builtin "ValueError.__init__"))
  ve : PySem.W.subIn K (.ref C) (.type "ValueError") = some true
  me : PySem.W.mroIn K C (.ref C) = some true
  ex : ∃ name qual params scope kV doc pm an ct oc od osl cc cda ccl cdd vs ccs file tf cl cld csl ar p0 p1 p2 p3 p4 p5 p6 p7 p8 p9, (∃ pl : Env → Sem Bool, ∀ e : Env, eval (.Call (.Attribute (.Call (.Name "super" p0) [] [] p1) "__init__" p2) [.Name y p3] [] p4) e = (do
      let ov ← attributeBase (.Call (.Name "super" p0) [] [] p1) "__init__" e (eval (.Call (.Name "super" p0) [] [] p1) e)
      standAt p2.atName
      let (f, first) ← holding [ov] (getMethod ov "__init__" (pl e))
      callWith p4 f first (backTo p4 (starEach [.Name y p3] e)) [])) ∧ K.lookup f = some (⟨oc, od, .func (PySem.W.ksFn name qual params (supBody x y fn p0 p1 p2 p3 p4 p5 p6 p7 p8 p9) scope .none kV doc pm an (.ref cda) ct cc), osl⟩ : Obj) ∧ PySem.W.codeIn K (.ref cda) qual = true ∧
    K.lookup cda = some (⟨ccl, cdd, .fields vs, ccs⟩ : Obj) ∧ vs[2]? = some (.str file tf) ∧ (main == file) = true ∧ K.lookup cc = some (⟨cl, cld, .cell (some (.ref C)), csl⟩ : Obj) ∧
    (params.posonlyargs ++ params.args).head? = some ar ∧ ar.arg = x ∧ (∀ (s : Shared) (u v : Value), BindsTo s (PySem.W.ksFn name qual params (supBody x y fn p0 p1 p2 p3 p4 p5 p6 p7 p8 p9) scope .none kV doc pm an (.ref cda) ct cc) ⟨[u, v], []⟩ [(x, u), (y, v)]) ∧
    scope.names.lookup x = some .local ∧ scope.names.lookup y = some .local ∧ (∀ p ∈ scope.names, p.2 ≠ .cell) ∧ scope.names.lookup ("super" : Str) = some .globalImplicit ∧ scope.names.lookup ("__class__" : Str) = some .free ∧ scope.kind = .function ∧ scope.isCoroutine = false ∧ scope.isGenerator = false
theorem ns_but {h h' : Heap} {a L : Addr} {m : Str → Option Value} (k : ∀ b o, b ≠ a → h.get? b = some o → h'.get? b = some o) (n : h.Ns L m) (ne : L ≠ a) : h'.Ns L m := by
  obtain ⟨o, es, ep, e, r⟩ := n
  exact ⟨o, es, ep, k _ _ ne e, r⟩
theorem interactive_fn {e : Env} (hk : e.scope.kind = .function) : interactive e = false := by
  unfold interactive
  rw [hk]
  rfl
theorem sup_init {C f a t0 : Addr} {x y fn : Str} {v : Value} (S : SupC K prog.main.file C f x y fn) (X : K.In s.heap) (gg : s.heap.Ns mainGlobals mg) (b : s.heap.Ns builtinsNs mb) (bb : ∀ x : Str, x ≠ "__name__" → mb x = bootBuiltins x) (lim : s.heap.NoLimit)
    (htop : (prog.main.scope.names.lookup ("super" : Str)).isSome = false) (room : A.depth < recursionLimit) (ha : s.heap.get? a = some (HandSPX.excO C t0)) (hka : K.lookup a = none) (hdx : (x == ("__debug__" : Str)) = false) (hdy : (y == ("__debug__" : Str)) = false)
    (hR : ∀ h' tk' t1 dx, (∀ b o, b ≠ a → s.heap.get? b = some o → h'.get? b = some o) → s.heap.objs.size ≤ dx → dx ≠ a → h'.get? a = some { cls := .ref C, dict := some dx, data := .fields #[.ref t1, .none, .none, .none, .bool false, .none] } →
      h'.Ns1 dx (fun z => if z = fn then some v else none) → R (.ok (.ret .none)) { s with heap := h', toks := tk' }) :
    codeAny (model prog w) A (.call (.ref f) ⟨[.ref a, v], []⟩) R s := by
  obtain ⟨name, qual, params, scope, kV, doc, pm, an, ct, oc, od, osl, cc, cda, ccl, cdd, vs, ccs, file, tf, cl, cld, csl, ar, p0, p1, p2, p3, p4, p5, p6, p7, p8, p9, ⟨pl, hev⟩, hf, hcd, hcode, hvs, hfile, hcell, hhd, har, bind, hx, hy, hnc, hks, hkc, hk, hco, hgen⟩ := S.ex
  obtain ⟨nm, q, N, bs, bm, sn, sub, ab, col, dd, k0, k1, k2, k3, k5, hC, hbm⟩ := S.oc.cls
  have hcl : PySem.W.clsIn K C = some { name := nm, bases := bs, mro := .ref C :: bm, ns := N, qualname := q, hasDict := true, slotNames := sn, subclasses := sub, abstract := ab, collection := col, hasDel := false } := by unfold PySem.W.clsIn; rw [hC] <;> rfl
  obtain ⟨hp, g, d, t, os⟩ := s
  have aL : a ≠ hp.objs.size := Nat.ne_of_lt (Heap.lt_size ha)
  have aC : a ≠ C := fun z => by
    have e := X _ _ hC
    rw [← z, ha] at e
    exact nomatch (congrArg Obj.data (Option.some.inj e))
  refine ks_codeAny_call_defAt (fd := PySem.W.ksFn name qual params (supBody x y fn p0 p1 p2 p3 p4 p5 p6 p7 p8 p9) scope .none kV doc pm an (.ref cda) ct cc) (body := supBody x y fn p0 p1 p2 p3 p4 p5 p6 p7 p8 p9) (binds := [(x, .ref a), (y, v)]) room (X _ _ hf) rfl lim (PySem.W.codeRec_of X hcd) rfl (bind _ _ _) hnc (fun z hz => ?_) (fun h₁ hns k₁ => ?_) hco hgen hk
  · rcases List.mem_cons.mp hz with e | e
    · rw [e]; exact hx
    · rcases List.mem_cons.mp e with e | e  -- 143
      · rw [e]; exact hy
      · cases e
  · have X1 : K.In h₁ := X.keeps k₁
    have m1 : (fun z : Str => ([(x, Value.ref a), (y, v)] : List (Str × Value)).reverse.lookup z) x = some (.ref a) := by
      show ([(y, v), (x, Value.ref a)] : List (Str × Value)).lookup x = _
      rw [List.lookup_cons, show (x == y) = false from beq_eq_false_iff_ne.mpr S.ne, List.lookup_cons, beq_self_eq_true]
    have m2 : (fun z : Str => ([(x, Value.ref a), (y, v)] : List (Str × Value)).reverse.lookup z) y = some v := by
      show ([(y, v), (x, Value.ref a)] : List (Str × Value)).lookup y = _
      rw [List.lookup_cons, beq_self_eq_true]
    have a1 := k₁ _ _ ha
    refine ks_wpAt_execs_cons (ks_wpAt_Expr_any (ks_wpAt_MethodCall ?_ (hev _)) (interactive_fn hk))
    refine ks_wpAt_super_base (env := PySem.W.ksEnv qual scope hp.objs.size f (.ref cda) cc) hks hkc (by decide) rfl (X1 _ _ hf) rfl hhd rfl (X1 _ _ hcode) rfl hvs hfile htop ?_
    refine PySem.W.ks_loadName_global hk hks (Calls.loadGlobal_builtin (env := PySem.W.ksEnv qual scope hp.objs.size f (.ref cda) cc) (gg.keeps k₁) (PySem.W.mg_none_of X gg S.sup) (b.keeps k₁) ((bb _ (by decide +kernel)).trans PyProof.Rows.Boot.«super») ⟨rfl, ?_⟩)
    refine wpAny_loadName_free hk hkc rfl ⟨_, X1 _ _ hcell, rfl⟩ ?_
    refine wpAny_loadName_local hk (by rw [har]; exact hx) hns (by rw [har]; exact m1) ?_
    refine ks_wpAny_isType_cls (X1 _ _ hC) rfl ⟨rfl, ?_⟩
    refine ks_wpAny_call_super (X1 _ _ hC) rfl a1 rfl (fun c e => nomatch e) (PySem.W.looks_mroIn X1 S.me) (fun h2 e2 k2 => ?_)
    have X2 : K.In h2 := X1.keeps k2
    have a2 := k2 _ _ a1
    have I2 : PySem.W.InstAt h2 a (HandSPX.excO C t0) C none := ⟨a2, rfl, rfl, trivial⟩
    have sin := S.sin
    unfold PySem.W.ks_superIn at sin
    rw [hcl] at sin
    refine PySem.W.kxs_getMethod PySem.W.kxs_ValueError e2 (PySem.W.looks_opaque X2 S.any) (l₀ := .ref C :: bm) ((PySem.W.looks_clsIn X2 hcl).andThen .now) rfl X2 sin (I2.type.andThen (PySem.W.looks_subIn X2 S.ve)) aC (by decide) ?_
    dsimp only
    have n2 : h2.Ns hp.objs.size _ := hns.keeps k2
    refine PySem.W.kxs_callWith (i := "ValueError.__init__") (x := a) rfl (Calls.evalArgs_plain (PyProof.Rows.spliced_more (ESX.ldL (n2.keeps fun b o e => Heap.get?_push_of_some _ e) m2 (PyProof.Rows.spliced_none ⟨Heap.get?_push_size _ rfl, ?_⟩) (by exact hk) (by exact hy) hdy)))
    refine call_vw (Heap.get?_push_of_some _ (X2 _ _ hC)) (Heap.get?_push_of_some _ a2) (Heap.get?_push_size _ rfl) (by show 1 ≤ sizeLine; decide) fun h3 t1 k3 e3 => ?_
    have n3 := ns_but k3 (n2.keeps fun b o e => Heap.get?_push_of_some _ e) (Ne.symm aL)
    have k03 : ∀ b o, b ≠ a → hp.get? b = some o → h3.get? b = some o := fun b o ne e => k3 b o ne (Heap.get?_push_of_some _ (k2 _ _ (k₁ _ _ e)))
    have X3 : K.In h3 := fun b o e => k03 b o (fun z => by rw [z, hka] at e; cases e) (X b o e)
    · refine ks_wpAt_execs_cons (wpAt_of_wpAny (plainObj_wpAny_Assign_Attribute (ESX.ldL n3 m2 (ESX.ldL n3 m1 ?_ (by exact hk) (by exact hx) hdx) (by exact hk) (by exact hy) hdy)))
      refine PySem.W.set_plain X3 (ox := HandSPX.excO C t1) (od := none) ⟨e3, rfl, rfl, trivial⟩ S.oc.sa ?_
      refine HandSPX.exc_osa X3 e3 hcl (show HandSPX.refsVE (.ref C :: bm) = true from hbm) rfl S.no (fun h4 tk4 dx k4 dn dne hx4 hn4 => ?_)
      refine wpAt_of_wpAny (wpAny_execs_nil ?_)
      refine hR h4 tk4 t1 dx (fun b o ne e => k4 b o ne (k03 b o ne e)) (Nat.le_trans ?_ dn) dne hx4 hn4
      obtain ⟨o, es, ep, e, r⟩ := n3
      exact Nat.le_of_lt (Heap.lt_size e)
end
section
variable {X : Cx} {cx x y fn : Str} {C f : Addr} {e : Expr} {te : TE} {k : Nat} {p pos : Pos}
/-- C(e) -/
theorem pmk_sup {ta : TA} (S : SupC X.K X.prog.main.file C f x y fn) (htop : (X.prog.main.scope.names.lookup ("super" : Str)).isSome = false) (hdx : (x == ("__debug__" : Str)) = false) (hdy : (y == ("__debug__" : Str)) = false) (hr : Room (k + 1) X.A) (hg : Gl X cx) (hm : X.mg cx = some (.ref C)) (ha : PA X [e] ta)
    (hdb : (cx == ("__debug__" : Str)) = false) (hs : starEach [e] X.env = (false, eval e X.env) :: starEach [] X.env := by rfl) (hpl : (backTo pos (starEach [] X.env)).any (·.1) = false := by rfl) :
    PMk X (.Call (.Name cx p) [e] [] pos) (fun σ H Q => ta σ H fun vs H1 => ∃ z, vs = [z] ∧ ∀ d, H1 d = none → Q (.ref C) (some d) (upd H1 d (.xd [(fn, z)]))) := by
  intro pins s σ H Q I h
  obtain ⟨nm, q, N, bs, bm, sn, sub, ab, col, dd, k0, k1, k2, k3, k5, hC, hbm⟩ := S.oc.cls
  refine wpAny_Call_Name_kw (ld_glob I hg hm ?_ hdb)  -- 144
  refine PySem.W.callWith_K (h₀ := X.base) I.ok.mod.kin S.oc.kC (thn (ha.run pos pins s σ H _ I h) fun us s1 ⟨vs, H1, I1, r1, z, ev, q1⟩ => ⟨I1.kIn, ?_⟩) hs hpl
  subst ev
  obtain ⟨u, rfl, rz⟩ := vals1 r1
  show wpAny _ _ (call (.ref C) [u]) _ _ _  -- 145
  obtain ⟨hp, g, dr, tk, os⟩ := s1  -- 146
  have kk : ∀ b o, hp.get? b = some o → ((hp.push (PySem.W.kdv_tup [u])).push (HandSPX.excO C hp.objs.size)).get? b = some o := fun b o e => Heap.get?_push_of_some _ (Heap.get?_push_of_some _ e)
  have hget : ((hp.push (PySem.W.kdv_tup [u])).push (HandSPX.excO C hp.objs.size)).get? (hp.objs.size + 1) = some (HandSPX.excO C hp.objs.size) := by heap_get
  have X1 : X.K.In hp := I1.kIn
  have e0 := I1.env0
  have kb : ∀ b o, X.base.get? b = some o → ((hp.push (PySem.W.kdv_tup [u])).push (HandSPX.excO C hp.objs.size)).get? b = some o := fun b o e => kk b o (e0.bs b o e).1
  obtain ⟨mb, hb, hbb⟩ := e0.mod.blt
  have hka : X.K.lookup (hp.objs.size + 1) = none := by
    cases w : X.K.lookup (hp.objs.size + 1) with
    | none => rfl
    | some o =>
      have w2 : hp.objs.size + 1 < hp.objs.size := Heap.lt_size (X1 _ _ w)
      exact absurd w2 (by omega)
  refine wpAny_call (HandSPX.call_own F.excBase_ValueError (fun Y => HandSPX.refsVE_contains Y bm hbm) (X1 _ _ hC) (PySem.W.looks_findIn X1 S.ini) (fun self => PySem.W.bind_fn X1 self S.tyf) (by show 1 ≤ sizeLine; decide) ?_)
  refine sup_init S (X1.keeps kk) (e0.mod.glob.keeps kb) (hb.keeps kb) hbb (e0.mod.nolimit.keeps kb) htop (hr.make C [u] []).depth hget hka hdx hdy fun h2 tk2 t1 dx k2 sz ne hx2 hn2 => ?_
  have sz' : hp.objs.size ≤ dx := by
    have w3 : ((hp.push (PySem.W.kdv_tup [u])).push (HandSPX.excO C hp.objs.size)).objs.size ≤ dx := sz
    rw [Heap.size_push, Heap.size_push] at w3
    exact Nat.le_trans (Nat.le_trans (Nat.le_succ _) (Nat.le_succ _)) w3
  have fd : H1 dx = none := I1.hok.fresh sz'
  have fa : H1 (hp.objs.size + 1) = none := I1.hok.fresh (Nat.le_succ _)
  obtain ⟨G, g1, g2⟩ := restrict h2 fun b => decide (b ≠ hp.objs.size + 1)
  have gk : ∀ b, b ≠ hp.objs.size + 1 → G.get? b = h2.get? b := fun b hb => g1 b (decide_eq_true hb)
  have ge : G.get? (hp.objs.size + 1) = none := g2 _ (by simp)
  have kG : ∀ b o, hp.get? b = some o → G.get? b = some o := fun b o e => by
    have nb : b ≠ hp.objs.size + 1 := fun z => by
      have w4 : b < hp.objs.size := Heap.lt_size e
      rw [z] at w4
      exact absurd w4 (Nat.not_lt.mpr (Nat.le_succ _))
    rw [gk b nb]
    exact k2 b o nb (kk b o e)
  have J : L2.Inv X pins σ (upd H1 dx (.xd [(fn, z)])) ⟨G, g, dr, tk, os⟩ := I1.laid (t' := tk) (h' := G) kG sz' ⟨_, hn2.at fun o y => (gk dx ne).trans y, fun g' => by
    rw [lookup_put]
    by_cases w : g' = fn
    · rw [if_pos w, if_pos w]; exact rz
    · rw [if_neg w, if_neg w]; exact True.intro⟩
  refine ⟨rfl, hp.objs.size + 1, _, _, ⟨G, g, dr, tk, os⟩, _, .ref C, some dx, rfl, J, fun b o w => ?_, ge, hx2, ⟨rfl, rfl⟩, rfl, rfl, ?_, rfl, I1.bare, raises_own S.oc.exC S.oc.tyC, q1 dx fd⟩
  · by_cases nb : b = hp.objs.size + 1
    · rw [nb, ge] at w; cases w
    · exact (gk b nb).symm.trans w
  · rw [upd_ne (Ne.symm ne)]; exact fa
end
/-- raise C(e) -/
structure ExcS (U : Wd) (c f : Nat) (x px py fn : Str) : Prop where
  mg : U.mg x = some (.ref (U.G.ca c))
  sc : SupC U.G.K U.P.main.file (U.G.ca c) (U.G.fa f) px py fn
  top : (U.P.main.scope.names.lookup ("super" : Str)).isSome = false
  dx : (px == ("__debug__" : Str)) = false
  dy : (py == ("__debug__" : Str)) = false
  xn : U.xn c = some fn
def raiseF (c : Nat) (m : MX) : MS := fun L M => match m L M with
  | .ok d L1 M1 => .err ⟨c, d⟩ L1 M1
  | .err x L1 M1 => .err x L1 M1
  | .stk => .stk
section
variable {X : Cx} {U : Wd} {N : List Str} {sc : Scope} {W : WX} {n c f : Nat} {x px py fn : Str} {e : Expr} {m : MX} {p p3 pos : Pos}
theorem es_raiseF (ct : Ct U N sc W (n + 1) X) (F : ExcS U c f x px py fn) (he : EX X U.G U.xn W e m) (hg : sc.names.lookup x = some .globalImplicit) (hdb : (x == ("__debug__" : Str)) = false := by decide +kernel)
    (hs : starEach [e] X.env = (false, eval e X.env) :: starEach [] X.env := by rfl) (hpl : (backTo p3 (starEach [] X.env)).any (·.1) = false := by rfl) :
    ES X U.G U.xn W (.Raise (some (.Call (.Name x p) [e] [] p3)) none pos) (raiseF c m) := by
  refine PS.imp (ps_raise ct.calm ct.tk (pmk_sup (C := U.G.ca c) (f := U.G.fa f) (x := px) (y := py) (fn := fn) (by rw [ct.K, ct.P]; exact F.sc) (by rw [ct.P]; exact F.top) F.dx F.dy ct.room (ct.gl hg) (ct.mg' F.mg) (ea_cons he ea_nil hs) hdb hs hpl)) fun Z σ H ⟨ρ, L, M, rl, h⟩ => ?_
  refine ⟨ρ, L, M, rl, ?_⟩
  unfold raiseF at h
  unfold consA
  cases q : m L M with
  | stk => rw [q] at h; exact h
  | err y L1 M1 => rw [q] at h; exact fun ρ' H' cls dd s a b => h ρ' H' σ cls dd s a b
  | ok d L1 M1 =>
    rw [q] at h
    intro ρ1 H1 vs s1 r1 rr
    cases rr with
    | @cons _ _ z _ rz rn =>
      cases rn
      refine ⟨z, rfl, fun dx hd => ?_⟩
      have g := upd_grow (o := .xd [(fn, z)]) hd
      refine h ρ1 _ σ _ _ (s1.trans (Stp.grow g)) (r1.grow g) ⟨rfl, ?_⟩
      rw [F.xn]
      exact ⟨dx, z, rfl, upd_same, rz.mono (List.prefix_refl _) (Ext.of g)⟩
end
end KK

namespace KK
open PySem PySem.Spec PyProof.Rows L2

/-! ### e.f, e a held exception with its dict -/
theorem pe_heldF {X : Cx} {e : Expr} {te : TE} {pos : Pos} {n : Str} (he : PE X e te) (hb : attributeBase e n X.env (eval e X.env) = eval e X.env := by rfl) :
    PE X (.Attribute e n pos) (fun σ H Q => te σ H fun x H1 => ∃ (a C dd : Addr) (fs : List (Str × V)) (v : V), x = .ref a ∧ H1 a = some (XO (.ref C) (some dd) a) ∧ H1 dd = some (.xd fs) ∧ fs.lookup n = some v ∧ XfC X.K C ∧ PySem.W.findIn X.K (.ref C) n = some none ∧ Q v H1) := by
  refine ⟨fun pins s σ H Q I h => attr_of hb (thn (he.run pins s σ H _ I h) fun u s1 hh => ?_)⟩
  obtain ⟨x, H1, I1, rx, a, C, dd, fs, v, rfl, ha, hd, l, T, no, q⟩ := hh
  obtain rfl : u = Value.ref a := rx  -- 147
  obtain ⟨⟨oe, vs, g, z, d⟩, _, _⟩ := I1.hok a _ ha
  obtain ⟨mA, hns, hr⟩ := (show ObjOk X.prog X.w H1 s1.heap dd (.xd fs) from I1.hok dd _ hd)
  obtain ⟨od, ho, hl⟩ := lookIn_ns hns  -- 148
  obtain ⟨u, hu, ru⟩ := RelO.some_of (v := v) (o := mA n) (by rw [← l]; exact hr n)  -- 149
  have J : PySem.W.InstAt s1.heap a oe C (some od) := ⟨g, z.1, by unfold PySem.W.notCls; rw [d] <;> rfl, by rw [z.2]; exact ho⟩
  exact HandSPX.exc_get I1.kIn J T.ga T.gg T.exC (PySem.W.findObj_own T.hdC no rfl (by rw [hl, hu])) (handed_of ru) ⟨v, H1, I1.tok _, ru, q⟩
def xfM (c : Nat) (f : Str) (m : MX) : MX := fun L M => (m L M).bind fun d L M => match d with
  | .exc i [(g, v)] => if i = c ∧ g = f then .ok v L M else .stk
  | _ => .stk
section
variable {X : Cx} {U : Wd} {N : List Str} {sc : Scope} {W : WX} {n c : Nat} {f : Str} {e : Expr} {m : MX} {pos : Pos}
theorem ex_xf (ct : Ct U N sc W n X) (T : XfC U.G.K (U.G.ca c)) (no : PySem.W.findIn U.G.K (.ref (U.G.ca c)) f = some none) (he : EX X U.G U.xn W e m) (hb : attributeBase e f X.env (eval e X.env) = eval e X.env := by rfl) : EX X U.G U.xn W (.Attribute e f pos) (xfM c f m) := by
  refine PE.imp (pe_heldF he hb) fun σ H Q ⟨ρ, L, M, rl, h⟩ => ⟨ρ, L, M, rl, XP.mono (XP.bind h) ?_⟩
  rintro x H1 ⟨ρ1, L1, M1, d, s1, r1, rv, h1⟩
  dsimp only at h1
  split at h1
  · split at h1
    · rename_i hz
      obtain ⟨rfl, rfl⟩ := hz
      cases rv with
      | @exc1 a dd _ _ v z ha hd rz =>
        refine ⟨a, _, dd, _, z, rfl, ha, hd, ?_, by rw [ct.K]; exact T, by rw [ct.K]; exact no, h1 ρ1 H1 z Stp.refl r1 rz⟩
        rw [List.lookup_cons, beq_self_eq_true]
    · exact h1.elim
  · exact h1.elim
end
end KK

namespace KK
open PySem PySem.Spec PyProof.Rows L2

/-! ### how a name stands in a scope -/
/-! ### one word for each built-in name -/
/-- the name is no name of the text -/
abbrev Bi (U : Wd) (sc : Scope) (x : Str) : Prop := sc.names.lookup x = some .globalImplicit ∧ U.mg x = none
section
variable {X : Cx} {U : Wd} {N : List Str} {sc : Scope} {W : WX} {n : Nat} {e e2 : Expr} {m m2 : MX} {t : MA} {p pos : Pos}
theorem w_len (c : Ct U N sc W n X) (b : Bi U sc "len") (he : EXB X U.G U.xn W e m) (hs : starEach [e] X.env = (false, eval e X.env) :: starEach [] X.env := by rfl) (hp : (backTo pos (starEach [] X.env)).any (·.1) = false := by rfl) : EX X U.G U.xn W (.Call (.Name "len" p) [e] [] pos) (un1 lenD m) :=
  ex_b1 c (call_len_seq.or call_len_str) Boot.«len» b.1 b.2 (b_len c) he (by decide +kernel) (by decide +kernel) hs hp
theorem w_abs (c : Ct U N sc W n X) (b : Bi U sc "abs") (he : EXB X U.G U.xn W e m) (hs : starEach [e] X.env = (false, eval e X.env) :: starEach [] X.env := by rfl) (hp : (backTo pos (starEach [] X.env)).any (·.1) = false := by rfl) : EX X U.G U.xn W (.Call (.Name "abs" p) [e] [] pos) (un1 absD m) :=
  ex_b1 c call_abs Boot.«abs» b.1 b.2 b_abs he (by decide +kernel) (by decide +kernel) hs hp
theorem w_all (c : Ct U N sc W n X) (b : Bi U sc "all") (he : EXB X U.G U.xn W e m) (hs : starEach [e] X.env = (false, eval e X.env) :: starEach [] X.env := by rfl) (hp : (backTo pos (starEach [] X.env)).any (·.1) = false := by rfl) : EX X U.G U.xn W (.Call (.Name "all" p) [e] [] pos) (un1 allD m) :=
  ex_b1 c (cr_all c.calm) Boot.«all» b.1 b.2 (b_all c) he (by decide +kernel) (by decide +kernel) hs hp
theorem w_any (c : Ct U N sc W n X) (b : Bi U sc "any") (he : EXB X U.G U.xn W e m) (hs : starEach [e] X.env = (false, eval e X.env) :: starEach [] X.env := by rfl) (hp : (backTo pos (starEach [] X.env)).any (·.1) = false := by rfl) : EX X U.G U.xn W (.Call (.Name "any" p) [e] [] pos) (un1 anyD m) :=
  ex_b1 c (cr_any c.calm) Boot.«any» b.1 b.2 (b_any c) he (by decide +kernel) (by decide +kernel) hs hp
theorem w_sorted (c : Ct U N sc W n X) (b : Bi U sc "sorted") (he : EXB X U.G U.xn W e m) (hs : starEach [e] X.env = (false, eval e X.env) :: starEach [] X.env := by rfl) (hp : (backTo pos (starEach [] X.env)).any (·.1) = false := by rfl) : EF X U.G U.xn W (.Call (.Name "sorted" p) [e] [] pos) (unF sortD m) :=
  ef_b1 c cr_sortedS Boot.«sorted» b.1 b.2 (f_sorted c) he (by decide +kernel) (by decide +kernel) hs hp
theorem w_tuple (c : Ct U N sc W n X) (b : Bi U sc "tuple") (he : EXB X U.G U.xn W e m) (hs : starEach [e] X.env = (false, eval e X.env) :: starEach [] X.env := by rfl) (hp : (backTo pos (starEach [] X.env)).any (·.1) = false := by rfl) : EX X U.G U.xn W (.Call (.Name "tuple" p) [e] [] pos) (un1 tupD m) :=
  ex_t1 c call_tupZ Boot.«tuple» b.1 b.2 (b_tup c) he (by decide +kernel) (by decide +kernel) hs hp
theorem w_list (c : Ct U N sc W n X) (b : Bi U sc "list") (he : EXB X U.G U.xn W e m) (hs : starEach [e] X.env = (false, eval e X.env) :: starEach [] X.env := by rfl) (hp : (backTo pos (starEach [] X.env)).any (·.1) = false := by rfl) : EF X U.G U.xn W (.Call (.Name "list" p) [e] [] pos) (unF listD m) :=
  ef_t1 c call_list_of Boot.«list» b.1 b.2 (f_list c) he (by decide +kernel) (by decide +kernel) hs hp
theorem w_min (c : Ct U N sc W n X) (b : Bi U sc "min") (he : EX X U.G U.xn W e m) (he2 : EX X U.G U.xn W e2 m2) (hs : starEach [e, e2] X.env = (false, eval e X.env) :: starEach [e2] X.env := by rfl) (hs2 : starEach [e2] X.env = (false, eval e2 X.env) :: starEach [] X.env := by rfl) (hp : (backTo pos (starEach [e2] X.env)).any (·.1) = false := by rfl) : EX X U.G U.xn W (.Call (.Name "min" p) [e, e2] [] pos) (binM minD m m2) :=
  ex_b2 c (call_min2 c.calm) Boot.«min» b.1 b.2 b_min he he2 (by decide +kernel) (by decide +kernel) hs hs2 hp
theorem w_max (c : Ct U N sc W n X) (b : Bi U sc "max") (he : EX X U.G U.xn W e m) (he2 : EX X U.G U.xn W e2 m2) (hs : starEach [e, e2] X.env = (false, eval e X.env) :: starEach [e2] X.env := by rfl) (hs2 : starEach [e2] X.env = (false, eval e2 X.env) :: starEach [] X.env := by rfl) (hp : (backTo pos (starEach [e2] X.env)).any (·.1) = false := by rfl) : EX X U.G U.xn W (.Call (.Name "max" p) [e, e2] [] pos) (binM maxD m m2) :=
  ex_b2 c (call_max2 c.calm) Boot.«max» b.1 b.2 b_max he he2 (by decide +kernel) (by decide +kernel) hs hs2 hp
theorem w_int (c : Ct U N sc W n X) (b : Bi U sc "int") (he : EXB X U.G U.xn W e m) (hs : starEach [e] X.env = (false, eval e X.env) :: starEach [] X.env := by rfl) (hp : (backTo pos (starEach [] X.env)).any (·.1) = false := by rfl) : EX X U.G U.xn W (.Call (.Name "int" p) [e] [] pos) (un1 intD m) :=
  ex_t1 c (call_int1.or call_int_str) Boot.«int» b.1 b.2 b_int he (by decide +kernel) (by decide +kernel) hs hp
theorem w_isT (c : Ct U N sc W n X) (b : Bi U sc "isinstance") (b2 : Bi U sc "tuple") {p2 : Pos} (he : EX X U.G U.xn W e m) (hs : starEach [e, .Name "tuple" p2] X.env = (false, eval e X.env) :: starEach [.Name "tuple" p2] X.env := by rfl) (hs2 : starEach [.Name "tuple" p2] X.env = (false, eval (.Name "tuple" p2) X.env) :: starEach [] X.env := by rfl) (hp : (backTo pos (starEach [.Name "tuple" p2] X.env)).any (·.1) = false := by rfl) :
    EX X U.G U.xn W (.Call (.Name "isinstance" p) [e, .Name "tuple" p2] [] pos) (un1 (isiD "tuple") m) := ex_isi c he (.inl rfl) Boot.«tuple» b2.1 b2.2 b.1 b.2 Boot.«isinstance» (by decide +kernel) (by decide +kernel) hs hs2 hp
theorem w_isS (c : Ct U N sc W n X) (b : Bi U sc "isinstance") (b2 : Bi U sc "str") {p2 : Pos} (he : EX X U.G U.xn W e m) (hs : starEach [e, .Name "str" p2] X.env = (false, eval e X.env) :: starEach [.Name "str" p2] X.env := by rfl) (hs2 : starEach [.Name "str" p2] X.env = (false, eval (.Name "str" p2) X.env) :: starEach [] X.env := by rfl) (hp : (backTo pos (starEach [.Name "str" p2] X.env)).any (·.1) = false := by rfl) :
    EX X U.G U.xn W (.Call (.Name "isinstance" p) [e, .Name "str" p2] [] pos) (un1 (isiD "str") m) := ex_isi c he (.inr (.inl rfl)) Boot.«str» b2.1 b2.2 b.1 b.2 Boot.«isinstance» (by decide +kernel) (by decide +kernel) hs hs2 hp
theorem w_isI (c : Ct U N sc W n X) (b : Bi U sc "isinstance") (b2 : Bi U sc "int") {p2 : Pos} (he : EX X U.G U.xn W e m) (hs : starEach [e, .Name "int" p2] X.env = (false, eval e X.env) :: starEach [.Name "int" p2] X.env := by rfl) (hs2 : starEach [.Name "int" p2] X.env = (false, eval (.Name "int" p2) X.env) :: starEach [] X.env := by rfl) (hp : (backTo pos (starEach [.Name "int" p2] X.env)).any (·.1) = false := by rfl) :
    EX X U.G U.xn W (.Call (.Name "isinstance" p) [e, .Name "int" p2] [] pos) (un1 (isiD "int") m) := ex_isi c he (.inr (.inr (.inl rfl))) Boot.«int» b2.1 b2.2 b.1 b.2 Boot.«isinstance» (by decide +kernel) (by decide +kernel) hs hs2 hp
theorem w_isB (c : Ct U N sc W n X) (b : Bi U sc "isinstance") (b2 : Bi U sc "bool") {p2 : Pos} (he : EX X U.G U.xn W e m) (hs : starEach [e, .Name "bool" p2] X.env = (false, eval e X.env) :: starEach [.Name "bool" p2] X.env := by rfl) (hs2 : starEach [.Name "bool" p2] X.env = (false, eval (.Name "bool" p2) X.env) :: starEach [] X.env := by rfl) (hp : (backTo pos (starEach [.Name "bool" p2] X.env)).any (·.1) = false := by rfl) :
    EX X U.G U.xn W (.Call (.Name "isinstance" p) [e, .Name "bool" p2] [] pos) (un1 (isiD "bool") m) := ex_isi c he (.inr (.inr (.inr rfl))) Boot.«bool» b2.1 b2.2 b.1 b.2 Boot.«isinstance» (by decide +kernel) (by decide +kernel) hs hs2 hp
theorem w_repr (c : Ct U N sc W n X) (gd : X.A.guards = some []) (b : Bi U sc "repr") (he : EXB X U.G U.xn W e m) (hs : starEach [e] X.env = (false, eval e X.env) :: starEach [] X.env := by rfl) (hp : (backTo pos (starEach [] X.env)).any (·.1) = false := by rfl) : EX X U.G U.xn W (.Call (.Name "repr" p) [e] [] pos) (un1 reprD m) :=
  ex_b1 c (call_reprD gd (by have := c.room.un; omega)) Boot.«repr» b.1 b.2 (b_repr c gd) he (by decide +kernel) (by decide +kernel) hs hp
theorem w_glob (c : Ct U N sc W n X) {x : Str} {u : Value} {v : V} {d : D} (hm : U.mg x = some u) (hg : sc.names.lookup x = some .globalImplicit) (r : L2.RelV v u) (hR : ∀ ρ H, R U.G ρ H d v) (hd : (x == ("__debug__" : Str)) = false := by decide +kernel) : EX X U.G U.xn W (.Name x pos) (cst d) := ex_glob (c.mg' hm) r hR (c.gl hg) hd
end
end KK

namespace KK
open PySem PySem.Spec PyProof.Rows L2

/-! ### x = [.. for ..], kept as an object of the heap -/
section
variable {X : Cx} {U : Wd} {N : List Str} {sc scope : Scope} {W : WX} {n : Nat} {pos : Pos} {sl : List Nat} {tg it elt : Expr} {ifs : List Expr} {mi : MA} {g : GD} {mt me : MX} {own : List (Str × Nat)}
theorem obj_lc {i : Nat} {t : MA} {Z : L2.Ends} {σ : L2.St} {H : Hp} (h : tS U.G U.xn W (setM i (objX t)) Z σ H) : tF U.G U.xn W t σ H (fun v H1 => Z.nx (σ.set i (some v)) H1) := by
  obtain ⟨ρ, L, M, r, h⟩ := h
  refine ⟨ρ, L, M, r, ?_⟩
  unfold setM objX at h
  revert h
  cases t L M with
  | stk => exact fun h => h
  | err x L1 M1 => exact fun h ρ1 H1 cls dd s r1 => h ρ1 H1 σ cls dd s r1
  | ok ds L1 M1 =>
    intro h ρ1 H1 a vs s r1 ea rr h0 n1 n2
    have pre : ρ1 <+: ρ1 ++ [a] := List.prefix_append _ _
    have r2 := r1.newObj n1 n2 (o := .list ds) ⟨vs, ea, rr.mono pre (Ext.refl _)⟩
    have ro : R U.G (ρ1 ++ [a]) H1 (.obj M1.length) (.ref a) := .obj (by rw [← r1.len, List.getElem?_append_right (Nat.le_refl _)]; simp)
    exact h (ρ1 ++ [a]) H1 _ ((s.newObj h0).trans (Stp.setN rfl)) (r2.setV ro)
theorem es_lcO (c : Ct U N sc W n X) {i : Nat} {y : Str} {py spos : Pos} (hN : N[i]? = some y) (hy : sc.names.lookup y = some .local) (hl : (py.line == pos.line) = true) (hno : (scope.names.any fun (n, k) => n == y && (k == .local || k == .cell)) = false) (hkind : sc.kind = .function)
    (hi : EI X U.G U.xn W tg it mi) (ok : BlkOk N sc scope own)
    (hg : ∀ Y, Ct U N (relS scope sc) noW n Y → (∀ x, Y.fn x = (scope.names.lookup x == some .cell)) → EG Y U.G sl tg g)
    (ht : ∀ Y, Ct U N (relS scope sc) noW n Y → PTs Y ifs (tT U.G U.xn noW mt))
    (he : ∀ Y, Ct U N (relS scope sc) noW n Y → Lk X Y → EX Y U.G U.xn noW elt me) (hsl : ∀ j ∈ sl, j ∈ own.map (·.2))
    (hf : ∀ x, foldedSetIterable it X.env x = pure x := by intro _; rfl) : ES X U.G U.xn W (.Assign [.Name y py] (.ListComp elt [⟨tg, it, ifs, 0⟩] scope pos) spos) (setM i (objX (compM mi (own.map (·.2)) g mt me))) := by
  have ok' : BlkOk X.N X.env.scope scope own := by rw [c.N, c.sc]; exact ok
  have sy : X.env.scope.names.lookup y = some .local := by rw [c.sc]; exact hy
  refine PS.imp (ps_setLc c.calm c.nd (by rw [c.N]; exact hN) sy (sw_true (by rw [c.sc]; exact hkind) sy hl hno) hi ok' (fun s H C cl fp => hg _ (c.blk s H C cl fp) fun _ => rfl) (fun s H C cl fp => ht _ (c.blk s H C cl fp)) (fun s H C cl fp => he _ (c.blk s H C cl fp) ⟨rfl, rfl, rfl⟩) hf) fun Z σ H h => ?_
  exact lc_read ok hsl (obj_lc h)
end
/-! ### the other compares as tests -/
section
variable {X : Cx} {U : Wd} {N : List Str} {sc : Scope} {W : WX} {n c i k : Nat} {ps : List Str} {F : MF} {e a b : Expr} {m ma mb : MX} {p pos : Pos}
theorem et_eqE (ct : Ct U N sc W n X) (he : EXB X U.G U.xn W e m) (hm : behindInMarks .Eq (.List [] p) = false := by first | rfl | exact nomark _) : ET X U.G U.xn W (.Compare e [.Eq] [.List [] p] pos) (emM false m) :=
  PT.imp (pt_cmpR (op_eqD (by have := ct.room.un; omega)) he (pe_lst pa_nil) hm) fun σ H Q h => em_read ct (op := compareOp .Eq) h
theorem et_neE (ct : Ct U N sc W n X) (he : EXB X U.G U.xn W e m) (hm : behindInMarks .NotEq (.List [] p) = false := by first | rfl | exact nomark _) : ET X U.G U.xn W (.Compare e [.NotEq] [.List [] p] pos) (emM true m) :=
  PT.imp (pt_cmpR (op_neD (by have := ct.room.un; omega)) he (pe_lst pa_nil) hm) fun σ H Q h => em_read ct (op := compareOp .NotEq) h
theorem et_eqV (c : Ct U N sc W n X) (ha : EX X U.G U.xn W a ma) (hb : EX X U.G U.xn W b mb) (hm : behindInMarks .Eq b = false := by first | rfl | exact nomark _) : ET X U.G U.xn W (.Compare a [.Eq] [b] pos) (eqV false ma mb) :=
  PT.imp (pt_cmpR (op_eqD (by have := c.room.un; omega)) ha hb hm) fun σ H Q h => eqv_read (neg := false) c h
theorem et_neV (c : Ct U N sc W n X) (ha : EX X U.G U.xn W a ma) (hb : EX X U.G U.xn W b mb) (hm : behindInMarks .NotEq b = false := by first | rfl | exact nomark _) : ET X U.G U.xn W (.Compare a [.NotEq] [b] pos) (eqV true ma mb) :=
  PT.imp (pt_cmpR (op_neD (by have := c.room.un; omega)) ha hb hm) fun σ H Q h => eqv_read (neg := true) c h
theorem et_neO (ct : Ct U N sc W (n + 1) X) (si : SI W) (I : EqO U c i ps k F) (hk : k ≤ n) (ha : EX X U.G U.xn W a ma) (hb : EX X U.G U.xn W b mb) (hm : behindInMarks .NotEq b = false := by first | rfl | exact nomark _) : ET X U.G U.xn W (.Compare a [.NotEq] [b] pos) (eqO true c F ma mb) := by
  obtain ⟨fd, hb', fo⟩ := I.b.ok
  have fo' : FnOk X.prog X.w X.K X.mg X.base (L2.CX X.prog X.w) n (U.G.fa i) fd ps (spF U.G U.xn ps.length F) := by rw [ct.P, ct.w, ct.K, ct.mg, ct.base]; exact fo.mono hk
  exact PT.imp (pt_cmpR (op_ownNe fo' ct.room (by rw [ct.K]; exact I.eq) (by rw [ct.K]; exact I.fn) (by rw [ct.K]; exact I.ne) (by rw [ct.K]; exact I.ob) (by rw [ct.K]; exact hb') (passU ct)) ha hb hm) fun σ H Q h => own_read (op := compareOp .NotEq) ct si I h
end
end KK

namespace KK
open PySem PySem.Spec PyProof.Rows L2

/-! ### lambdas by where one stands -/
/-- one stands in a def whose code object is cc, its table P; lambdas there are called q -/
structure LamAt (U : Wd) (X : Cx) (q : Str) : Prop where
  ex : ∃ cc P : Addr, LamX.TabB U.base U.mg cc P ∧ X.env.code = .ref cc ∧ (P, q) ∈ U.G.T ∧ (∀ p ∈ U.G.T, p.1 = P → p.2 = q) ∧ X.env.qual ++ "<lambda>" = q
theorem LamAt.lk {U : Wd} {X Y : Cx} {q : Str} (h : LamAt U X q) (k : Lk X Y) : LamAt U Y q := by
  obtain ⟨cc, P, h1, h2, h3, h4, h5⟩ := h.ex
  exact ⟨cc, P, h1, k.code.trans h2, h3, h4, by rw [k.qual]; exact h5⟩
/-- a def with one parameter that calls it and gives the error that it raises -/
structure CauF (U : Wd) (x a : Str) (g CS : Addr) (pg : Arguments) (bg : List Stmt) (sg : Scope) (Ng : List Str) : Prop where
  ex : ∃ (dV kV doc pm cdv ct oc : Value) (an od : Option Addr) (osl : Array (Option Value)), U.G.K.lookup g = some ⟨oc, od, .func (PySem.W.fnOf x x pg bg sg dV kV doc pm an cdv ct), osl⟩ ∧ PySem.W.codeIn U.G.K cdv x = true ∧
    L2.Binds U.G.K (PySem.W.fnOf x x pg bg sg dV kV doc pm an cdv ct) [a] [] ∧ ∀ X : Cx, X.mg = U.mg → ∀ q, LamX.GivesTo X Ng x sg g cdv bg a q (TTc X.K CS)
  mg : U.mg x = some (.ref g)
  kp : PySem.W.keepIn U.G.K (.ref g) = true
  S : FnScope Ng [a] sg
  n0 : Ng[0]? = some a
  va : Vis sg a
section
variable {X : Cx} {U : Wd} {N : List Str} {sc : Scope} {W : WX} {n k : Nat}
theorem ex_cau {x a q : Str} {g CS : Addr} {pg : Arguments} {bg : List Stmt} {sg : Scope} {Ng : List Str} {params : Arguments} {body : Expr} {scope : Scope} {p lpos pos : Pos} {m : MX} {cb : Nat → Option Bool}
    (c : Ct U N sc W n X) (C : CauF U x a g CS pg bg sg Ng) (la : LamAt U X q) (hk : k + 2 ≤ n) (hg : sc.names.lookup x = some .globalImplicit)
    (hcb : ∀ i b, cb i = some b → PySem.W.exmOne U.G.K (.ref (U.G.ca i)) (.ref CS) = some b) (hL : LamX.LamS sc scope) (hdef : defaultsOf params X.env = ([], []))
    (hbind : ∀ (q : Str) (cl : List (Str × Addr)) (pm cv ctv : Value), bindArgs (PySem.W.kla_fn "<lambda>" q params body scope cl pm cv ctv) ⟨[], []⟩ = pure [])  -- 150
    (hbody : ∀ (Y : Cx) (W : WX), Ct U N scope W k Y → SI W → EX Y U.G U.xn W body m)
    (hdb : (x == ("__debug__" : Str)) = false := by decide +kernel) (hd : (a == ("__debug__" : Str)) = false := by decide +kernel) (hcd : (a == ("__classdict__" : Str)) = false := by decide +kernel) :
    EX X U.G U.xn W (.Call (.Name x p) [.Lambda params body scope lpos] [] pos) (caughtM U.xn cb m) := by
  obtain ⟨dV, kV, doc, pm, cdv, ct, oc, an, od, osl, lk, hcg, hb, hG⟩ := C.ex
  obtain ⟨cc, P, TB, h2, h3, h4, h5⟩ := la.ex
  subst h5
  exact ex_caught c hk hg C.mg C.kp lk hcg hb C.S C.n0 C.va hG (by rw [c.base, c.mg]; exact TB) h2 h3 h4 hL hdef hbind hcb hbody hdb hd hcd
end
/-- a def whose code object is told -/
theorem gn_okL {P : Program} {w : World} {K : PySem.W.Frag} {mg : Str → Option Value} {base : Heap} {fa ca : Nat → Addr} {T : List (Addr × Str)} {xn : Nat → Option Str} {x qual q : Str} {st : Stmt} {f cc tp : Addr} {fd : FuncData} {N ps : List Str} {k : Nat} {m : MS} (F : Fun K x qual st f fd) (hcc : fd.code = .ref cc) (S : FnScope N ps (defScope st))
    (TB : LamX.TabB base mg cc tp) (hT : (tp, q) ∈ T) (hu : ∀ p ∈ T, p.1 = tp → p.2 = q) (hq : qual ++ ".<locals>." ++ "<lambda>" = q)
    (body : ∀ (X : Cx) (W : WX), Ct ⟨P, w, mg, base, ⟨K, fa, ca, T⟩, xn⟩ N (defScope st) W k X → (∀ x, X.fn x = true) → SI W → X.A.guards = some [] → LamAt ⟨P, w, mg, base, ⟨K, fa, ca, T⟩, xn⟩ X q → EB X ⟨K, fa, ca, T⟩ xn W (defBody st) m) :
    FnG P w K mg base (L2.CX P w) (k + 1) f fd ps (spF ⟨K, fa, ca, T⟩ xn ps.length (defM N.length m)) := by
  obtain ⟨oc, od, kV, doc, pm, an, cdv, ct, osl, rfl, lk, hcd⟩ := F.ex  -- 151
  have hcc' : cdv = .ref cc := hcc
  subst hcc'
  refine fn_ofG lk hcd S (fun vs H Q E ⟨ρ, M, ds, _, _, hl, _⟩ => hl) fun A outer s H vs Q E hr hg h => ?_
  obtain ⟨ρ, M, ds, rl, rs, hl, h⟩ := h
  refine ⟨_, body _ _ (ct_of S hr) (fun _ => rfl) (fun _ _ _ _ _ h => h) hg ⟨cc, tp, TB, rfl, hT, hu, hq⟩, ρ, ini N.length ds, M, ini_rl rl rs, ?_⟩
  have e : ownA (ini N.length ds) (L2.start N vs) = [] := ini_own
  rw [e]
  unfold defM at h
  cases q : m (ini N.length ds) M with
  | nx L1 M1 => rw [q] at h; exact fun ρ' H' σ' s a => h ρ' H' .non s.bare a.bare .non
  | ret d M1 => rw [q] at h; exact fun ρ' H' σ' v s a b => h ρ' H' v s.bare a.bare b
  | bk L1 M1 => rw [q] at h; exact h.elim
  | ct L1 M1 => rw [q] at h; exact h.elim
  | err y L1 M1 => rw [q] at h; exact fun ρ' H' σ' cls dd s a b => h ρ' H' cls dd s.bare a.bare b
  | stk => rw [q] at h; exact h
def isE (cs ts : List Nat) (c : Nat) : Option Bool := if cs.contains c = true then some (ts.contains c) else none
theorem si0 : SI noW := fun _ _ _ _ _ h => h
end KK

namespace KK
open PySem PySem.Spec PyProof.Rows L2

/-! ### lists that hold heap lists: == and repr; walking a heap list -/
def vdl (M : MM) : D → D
  | .lst ds => .lst (ds.map (vw M))
  | d => vd M d
section
variable {X : Cx} {U : Wd} {N : List Str} {sc : Scope} {W : WX} {n : Nat} {G : Gb} {ρ : List Addr} {H : Hp}
theorem R.vdl {L : LL} {σ : L2.St} {M : MM} (a : Rl G ρ H L σ M) {d : D} {v : V} {p : PyData} (b : R G ρ H d v) (e : py (KK.vdl M d) = some p) : Dp G.K H v p := by
  unfold KK.vdl at e
  split at e
  · simp only [py, Option.map_eq_some_iff] at e
    obtain ⟨ps, e, rfl⟩ := e
    cases b with
    | lst t r => exact .lst t.sq (r.vw a e)
  · exact b.vd a e
def eqL (neg : Bool) (ma mb : MX) : MX := fun L M => (ma L M).bind fun x L1 M1 => (mb L1 M1).bind fun y L2 M2 => if dep (vdl M2 x) ≤ 60 ∧ dep (vdl M2 y) ≤ 60 then .ok (.bl (if neg then !eqv (vdl M2 x) (vdl M2 y) else eqv (vdl M2 x) (vdl M2 y))) L2 M2 else .stk
theorem eql_read (c : Ct U N sc W n X) {ma mb : MX} {neg : Bool} {σ : L2.St} {H : Hp} {Q : VK} (h : tX U.G U.xn W (eqL neg ma mb) σ H Q) :
    tOp (fun x y H Q => ∃ d e, Dp X.K H x d ∧ Dp X.K H y e ∧ SeqAt.shaped d = true ∧ SeqAt.shaped e = true ∧ Q (.bl (if neg then !PyData.eqv d e else PyData.eqv d e)) H) (tX U.G U.xn W ma) (tX U.G U.xn W mb) σ H Q := by
  obtain ⟨ρ, L, M, rl, h⟩ := h
  refine ⟨ρ, L, M, rl, XP.mono (XP.bind h) ?_⟩
  rintro x H1 ⟨ρ1, L1, M1, d, s1, r1, rv, h1⟩
  refine ⟨ρ1, L1, M1, r1, XP.mono (XP.bind h1) ?_⟩
  rintro y H2 ⟨ρ2, L2, M2, d2, s2, r2, ru, h2⟩
  dsimp only at h2
  split at h2
  · rename_i hz
    obtain ⟨p, e1, _, _⟩ := py_dep (d := KK.vdl M2 d) (by omega)
    obtain ⟨p', e2, _, _⟩ := py_dep (d := KK.vdl M2 d2) (by omega)
    refine ⟨p, p', by rw [c.K]; exact (rv.step s2).vdl r2 e1, by rw [c.K]; exact ru.vdl r2 e2, shaped_dep hz.1 e1, shaped_dep hz.2 e2, ?_⟩
    rw [eqv_py e1 e2]
    exact h2 ρ2 H2 _ Stp.refl r2 (.bl _)
  · exact h2.elim
theorem ex_eqL (c : Ct U N sc W n X) {a b : Expr} {ma mb : MX} {pos : Pos} (ha : EX X U.G U.xn W a ma) (hb : EX X U.G U.xn W b mb) (hm : behindInMarks .Eq b = false := by first | rfl | exact nomark _) : EX X U.G U.xn W (.Compare a [.Eq] [b] pos) (eqL false ma mb) :=
  PE.imp (pe_cmpR (op_eqD (by have := c.room.un; omega)) ha hb hm) fun σ H Q h => eql_read (neg := false) c h
def reprL (m : MX) : MX := fun L M => (m L M).bind fun d L M => match reprD (vdl M d) with
  | some z => .ok z L M
  | none => .stk
theorem reprL_read (c : Ct U N sc W n X) {m : MX} {T : TA} (hT : T = tCons (tX U.G U.xn W m) tNil) {σ : L2.St} {H : Hp} {Q : VK} (h : tX U.G U.xn W (reprL m) σ H Q) :
    tCB (fun xs H Q => ∃ (a : Addr) (q : PyData), xs = [.ref a] ∧ Dp X.K H (.ref a) q ∧ q.canLay0 = true ∧ q.depth ≤ 60 ∧ q.showable = true ∧ q.shown.length ≤ sizeLine ∧ Q (.str q.shown) H) T σ H Q := by
  obtain ⟨ρ, L, M, rl, h⟩ := h
  subst hT
  refine ⟨ρ, L, M, rl, XP.mono (XP.bind h) ?_⟩
  rintro v H1 ⟨ρ1, L1, M1, d, s1, rl1, r1, h1⟩
  dsimp only at h1
  have main : ∀ q, py (KK.vdl M1 d) = some q → dep (KK.vdl M1 d) ≤ 60 ∧ q.showable = true ∧ q.shown.length ≤ sizeLine → reprD (KK.vdl M1 d) = some (.str q.shown) → ∃ (a : Addr) (q : PyData), [v] = [.ref a] ∧ Dp X.K H1 (.ref a) q ∧ q.canLay0 = true ∧ q.depth ≤ 60 ∧ q.showable = true ∧ q.shown.length ≤ sizeLine ∧ Q (.str q.shown) H1 := by
    intro q e1 e2 e3
    rw [e3] at h1
    obtain ⟨q', e5, e6, e7⟩ := py_dep (d := KK.vdl M1 d) (by omega)
    rw [e1] at e5; cases e5
    have dp := r1.vdl rl1 e1
    have hz : ∃ a, v = .ref a := by
      unfold reprD at e3
      split at e3
      · rename_i q4
        rw [q4] at e1
        simp only [py, Option.map_eq_some_iff] at e1
        obtain ⟨_, _, rfl⟩ := e1
        cases dp
        exact ⟨_, rfl⟩
      · rename_i q4
        rw [q4] at e1
        simp only [py, Option.map_eq_some_iff] at e1
        obtain ⟨_, _, rfl⟩ := e1
        cases dp
        exact ⟨_, rfl⟩
      · cases e3
    obtain ⟨a, rfl⟩ := hz
    exact ⟨a, q, rfl, by rw [c.K]; exact dp, e7, by omega, e2.2.1, e2.2.2, h1 ρ1 H1 _ Stp.refl rl1 (.str _)⟩
  cases e0 : reprD (KK.vdl M1 d) with
  | none => rw [e0] at h1; exact h1.elim
  | some z =>
    have e0' := e0
    unfold reprD at e0
    split at e0
    · split at e0
      · rename_i q e1
        split at e0
        · rename_i hz; cases e0; exact main q e1 hz e0'
        · cases e0
      · cases e0
    · split at e0
      · rename_i q e1
        split at e0
        · rename_i hz; cases e0; exact main q e1 hz e0'
        · cases e0
      · cases e0
    · cases e0
theorem w_reprL {p pos : Pos} {e : Expr} {m : MX} (c : Ct U N sc W n X) (gd : X.A.guards = some []) (b : Bi U sc "repr") (he : EX X U.G U.xn W e m) (hs : starEach [e] X.env = (false, eval e X.env) :: starEach [] X.env := by rfl) (hp : (backTo pos (starEach [] X.env)).any (·.1) = false := by rfl) : EX X U.G U.xn W (.Call (.Name "repr" p) [e] [] pos) (reprL m) :=
  PE.imp (pe_callB (call_reprD gd (by have := c.room.un; omega)) (c.gl b.1) (c.mg' b.2) Boot.«repr» (pa_cons he pa_nil hs) (by decide +kernel) (by decide +kernel) hs hp) fun σ H Q h => reprL_read c rfl h
end

/-! walking a heap list that stays as long as it is -/
def forLO (j n : Nat) (g : GD) (b : MS) : Nat → MS
  | 0, L, M => match lstAt M (.obj j) with
    | some (_, ys) => if ys.length = n then .nx L M else .stk
    | none => .stk
  | r + 1, L, M => match lstAt M (.obj j) with
    | some (_, ys) => if ys.length = n then (match ys[n - (r + 1)]? with
      | some d => match g d L with
        | none => .stk
        | some L1 => match b L1 M with
          | .nx L2 M2 => forLO j n g b r L2 M2
          | .ct L2 M2 => forLO j n g b r L2 M2
          | .bk L2 M2 => .nx L2 M2
          | o => o
      | none => .stk) else .stk
    | none => .stk
def forO (m : MX) (g : GD) (b : MS) : MS := fun L M => match m L M with
  | .ok d L1 M1 => match lstAt M1 d with
    | some (j, xs) => forLO j xs.length g b xs.length L1 M1
    | none => .stk
  | .err x L1 M1 => .err x L1 M1
  | .stk => .stk
section
variable {X : Cx} {U : Wd} {N : List Str} {sc : Scope} {W : WX} {n : Nat} {pos : Pos} {sl : List Nat} {tg it : Expr} {m : MX} {g : GD} {bd : List Stmt} {mb : MS}
def IO (G : Gb) (xn : Nat → Option Str) (W : WX) (K : PySem.W.Frag) (ρ : List Addr) (H : Hp) (L : LL) (σ : L2.St) (r : Rx) (Q : It → Hp → Prop) : Prop := match r with
  | .ok d L' M' => ∃ j xs, lstAt M' d = some (j, xs) ∧ ∀ ρ' H' a, Stp ρ H (ownA L σ) ρ' H' (ownA L' σ) → Rl G ρ' H' L' σ M' → ρ'[j]? = some a → Q (Itl K a) H'
  | .err x L' M' => ∀ ρ' H' cls dd, Stp ρ H (ownA L σ) ρ' H' (ownA L' σ) → Rl G ρ' H' L' σ M' → REr G ρ' H' xn x cls dd → W cls dd σ H'
  | .stk => False
theorem ei_O (c : Ct U N sc W n X) (he : EX X U.G U.xn W it m) : PI X tg it (fun σ H Q => ∃ ρ L M, Rl U.G ρ H L σ M ∧ IO U.G U.xn W X.K ρ H L σ (m L M) Q) := by
  refine PI.imp (pi_any he) fun σ H Q ⟨ρ, L, M, rl, h⟩ => ⟨ρ, L, M, rl, ?_⟩
  revert h
  cases m L M with
  | err x L1 M1 => exact fun h => h
  | stk => exact fun h => h
  | ok d L1 M1 =>
    rintro ⟨j, xs, e, h⟩ ρ1 H1 v s1 r1 rv
    obtain ⟨rfl, e'⟩ := lstAt_eq e
    obtain ⟨a, vs, rfl, q1, q2, q3⟩ := r1.lst e' rv
    exact .inl ⟨a, vs, rfl, .inl (.inl q2), h ρ1 H1 a s1 r1 q1⟩
theorem forWO {G : Gb} {xn : Nat → Option Str} {K : PySem.W.Frag} {j k : Nat} {a : Addr} {Z : L2.Ends} {ρ0 : List Addr} {H0 : Hp} {σ0 : L2.St} {L0 : LL} {M0 : MM} (r0 : Rl G ρ0 H0 L0 σ0 M0) (a0 : ρ0[j]? = some a)
    (h0 : OP G xn W ρ0 H0 (ownA L0 σ0) Z (forLO j k g mb k L0 M0)) : ∃ Wm : Nat → Nat → L2.St → Hp → Prop, (∃ m, Wm 0 m σ0 H0) ∧
      ∀ (i m : Nat) (σ : L2.St) (H : Hp), Wm i m σ H → ((Itl K a).stop i H ∧ Z.nx σ H) ∨ ((Itl K a).go i H ∧ ∃ Nx : L2.St → Hp → Prop, (∀ σ' H', Nx σ' H' → ∃ m', m' < m ∧ Wm (i + 1) m' σ' H') ∧
        ∀ (x : V) (H' : Hp), (Itl K a).yld i H x H' → tG G sl g x σ H' fun σ2 H2 => tS G xn W mb { nx := Nx, rt := Z.rt, bk := Z.nx, ct := Nx } σ2 H2) := by
  let Pv : Nat → L2.St → Hp → Prop := fun i σ H => ∃ ρ L M, Rl G ρ H L σ M ∧ ρ[j]? = some a ∧ OP G xn W ρ H (ownA L σ) Z (forLO j k g mb (k - i) L M)
  refine ⟨fun i m σ H => m = k - i ∧ i ≤ k ∧ Pv i σ H, ⟨k, rfl, Nat.zero_le _, ρ0, L0, M0, r0, a0, h0⟩, ?_⟩
  rintro i m σ H ⟨rfl, hi, ρ, L, M, rl, ha, h⟩
  by_cases hlt : i < k
  · have e1 : k - i = (k - (i + 1)) + 1 := by omega
    rw [e1] at h
    unfold forLO at h
    split at h
    · rename_i j' ys q
      obtain ⟨q0, q⟩ := lstAt_eq q
      cases q0
      split at h
      · rename_i hl
        have e2 : k - (k - (i + 1) + 1) = i := by omega
        rw [e2] at h
        obtain ⟨a', vs, _, b1, b2, b3⟩ := rl.lst q (.obj ha)
        rw [ha] at b1; cases b1
        have hz : i < ys.length := by omega
        have hd : ys[i]? = some ys[i] := List.getElem?_eq_getElem hz
        rw [hd] at h
        dsimp only at h
        obtain ⟨v, hv, rv⟩ := b3.get hd
        have sq : SqL K H a vs := .inl (.inl b2)
        refine .inr ⟨⟨vs, v, sq, hv⟩, Pv (i + 1), fun σ' H' p' => ⟨k - (i + 1), by omega, rfl, hlt, p'⟩, fun x H' y => ?_⟩
        obtain ⟨rfl, y⟩ := y
        have y' := y vs sq
        rw [hv] at y'; cases y'
        refine ⟨ρ, L, M, ys[i], rl, rv, ?_⟩
        cases q5 : g ys[i] L with
        | none => rw [q5] at h; exact h.elim
        | some L1 =>
          rw [q5] at h
          intro σ1 a1 s1 r1
          refine ⟨ρ, L1, M, r1, ?_⟩
          dsimp only at h
          cases q2 : mb L1 M with
          | nx L2 M2 =>
            rw [q2] at h
            exact fun ρ2 H2 σ2 s2 r2 => ⟨ρ2, L2, M2, r2, pre_get s2.pre ha, OP.shift (o := forLO j k g mb (k - (i + 1)) L2 M2) h (s1.trans s2)⟩
          | ct L2 M2 =>
            rw [q2] at h
            exact fun ρ2 H2 σ2 s2 r2 => ⟨ρ2, L2, M2, r2, pre_get s2.pre ha, OP.shift (o := forLO j k g mb (k - (i + 1)) L2 M2) h (s1.trans s2)⟩
          | bk L2 M2 => rw [q2] at h; exact fun ρ2 H2 σ2 s2 r2 => h ρ2 H2 σ2 (s1.trans s2) r2
          | ret d M2 => rw [q2] at h; exact fun ρ2 H2 σ2 v s2 r2 => h ρ2 H2 σ2 v (s1.trans s2) r2
          | err x L2 M2 => rw [q2] at h; exact fun ρ2 H2 σ2 cls dd s2 r2 => h ρ2 H2 σ2 cls dd (s1.trans s2) r2
          | stk => rw [q2] at h; exact h
      · exact h.elim
    · exact h.elim
  · have e : k - i = 0 := by omega
    rw [e] at h
    unfold forLO at h
    split at h
    · rename_i j' ys q
      obtain ⟨q0, q⟩ := lstAt_eq q
      cases q0
      split at h
      · rename_i hl
        obtain ⟨a', vs, _, b1, b2, b3⟩ := rl.lst q (.obj ha)
        rw [ha] at b1; cases b1
        exact .inl ⟨⟨vs, .inl (.inl b2), by rw [← b3.length]; omega⟩, h ρ H σ Stp.refl rl⟩
      · exact h.elim
    · exact h.elim
theorem es_forO (c : Ct U N sc W n X) (hi : EX X U.G U.xn W it m) (hg : EG X U.G sl tg g) (hb : EB X U.G U.xn W bd mb) (hf : ∀ x, foldedSetIterable it X.env x = pure x := by intro _; rfl) : ES X U.G U.xn W (.For tg it bd [] pos) (forO m g mb) := by
  refine PS.imp (ps_for c.po c.calm (ei_O c hi) hg hb hf) fun Z σ H ⟨ρ, L, M, rl, h⟩ => ⟨ρ, L, M, rl, ?_⟩
  unfold forO at h
  revert h
  cases m L M with
  | ok d L1 M1 =>
    intro h
    dsimp only at h
    split at h
    · rename_i j xs q
      exact ⟨j, xs, q, fun ρ1 H1 a s1 r1 ha => forWO r1 ha (OP.shift (o := forLO j xs.length g mb xs.length L1 M1) h s1)⟩
    · exact h.elim
  | err x L1 M1 => exact fun h ρ1 H1 cls dd s1 r1 => h ρ1 H1 σ cls dd s1 r1
  | stk => exact fun h => h
end
theorem es_asgS {X : Cx} {U : Wd} {N : List Str} {sc : Scope} {W : WX} {n : Nat} {sl : List Nat} {tg e : Expr} {m : MX} {g : GD} {pos : Pos} (c : Ct U N sc W n X) (he : EX X U.G U.xn W e m) (hg : EG X U.G sl tg g) (hw : ∀ v : Env, swappedStores [tg] e { v with scope := sc } = pure none) (hs : swapsWithSole [tg] e pos.line X.env = pure false := by rfl)
    (h1 : (assignEach [tg] X.env).map (·.2) = [assign tg X.env] := by rfl) : ES X U.G U.xn W (.Assign [tg] e pos) (asgM m g) :=
  es_asg he hg hs (by rw [swap_env (e' := { X.env with scope := sc }) c.sc]; exact hw _) h1
end KK

/-! ## meanings, worked out by simp -/
namespace KK
open PySem PySem.Spec PyProof.Rows L2

section
variable {d e z : D} {L L1 : LL} {M M1 : MM} {x : Er} {ds : List D} {m ma mb mc me : MX} {t : MA} {ms mt : MS} {i j : Nat} {b : Bool} {n : Int}
/-! ends -/
@[simp] theorem bind_ok {k : D → MX} : (Rx.ok d L M).bind k = k d L M := rfl
@[simp] theorem bind_err {k : D → MX} : (Rx.err x L M).bind k = .err x L M := rfl
@[simp] theorem bind_stk {k : D → MX} : Rx.stk.bind k = .stk := rfl
@[simp] theorem bindA_ok {k : D → MA} : (Rx.ok d L M).bindA k = k d L M := rfl
@[simp] theorem bindA_err {k : D → MA} : (Rx.err x L M).bindA k = .err x L M := rfl
@[simp] theorem abind_ok {k : List D → MX} : (Ra.ok ds L M).bind k = k ds L M := rfl
@[simp] theorem abind_err {k : List D → MX} : (Ra.err x L M).bind k = .err x L M := rfl
@[simp] theorem lbind_ok {k : List D → MA} : (Ra.ok ds L M).bindL k = k ds L M := rfl
@[simp] theorem lbind_err {k : List D → MA} : (Ra.err x L M).bindL k = .err x L M := rfl
@[simp] theorem bindB_bl {k : Bool → MX} : bindB (.ok (.bl b) L M) k = k b L M := rfl
@[simp] theorem bindB_err {k : Bool → MX} : bindB (.err x L M) k = .err x L M := rfl
@[simp] theorem cons_ok : (Ra.ok ds L M).cons d = .ok (d :: ds) L M := rfl
@[simp] theorem cons_err : (Ra.err x L M).cons d = .err x L M := rfl
@[simp] theorem frX_ok : frX L (.ok d M) = .ok d L M := rfl
@[simp] theorem frX_err : frX L (.err x M) = .err x L M := rfl
@[simp] theorem outF_nx : outF (.nx L M) = .ok .non M := rfl
@[simp] theorem outF_ret : outF (.ret d M) = .ok d M := rfl
@[simp] theorem outF_err : outF (.err x L M) = .err x M := rfl
def optX (o : Option D) : MX := fun L M => match o with
  | some z => .ok z L M
  | none => .stk
@[simp] theorem optX_some : optX (some z) L M = .ok z L M := rfl
/-! values -/
@[simp] theorem cst_ev : cst d L M = .ok d L M := rfl
def slotX (o : Option Sl) : MX := fun L M => match o with
  | some (.val d) => .ok d L M
  | _ => .stk
@[simp] theorem slotX_val : slotX (some (.val d)) L M = .ok d L M := rfl
@[simp] theorem locM_ev : locM i L M = slotX L[i]? L M := by unfold locM slotX; split <;> (try simp_all) <;> rfl
def slotB (o : Option Sl) : MX := fun L M => match o with
  | some (.val d) => .ok d L M
  | some (.own ds) => .ok (.lst ds) L M
  | some (.ownd kvs) => .ok (.dct kvs) L M
  | _ => .stk
@[simp] theorem slotB_val : slotB (some (.val d)) L M = .ok d L M := rfl
@[simp] theorem slotB_own : slotB (some (.own ds)) L M = .ok (.lst ds) L M := rfl
@[simp] theorem locB_ev : locB i L M = slotB L[i]? L M := by unfold locB slotB; split <;> (try simp_all) <;> rfl
def slotF (i : Nat) (o : Option Sl) : MX := fun L M => match o with
  | some (.val d) => .ok d L M
  | some (.own ds) => .ok (.lst ds) (L.set i (.val (.lst ds))) M
  | _ => .stk
@[simp] theorem slotF_val : slotF i (some (.val d)) L M = .ok d L M := rfl
@[simp] theorem slotF_own : slotF i (some (.own ds)) L M = .ok (.lst ds) (L.set i (.val (.lst ds))) M := rfl
@[simp] theorem frzM_ev : frzM i L M = slotF i L[i]? L M := by unfold frzM slotF; split <;> (try simp_all) <;> rfl
@[simp] theorem un1_ev {f : D → Option D} : un1 f m L M = (m L M).bind fun d => optX (f d) := rfl
@[simp] theorem un1M_ev {f : D → Option D} : un1M f m L M = (m L M).bind fun d => optX (f d) := rfl
def binK (f : D → D → Option D) (mb : MX) (x : D) : MX := fun L M => (mb L M).bind fun y => optX (f x y)
@[simp] theorem binM_ev {f : D → D → Option D} : binM f ma mb L M = (ma L M).bind (binK f mb) := rfl
@[simp] theorem binK_ev {f : D → D → Option D} : binK f mb d L M = (mb L M).bind fun y => optX (f d y) := rfl
/-! tests -/
def notK (b : Bool) : MX := fun L M => .ok (.bl !b) L M
@[simp] theorem notM_ev : notM m L M = bindB (m L M) notK := rfl
@[simp] theorem notK_ev : notK b L M = .ok (.bl !b) L M := rfl
def andK (m : MX) (b : Bool) : MX := fun L M => if b then m L M else .ok (.bl false) L M
@[simp] theorem andM_ev : andM ma mb L M = bindB (ma L M) (andK mb) := by
  unfold andM andK; cases ma L M with
  | ok d _ _ => cases d <;> first | rfl | (rename_i b; cases b <;> rfl)
  | _ => rfl
@[simp] theorem andK_t : andK m true L M = m L M := rfl
@[simp] theorem andK_f : andK m false L M = .ok (.bl false) L M := rfl
def orK (m : MX) (b : Bool) : MX := fun L M => if b then .ok (.bl true) L M else m L M
@[simp] theorem orM_ev : orM ma mb L M = bindB (ma L M) (orK mb) := by
  unfold orM orK; cases ma L M with
  | ok d _ _ => cases d <;> first | rfl | (rename_i b; cases b <;> rfl)
  | _ => rfl
@[simp] theorem orK_t : orK m true L M = .ok (.bl true) L M := rfl
@[simp] theorem orK_f : orK m false L M = m L M := rfl
def iteK (a c : MX) (b : Bool) : MX := fun L M => if b then a L M else c L M
@[simp] theorem iteM_ev : iteM m ma mb L M = bindB (m L M) (iteK ma mb) := by
  unfold iteM iteK; cases m L M with
  | ok d _ _ => cases d <;> first | rfl | (rename_i b; cases b <;> rfl)
  | _ => rfl
@[simp] theorem iteK_t : iteK ma mb true L M = ma L M := rfl
@[simp] theorem iteK_f : iteK ma mb false L M = mb L M := rfl
def chK3 (g : D → D → Option D) (mc : MX) (y : D) (o : Option D) : MX := fun L M => match o with
  | some (.bl true) => (mc L M).bind fun z => optX (g y z)
  | some (.bl false) => .ok (.bl false) L M
  | _ => .stk
@[simp] theorem chK3_t {g : D → D → Option D} : chK3 g mc d (some (.bl true)) L M = (mc L M).bind fun z => optX (g d z) := rfl
@[simp] theorem chK3_f {g : D → D → Option D} : chK3 g mc d (some (.bl false)) L M = .ok (.bl false) L M := rfl
def chK (f g : D → D → Option D) (mb mc : MX) (x : D) : MX := fun L M => (mb L M).bind fun y => chK3 g mc y (f x y)
@[simp] theorem chainM_ev {f g : D → D → Option D} : chainM f g ma mb mc L M = (ma L M).bind (chK f g mb mc) := by
  unfold chainM chK chK3; cases ma L M with
  | ok d L1 M1 =>
    simp only [bind_ok]
    cases mb L1 M1 with
    | ok e L2 M2 => simp only [bind_ok]; split <;> (try simp_all) <;> rfl
    | _ => rfl
  | _ => rfl
@[simp] theorem chK_ev {f g : D → D → Option D} : chK f g mb mc d L M = (mb L M).bind fun y => chK3 g mc y (f d y) := rfl
/-! arguments, displays -/
def consK (t : MA) (r : Rx) : Ra := match r with
  | .ok d L M => (t L M).cons d
  | .err x L M => .err x L M
  | .stk => .stk
@[simp] theorem nilA_ev : nilA L M = .ok [] L M := rfl
@[simp] theorem consA_ev : consA m t L M = consK t (m L M) := by unfold consA consK; cases m L M <;> rfl
@[simp] theorem consK_ok : consK t (.ok d L M) = (t L M).cons d := rfl
@[simp] theorem consK_err : consK t (.err x L M) = .err x L M := rfl
def callK (F : MF) (ds : List D) : MX := fun L M => frX L (F ds M)
@[simp] theorem callM_ev {F : MF} : callM F t L M = (t L M).bind (callK F) := rfl
@[simp] theorem callK_ev {F : MF} : callK F ds L M = frX L (F ds M) := rfl
def tupK (ds : List D) : MX := fun L M => if ds.length ≤ sizeLine then .ok (.tup ds) L M else .stk
@[simp] theorem tupM_ev : tupM t L M = (t L M).bind tupK := rfl
@[simp] theorem tupK_ev (h : ds.length ≤ sizeLine) : tupK ds L M = .ok (.tup ds) L M := if_pos h
@[simp] theorem lstX_ev : lstX t L M = (t L M).bind fun ds L M => .ok (.lst ds) L M := rfl
def lenK (r : Ra) : Ra := match r with
  | .ok ds L M => if ds.length ≤ sizeLine then .ok ds L M else .stk
  | .err x L M => .err x L M
  | .stk => .stk
@[simp] theorem lenA1_ev : lenA1 t L M = lenK (t L M) := by unfold lenA1 lenK; cases t L M <;> rfl
@[simp] theorem lenK_ok (h : ds.length ≤ sizeLine) : lenK (.ok ds L M) = .ok ds L M := if_pos h
@[simp] theorem lenK_err : lenK (.err x L M) = .err x L M := rfl
def optA (o : Option (List D)) : MA := fun L M => match o with
  | some z => .ok z L M
  | none => .stk
@[simp] theorem optA_some : optA (some ds) L M = .ok ds L M := rfl
@[simp] theorem unF_ev {f : D → Option (List D)} : unF f m L M = (m L M).bindA fun d => optA (f d) := rfl
@[simp] theorem itemsM_ev : itemsM m L M = (m L M).bindA fun d => optA (items d) := rfl
def catK2 (x y : D) : MA := fun L M => match x, y with
  | .lst xs, .lst ys => if xs.length + ys.length ≤ sizeLine then .ok (xs ++ ys) L M else .stk
  | _, _ => .stk
def catK (mb : MX) (x : D) : MA := fun L M => (mb L M).bindA (catK2 x)
@[simp] theorem catF_ev : catF ma mb L M = (ma L M).bindA (catK mb) := rfl
@[simp] theorem catK_ev : catK mb d L M = (mb L M).bindA (catK2 d) := rfl
@[simp] theorem catK2_ev {xs ys : List D} (h : xs.length + ys.length ≤ sizeLine) : catK2 (.lst xs) (.lst ys) L M = .ok (xs ++ ys) L M := if_pos h
/-! places -/
@[simp] theorem cstP_ev : cstP n L M = some n := rfl
def slotP (o : Option Sl) : Option Int := match o with
  | some (.val (.int k)) => some k
  | _ => none
@[simp] theorem slotP_val : slotP (some (.val (.int n))) = some n := rfl
@[simp] theorem locP_ev : locP i L M = slotP L[i]? := by unfold locP slotP; split <;> (try simp_all) <;> rfl
def opK (g : Int → Int → Int) (a b : Option Int) : Option Int := match a, b with
  | some i, some j => some (g i j)
  | _, _ => none
@[simp] theorem opK_ev {g : Int → Int → Int} {a c : Int} : opK g (some a) (some c) = some (g a c) := rfl
@[simp] theorem opP_ev {g : Int → Int → Int} {f h : MP} : opP g f h L M = opK g (f L M) (h L M) := by unfold opP opK; split <;> (try simp_all) <;> rfl
def ixK (d : D) (o : Option Int) : MX := fun L M => match o with
  | some i => optX (ixD d (.int i)) L M
  | none => .stk
@[simp] theorem ixK_ev : ixK d (some n) L M = optX (ixD d (.int n)) L M := rfl
def ixKK (f : MP) (d : D) : MX := fun L M => ixK d (f L M) L M
@[simp] theorem ixPM_ev {f : MP} : ixPM m f L M = (m L M).bind (ixKK f) := by
  unfold ixPM ixKK ixK optX; cases m L M with
  | ok d L1 M1 => first | (simp only [bind_ok]; done) | (simp only [bind_ok]; split <;> (try simp_all) <;> rfl)
  | _ => rfl
@[simp] theorem ixKK_ev {f : MP} : ixKK f d L M = ixK d (f L M) L M := rfl
abbrev MPo : Type := LL → MM → Option (Option Int)
@[simp] theorem noP_ev : noP L M = some none := rfl
@[simp] theorem soP_ev {f : MP} : soP f L M = (f L M).map some := rfl
def slK2 (d : D) (a b : Option (Option Int)) : MX := fun L M => match a, b with
  | some lo, some hi => optX (slD d lo hi) L M
  | _, _ => .stk
@[simp] theorem slK2_ev {lo hi : Option Int} : slK2 d (some lo) (some hi) L M = optX (slD d lo hi) L M := rfl
def slK (f g : MPo) (d : D) : MX := fun L M => slK2 d (f L M) (g L M) L M
@[simp] theorem slM_ev {f g : MPo} : slM m f g L M = (m L M).bind (slK f g) := by
  unfold slM slK slK2 optX; cases m L M with
  | ok d L1 M1 => first | (simp only [bind_ok]; done) | (simp only [bind_ok]; split <;> (try simp_all) <;> rfl)
  | _ => rfl
@[simp] theorem slK_ev {f g : MPo} : slK f g d L M = slK2 d (f L M) (g L M) L M := rfl
def slFK2 (d : D) (a b : Option (Option Int)) : MA := fun L M => match d, a, b with
  | .lst ds, some lo, some hi => .ok (cutD ds lo hi) L M
  | _, _, _ => .stk
@[simp] theorem slFK2_ev {lo hi : Option Int} : slFK2 (.lst ds) (some lo) (some hi) L M = .ok (cutD ds lo hi) L M := rfl
def slFK (f g : MPo) (d : D) : MA := fun L M => slFK2 d (f L M) (g L M) L M
@[simp] theorem slF_ev {f g : MPo} : slF m f g L M = (m L M).bindA (slFK f g) := rfl
@[simp] theorem slFK_ev {f g : MPo} : slFK f g d L M = slFK2 d (f L M) (g L M) L M := rfl
def idxK (mb : MX) (d : D) : MX := fun L M => match d with
  | .tup ds => (mb L M).bind fun y => optX (idxD (.tup ds) y)
  | _ => .stk
@[simp] theorem idxM_ev : idxM ma mb L M = (ma L M).bind (idxK mb) := by
  unfold idxM idxK; cases ma L M with
  | ok d L1 M1 => cases d <;> rfl
  | _ => rfl
@[simp] theorem idxK_ev : idxK mb (.tup ds) L M = (mb L M).bind fun y => optX (idxD (.tup ds) y) := rfl
@[simp] theorem rng1_ev : rng1 t L M = (t L M).bindL fun ds L M => match ds with
  | [.int j] => if ok62 j = true then .ok (rngD 0 j.toNat) L M else .stk
  | _ => .stk := rfl
@[simp] theorem zip2M_ev : zip2M t L M = (t L M).bindL fun ds L M => match ds with
  | [.tup xs, .tup ys] => .ok (zip2 xs ys) L M
  | [.lst xs, .lst ys] => .ok (zip2 xs ys) L M
  | _ => .stk := rfl
@[simp] theorem zip3M_ev : zip3M t L M = (t L M).bindL fun ds L M => match ds with
  | [.tup xs, .tup ys, .tup zs] => .ok (zip3 xs ys zs) L M
  | _ => .stk := rfl
/-! the heap -/
@[simp] theorem vwM_ev : vwM m L M = (m L M).bind fun d L M => .ok (vw M d) L M := rfl
def fldK (f : Str) (o : Option (Nat × List (Str × D))) : MX := fun L M => match o with
  | some p => optX (lookD f p.2) L M
  | none => .stk
@[simp] theorem fldK_ev {f : Str} {p : Nat × List (Str × D)} : fldK f (some p) L M = optX (lookD f p.2) L M := rfl
@[simp] theorem fldM_ev {c : Nat} {f : Str} : fldM c f m L M = (m L M).bind fun d L M => fldK f (instOf M c d) L M := by
  unfold fldM fldK optX; cases m L M with
  | ok d L1 M1 => first | (simp only [bind_ok]; done) | (simp only [bind_ok]; split <;> (try simp_all) <;> rfl)
  | _ => rfl
def methK2 (f : Str) (F : MF) (t : MA) (o : D) (p : Option (Nat × List (Str × D))) : MX := fun L M => match p with
  | some q => match lookD f q.2 with
    | some _ => .stk
    | none => (t L M).bind fun ds L M => frX L (F (o :: ds) M)
  | none => .stk
theorem methK2_ev {f : Str} {F : MF} {p : Nat × List (Str × D)} (h : lookD f p.2 = none) : methK2 f F t d (some p) L M = (t L M).bind fun ds L M => frX L (F (d :: ds) M) := by unfold methK2; simp only [h]
def methK (c : Nat) (f : Str) (F : MF) (t : MA) (o : D) : MX := fun L M => methK2 f F t o (instOf M c o) L M
@[simp] theorem methM_ev {c : Nat} {f : Str} {F : MF} : methM c f F m t L M = (m L M).bind (methK c f F t) := by
  unfold methM methK methK2; cases m L M with
  | ok d L1 M1 => first | (simp only [bind_ok]; done) | (simp only [bind_ok]; split <;> (try simp_all) <;> rfl)
  | _ => rfl
@[simp] theorem methK_ev {c : Nat} {f : Str} {F : MF} : methK c f F t d L M = methK2 f F t d (instOf M c d) L M := rfl
def mkK2 (o : D) (r : Fr) : LL → Rx := fun L => match r with
  | .ok .non M' => .ok o L M'
  | .ok _ _ => .stk
  | .err y M' => .err y L M'
  | .stk => .stk
@[simp] theorem mkK2_ok : mkK2 d (.ok .non M) L = .ok d L M := rfl
@[simp] theorem mkK2_err : mkK2 d (.err x M) L = .err x L M := rfl
@[simp] theorem mkM_ev {c : Nat} {F : MF} : mkM c F t L M = (t L M).bind fun ds L M => mkK2 (.obj M.length) (F (.obj M.length :: ds) (M ++ [.inst c []])) L := rfl
@[simp] theorem objX_ev : objX t L M = (t L M).bind fun ds L M => .ok (.obj M.length) L (M ++ [.list ds]) := rfl
@[simp] theorem dicX_ev {ps : List (Str × MX)} : dicX ps L M = (pairsA ps L M).bind fun ds L M => .ok (.obj M.length) L (M ++ [.dict ((ps.map (·.1)).zip ds)]) := rfl
@[simp] theorem pairsA_nil : pairsA [] L M = .ok [] L M := rfl
@[simp] theorem pairsA_cons {y : Str} {ps : List (Str × MX)} : pairsA ((y, m) :: ps) L M = consK (pairsA ps) (m L M) := consA_ev
def dgK (y : Str) (o : Option (Nat × List (Str × D))) : MX := fun L M => match o with
  | some p => optX (lookD y p.2) L M
  | none => .stk
@[simp] theorem dgK_ev {y : Str} {p : Nat × List (Str × D)} : dgK y (some p) L M = optX (lookD y p.2) L M := rfl
@[simp] theorem dgM_ev {y : Str} : dgM y m L M = (m L M).bind fun d L M => dgK y (dicAt M d) L M := by
  unfold dgM dgK optX; cases m L M with
  | ok d L1 M1 => first | (simp only [bind_ok]; done) | (simp only [bind_ok]; split <;> (try simp_all) <;> rfl)
  | _ => rfl
def appK3 (o : D) (d : D) : MX := fun L M => match lstAt M o with
  | some (j, ds) => if ds.length < sizeLine then .ok .non L (M.set j (.list (ds ++ [d]))) else .stk
  | none => .stk
theorem appK3_ev {o : D} (h : lstAt M o = some (j, ds)) (hz : ds.length < sizeLine) : appK3 o d L M = .ok .non L (M.set j (.list (ds ++ [d]))) := by unfold appK3; simp only [h, if_pos hz]
def appK2 (mb : MX) (o : D) (p : Option (Nat × List D)) : MX := fun L M => match p with
  | some _ => (mb L M).bind (appK3 o)
  | none => .stk
@[simp] theorem appK2_ev {p : Nat × List D} : appK2 mb d (some p) L M = (mb L M).bind (appK3 d) := rfl
def appK (mb : MX) (o : D) : MX := fun L M => appK2 mb o (lstAt M o) L M
@[simp] theorem appO_ev : appO ma mb L M = (ma L M).bind (appK mb) := by
  unfold appO appK appK2; cases ma L M with
  | ok d L1 M1 => first | (simp only [bind_ok]; done) | (simp only [bind_ok]; split <;> (try simp_all) <;> rfl)
  | _ => rfl
@[simp] theorem appK_ev : appK mb d L M = appK2 mb d (lstAt M d) L M := rfl
def popOK (o : D) : MX := fun L M => match lstAt M o with
  | some (j, ds) => match ds[ds.length - 1]? with
    | some d => .ok d L (M.set j (.list ds.dropLast))
    | none => .stk
  | none => .stk
@[simp] theorem popO_ev : popO m L M = (m L M).bind popOK := rfl
theorem popOK_ev (h : lstAt M e = some (j, ds ++ [d])) : popOK e L M = .ok d L (M.set j (.list ds)) := by
  unfold popOK
  simp only [h]
  have : (ds ++ [d])[(ds ++ [d]).length - 1]? = some d := by simp
  rw [this, List.dropLast_concat]
/-! statements -/
def exprK (r : Rx) : Ou := match r with
  | .ok _ L1 M1 => .nx L1 M1
  | .err x L1 M1 => .err x L1 M1
  | .stk => .stk
@[simp] theorem exprM_ev : exprM m L M = exprK (m L M) := by unfold exprM exprK; cases m L M <;> rfl
@[simp] theorem exprK_ok : exprK (.ok d L M) = .nx L M := rfl
@[simp] theorem exprK_err : exprK (.err x L M) = .err x L M := rfl
def retK (r : Rx) : Ou := match r with
  | .ok d _ M1 => .ret d M1
  | .err x L1 M1 => .err x L1 M1
  | .stk => .stk
@[simp] theorem retM_ev : retM m L M = retK (m L M) := by unfold retM retK; cases m L M <;> rfl
@[simp] theorem retK_ok : retK (.ok d L M) = .ret d M := rfl
@[simp] theorem retK_err : retK (.err x L M) = .err x L M := rfl
@[simp] theorem skipM_ev : skipM L M = .nx L M := rfl
@[simp] theorem retN_ev : retN L M = .ret .non M := rfl
@[simp] theorem raiseM_ev {c : Nat} : raiseM c L M = .err ⟨c, .non⟩ L M := rfl
def raiseK (c : Nat) (r : Rx) : Ou := match r with
  | .ok d L1 M1 => .err ⟨c, d⟩ L1 M1
  | .err x L1 M1 => .err x L1 M1
  | .stk => .stk
@[simp] theorem raiseF_ev {c : Nat} : raiseF c m L M = raiseK c (m L M) := by unfold raiseF raiseK; cases m L M <;> rfl
@[simp] theorem raiseK_ok {c : Nat} : raiseK c (.ok d L M) = .err ⟨c, d⟩ L M := rfl
@[simp] theorem raiseK_err {c : Nat} : raiseK c (.err x L M) = .err x L M := rfl
def setK (i : Nat) (r : Rx) : Ou := match r with
  | .ok d L1 M1 => .nx (L1.set i (.val d)) M1
  | .err x L1 M1 => .err x L1 M1
  | .stk => .stk
@[simp] theorem setM_ev : setM i m L M = setK i (m L M) := by unfold setM setK; cases m L M <;> rfl
@[simp] theorem setK_ok : setK i (.ok d L M) = .nx (L.set i (.val d)) M := rfl
@[simp] theorem setK_err : setK i (.err x L M) = .err x L M := rfl
def ownK (i : Nat) (r : Ra) : Ou := match r with
  | .ok ds L1 M1 => .nx (L1.set i (.own ds)) M1
  | .err x L1 M1 => .err x L1 M1
  | .stk => .stk
@[simp] theorem ownM_ev : ownM i t L M = ownK i (t L M) := by unfold ownM ownK; cases t L M <;> rfl
@[simp] theorem ownK_ok : ownK i (.ok ds L M) = .nx (L.set i (.own ds)) M := rfl
def seqK (n : MS) (o : Ou) : Ou := match o with
  | .nx L1 M1 => n L1 M1
  | o => o
@[simp] theorem seqM_ev : seqM ms mt L M = seqK mt (ms L M) := by unfold seqM seqK; cases ms L M <;> rfl
@[simp] theorem seqK_nx : seqK mt (.nx L M) = mt L M := rfl
@[simp] theorem seqK_ret : seqK mt (.ret d M) = .ret d M := rfl
@[simp] theorem seqK_err : seqK mt (.err x L M) = .err x L M := rfl
@[simp] theorem seqK_bk : seqK mt (.bk L M) = .bk L M := rfl
@[simp] theorem seqK_ct : seqK mt (.ct L M) = .ct L M := rfl
def ifK (a b : MS) (r : Rx) : Ou := match r with
  | .ok (.bl c) L1 M1 => if c then a L1 M1 else b L1 M1
  | .ok _ _ _ => .stk
  | .err x L1 M1 => .err x L1 M1
  | .stk => .stk
@[simp] theorem ifM_ev : ifM m ms mt L M = ifK ms mt (m L M) := by
  unfold ifM ifK; cases m L M with
  | ok d _ _ => cases d <;> rfl
  | _ => rfl
@[simp] theorem ifK_t : ifK ms mt (.ok (.bl true) L M) = ms L M := rfl
@[simp] theorem ifK_f : ifK ms mt (.ok (.bl false) L M) = mt L M := rfl
@[simp] theorem ifK_err : ifK ms mt (.err x L M) = .err x L M := rfl
def asgK2 (o : Option LL) (M : MM) : Ou := match o with
  | some L2 => .nx L2 M
  | none => .stk
@[simp] theorem asgK2_ev : asgK2 (some L) M = .nx L M := rfl
def asgK (g : GD) (r : Rx) : Ou := match r with
  | .ok d L1 M1 => asgK2 (g d L1) M1
  | .err x L1 M1 => .err x L1 M1
  | .stk => .stk
@[simp] theorem asgM_ev {g : GD} : asgM m g L M = asgK g (m L M) := by
  unfold asgM asgK asgK2; cases m L M with
  | ok d L1 M1 => rfl
  | _ => rfl
@[simp] theorem asgK_ok {g : GD} : asgK g (.ok d L M) = asgK2 (g d L) M := rfl
@[simp] theorem asgK_err {g : GD} : asgK g (.err x L M) = .err x L M := rfl
@[simp] theorem gN_ev : gN i d L = some (L.set i (.val d)) := rfl
@[simp] theorem gsN_ev : gsN [] L = some L := rfl
def gsCK (gs : GDs) (ds : List D) (o : Option LL) : Option LL := match o with
  | some L1 => gs ds L1
  | none => none
@[simp] theorem gsC_ev {g : GD} {gs : GDs} : gsC g gs (d :: ds) L = gsCK gs ds (g d L) := by unfold gsC gsCK; rfl
@[simp] theorem gsCK_ev {gs : GDs} : gsCK gs ds (some L) = gs ds L := rfl
@[simp] theorem gT_tup {k : Nat} {gs : GDs} (h : ds.length = k) : gT k gs (.tup ds) L = gs ds L := if_pos h
@[simp] theorem gT_pr {k : Nat} {gs : GDs} (h : ds.length = k) : gT k gs (.pr ds) L = gs ds L := if_pos h
def parK (i j : Nat) (r : Rn) : Ou := match r with
  | .ok [s, u] L1 M1 => .nx ((L1.set i s).set j u) M1
  | .ok _ _ _ => .stk
  | .err x L1 M1 => .err x L1 M1
  | .stk => .stk
@[simp] theorem par2_ev {t : MN} : par2 i j t L M = parK i j (t L M) := by unfold par2 parK; rfl
@[simp] theorem parK_ok {s u : Sl} : parK i j (.ok [s, u] L M) = .nx ((L.set i s).set j u) M := rfl
@[simp] theorem parK_err : parK i j (.err x L M) = .err x L M := rfl
def valK (t : MN) (r : Rx) : Rn := match r with
  | .ok d L1 M1 => (t L1 M1).cons (.val d)
  | .err x L1 M1 => .err x L1 M1
  | .stk => .stk
@[simp] theorem valN_ev {t : MN} : valN m t L M = valK t (m L M) := by unfold valN valK; cases m L M <;> rfl
@[simp] theorem valK_ok {t : MN} : valK t (.ok d L M) = (t L M).cons (.val d) := rfl
@[simp] theorem valK_err {t : MN} : valK t (.err x L M) = .err x L M := rfl
def newK (t : MN) (r : Ra) : Rn := match r with
  | .ok d L1 M1 => (t L1 M1).cons (.own d)
  | .err x L1 M1 => .err x L1 M1
  | .stk => .stk
@[simp] theorem newN_ev {t : MN} {ta : MA} : newN ta t L M = newK t (ta L M) := by unfold newN newK; cases ta L M <;> rfl
@[simp] theorem newK_ok {t : MN} : newK t (.ok ds L M) = (t L M).cons (.own ds) := rfl
@[simp] theorem nilN_ev : nilN L M = .ok [] L M := rfl
@[simp] theorem ncons_ok {s : Sl} {ss : List Sl} : (Rn.ok ss L M).cons s = .ok (s :: ss) L M := rfl
@[simp] theorem ncons_err {s : Sl} : (Rn.err x L M).cons s = .err x L M := rfl
def setFK3 (c : Nat) (f : Str) (d : D) (p : Option (Nat × List (Str × D))) : MS := fun L M => match p with
  | some q => if q.2.length < 1000 then .nx L (M.set q.1 (.inst c (putD f d q.2))) else .stk
  | none => .stk
@[simp] theorem setFK3_ev {c : Nat} {f : Str} {p : Nat × List (Str × D)} (h : p.2.length < 1000) : setFK3 c f d (some p) L M = .nx L (M.set p.1 (.inst c (putD f d p.2))) := if_pos h
def setFK2 (c : Nat) (f : Str) (d : D) (r : Rx) : Ou := match r with
  | .ok o L1 M1 => setFK3 c f d (instOf M1 c o) L1 M1
  | .err x L1 M1 => .err x L1 M1
  | .stk => .stk
@[simp] theorem setFK2_ok {c : Nat} {f : Str} : setFK2 c f e (.ok d L M) = setFK3 c f e (instOf M c d) L M := rfl
def setFK1 (c : Nat) (f : Str) (mo : MX) (r : Rx) : Ou := match r with
  | .ok d L1 M1 => setFK2 c f d (mo L1 M1)
  | .err x L1 M1 => .err x L1 M1
  | .stk => .stk
@[simp] theorem setFK1_ok {c : Nat} {f : Str} : setFK1 c f ma (.ok d L M) = setFK2 c f d (ma L M) := rfl
@[simp] theorem setFK1_err {c : Nat} {f : Str} : setFK1 c f ma (.err x L M) = .err x L M := rfl
@[simp] theorem setF_ev {c : Nat} {f : Str} : setF c f ma mb L M = setFK1 c f ma (mb L M) := by
  unfold setF setFK1 setFK2 setFK3
  cases mb L M with
  | ok d L1 M1 =>
    dsimp only
    cases ma L1 M1 with
    | ok o L2 M2 => dsimp only; split <;> simp_all
    | _ => rfl
  | _ => rfl
def forK (g : GD) (b : MS) (r : Ra) : Ou := match r with
  | .ok ds L1 M1 => forL g b ds L1 M1
  | .err x L1 M1 => .err x L1 M1
  | .stk => .stk
@[simp] theorem forM_ev {g : GD} : forM t g ms L M = forK g ms (t L M) := by unfold forM forK; cases t L M <;> rfl
@[simp] theorem forK_ok {g : GD} : forK g ms (.ok ds L M) = forL g ms ds L M := rfl
@[simp] theorem forL_nil {g : GD} : forL g ms [] L M = .nx L M := rfl
def forK2 (g : GD) (b : MS) (ds : List D) (o : Ou) : Ou := match o with
  | .nx L2 M2 => forL g b ds L2 M2
  | .ct L2 M2 => forL g b ds L2 M2
  | .bk L2 M2 => .nx L2 M2
  | o => o
def forK1 (g : GD) (b : MS) (ds : List D) (o : Option LL) (M : MM) : Ou := match o with
  | none => .stk
  | some L1 => forK2 g b ds (b L1 M)
theorem forL_cons {g : GD} : forL g ms (d :: ds) L M = forK1 g ms ds (g d L) M := by
  rw [forL]; unfold forK1 forK2; cases g d L with
  | none => rfl
  | some L1 => first | (dsimp only; done) | (dsimp only; cases ms L1 M <;> rfl)
@[simp] theorem forK1_ev {g : GD} : forK1 g ms ds (some L) M = forK2 g ms ds (ms L M) := rfl
@[simp] theorem forK2_nx {g : GD} : forK2 g ms ds (.nx L M) = forL g ms ds L M := rfl
@[simp] theorem forK2_ret {g : GD} : forK2 g ms ds (.ret d M) = .ret d M := rfl
@[simp] theorem forK2_err {g : GD} : forK2 g ms ds (.err x L M) = .err x L M := rfl
/-! own lists -/
def appmK2 (i : Nat) (d : D) (o : Option Sl) : MX := fun L M => match o with
  | some (.own ds) => if ds.length < sizeLine then .ok .non (L.set i (.own (ds ++ [d]))) M else .stk
  | _ => .stk
@[simp] theorem appmK2_ev (h : ds.length < sizeLine) : appmK2 i d (some (.own ds)) L M = .ok .non (L.set i (.own (ds ++ [d]))) M := if_pos h
def appmK (i : Nat) (m : MX) (o : Option Sl) : MX := fun L M => match o with
  | some (.own _) => (m L M).bind fun d L M => appmK2 i d L[i]? L M
  | _ => .stk
@[simp] theorem appmK_ev : appmK i m (some (.own ds)) L M = (m L M).bind fun d L M => appmK2 i d L[i]? L M := rfl
@[simp] theorem appM_ev : appM i m L M = appmK i m L[i]? L M := by
  unfold appM appmK; split
  · rename_i q; first | (rw [q]; rfl) | rfl
  · rename_i q; first | rfl | (split <;> (try simp_all) <;> rfl)
/-! exceptions held -/
def cauK (xn : Nat → Option Str) (cb : Nat → Option Bool) (r : Rx) : Rx := match r with
  | .ok _ L1 M1 => .ok .non L1 M1
  | .err x L1 M1 => if cb x.c = some true then .ok (excD xn x) L1 M1 else .stk
  | .stk => .stk
@[simp] theorem caughtM_ev {xn : Nat → Option Str} {cb : Nat → Option Bool} : caughtM xn cb m L M = cauK xn cb (m L M) := by unfold caughtM cauK; cases m L M <;> rfl
@[simp] theorem cauK_ok {xn : Nat → Option Str} {cb : Nat → Option Bool} : cauK xn cb (.ok d L M) = .ok .non L M := rfl
theorem cauK_err {xn : Nat → Option Str} {cb : Nat → Option Bool} (h : cb x.c = some true) : cauK xn cb (.err x L M) = .ok (excD xn x) L M := if_pos h
def isCK (o : Option Bool) : MX := fun L M => match o with
  | some b => .ok (.bl b) L M
  | none => .stk
@[simp] theorem isCK_ev : isCK (some b) L M = .ok (.bl b) L M := rfl
@[simp] theorem isCM_ev {nb : Option Bool} {eb ib : Nat → Option Bool} : isCM nb eb ib m L M = (m L M).bind fun d L M => isCK (isAns nb eb ib M d) L M := rfl
def xfK (c : Nat) (f : Str) (d : D) : MX := fun L M => match d with
  | .exc i [(g, v)] => if i = c ∧ g = f then .ok v L M else .stk
  | _ => .stk
@[simp] theorem xfM_ev {c : Nat} {f : Str} : xfM c f m L M = (m L M).bind (xfK c f) := by
  unfold xfM xfK; cases m L M <;> rfl
@[simp] theorem xfK_ev {c : Nat} {f : Str} : xfK c f (.exc c [(f, d)]) L M = .ok d L M := if_pos ⟨rfl, rfl⟩
def emK (neg : Bool) (o : Option Bool) : MX := fun L M => match o with
  | some b => .ok (.bl (if neg then !b else b)) L M
  | none => .stk
@[simp] theorem emK_ev {neg : Bool} : emK neg (some b) L M = .ok (.bl (if neg then !b else b)) L M := rfl
@[simp] theorem emM_ev {neg : Bool} : emM neg m L M = (m L M).bind fun d L M => emK neg (emD d) L M := rfl
end
end KK

/-! ## data, worked out by simp -/
namespace KK
open PySem PySem.Spec PyProof.Rows L2

/-! ### texts -/
theorem str_ext {x y : Str} (h : x.cps.toList = y.cps.toList) : x = y := by
  obtain ⟨⟨x⟩⟩ := x
  obtain ⟨⟨y⟩⟩ := y
  have e : x = y := h
  rw [e]
@[simp] theorem strOk_lit (s : String) : PyData.strOk (Str.ofString s) = true := by
  rw [Str.ofString_eq_toList]
  unfold PyData.strOk
  rw [Array.all_eq_true']
  intro c hc
  have hc' : c ∈ (s.toList.map Char.toNat) := by simpa using hc
  obtain ⟨ch, _, rfl⟩ := List.mem_map.mp hc'
  have h : ch.toNat < 0x110000 := by
    have := ch.valid
    rcases this with h | h
    · have : ch.toNat < 0xd800 := h; omega
    · exact h.2
  exact decide_eq_true h
theorem ofString_inj {s t : String} (h : Str.ofString s = Str.ofString t) : s = t := by
  rw [Str.ofString_eq_toList, Str.ofString_eq_toList] at h
  have h1 : (s.toList.map Char.toNat).toArray = (t.toList.map Char.toNat).toArray := congrArg Str.cps h
  have h2 : s.toList.map Char.toNat = t.toList.map Char.toNat := by simpa using h1
  have inj : Function.Injective Char.toNat := fun a b e => by
    apply Char.ext
    apply UInt32.toNat_inj.mp
    exact e
  have h3 : s.toList = t.toList := (List.map_inj_right (fun a b e => inj e)).mp h2
  exact String.toList_inj.mp h3
@[simp] theorem str_eq_lit {s t : String} : (Str.ofString s = Str.ofString t) ↔ s = t := ⟨ofString_inj, fun h => by rw [h]⟩
@[simp] theorem str_beq_lit {s t : String} : (Str.ofString s == Str.ofString t) = (s == t) := by
  by_cases h : s = t
  · subst h; simp
  · rw [beq_eq_false_iff_ne.mpr h, beq_eq_false_iff_ne.mpr fun z => h (ofString_inj z)]

/-! ### how deep -/
section
variable {d e : D} {ds es : List D} {x y : Str} {i j : Int} {b : Bool}
@[simp] theorem dep_non : dep .non = 0 := by rw [dep]
@[simp] theorem dep_bl : dep (.bl b) = 0 := by rw [dep]
@[simp] theorem dep_int : dep (.int i) = 0 := by rw [dep]
theorem dep_str (h : PyData.strOk x = true) : dep (.str x) = 0 := by unfold dep; rw [if_pos h]
@[simp] theorem dep_lit (s : String) : dep (.str (Str.ofString s)) = 0 := dep_str (strOk_lit s)
@[simp] theorem dep_tup : dep (.tup ds) = depA ds + 1 := by rw [dep]
@[simp] theorem dep_lst : dep (.lst ds) = depA ds + 1 := by rw [dep]
@[simp] theorem depA_nil : depA [] = 0 := by rw [depA]
@[simp] theorem depA_cons : depA (d :: ds) = max (dep d) (depA ds) := by rw [depA]
theorem depA_le {n : Nat} : depA ds ≤ n ↔ ∀ d ∈ ds, dep d ≤ n := by
  induction ds with
  | nil => simp
  | cons d ds ih => rw [depA_cons, Nat.max_le, ih]; simp
@[simp] theorem depA_append : depA (ds ++ es) = max (depA ds) (depA es) := by
  induction ds with
  | nil => simp
  | cons d ds ih => rw [List.cons_append, depA_cons, depA_cons, ih, Nat.max_assoc]
@[simp] theorem depA_ints {is : List Int} : depA (is.map D.int) = 0 := by
  have : depA (is.map D.int) ≤ 0 := depA_le.mpr fun d hd => by obtain ⟨i, _, rfl⟩ := List.mem_map.mp hd; simp
  omega
theorem depA_strs {xs : List Str} (h : ∀ x ∈ xs, PyData.strOk x = true) : depA (xs.map D.str) = 0 := by
  have : depA (xs.map D.str) ≤ 0 := depA_le.mpr fun d hd => by obtain ⟨i, hi, rfl⟩ := List.mem_map.mp hd; rw [dep_str (h i hi)]; omega
  omega
/-! ### == -/
@[simp] theorem eqv_str : eqv (.str x) (.str y) = (x == y) := by rw [eqv]
@[simp] theorem eqv_int : eqv (.int i) (.int j) = (i == j) := by rw [eqv]
@[simp] theorem eqv_tup : eqv (.tup ds) (.tup es) = eqvs ds es := by rw [eqv]
@[simp] theorem eqv_lst : eqv (.lst ds) (.lst es) = eqvs ds es := by rw [eqv]
@[simp] theorem eqv_non : eqv .non .non = true := by rw [eqv]
@[simp] theorem eqv_str_non : eqv (.str x) .non = false := by simp [eqv]
@[simp] theorem eqv_non_str : eqv .non (.str x) = false := by simp [eqv]
@[simp] theorem eqv_int_str : eqv (.int i) (.str x) = false := by simp [eqv]
@[simp] theorem eqv_str_int : eqv (.str x) (.int i) = false := by simp [eqv]
@[simp] theorem eqvs_nil : eqvs [] [] = true := by rw [eqvs]
@[simp] theorem eqvs_cons : eqvs (d :: ds) (e :: es) = (eqv d e && eqvs ds es) := by rw [eqvs]
@[simp] theorem eqvs_nil_cons : eqvs [] (e :: es) = false := by simp [eqvs]
@[simp] theorem eqvs_cons_nil : eqvs (e :: es) [] = false := by simp [eqvs]
mutual
theorem eqv_refl : ∀ {d : D}, dep d < 100 → eqv d d = true
  | .non, _ => by rw [eqv]
  | .bl b, _ => by rw [eqv]; simp
  | .int i, _ => by rw [eqv]; simp
  | .str x, _ => by rw [eqv]; simp
  | .tup ds, h => by rw [eqv]; exact eqvs_refl (by rw [dep_tup] at h; omega)
  | .lst ds, h => by rw [eqv]; exact eqvs_refl (by rw [dep_lst] at h; omega)
  | .dct _, h => by simp [dep] at h
  | .obj _, h => by simp [dep] at h
  | .fn _, h => by simp [dep] at h
  | .cls _, h => by simp [dep] at h
  | .ty _, h => by simp [dep] at h
  | .exc _ _, h => by simp [dep] at h
  | .clo _, h => by simp [dep] at h
  | .kl _, h => by simp [dep] at h
  | .pr _, h => by simp [dep] at h
theorem eqvs_refl : ∀ {ds : List D}, depA ds < 100 → eqvs ds ds = true
  | [], _ => by rw [eqvs]
  | d :: ds, h => by
    rw [depA_cons] at h
    rw [eqvs, eqv_refl (by omega), eqvs_refl (by omega)]; rfl
end
/-! ### operators -/
@[simp] theorem addD_int : addD (.int i) (.int j) = some (.int (i + j)) := rfl
@[simp] theorem addD_tup (h : ds.length + es.length ≤ sizeLine) : addD (.tup ds) (.tup es) = some (.tup (ds ++ es)) := if_pos h
@[simp] theorem addD_str (h : x.length + y.length ≤ sizeLine) : addD (.str x) (.str y) = some (.str (x ++ y)) := if_pos h
@[simp] theorem subD_int : subD (.int i) (.int j) = some (.int (i - j)) := rfl
@[simp] theorem mulD_int (h : CMul i j ∨ CMulW i j) : mulD (.int i) (.int j) = some (.int (i * j)) := if_pos h
@[simp] theorem divD_int (h : CDivW i j) : divD (.int i) (.int j) = some (.int (i / j)) := if_pos h
@[simp] theorem modD_int (h : 0 < j) : modD (.int i) (.int j) = some (.int (i % j)) := if_pos h
@[simp] theorem powD_int (h : CPow i j) : powD (.int i) (.int j) = some (.int (i ^ j.toNat)) := if_pos h
@[simp] theorem ltD_int : ltD (.int i) (.int j) = some (.bl (decide (i < j))) := rfl
@[simp] theorem leD_int : leD (.int i) (.int j) = some (.bl (decide (i ≤ j))) := rfl
@[simp] theorem gtD_int : gtD (.int i) (.int j) = some (.bl (decide (j < i))) := rfl
@[simp] theorem geD_int : geD (.int i) (.int j) = some (.bl (decide (j ≤ i))) := rfl
def sLt (x y : Str) : Bool := decide (x.cps.toList < y.cps.toList)
@[simp] theorem ltD_str : ltD (.str x) (.str y) = some (.bl (sLt x y)) := rfl
@[simp] theorem eqD_ev (h : dep d ≤ 60) (h' : dep e ≤ 60) : eqD d e = some (.bl (eqv d e)) := if_pos (.inr ⟨h, h'⟩)
@[simp] theorem eqD_str : eqD (.str x) (.str y) = some (.bl (x == y)) := by unfold eqD; rw [if_pos (.inl rfl), eqv_str]
@[simp] theorem neD_str : neD (.str x) (.str y) = some (.bl (!(x == y))) := by unfold neD; rw [if_pos (.inl rfl), eqv_str]
@[simp] theorem neD_ev (h : dep d ≤ 60) (h' : dep e ≤ 60) : neD d e = some (.bl (!eqv d e)) := if_pos (.inr ⟨h, h'⟩)
@[simp] theorem lenD_lst : lenD (.lst ds) = some (.int (ds.length : Nat)) := rfl
@[simp] theorem lenD_tup : lenD (.tup ds) = some (.int (ds.length : Nat)) := rfl
@[simp] theorem lenD_kl : lenD (.kl ds) = some (.int (ds.length : Nat)) := rfl
@[simp] theorem lenD_str (h : x.length ≤ sizeLine) : lenD (.str x) = some (.int (x.length : Nat)) := if_pos h
@[simp] theorem absD_int : absD (.int i) = some (.int (if i < 0 then -i else i)) := rfl
@[simp] theorem intD_int : intD (.int i) = some (.int i) := rfl
@[simp] theorem minD_int : minD (.int i) (.int j) = some (.int (if j < i then j else i)) := rfl
@[simp] theorem maxD_int : maxD (.int i) (.int j) = some (.int (if j > i then j else i)) := rfl
@[simp] theorem tupD_lst : tupD (.lst ds) = some (.tup ds) := rfl
@[simp] theorem tupD_tup : tupD (.tup ds) = some (.tup ds) := rfl
@[simp] theorem listD_lst : listD (.lst ds) = some ds := rfl
@[simp] theorem listD_tup : listD (.tup ds) = some ds := rfl
@[simp] theorem negD_int : negD (.int i) = some (.int (-i)) := rfl
@[simp] theorem bools_map {α : Type} {l : List α} {f : α → Bool} : bools (l.map fun a => D.bl (f a)) = some (l.map f) := by
  induction l with
  | nil => rfl
  | cons a l ih => rw [List.map_cons, bools, ih]; rfl
@[simp] theorem allD_map {α : Type} {l : List α} {f : α → Bool} : allD (.lst (l.map fun a => D.bl (f a))) = some (.bl (l.all f)) := by
  unfold allD; simp only [bools_map, Option.map_some]; rw [List.all_map]; rfl
@[simp] theorem anyD_map {α : Type} {l : List α} {f : α → Bool} : anyD (.lst (l.map fun a => D.bl (f a))) = some (.bl (l.any f)) := by
  unfold anyD; simp only [bools_map, Option.map_some]; rw [List.any_map]; rfl
@[simp] theorem inD_tup (h : dep d ≤ 60) (h' : depA ds ≤ 60) : inD d (.tup ds) = some (.bl (ds.any fun z => eqv z d)) := by cases d <;> (unfold inD; dsimp only; exact if_pos ⟨h, h'⟩)
@[simp] theorem inD_lst (h : dep d ≤ 60) (h' : depA ds ≤ 60) : inD d (.lst ds) = some (.bl (ds.any fun z => eqv z d)) := by cases d <;> (unfold inD; dsimp only; exact if_pos ⟨h, h'⟩)
theorem ninD_of {v : Bool} (h : inD d e = some (.bl v)) : ninD d e = some (.bl (!v)) := by unfold ninD; rw [h]
@[simp] theorem ninD_tup (h : dep d ≤ 60) (h' : depA ds ≤ 60) : ninD d (.tup ds) = some (.bl (!ds.any fun z => eqv z d)) := ninD_of (inD_tup h h')
@[simp] theorem inD_sign {c : Nat} : inD (.str ⟨#[c]⟩) (.str y) = some (.bl (decide (c ∈ y.cps.toList))) := rfl
@[simp] theorem isD_non : isD d .non = some (.bl (isNone d)) := by cases d <;> rfl
@[simp] theorem nisD_non : nisD d .non = some (.bl (!isNone d)) := by cases d <;> rfl
@[simp] theorem isD_bl {a c : Bool} : isD (.bl a) (.bl c) = some (.bl (decide (a = c))) := rfl
@[simp] theorem nisD_bl {a c : Bool} : nisD (.bl a) (.bl c) = some (.bl (!decide (a = c))) := rfl
@[simp] theorem isNone_non : isNone .non = true := rfl
@[simp] theorem isNone_bl : isNone (.bl b) = false := rfl
@[simp] theorem isNone_int : isNone (.int i) = false := rfl
@[simp] theorem isNone_str : isNone (.str x) = false := rfl
@[simp] theorem isNone_tup : isNone (.tup ds) = false := rfl
@[simp] theorem isNone_exc {c : Nat} {fs : List (Str × D)} : isNone (.exc c fs) = false := rfl
@[simp] theorem isi_non {T : String} : isiD T .non = some (.bl (isA T "NoneType")) := rfl
@[simp] theorem isi_bl {T : String} : isiD T (.bl b) = some (.bl (isA T "bool")) := rfl
@[simp] theorem isi_int {T : String} : isiD T (.int i) = some (.bl (isA T "int")) := rfl
@[simp] theorem isi_str {T : String} : isiD T (.str x) = some (.bl (isA T "str")) := rfl
@[simp] theorem isi_tup {T : String} : isiD T (.tup ds) = some (.bl (isA T "tuple")) := rfl
@[simp] theorem isi_lst {T : String} : isiD T (.lst ds) = some (.bl (isA T "list")) := rfl
@[simp] theorem isA_ev {T a : String} : isA T a = (a == T || (T == "int" && a == "bool")) := rfl
@[simp] theorem items_lst : items (.lst ds) = some ds := rfl
@[simp] theorem items_tup : items (.tup ds) = some ds := rfl
@[simp] theorem items_kl : items (.kl ds) = some ds := rfl
@[simp] theorem items_str : items (.str x) = some (x.cps.toList.map fun c => .str ⟨#[c]⟩) := rfl
/-! ### places -/
theorem at_nat {α : Type} {xs : List α} {k : Nat} : atI xs (k : Int) = xs[k]? := by
  unfold atI
  by_cases h : k < xs.length
  · have : ixN xs.length (k : Int) = some k := by unfold ixN; simp [h]
    rw [this]; rfl
  · have : ixN xs.length (k : Int) = none := by unfold ixN; simp; omega
    rw [this, List.getElem?_eq_none (by omega)]; rfl
@[simp] theorem at_cast {α : Type} {xs : List α} {k : Nat} : atI xs (k : Int) = xs[k]? := at_nat
@[simp] theorem at_zero {α : Type} {xs : List α} : atI xs 0 = xs[0]? := at_nat (k := 0)
@[simp] theorem at_one {α : Type} {xs : List α} : atI xs 1 = xs[1]? := at_nat (k := 1)
@[simp] theorem at_2 {α : Type} {xs : List α} : atI xs 2 = xs[2]? := at_nat (k := 2)
@[simp] theorem at_3 {α : Type} {xs : List α} : atI xs 3 = xs[3]? := at_nat (k := 3)
@[simp] theorem at_4 {α : Type} {xs : List α} : atI xs 4 = xs[4]? := at_nat (k := 4)
@[simp] theorem at_5 {α : Type} {xs : List α} : atI xs 5 = xs[5]? := at_nat (k := 5)
@[simp] theorem at_last {α : Type} {xs : List α} {x : α} : atI (xs ++ [x]) (-1) = some x := by
  unfold atI
  have : ixN (xs ++ [x]).length (-1) = some xs.length := by unfold ixN; simp; omega
  rw [this]; simp
@[simp] theorem ixD_tup : ixD (.tup ds) (.int i) = atI ds i := rfl
@[simp] theorem ixD_lst : ixD (.lst ds) (.int i) = atI ds i := rfl
@[simp] theorem slD_tup {lo hi : Option Int} : slD (.tup ds) lo hi = some (.tup (cutD ds lo hi)) := rfl
@[simp] theorem cut_to {k : Nat} : cutD ds none (some (k : Int)) = ds.take k := by
  unfold cutD; rw [HT.sIx_nat, HT.sIx_none, List.drop_zero, Nat.sub_zero]
  by_cases h : k ≤ ds.length
  · rw [Nat.min_eq_left h]
  · rw [Nat.min_eq_right (by omega), List.take_length, List.take_of_length_le (by omega)]
@[simp] theorem cut_from {k : Nat} : cutD ds (some (k : Int)) none = ds.drop k := by
  unfold cutD; rw [HT.sIx_nat, HT.sIx_none]
  by_cases h : k ≤ ds.length
  · rw [Nat.min_eq_left h, List.take_of_length_le (by simp)]  -- 152
  · rw [Nat.min_eq_right (by omega), List.drop_length, List.drop_of_length_le (by omega)]; simp
theorem cut_to' {i : Int} {k : Nat} (h : i = k) : cutD ds none (some i) = ds.take k := by rw [h, cut_to]
theorem cut_from' {i : Int} {k : Nat} (h : i = k) : cutD ds (some i) none = ds.drop k := by rw [h, cut_from]
@[simp] theorem cut_to3 : cutD ds none (some 3) = ds.take 3 := cut_to (k := 3)
@[simp] theorem cut_to4 : cutD ds none (some 4) = ds.take 4 := cut_to (k := 4)
@[simp] theorem cut_from1 : cutD ds (some 1) none = ds.drop 1 := cut_from (k := 1)
/-! ### names in a list -/
@[simp] theorem any_strs {xs : List Str} : ((xs.map D.str).any fun z => eqv z (.str x)) = decide (x ∈ xs) := by
  induction xs with
  | nil => simp
  | cons y xs ih =>
    rw [List.map_cons, List.any_cons, ih, eqv_str]
    by_cases h : y = x
    · subst h; simp
    · rw [beq_eq_false_iff_ne.mpr h, Bool.false_or]
      simp [Ne.symm h]
@[simp] theorem any_strs' {xs : List Str} : (xs.any ((fun z => eqv z (.str x)) ∘ D.str)) = decide (x ∈ xs) := by rw [← List.any_map]; exact any_strs
@[simp] theorem allStr_map {xs : List Str} : allStr (xs.map D.str) = some xs := by
  induction xs with
  | nil => rfl
  | cons y xs ih => rw [List.map_cons, allStr, ih]; rfl
@[simp] theorem idxD_tup {xs : List Str} : idxD (.tup (xs.map D.str)) (.str x) = (idx x xs).map fun j => .int (j : Nat) := by
  unfold idxD; simp only [allStr_map]
@[simp] theorem isE_in {cs ts : List Nat} {c : Nat} : isE cs ts c = if cs.contains c = true then some (ts.contains c) else none := rfl
end
/-! ### small sizes -/
@[simp] theorem sz_1 : (1 : Nat) ≤ sizeLine := by rw [sizeLine_eq]; decide
@[simp] theorem sz_2 : (2 : Nat) ≤ sizeLine := by rw [sizeLine_eq]; decide
@[simp] theorem sz_3 : (3 : Nat) ≤ sizeLine := by rw [sizeLine_eq]; decide
@[simp] theorem sz_4 : (4 : Nat) ≤ sizeLine := by rw [sizeLine_eq]; decide
@[simp] theorem sz_5 : (5 : Nat) ≤ sizeLine := by rw [sizeLine_eq]; decide
@[simp] theorem sz_6 : (6 : Nat) ≤ sizeLine := by rw [sizeLine_eq]; decide
@[simp] theorem sz_7 : (7 : Nat) ≤ sizeLine := by rw [sizeLine_eq]; decide
@[simp] theorem sz_8 : (8 : Nat) ≤ sizeLine := by rw [sizeLine_eq]; decide
@[simp] theorem sz_9 : (9 : Nat) ≤ sizeLine := by rw [sizeLine_eq]; decide
@[simp] theorem sz_10 : (10 : Nat) ≤ sizeLine := by rw [sizeLine_eq]; decide
@[simp] theorem sz_11 : (11 : Nat) ≤ sizeLine := by rw [sizeLine_eq]; decide
@[simp] theorem sz_12 : (12 : Nat) ≤ sizeLine := by rw [sizeLine_eq]; decide
@[simp] theorem sz_13 : (13 : Nat) ≤ sizeLine := by rw [sizeLine_eq]; decide
@[simp] theorem sz_14 : (14 : Nat) ≤ sizeLine := by rw [sizeLine_eq]; decide
@[simp] theorem sz_15 : (15 : Nat) ≤ sizeLine := by rw [sizeLine_eq]; decide
@[simp] theorem sz_16 : (16 : Nat) ≤ sizeLine := by rw [sizeLine_eq]; decide
@[simp] theorem sz_17 : (17 : Nat) ≤ sizeLine := by rw [sizeLine_eq]; decide
@[simp] theorem sz_18 : (18 : Nat) ≤ sizeLine := by rw [sizeLine_eq]; decide
@[simp] theorem sz_19 : (19 : Nat) ≤ sizeLine := by rw [sizeLine_eq]; decide
@[simp] theorem sz_20 : (20 : Nat) ≤ sizeLine := by rw [sizeLine_eq]; decide
@[simp] theorem sz_21 : (21 : Nat) ≤ sizeLine := by rw [sizeLine_eq]; decide
@[simp] theorem sz_22 : (22 : Nat) ≤ sizeLine := by rw [sizeLine_eq]; decide
@[simp] theorem sz_23 : (23 : Nat) ≤ sizeLine := by rw [sizeLine_eq]; decide
@[simp] theorem sz_24 : (24 : Nat) ≤ sizeLine := by rw [sizeLine_eq]; decide

/-! ### comprehensions -/
section
variable {vs : List Nat} {g : GD} {mt me : MX} {L : LL} {M : MM}
/-- nothing happens but that values are made -/
theorem compL_pure {α : Type} (δ : α → D) (f : α → D) (t : α → Bool) (Lx : α → LL) : ∀ (as : List α) (acc : List D),
    (∀ a ∈ as, g (δ a) L = some (Lx a) ∧ mt (Lx a) M = .ok (.bl (t a)) (Lx a) M ∧ (t a = true → me (Lx a) M = .ok (f a) (Lx a) M) ∧ unown (Lx a) vs = true ∧ wipeL (Lx a) vs = L) → acc.length + as.length ≤ sizeLine →
    compL vs g mt me (as.map δ) acc L M = .ok (acc ++ (as.filter t).map f) L M
  | [], acc, _, _ => by simp [compL]
  | a :: as, acc, h, hz => by
    obtain ⟨h1, h2, h3, h4, h5⟩ := h a (List.mem_cons_self ..)
    rw [List.length_cons] at hz
    rw [List.map_cons, compL, h1]
    dsimp only
    rw [h2]
    cases q : t a with
    | false =>
      dsimp only
      rw [if_pos h4, h5, compL_pure δ f t Lx as acc (fun b hb => h b (List.mem_cons_of_mem _ hb)) (by omega), List.filter_cons, q]
      rfl
    | true =>
      dsimp only
      rw [h3 q]
      dsimp only
      rw [if_pos ⟨by omega, h4⟩, h5, compL_pure δ f t Lx as (acc ++ [f a]) (fun b hb => h b (List.mem_cons_of_mem _ hb)) (by simp; omega), List.filter_cons, q]
      simp
/-- a comprehension as a step -/
def compK (vs : List Nat) (g : GD) (mt me : MX) (r : Ra) : Ra := match r with
  | .ok ds L1 M1 => if unown L1 vs = true then match compL vs g mt me ds [] (wipeL L1 vs) M1 with
      | .ok ys L2 M2 => .ok ys (restL L1 L2 vs) M2
      | r => .stk
    else .stk
  | .err x L1 M1 => .err x L1 M1
  | .stk => .stk
theorem compM_ev {mi : MA} : compM mi vs g mt me L M = compK vs g mt me (mi L M) := by unfold compM compK; rfl
theorem compK_of {ds ys : List D} {L2 : LL} {M2 : MM} (hu : unown L vs = true) (h : compL vs g mt me ds [] (wipeL L vs) M = .ok ys L2 M2) : compK vs g mt me (.ok ds L M) = .ok ys (restL L L2 vs) M2 := by
  unfold compK; simp only [if_pos hu, h]
end
theorem wipe_rest {L : LL} {vs : List Nat} (hu : unown L vs = true) : restL L (wipeL L vs) vs = L := by
  apply List.ext_getElem?
  intro j
  rw [restL_get, wipeL_get]
  cases e : L[j]? with
  | none => rfl
  | some s =>
    by_cases h : vs.contains j = true
    · rw [Option.map_some, Option.map_some, if_pos h]; rfl
    · rw [Option.map_some, Option.map_some, if_neg h, if_neg h]
/-- the usual case: items by one name, a test, a value; all told of the items -/
theorem comp_pure {α : Type} {mi : MA} {vs : List Nat} {g : GD} {mt me : MX} {L L1 : LL} {M : MM} (as : List α) (δ : α → D) (f : α → D) (t : α → Bool) (Lx : α → LL) (hi : mi L M = .ok (as.map δ) L1 M) (hu : unown L1 vs = true) (hz : as.length ≤ sizeLine)
    (h : ∀ a ∈ as, g (δ a) (wipeL L1 vs) = some (Lx a) ∧ mt (Lx a) M = .ok (.bl (t a)) (Lx a) M ∧ (t a = true → me (Lx a) M = .ok (f a) (Lx a) M) ∧ unown (Lx a) vs = true ∧ wipeL (Lx a) vs = wipeL L1 vs) :
    compM mi vs g mt me L M = .ok ((as.filter t).map f) L1 M := by
  rw [compM_ev, hi, compK_of hu (compL_pure δ f t Lx as [] h (by simpa using hz)), wipe_rest hu]
  simp
/-- .. without a test -/
theorem comp_all {α : Type} {mi : MA} {vs : List Nat} {g : GD} {me : MX} {L L1 : LL} {M : MM} (as : List α) (δ : α → D) (f : α → D) (Lx : α → LL) (hi : mi L M = .ok (as.map δ) L1 M) (hu : unown L1 vs = true) (hz : as.length ≤ sizeLine)
    (h : ∀ a ∈ as, g (δ a) (wipeL L1 vs) = some (Lx a) ∧ me (Lx a) M = .ok (f a) (Lx a) M ∧ unown (Lx a) vs = true ∧ wipeL (Lx a) vs = wipeL L1 vs) :
    compM mi vs g yesM me L M = .ok (as.map f) L1 M := by
  have := comp_pure as δ f (fun _ => true) Lx hi hu hz (mt := yesM) (me := me) (g := g) fun a ha => by
    obtain ⟨h1, h2, h3, h4⟩ := h a ha
    exact ⟨h1, rfl, fun _ => h2, h3, h4⟩
  rw [this, List.filter_eq_self.mpr fun _ _ => rfl]
/-! ### fields, objects -/
section
variable {f g : Str} {d z : D} {fs : List (Str × D)} {M : MM} {i j c : Nat} {ds : List D} {o : MO}
@[simp] theorem putD_nil : putD f d [] = [(f, d)] := rfl
@[simp] theorem putD_cons : putD f d ((g, z) :: fs) = if g = f then (g, d) :: fs else (g, z) :: putD f d fs := by rw [putD]
@[simp] theorem lookD_nil : lookD f [] = none := rfl
@[simp] theorem lookD_cons : lookD f ((g, z) :: fs) = if f = g then some z else lookD f fs := by rw [lookD]
theorem instOf_of (h : M[i]? = some (.inst c fs)) : instOf M c (.obj i) = some (i, fs) := by unfold instOf; simp only [h, if_pos]
theorem lstAt_of (h : M[i]? = some (.list ds)) : lstAt M (.obj i) = some (i, ds) := by unfold lstAt; simp only [h]
theorem dicAt_of (h : M[i]? = some (.dict fs)) : dicAt M (.obj i) = some (i, fs) := by unfold dicAt; simp only [h]
theorem vw_of (h : M[i]? = some (.list ds)) : vw M (.obj i) = .lst ds := by unfold vw; simp only [h]
theorem lt_of_some {α : Type} {l : List α} {i : Nat} {x : α} (h : l[i]? = some x) : i < l.length := (List.getElem?_eq_some_iff.mp h).1
theorem set_ne {α : Type} {l : List α} {i j : Nat} {x : α} {y : Option α} (h : l[i]? = y) (ne : j ≠ i) : (l.set j x)[i]? = y := by rw [List.getElem?_set_ne ne, h]
theorem set_eq {α : Type} {l : List α} {i : Nat} {x y : α} (h : l[i]? = some y) : (l.set i x)[i]? = some x := List.getElem?_set_self (lt_of_some h)
theorem app_lt {α : Type} {l r : List α} {i : Nat} {x : α} (h : l[i]? = some x) : (l ++ r)[i]? = some x := by rw [List.getElem?_append_left (lt_of_some h), h]
end
/-- nothing but what is at S may have changed -/
structure Fm (S : List Nat) (M M' : MM) : Prop where
  len : M.length ≤ M'.length
  at_ : ∀ j, j < M.length → j ∉ S → M'[j]? = M[j]?
section
variable {S S' : List Nat} {M M1 M2 : MM} {j : Nat} {o x : MO}
theorem Fm.refl : Fm S M M := ⟨Nat.le_refl _, fun _ _ _ => rfl⟩
theorem Fm.trans (a : Fm S M M1) (b : Fm S M1 M2) : Fm S M M2 := ⟨Nat.le_trans a.len b.len, fun j h n => (b.at_ j (Nat.lt_of_lt_of_le h a.len) n).trans (a.at_ j h n)⟩
theorem Fm.sub (a : Fm S M M1) (h : ∀ j ∈ S, j ∈ S') : Fm S' M M1 := ⟨a.len, fun j l n => a.at_ j l fun z => n (h j z)⟩
/-- what is new may change -/
theorem Fm.trans' {S2 : List Nat} (a : Fm S M M1) (b : Fm S2 M1 M2) (h : ∀ j ∈ S2, j ∈ S ∨ M.length ≤ j) : Fm S M M2 := ⟨Nat.le_trans a.len b.len, fun j l n => (b.at_ j (Nat.lt_of_lt_of_le l a.len) fun z => (h j z).elim n fun w => by omega).trans (a.at_ j l n)⟩
theorem Fm.get (a : Fm S M M1) (h : M[j]? = some o) (n : j ∉ S) : M1[j]? = some o := by rw [a.at_ j (lt_of_some h) n, h]
theorem Fm.set : Fm [j] M (M.set j x) := ⟨by simp, fun i _ n => List.getElem?_set_ne (fun e => n (by simp [e]))⟩
theorem Fm.push {l : List MO} : Fm S M (M ++ l) := ⟨by simp, fun i h _ => List.getElem?_append_left h⟩
end
/-! ### dicts, loops -/
def dpK3 (y : Str) (d : D) (p : Option (Nat × List (Str × D))) : MS := fun L M => match p with
  | some q => if lookD y q.2 ≠ none ∧ q.2.length < 1000 ∧ (q.2.map (·.1)).Nodup then .nx L (M.set q.1 (.dict (putD y d q.2))) else .stk
  | none => .stk
theorem dpK3_ev {y : Str} {d : D} {L : LL} {M : MM} {p : Nat × List (Str × D)} (h : lookD y p.2 ≠ none ∧ p.2.length < 1000 ∧ (p.2.map (·.1)).Nodup) : dpK3 y d (some p) L M = .nx L (M.set p.1 (.dict (putD y d p.2))) := if_pos h
def dpK2 (y : Str) (d : D) (r : Rx) : Ou := match r with
  | .ok o L1 M1 => dpK3 y d (dicAt M1 o) L1 M1
  | .err x L1 M1 => .err x L1 M1
  | .stk => .stk
@[simp] theorem dpK2_ok {y : Str} {d o : D} {L : LL} {M : MM} : dpK2 y d (.ok o L M) = dpK3 y d (dicAt M o) L M := rfl
def dpK1 (y : Str) (mo : MX) (r : Rx) : Ou := match r with
  | .ok d L1 M1 => dpK2 y d (mo L1 M1)
  | .err x L1 M1 => .err x L1 M1
  | .stk => .stk
@[simp] theorem dpK1_ok {y : Str} {mo : MX} {d : D} {L : LL} {M : MM} : dpK1 y mo (.ok d L M) = dpK2 y d (mo L M) := rfl
@[simp] theorem dpM_ev {y : Str} {mo m : MX} {L : LL} {M : MM} : dpM y mo m L M = dpK1 y mo (m L M) := by
  unfold dpM dpK1 dpK2 dpK3
  cases m L M with
  | ok d L1 M1 =>
    dsimp only
    cases mo L1 M1 with
    | ok o L2 M2 => dsimp only; split <;> simp_all
    | _ => rfl
  | _ => rfl
theorem popAO_first {mo m : MX} {L L1 L2 : LL} {M M1 M2 : MM} {j : Nat} {d : D} {ds es : List D} (h1 : mo L M = .ok (.obj j) L1 M1) (h2 : M1[j]? = some (.list es)) (h3 : m L1 M1 = .ok (.int 0) L2 M2) (h4 : M2[j]? = some (.list (d :: ds))) : popAO mo m L M = .ok d L2 (M2.set j (.list ds)) := by
  unfold popAO
  rw [h1, bind_ok]
  simp only [lstAt_of h2, h3, bind_ok, lstAt_of h4]
  have : popAt (d :: ds) 0 = some (d, ds) := by
    unfold popAt ixOk seqIndex?
    simp
  rw [this]
/-- a loop that goes through -/
theorem forL_ex {P : LL → MM → Prop} {g : GD} {b : MS} : ∀ (ds : List D) (L : LL) (M : MM), P L M → (∀ d ∈ ds, ∀ L M, P L M → ∃ L1 L2 M2, g d L = some L1 ∧ b L1 M = .nx L2 M2 ∧ P L2 M2) → ∃ L' M', forL g b ds L M = .nx L' M' ∧ P L' M'
  | [], L, M, h, _ => ⟨L, M, rfl, h⟩
  | d :: ds, L, M, h, k => by
    obtain ⟨L1, L2, M2, h1, h2, h3⟩ := k d (List.mem_cons_self ..) L M h
    obtain ⟨L', M', e, p⟩ := forL_ex ds L2 M2 h3 fun d hd => k d (List.mem_cons_of_mem _ hd)
    exact ⟨L', M', by rw [forL_cons, h1, forK1_ev, h2, forK2_nx, e], p⟩
/-- a comprehension whose turns are told one by one -/
theorem compL_ex {P : MM → Prop} {Qv : D → Prop} {vs : List Nat} {g : GD} {me : MX} {L : LL} : ∀ (ds acc : List D) (M : MM), P M → (∀ d ∈ ds, ∀ M, P M → ∃ L1 L2 M2 y, g d L = some L1 ∧ me L1 M = .ok y L2 M2 ∧ P M2 ∧ Qv y ∧ unown L2 vs = true ∧ wipeL L2 vs = L) → acc.length + ds.length ≤ sizeLine →
    ∃ ys M', compL vs g yesM me ds acc L M = .ok (acc ++ ys) L M' ∧ P M' ∧ ys.length = ds.length ∧ ∀ y ∈ ys, Qv y
  | [], acc, M, h, _, _ => ⟨[], M, by simp [compL], h, rfl, by simp⟩
  | d :: ds, acc, M, h, k, hz => by
    obtain ⟨L1, L2, M2, y, h1, h2, h3, h4, h5, h6⟩ := k d (List.mem_cons_self ..) M h
    rw [List.length_cons] at hz
    obtain ⟨ys, M', e, p, l, q⟩ := compL_ex (P := P) (Qv := Qv) (vs := vs) (g := g) (me := me) (L := L) ds (acc ++ [y]) M2 h3 (fun d hd => k d (List.mem_cons_of_mem _ hd)) (by simp; omega)
    refine ⟨y :: ys, M', ?_, p, by simp [l], fun z hz => ?_⟩
    · rw [compL, h1]
      have e2 : yesM L1 M = .ok (.bl true) L1 M := rfl
      simp only [e2, h2]
      rw [if_pos ⟨by omega, h5⟩, h6, e]
      simp
    · rcases List.mem_cons.mp hz with w | w
      · rw [w]; exact h4
      · exact q z w
theorem comp_ex {P : MM → Prop} {Qv : D → Prop} {mi : MA} {vs : List Nat} {g : GD} {me : MX} {L L1 : LL} {M M1 : MM} {ds : List D} (hi : mi L M = .ok ds L1 M1) (hu : unown L1 vs = true) (hz : ds.length ≤ sizeLine) (hP : P M1)
    (h : ∀ d ∈ ds, ∀ M, P M → ∃ La Lb M2 y, g d (wipeL L1 vs) = some La ∧ me La M = .ok y Lb M2 ∧ P M2 ∧ Qv y ∧ unown Lb vs = true ∧ wipeL Lb vs = wipeL L1 vs) :
    ∃ ys M', compM mi vs g yesM me L M = .ok ys L1 M' ∧ P M' ∧ ys.length = ds.length ∧ ∀ y ∈ ys, Qv y := by
  obtain ⟨ys, M', e, p, l, q⟩ := compL_ex (P := P) (Qv := Qv) ds [] M1 hP h (by simpa using hz)
  refine ⟨ys, M', ?_, p, l, q⟩
  rw [compM_ev, hi, compK_of hu e, wipe_rest hu]
  simp
end KK

/-! ## the head: facts of the written part, looked at by one Hook -/
namespace KK
open PySem PySem.Spec PyProof.Rows L2

/-! ### the Hook -/
/-- what is written of a def, for one with a closure -/
abbrev SupW : Type := Option (Arguments × FuncBody × Scope)
def supW (K : PySem.W.Frag) (f : Addr) : SupW := match K.lookup f with
  | some ⟨_, _, .func fd, _⟩ => some (fd.params, fd.body, fd.scope)
  | _ => none
structure Sup where
  at_ : Str × Option Str
  st : Stmt
abbrev AlK : Type := Bool × List He.FnW × List SupW
def allB (cs : List (PySem.W.Frag → Bool)) (K : PySem.W.Frag) : Bool := cs.all fun c => c K
def obsK (fn : List He.DefD) (sf : List Sup) (tf : List He.Defn) (cs : List (PySem.W.Frag → Bool)) (g : Addr → Option Obj) (K : PySem.W.Frag) : AlK :=
  ((fn.all fun d => d.ok K) && (He.tabsB g tf K && allB cs K), fn.map fun d => He.fnW K d.at_, sf.map fun p => supW K (He.fAd K p.at_))
def vlK (fn : List He.DefD) (sf : List Sup) : AlK := (true, fn.map He.DefD.val, sf.map fun p => some (defArgs p.st, .stmts (defBody p.st), defScope p.st))
def frK (n : Nat) (g : Addr → Option Obj) : PySem.W.Frag := He.frT g (He.asD g n ++ [cStatics])
structure SaysK (fn : List He.DefD) (sf : List Sup) (tf : List He.Defn) (cs : List (PySem.W.Frag → Bool)) (h : Heap) (K : PySem.W.Frag) : Prop where
  ok : ∀ d ∈ fn, d.ok K = true
  fnw : fn.map (fun d => He.fnW K d.at_) = fn.map He.DefD.val
  sup : (sf.map fun p => supW K (He.fAd K p.at_)) = sf.map fun p => some (defArgs p.st, .stmts (defBody p.st), defScope p.st)
  ex : ∀ c ∈ cs, c K = true
  hd : ∀ p ∈ tf, PySem.W.codeHdIn K (He.cT K p).1 (He.cT K p).2 = true
  out : ∀ p ∈ tf, K.lookup (He.cT K p).2 = none
  emp : ∀ p ∈ tf, h.get? (He.cT K p).2 = some { cls := .none, data := .fields #[] }
theorem saysK_of {n : Nat} {fn : List He.DefD} {sf : List Sup} {tf : List He.Defn} {cs : List (PySem.W.Frag → Bool)} {h : Heap} (e : obsK fn sf tf cs h.get? (frK n h.get?) = vlK fn sf) : SaysK fn sf tf cs h (frK n h.get?) := by
  have e1 : ((fn.all fun d => d.ok (frK n h.get?)) && (He.tabsB h.get? tf (frK n h.get?) && allB cs (frK n h.get?))) = true := congrArg (fun z : AlK => z.1) e
  obtain ⟨h1, h2⟩ := He.ba e1
  obtain ⟨h3, h4⟩ := He.ba h2
  have look : ∀ p ∈ tf, ∃ o, h.get? (He.cT (frK n h.get?) p).2 = some o ∧ He.emptyTab o = true := fun p hp => by
    have z := (He.ba (List.all_eq_true.mp h3 p hp)).2
    split at z
    · exact ⟨_, by assumption, z⟩
    · cases z
  refine ⟨fun d hd => List.all_eq_true.mp h1 d hd, congrArg (fun z : AlK => z.2.1) e, congrArg (fun z : AlK => z.2.2) e, fun c hc => List.all_eq_true.mp h4 c hc, fun p hp => (He.ba (List.all_eq_true.mp h3 p hp)).1, fun p hp => ?_, fun p hp => ?_⟩
  · obtain ⟨o, q, z⟩ := look p hp
    exact He.frT_none q z
  · obtain ⟨o, q, z⟩ := look p hp
    rw [q, He.emptyTab_eq z]
def hookK (n : Nat) (fn : List He.DefD) (sf : List Sup) (tf : List He.Defn) (cs : List (PySem.W.Frag → Bool)) : PySem.W.Hook where
  α := AlK
  obs := fun s => obsK fn sf tf cs s.heap.get? (frK n s.heap.get?)
  val := fun _ => vlK fn sf
  says := fun _ h => ∃ K : PySem.W.Frag, K.In h ∧ SaysK fn sf tf cs h K
  of := fun _ _ e => ⟨_, He.frT_in, saysK_of e⟩
  keeps := fun _ _ _ ⟨K, hK, c⟩ k => ⟨K, PySem.W.Frag.In.keeps hK k, ⟨c.ok, c.fnw, c.sup, c.ex, c.hd, c.out, fun p hp => k _ _ (c.emp p hp)⟩⟩
theorem obsK_eq {n : Nat} {fn : List He.DefD} {sf : List Sup} {tf : List He.Defn} {cs : List (PySem.W.Frag → Bool)} {g : Addr → Option Obj} {s : Shared} (h : ∀ a, g a = s.heap.get? a) : obsK fn sf tf cs g (frK n g) = (hookK n fn sf tf cs).obs s := by
  have e : g = s.heap.get? := funext h  -- 153
  rw [e] <;> rfl
section
variable {fn : List He.DefD} {sf : List Sup} {tf : List He.Defn} {cs : List (PySem.W.Frag → Bool)} {h : Heap} {K : PySem.W.Frag}
theorem SaysK.get (c : SaysK fn sf tf cs h K) (i : Nat) {f : PySem.W.Frag → Bool} (e : cs[i]? = some f := by rfl) : f K = true := c.ex f (List.mem_of_getElem? e)
theorem SaysK.def_ (c : SaysK fn sf tf cs h K) (i : Nat) {d : He.DefD} (e : fn[i]? = some d := by rfl) : ∃ fd, FunD K d.name d.qual d.params d.body d.scope (d.dvs K) (d.kws K) (He.fAd K d.at_) fd := by
  have e2 : (fn.map fun d => He.fnW K d.at_)[i]? = (fn.map He.DefD.val)[i]? := by rw [c.fnw]
  rw [List.getElem?_map, List.getElem?_map, e] at e2
  exact He.DefD.funD (Option.some.inj e2) (c.ok d (List.mem_of_getElem? e))
theorem SaysK.supAt (c : SaysK fn sf tf cs h K) (i : Nat) {p : Sup} (e : sf[i]? = some p := by rfl) : supW K (He.fAd K p.at_) = some (defArgs p.st, .stmts (defBody p.st), defScope p.st) := by
  have e2 : (sf.map fun p => supW K (He.fAd K p.at_))[i]? = (sf.map fun p => some (defArgs p.st, FuncBody.stmts (defBody p.st), defScope p.st))[i]? := by rw [c.sup]
  rw [List.getElem?_map, List.getElem?_map, e] at e2
  exact Option.some.inj e2
end
/-- a def as the layer takes it -/
def dD (a : Str × Option Str) (x q : Str) (st : Stmt) : He.DefD := ⟨a, x, q, defArgs st, defBody st, defScope st, [], []⟩
theorem fun_of {K : PySem.W.Frag} {x q : Str} {st : Stmt} {f : Addr} {fd : FuncData} (F : FunD K x q (defArgs st) (defBody st) (defScope st) [] [] f fd) : Fun K x q st f fd := by
  obtain ⟨oc, od, dV, kV, doc, pm, an, cdv, ct, osl, e, lk, hcd, hD, hK⟩ := F.ex
  rcases hD with ⟨_, rfl⟩ | ⟨z, _⟩
  · exact ⟨⟨oc, od, kV, doc, pm, an, cdv, ct, osl, e, lk, hcd⟩, F.kp⟩
  · exact absurd rfl z

/-! ### checks and what they give -/
section
variable {P : Program} {w : World} {K : PySem.W.Frag} {mg : Str → Option Value} {base : Heap} {fa ca : Nat → Addr} {T : List (Addr × Str)} {xn : Nat → Option Str}
/-- the module's name x is a tuple of these texts -/
def tupX (x : Str) (vs : List Str) (K : PySem.W.Frag) : Bool := match K.lookup (He.ga K x) with
  | some ⟨.type c, none, .seq its _, _⟩ => decide (c = "tuple") && (decide (its.size ≤ sizeLine) && He.relAll (vs.map V.str) its.toList)
  | _ => false
theorem rs_texts {G : Gb} {ρ : List Addr} {H : Hp} : ∀ vs : List Str, Rs G ρ H (vs.map D.str) (vs.map V.str)
  | [] => .nil
  | x :: vs => .cons (.str x) (rs_texts vs)
theorem tupX_ok {x : Str} {vs : List Str} (h : tupX x vs K = true) (ρ : List Addr) (H : Hp) : R ⟨K, fa, ca, T⟩ ρ H (.tup (vs.map D.str)) (.ref (He.ga K x)) := by
  unfold tupX at h
  split at h
  · rename_i c its n sl q
    obtain ⟨h1, h2⟩ := He.ba h
    obtain ⟨h3, h4⟩ := He.ba h2
    exact .tup (.inr ⟨_, its, n, q, ⟨congrArg Value.type (of_decide_eq_true h1), rfl⟩, rfl, of_decide_eq_true h3, He.relAll_ok h4⟩) (rs_texts vs)
  · cases h
theorem excF_ok {x : Str} {c : Nat} (X : ∃ h : Heap, K.In h ∧ h.Ns mainGlobals mg) (hc : ca c = He.ga K x) (hg : (He.Fa.glo x).ok K = true) (h : (He.Fa.exc x).ok K = true) (hn : xn c = none) : ExcF ⟨P, w, mg, base, ⟨K, fa, ca, T⟩, xn⟩ c x := by
  obtain ⟨hh, X, G⟩ := X
  obtain ⟨h1, h2, h3, h4⟩ := He.exc_ok h
  refine ⟨?_, ?_, ?_, ?_, ?_, hn⟩ <;> (show _) <;> rw [show (⟨K, fa, ca, T⟩ : Gb).ca c = He.ga K x from hc]
  · exact He.glo_ok X G hg
  · exact h2
  · exact h1
  · exact h3
  · exact h4
/-- a class of exceptions, asked by isinstance -/
def excB (D : Addr) (K : PySem.W.Frag) : Bool := decide (PySem.W.findIn K (.ref D) "__getattribute__" = some (some (.builtin "BaseException.__getattribute__"))) && (decide (PySem.W.findIn K (.ref D) "__getattr__" = some none) && (decide (PySem.W.subIn K (.ref D) (.type "BaseException") = some true) &&
  (PySem.W.hasDictIn K D && (decide (PySem.W.findIn K (.ref D) "__class__" = some (some (.builtin "object.__class__"))) && (decide (PySem.W.specialIn K (.builtin "object.__class__") "__get__" = some (some (.builtin "getset_descriptor.__get__"))) &&
  (decide (PySem.W.takesIn K (.builtin "object.__class__") = some true) && decide (PySem.W.mroIn K D (.type "object") = some true)))))))
theorem excB_ok {D : Addr} (h : excB D K = true) : ExcC K D := by
  obtain ⟨h1, h⟩ := He.ba h
  obtain ⟨h2, h⟩ := He.ba h
  obtain ⟨h3, h⟩ := He.ba h
  obtain ⟨h4, h⟩ := He.ba h
  obtain ⟨h5, h⟩ := He.ba h
  obtain ⟨h6, h⟩ := He.ba h
  obtain ⟨h7, h8⟩ := He.ba h
  exact ⟨of_decide_eq_true h1, of_decide_eq_true h2, of_decide_eq_true h3, h4, of_decide_eq_true h5, of_decide_eq_true h6, of_decide_eq_true h7, of_decide_eq_true h8⟩
def insB (x : Str) (K : PySem.W.Frag) : Bool := (He.Fa.cls x).ok K && (decide (PySem.W.findIn K (.ref (He.ga K x)) "__class__" = some (some (.builtin "object.__class__"))) && (decide (PySem.W.specialIn K (.builtin "object.__class__") "__get__" = some (some (.builtin "getset_descriptor.__get__"))) &&
  (decide (PySem.W.takesIn K (.builtin "object.__class__") = some true) && decide (PySem.W.mroIn K (He.ga K x) (.type "object") = some true))))
theorem insB_ok {x : Str} (h : insB x K = true) : InsC K (He.ga K x) := by
  obtain ⟨h1, h⟩ := He.ba h
  obtain ⟨h2, h⟩ := He.ba h
  obtain ⟨h3, h⟩ := He.ba h
  obtain ⟨h4, h5⟩ := He.ba h
  exact ⟨He.cls_ok h1, of_decide_eq_true h2, of_decide_eq_true h3, of_decide_eq_true h4, of_decide_eq_true h5⟩
/-- the answers of isinstance: cN the classes' names by their numbers -/
def isB (cN : Nat → Str) (x : Str) (nb : Option Bool) (cs ts is ir : List Nat) (K : PySem.W.Frag) : Bool :=
  (match nb with | none => true | some b => decide (PySem.W.kitOne K (.type "NoneType") (.ref (He.ga K x)) = some b)) &&
  ((cs.all fun i => excB (He.ga K (cN i)) K && decide (PySem.W.kitOne K (.ref (He.ga K (cN i))) (.ref (He.ga K x)) = some (ts.contains i))) &&
  (is.all fun i => insB (cN i) K && decide (PySem.W.kitOne K (.ref (He.ga K (cN i))) (.ref (He.ga K x)) = some (ir.contains i))))
theorem isB_ok {cN : Nat → Str} {x : Str} {nb : Option Bool} {cs ts is ir : List Nat} (hca : ∀ i, ca i = He.ga K (cN i)) {C : Addr} (hC : C = He.ga K x) (h : isB cN x nb cs ts is ir K = true) : IsC ⟨P, w, mg, base, ⟨K, fa, ca, T⟩, xn⟩ C nb (isE cs ts) (isE is ir) := by
  subst hC
  obtain ⟨h1, h⟩ := He.ba h
  obtain ⟨h2, h3⟩ := He.ba h
  have one : ∀ {ds us : List Nat} {i : Nat} {b : Bool}, isE ds us i = some b → i ∈ ds ∧ b = us.contains i := fun {ds us i b} e => by
    unfold isE at e
    split at e
    · rename_i q
      exact ⟨by simpa using q, (Option.some.inj e).symm⟩
    · cases e
  refine ⟨fun b e => ?_, fun i b e => ?_, fun i b e => ?_⟩
  · subst e
    exact of_decide_eq_true h1
  · obtain ⟨hi, rfl⟩ := one e
    obtain ⟨q1, q2⟩ := He.ba (List.all_eq_true.mp h2 i hi)
    show ExcC K (ca i) ∧ PySem.W.kitOne K (.ref (ca i)) _ = _
    rw [hca]
    exact ⟨excB_ok q1, of_decide_eq_true q2⟩
  · obtain ⟨hi, rfl⟩ := one e
    obtain ⟨q1, q2⟩ := He.ba (List.all_eq_true.mp h3 i hi)
    show InsC K (ca i) ∧ PySem.W.kitOne K (.ref (ca i)) _ = _
    rw [hca]
    exact ⟨insB_ok q1, of_decide_eq_true q2⟩
/-- the answers of except -/
def exB (cN : Nat → Str) (x : Str) (cs ts : List Nat) (K : PySem.W.Frag) : Bool := cs.all fun i => decide (PySem.W.exmOne K (.ref (He.ga K (cN i))) (.ref (He.ga K x)) = some (ts.contains i))
theorem exB_ok {cN : Nat → Str} {x : Str} {cs ts : List Nat} (hca : ∀ i, ca i = He.ga K (cN i)) {C : Addr} (hC : C = He.ga K x) (h : exB cN x cs ts K = true) : ∀ i b, isE cs ts i = some b → PySem.W.exmOne K (.ref (ca i)) (.ref C) = some b := fun i b e => by
  subst hC
  unfold isE at e
  split at e
  · rename_i q
    cases e
    rw [hca]
    exact of_decide_eq_true (List.all_eq_true.mp h i (by simpa using q))
  · cases e
/-- the own == -/
def eqB (x : Str) (K : PySem.W.Frag) : Bool := decide (PySem.W.findIn K (.ref (He.ga K x)) "__eq__" = some (some (.ref (He.ma K (He.ga K x) "__eq__")))) && (PySem.W.isFn K (.ref (He.ma K (He.ga K x) "__eq__")) && (decide (PySem.W.findIn K (.ref (He.ga K x)) "__ne__" = some (some (.builtin "object.__ne__"))) && decide (PySem.W.subIn K (.ref (He.ga K x)) (.type "object") = some true)))
theorem eqB_ok {x : Str} {c i k : Nat} {ps : List Str} {F : MF} (h : eqB x K = true) (hc : ca c = He.ga K x) (hi : fa i = He.ma K (He.ga K x) "__eq__") (hp : ps.length = 2) (b : FnB ⟨P, w, mg, base, ⟨K, fa, ca, T⟩, xn⟩ i ps k F) : EqO ⟨P, w, mg, base, ⟨K, fa, ca, T⟩, xn⟩ c i ps k F := by
  obtain ⟨h1, h⟩ := He.ba h
  obtain ⟨h2, h⟩ := He.ba h
  obtain ⟨h3, h4⟩ := He.ba h
  refine ⟨hp, b, ?_, ?_, ?_, ?_⟩
  · show PySem.W.findIn K (.ref (ca c)) "__eq__" = some (some (.ref (fa i))); rw [hc, hi]; exact of_decide_eq_true h1
  · show PySem.W.isFn K (.ref (fa i)) = true; rw [hi]; exact h2
  · show PySem.W.findIn K (.ref (ca c)) "__ne__" = _; rw [hc]; exact of_decide_eq_true h3
  · show PySem.W.subIn K (.ref (ca c)) (.type "object") = _; rw [hc]; exact of_decide_eq_true h4
def xfnB (x f : Str) (K : PySem.W.Frag) : Bool := xfB K (He.ga K x) && decide (PySem.W.findIn K (.ref (He.ga K x)) f = some none)
/-! ### an own exception whose __init__ says super().__init__(y); self.f = y -/
def oexB (C : Addr) (K : PySem.W.Frag) : Bool := match K.lookup C with
  | some ⟨.type t, _, .cls cd, sl⟩ => decide (t = "type") && ((match cd.mro with
    | .ref c :: bm => decide (c = C) && PySem.HandSPX.refsVE bm
    | _ => false) && (cd.hasDict && (!cd.hasDel && (match sl.toList with
    | [_, _, _, _, some (.builtin s), _] => decide (s = "ValueError.__new__")
    | _ => false))))
  | _ => false
theorem oexB_ok {C : Addr} (h : oexB C K = true) : ∃ nm q N bs bm sn sub ab col dd k0 k1 k2 k3 k5, K.lookup C = some (excClassObj nm q C N bs bm true sn sub ab col dd k0 k1 k2 k3 k5 "ValueError.__new__") ∧ PySem.HandSPX.refsVE bm = true := by
  unfold oexB at h
  split at h
  · rename_i t dd cd sl q
    obtain ⟨h1, h⟩ := He.ba h
    obtain ⟨h2, h⟩ := He.ba h
    obtain ⟨h3, h⟩ := He.ba h
    obtain ⟨h4, h5⟩ := He.ba h
    obtain ⟨n1, n2, n3, n4, n5, n6, n7, n8, n9, n10, n11⟩ := cd
    split at h2
    · rename_i c bm e
      obtain ⟨h6, h7⟩ := He.ba h2
      split at h5
      · rename_i k0 k1 k2 k3 s k5 e2
        have es : sl = #[k0, k1, k2, k3, some (.builtin s), k5] := by
          apply Array.ext'
          rw [e2]
        have e' : n3 = Value.ref c :: bm := e
        have h3' : n6 = true := h3
        have h4' : n11 = false := by simpa using h4
        rw [of_decide_eq_true h1, es, of_decide_eq_true h5] at q
        subst e' h3' h4'
        rw [of_decide_eq_true h6] at q
        exact ⟨_, _, _, _, _, _, _, _, _, _, _, _, _, _, _, q, h7⟩
      · cases h5
    · cases h2
  · cases h
/-- the function of such an __init__ -/
def supF (main : Str) (C f : Addr) (K : PySem.W.Frag) : Bool := match K.lookup f with
  | some ⟨_, _, .func fd, _⟩ => (match fd.defaults with | .none => true | _ => false) && (decide (fd.globals = mainGlobals) && (decide (fd.builtins = builtinsNs) && (PySem.W.codeIn K fd.code fd.qualname && ((match fd.closure with
    | [(x, cc)] => decide (x = "__class__") && (match K.lookup cc with
      | some ⟨_, _, .cell (some (.ref c)), _⟩ => decide (c = C)
      | _ => false)
    | _ => false) && (match fd.code with  -- 154
    | .ref cda => (match K.lookup cda with
      | some ⟨_, _, .fields vs, _⟩ => (match (vs[2]? : Option Value) with
        | some (.str file _) => main == file
        | _ => false)
      | _ => false)
    | _ => false)))))
  | _ => false
theorem supF_ok {main : Str} {C f : Addr} {a : Arguments} {b : List Stmt} {s : Scope} (h : supF main C f K = true) (e : supW K f = some (a, .stmts b, s)) :
    ∃ name qual kV doc pm an ct oc od osl cc cda ccl cdd vs ccs file tf cl cld csl, K.lookup f = some (⟨oc, od, .func (PySem.W.ksFn name qual a b s .none kV doc pm an (.ref cda) ct cc), osl⟩ : Obj) ∧ PySem.W.codeIn K (.ref cda) qual = true ∧
      K.lookup cda = some (⟨ccl, cdd, .fields vs, ccs⟩ : Obj) ∧ vs[2]? = some (.str file tf) ∧ (main == file) = true ∧ K.lookup cc = some (⟨cl, cld, .cell (some (.ref C)), csl⟩ : Obj) := by
  unfold supF at h
  unfold supW at e
  split at h
  · rename_i oc od fd osl q
    rw [q] at e
    obtain ⟨n1, n2, n3, n4, n5, n6, n7, n8, n9, n10, n11, n12, n13, n14, n15⟩ := fd  -- 155
    have e2 : (some (n3, n4, n5) : SupW) = some (a, .stmts b, s) := e
    simp only [Option.some.injEq, Prod.mk.injEq] at e2  -- 156
    obtain ⟨e3, e4, e5⟩ := e2
    subst e3 e4 e5
    dsimp only at h
    simp only [Bool.and_eq_true] at h  -- 157
    obtain ⟨h1, h2, h3, h4, h5, h6⟩ := h
    split at h1
    · split at h5
      · rename_i x cc
        simp only [Bool.and_eq_true] at h5
        obtain ⟨h7, h8⟩ := h5
        split at h8
        · rename_i cl cld c csl qc
          split at h6
          · rename_i cda
            split at h6
            · rename_i ccl cdd vs ccs qd
              split at h6
              · rename_i file tf qv
                have g2 := of_decide_eq_true h2
                have g3 := of_decide_eq_true h3
                have g7 := of_decide_eq_true h7
                have g8 := of_decide_eq_true h8
                subst g2 g3 g7 g8
                exact ⟨n1, n2, n9, n10, n11, n12, n14, oc, od, osl, cc, cda, ccl, cdd, vs, ccs, file, tf, cl, cld, csl, q, h4, qd, qv, h6, qc⟩
              · cases h6
            · cases h6
          · cases h6
        · cases h8
      · cases h5
    · cases h1
  · cases h
def supB (main x fn : Str) (K : PySem.W.Frag) : Bool := oexB (He.ga K x) K && (decide (PySem.W.findIn K (.ref (He.ga K x)) "__setattr__" = some (some (.builtin "object.__setattr__"))) && (decide (PySem.W.subIn K (.ref (He.ga K x)) (.type "BaseException") = some true) && (decide (PySem.W.typeIn K (.ref (He.ga K x)) = some (.type "type")) &&
  (PySem.W.keepIn K (.ref (He.ga K x)) && (decide (PySem.W.findIn K (.ref (He.ga K x)) fn = some none) && (decide (PySem.W.findIn K (.ref (He.ga K x)) "__init__" = some (some (.ref (He.ma K (He.ga K x) "__init__")))) && (decide (PySem.W.typeIn K (.ref (He.ma K (He.ga K x) "__init__")) = some (.type "function")) &&
  (decide (PySem.W.nsIn K cStatics "thirdparty.any" = some none) && (decide (PySem.W.nsIn K mainGlobals "super" = some none) && (decide (PySem.W.ks_superIn K (He.ga K x) (He.ga K x) "__init__" = some (some (.builtin "ValueError.__init__"))) && (decide (PySem.W.subIn K (.ref (He.ga K x)) (.type "ValueError") = some true) &&
  (decide (PySem.W.mroIn K (He.ga K x) (.ref (He.ga K x)) = some true) && supF main (He.ga K x) (He.ma K (He.ga K x) "__init__") K))))))))))))
/-- what the text of such an __init__ must be -/
structure SupT (st : Stmt) (x y fn : Str) : Prop where
  ne : x ≠ y
  ex : ∃ ar p0 p1 p2 p3 p4 p5 p6 p7 p8 p9, defBody st = supBody x y fn p0 p1 p2 p3 p4 p5 p6 p7 p8 p9 ∧ (∃ pl : Env → Sem Bool, ∀ e : Env, eval (.Call (.Attribute (.Call (.Name "super" p0) [] [] p1) "__init__" p2) [.Name y p3] [] p4) e = (do
      let ov ← attributeBase (.Call (.Name "super" p0) [] [] p1) "__init__" e (eval (.Call (.Name "super" p0) [] [] p1) e)
      standAt p2.atName
      let (f, first) ← holding [ov] (getMethod ov "__init__" (pl e))
      callWith p4 f first (backTo p4 (starEach [.Name y p3] e)) [])) ∧ ((defArgs st).posonlyargs ++ (defArgs st).args).head? = some ar ∧ ar.arg = x
  bd : ∀ (name qual : Str) (kV doc pm : Value) (an : Option Addr) (cdv ct : Value) (cc : Addr) (u v : Value), bindArgs (PySem.W.ksFn name qual (defArgs st) (defBody st) (defScope st) .none kV doc pm an cdv ct cc) ⟨[u, v], []⟩ = pure [(x, u), (y, v)]
  sc : (defScope st).names.lookup x = some .local ∧ (defScope st).names.lookup y = some .local ∧ (∀ p ∈ (defScope st).names, p.2 ≠ .cell) ∧ (defScope st).names.lookup ("super" : Str) = some .globalImplicit ∧ (defScope st).names.lookup ("__class__" : Str) = some .free ∧ (defScope st).kind = .function ∧ (defScope st).isCoroutine = false ∧ (defScope st).isGenerator = false
theorem supB_ok {main x px py fn : Str} {st : Stmt} {C f : Addr} (hC : C = He.ga K x) (hf : f = He.ma K (He.ga K x) "__init__") (h : supB main x fn K = true) (e : supW K (He.ma K (He.ga K x) "__init__") = some (defArgs st, .stmts (defBody st), defScope st)) (t : SupT st px py fn) : SupC K main C f px py fn := by
  subst hC hf
  obtain ⟨h1, h⟩ := He.ba h
  obtain ⟨h2, h⟩ := He.ba h
  obtain ⟨h3, h⟩ := He.ba h
  obtain ⟨h4, h⟩ := He.ba h
  obtain ⟨h5, h⟩ := He.ba h
  obtain ⟨h6, h⟩ := He.ba h
  obtain ⟨h7, h⟩ := He.ba h
  obtain ⟨h8, h⟩ := He.ba h
  obtain ⟨h9, h⟩ := He.ba h
  obtain ⟨h10, h⟩ := He.ba h
  obtain ⟨h11, h⟩ := He.ba h
  obtain ⟨h12, h⟩ := He.ba h
  obtain ⟨h13, h14⟩ := He.ba h
  obtain ⟨name, qual, kV, doc, pm, an, ct, oc, od, osl, cc, cda, ccl, cdd, vs, ccs, file, tf, cl, cld, csl, q1, q2, q3, q4, q5, q6⟩ := supF_ok h14 e
  obtain ⟨ar, p0, p1, p2, p3, p4, p5, p6, p7, p8, p9, b1, b2, b3, b4⟩ := t.ex
  have tb := t.bd
  rw [b1] at q1 tb
  exact ⟨t.ne, ⟨oexB_ok h1, of_decide_eq_true h2, of_decide_eq_true h3, of_decide_eq_true h4, h5⟩, of_decide_eq_true h6, of_decide_eq_true h7, of_decide_eq_true h8, of_decide_eq_true h9, of_decide_eq_true h10, of_decide_eq_true h11, of_decide_eq_true h12, of_decide_eq_true h13,
    name, qual, _, _, kV, doc, pm, an, ct, oc, od, osl, cc, cda, ccl, cdd, vs, ccs, file, tf, cl, cld, csl, ar, p0, p1, p2, p3, p4, p5, p6, p7, p8, p9, b2, q1, q2, q3, q4, q5, q6, b3, b4, fun s u v => .of_eq (tb name qual kV doc pm an (.ref cda) ct cc u v), t.sc⟩
end
/-- a def that gives the error that its lambda raises: its text -/
theorem cauF_ok {P : Program} {w : World} {K : PySem.W.Frag} {mg : Str → Option Value} {base : Heap} {fa ca : Nat → Addr} {T : List (Addr × Str)} {xn : Nat → Option Str} {x a : Str} {st : Stmt} {g CS : Addr} {fd : FuncData} {Ng : List Str} (F : FunD K x x (defArgs st) (defBody st) (defScope st) [] [] g fd) (hmg : mg x = some (.ref g)) (S : FnScope Ng [a] (defScope st)) (n0 : Ng[0]? = some a) (va : Vis (defScope st) a)
    (hb : ∀ (kV doc pm : Value) (an : Option Addr) (cdv ct : Value) (us : List Value), us.length = [a].length → bindArgs (PySem.W.fnOf x x (defArgs st) (defBody st) (defScope st) .none kV doc pm an cdv ct) ⟨us, []⟩ = pure ([a].zip us))
    (hG : ∀ (cdv : Value) (X : Cx), X.mg = mg → ∀ q, LamX.GivesTo X Ng x (defScope st) g cdv (defBody st) a q (TTc X.K CS)) : CauF ⟨P, w, mg, base, ⟨K, fa, ca, T⟩, xn⟩ x a g CS (defArgs st) (defBody st) (defScope st) Ng := by
  obtain ⟨oc, od, dV, kV, doc, pm, an, cdv, ct, osl, e, lk, hcd, hD, hK⟩ := F.ex
  rcases hD with ⟨_, rfl⟩ | ⟨z, _⟩
  · subst e
    exact ⟨⟨_, kV, doc, pm, cdv, ct, oc, an, od, osl, lk, hcd, .all (hb kV doc pm an cdv ct), hG cdv⟩, hmg, F.kp, S, n0, va⟩
  · exact absurd rfl z
end KK

namespace KK
open PySem PySem.Spec PyProof.Rows L2
/-- the law's meaning gives True at a list of such ints, however it stands in the heap -/
def PlainLaw (n : Nat) (F : MF) : Prop := ∀ (ns : List Int) (d : D), ns.length ≤ n → (∀ z ∈ ns, Builtin.Int.intBits z ≤ 1048576) → d = .lst (ns.map D.int) ∨ d = .kl (ns.map D.int) → ∃ M', F [d] [] = .ok (.bl true) M'
theorem rs_ints {G : Gb} {ρ : List Addr} {H : Hp} : ∀ ns : List Int, Rs G ρ H (ns.map D.int) (ns.map V.int)
  | [] => .nil
  | x :: vs => .cons (.int x) (rs_ints vs)
theorem lawG_of {l : PySem.W.OpenLaw} {w : World} {K : PySem.W.Frag} {mg : Str → Option Value} {f : Addr} {h : Heap} {n k : Nat} {F : MF} {fa ca : Nat → Addr} {xn : Nat → Option Str} {q : Str} {p : Addr × Addr} (PL : PlainLaw n F)
    (hT : h.get? p.2 = some { cls := .none, data := .fields #[] }) (nT : K.lookup p.2 = none) (hC : PySem.W.CodeHd h p.1 p.2)
    (hF : ∃ fd : FuncData, (∀ (s : Shared) (u : Value), BindsTo s fd ⟨[u], []⟩ [("script", u)]) ∧ ∀ base : Heap, K.In base → base.Ns mainGlobals mg → LamX.TabB base mg p.1 p.2 → FnG l.prog w K mg base (L2.CX l.prog w) k f fd ["script"] (spF ⟨K, fa, ca, [(p.2, q)]⟩ xn 1 F)) :
    LawG l w K (L2.CX l.prog w) k n "script" mg f h := by
  obtain ⟨fd, hb, hF⟩ := hF
  refine ⟨fd, [p], spF ⟨K, fa, ca, [(p.2, q)]⟩ xn 1 F, fun z hz => ?_, fun z hz => ?_, fun z hz => ?_, hb, fun H a vs ns s hl hbits B => ?_, fun base KB NB TB => hF base KB NB (TB p (List.mem_singleton.mpr rfl))⟩
  · cases List.mem_singleton.mp hz; exact hT
  · cases List.mem_singleton.mp hz; exact nT
  · cases List.mem_singleton.mp hz; exact hC
  · have tb : LamX.Tabs [(p.2, q)] H := fun z hz => by
      cases List.mem_singleton.mp hz
      exact LamX.TabS.nil (B.tb p (List.mem_singleton.mpr rfl))
    have go : ∀ d, (d = .lst (ns.map D.int) ∨ d = .kl (ns.map D.int)) → R ⟨K, fa, ca, [(p.2, q)]⟩ [] H d (.ref a) → spF ⟨K, fa, ca, [(p.2, q)]⟩ xn 1 F [.ref a] H (fun v _ => v = .bl true) fun _ _ _ => False := fun d hd hr => by
      obtain ⟨M', e⟩ := PL ns d hl hbits hd
      refine ⟨[], [], [d], ⟨.nil, List.nodup_nil, rfl, fun i o e => by simp at e, tb⟩, .cons hr .nil, rfl, ?_⟩
      rw [e]
      exact fun ρ' H' v s r rv => rv.bl'
    rcases B.sq with ⟨o, hs⟩ | hs
    · exact go _ (.inl rfl) (.lst ⟨o, hs⟩ (rs_ints ns))
    · exact go _ (.inr rfl) (.kl hs (rs_ints ns))
end KK

namespace WK
open KK PySem PySem.Spec PyProof.Rows L2
def xnT (c : Nat) : Option Str := if c = 32 then some "at" else if c = 33 then some "most" else none
def k_KEPT : D := .tup [.str "always", .str "beaten", .str "borne", .str "cannot", .str "cost", .str "done", .str "drop", .str "end", .str "entry", .str "gain", .str "good", .str "goods", .str "greatest", .str "hours", .str "journal", .str "land", .str "leave", .str "none", .str "over", .str "pattern", .str "prices", .str "redo", .str "table", .str "undo", .str "wages", .str "what", .str "worths"]
def k_LETTERS : D := .str "abcdefghijklmnopqrstuvwxyz"
def k_MOST : D := .int (5)
def k_HIGH : D := .int (1000000)
/- 0 thing, 1 sign -/
def m_is_name : MS :=
  seqM (ifM (orM (notM (un1 (isiD "str") (locM 0))) (orM (notM (chainM leD leD (cst (.int 1)) (un1 lenD (locB 0)) (cst (.int 8)))) (binM inD (locM 0) (cst k_KEPT)))) (retM (cst (.bl false))) (skipM)) (retM (un1 allD (lstX (compM (itemsM (locM 0)) [1] (gN 1) (yesM) (binM inD (locM 1) (cst k_LETTERS))))))
def F_is_name : MF := defM 2 m_is_name
/- 0 thing, 1 low, 2 high -/
def m_is_number : MS :=
  seqM (ifM (orM (un1 (isiD "bool") (locM 0)) (notM (un1 (isiD "int") (locM 0)))) (retM (cst (.bl false))) (skipM)) (retM (andM (binM geD (locM 0) (locB 1)) (orM (binM isD (locM 2) (cst .non)) (binM leD (locM 0) (locB 2)))))
def F_is_number : MF := defM 3 m_is_number
/- 0 thing, 1 words -/
def m_is_word : MS :=
  retM (andM (un1 (isiD "str") (locM 0)) (binM inD (locM 0) (locB 1)))
def F_is_word : MF := defM 2 m_is_word
/- 0 thing, 1 many -/
def m_is_row : MS :=
  retM (andM (un1 (isiD "tuple") (locM 0)) (binM eqD (un1 lenD (locB 0)) (locB 1)))
def F_is_row : MF := defM 2 m_is_row
/- 0 things, 1 k -/
def m_are_ascending : MS :=
  retM (un1 allD (lstX (compM (rng1 (consA (binM subD (un1 lenD (locB 0)) (cst (.int 1))) (nilA))) [1] (gN 1) (yesM) (binM ltD (ixPM (locB 0) (locP 1)) (ixPM (locB 0) (opP (· + ·) (locP 1) (cstP (1))))))))
def F_are_ascending : MF := defM 2 m_are_ascending
/- 0 thing, 1 many, 2 low, 3 high, 4 one -/
def m_are_numbers : MS :=
  retM (andM (callM F_is_row (consA (locM 0) (consA (locM 1) (nilA)))) (un1 allD (lstX (compM (itemsM (locM 0)) [4] (gN 4) (yesM) (callM F_is_number (consA (locM 4) (consA (locM 2) (consA (locM 3) (nilA)))))))))
def F_are_numbers : MF := defM 5 m_are_numbers
/- 0 thing, 1 name -/
def m_are_names : MS :=
  seqM (ifM (orM (notM (un1 (isiD "tuple") (locM 0))) (orM (notM (chainM leD leD (cst (.int 1)) (un1 lenD (locB 0)) (cst k_MOST))) (notM (un1 allD (lstX (compM (itemsM (locM 0)) [1] (gN 1) (yesM) (callM F_is_name (consA (locM 1) (nilA))))))))) (retM (cst (.bl false))) (skipM)) (retM (callM F_are_ascending (consA (locM 0) (nilA))))
def F_are_names : MF := defM 2 m_are_names
/- 0 thing, 1 name, 2 row -/
def m_is_table : MS :=
  seqM (ifM (orM (notM (callM F_is_row (consA (locM 0) (consA (cst (.int 5)) (nilA))))) (orM (notM (callM F_is_word (consA (ixPM (locB 0) (cstP (0))) (consA (tupM (consA (cst (.str "table")) (nilA))) (nilA))))) (orM (notM (callM F_are_names (consA (ixPM (locB 0) (cstP (1))) (nilA)))) (notM (callM F_are_names (consA (ixPM (locB 0) (cstP (2))) (nilA))))))) (retM (cst (.bl false))) (skipM)) (seqM (ifM (orM (un1 anyD (lstX (compM (itemsM (ixPM (locB 0) (cstP (1)))) [1] (gN 1) (yesM) (binM inD (locM 1) (ixPM (locB 0) (cstP (2))))))) (notM (callM F_is_row (consA (ixPM (locB 0) (cstP (3))) (consA (un1 lenD (ixPM (locB 0) (cstP (1)))) (nilA)))))) (retM (cst (.bl false))) (skipM)) (seqM (ifM (notM (un1 allD (lstX (compM (itemsM (ixPM (locB 0) (cstP (3)))) [2] (gN 2) (yesM) (callM F_are_numbers (consA (locM 2) (consA (un1 lenD (ixPM (locB 0) (cstP (2)))) (consA (cst (.int 1)) (consA (cst k_HIGH) (nilA)))))))))) (retM (cst (.bl false))) (skipM)) (retM (callM F_are_numbers (consA (ixPM (locB 0) (cstP (4))) (consA (un1 lenD (ixPM (locB 0) (cstP (1)))) (consA (cst (.int 1)) (consA (cst k_HIGH) (nilA)))))))))
def F_is_table : MF := defM 3 m_is_table
/- 0 table -/
def m_check_table : MS :=
  ifM (notM (callM F_is_table (consA (locM 0) (nilA)))) (raiseM 22) (skipM)
def F_check_table : MF := defM 1 m_check_table
/- 0 table, 1 land -/
def m_check_land : MS :=
  ifM (notM (callM F_is_word (consA (locM 1) (consA (ixPM (locB 0) (cstP (1))) (nilA))))) (raiseM 26) (skipM)
def F_check_land : MF := defM 2 m_check_land
/- 0 table, 1 good -/
def m_check_good : MS :=
  ifM (notM (callM F_is_word (consA (locM 1) (consA (ixPM (locB 0) (cstP (2))) (nilA))))) (raiseM 25) (skipM)
def F_check_good : MF := defM 2 m_check_good
/- 0 number -/
def m_check_number : MS :=
  ifM (notM (callM F_is_number (consA (locM 0) (consA (cst (.int 1)) (consA (cst k_HIGH) (nilA)))))) (raiseM 11) (skipM)
def F_check_number : MF := defM 1 m_check_number
/- 0 row, 1 k, 2 item -/
def m_put : MS :=
  retM (binM addD (binM addD (slM (locB 0) (noP) (soP (locP 1))) (tupM (consA (locM 2) (nilA)))) (slM (locB 0) (soP (opP (· + ·) (locP 1) (cstP (1)))) (noP)))
def F_put : MF := defM 3 m_put
/- 0 row, 1 k, 2 item -/
def m_put_in : MS :=
  retM (binM addD (binM addD (slM (locB 0) (noP) (soP (locP 1))) (tupM (consA (locM 2) (nilA)))) (slM (locB 0) (soP (locP 1)) (noP)))
def F_put_in : MF := defM 3 m_put_in
/- 0 table, 1 land, 2 good, 3 number, 4 k, 5 j -/
def m_with_cost : MS :=
  seqM (exprM (callM F_check_table (consA (locM 0) (nilA)))) (seqM (exprM (callM F_check_land (consA (locM 0) (consA (locM 1) (nilA))))) (seqM (exprM (callM F_check_good (consA (locM 0) (consA (locM 2) (nilA))))) (seqM (exprM (callM F_check_number (consA (locM 3) (nilA)))) (seqM (par2 4 5 (valN (idxM (ixPM (locB 0) (cstP (1))) (locM 1)) (valN (idxM (ixPM (locB 0) (cstP (2))) (locM 2)) (nilN)))) (retM (binM addD (slM (locB 0) (noP) (soP (cstP (3)))) (tupM (consA (callM F_put (consA (ixPM (locB 0) (cstP (3))) (consA (locM 4) (consA (callM F_put (consA (ixPM (ixPM (locB 0) (cstP (3))) (locP 4)) (consA (locM 5) (consA (locM 3) (nilA))))) (nilA))))) (consA (ixPM (locB 0) (cstP (4))) (nilA))))))))))
def F_with_cost : MF := defM 6 m_with_cost
/- 0 table, 1 land, 2 number -/
def m_with_hours : MS :=
  seqM (exprM (callM F_check_table (consA (locM 0) (nilA)))) (seqM (exprM (callM F_check_land (consA (locM 0) (consA (locM 1) (nilA))))) (seqM (exprM (callM F_check_number (consA (locM 2) (nilA)))) (retM (binM addD (slM (locB 0) (noP) (soP (cstP (4)))) (tupM (consA (callM F_put (consA (ixPM (locB 0) (cstP (4))) (consA (idxM (ixPM (locB 0) (cstP (1))) (locM 1)) (consA (locM 2) (nilA))))) (nilA)))))))
def F_with_hours : MF := defM 3 m_with_hours
/- 0 table, 1 name, 2 row, 3 number, 4 k, 5 one -/
def m_with_land : MS :=
  seqM (exprM (callM F_check_table (consA (locM 0) (nilA)))) (seqM (ifM (orM (notM (callM F_is_name (consA (locM 1) (nilA)))) (binM inD (locM 1) (ixPM (locB 0) (cstP (2))))) (raiseM 10) (skipM)) (seqM (ifM (binM inD (locM 1) (ixPM (locB 0) (cstP (1)))) (raiseM 30) (skipM)) (seqM (ifM (notM (callM F_are_numbers (consA (locM 2) (consA (un1 lenD (ixPM (locB 0) (cstP (2)))) (consA (cst (.int 1)) (consA (cst k_HIGH) (nilA))))))) (raiseM 21) (skipM)) (seqM (exprM (callM F_check_number (consA (locM 3) (nilA)))) (seqM (ifM (binM eqD (un1 lenD (ixPM (locB 0) (cstP (1)))) (cst k_MOST)) (raiseF 33 (cst k_MOST)) (skipM)) (seqM (setM 4 (un1 lenD (lstX (compM (itemsM (ixPM (locB 0) (cstP (1)))) [5] (gN 5) (binM ltD (locM 5) (locB 1)) (locM 5))))) (retM (tupM (consA (cst (.str "table")) (consA (callM F_put_in (consA (ixPM (locB 0) (cstP (1))) (consA (locM 4) (consA (locM 1) (nilA))))) (consA (ixPM (locB 0) (cstP (2))) (consA (callM F_put_in (consA (ixPM (locB 0) (cstP (3))) (consA (locM 4) (consA (locM 2) (nilA))))) (consA (callM F_put_in (consA (ixPM (locB 0) (cstP (4))) (consA (locM 4) (consA (locM 3) (nilA))))) (nilA))))))))))))))
def F_with_land : MF := defM 6 m_with_land
/- 0 table, 1 name, 2 column, 3 k, 4 rows, 5 one, 6 row, 7 many -/
def m_with_good : MS :=
  seqM (exprM (callM F_check_table (consA (locM 0) (nilA)))) (seqM (ifM (orM (notM (callM F_is_name (consA (locM 1) (nilA)))) (binM inD (locM 1) (ixPM (locB 0) (cstP (1))))) (raiseM 10) (skipM)) (seqM (ifM (binM inD (locM 1) (ixPM (locB 0) (cstP (2)))) (raiseM 30) (skipM)) (seqM (ifM (notM (callM F_are_numbers (consA (locM 2) (consA (un1 lenD (ixPM (locB 0) (cstP (1)))) (consA (cst (.int 1)) (consA (cst k_HIGH) (nilA))))))) (raiseM 3) (skipM)) (seqM (ifM (binM eqD (un1 lenD (ixPM (locB 0) (cstP (2)))) (cst k_MOST)) (raiseF 33 (cst k_MOST)) (skipM)) (seqM (setM 3 (un1 lenD (lstX (compM (itemsM (ixPM (locB 0) (cstP (2)))) [5] (gN 5) (binM ltD (locM 5) (locB 1)) (locM 5))))) (seqM (setM 4 (un1 tupD (lstX (compM (zip2M (consA (ixPM (locB 0) (cstP (3))) (consA (locM 2) (nilA)))) [6, 7] (gT 2 (gsC (gN 6) (gsC (gN 7) (gsN)))) (yesM) (callM F_put_in (consA (locM 6) (consA (locM 3) (consA (locM 7) (nilA))))))))) (retM (tupM (consA (cst (.str "table")) (consA (ixPM (locB 0) (cstP (1))) (consA (callM F_put_in (consA (ixPM (locB 0) (cstP (2))) (consA (locM 3) (consA (locM 1) (nilA))))) (consA (locM 4) (consA (ixPM (locB 0) (cstP (4))) (nilA))))))))))))))
def F_with_good : MF := defM 8 m_with_good
/- 0 table, 1 some, 2 where, 3 rows, 4 hours, 5 land, 6 row, 7 many, 8 good, 9 one -/
def m_part_of : MS :=
  seqM (par2 3 4 (newN (lenA1 (nilA)) (newN (lenA1 (nilA)) (nilN)))) (seqM (forM (zip3M (consA (ixPM (locB 0) (cstP (1))) (consA (ixPM (locB 0) (cstP (3))) (consA (ixPM (locB 0) (cstP (4))) (nilA))))) (gT 3 (gsC (gN 5) (gsC (gN 6) (gsC (gN 7) (gsN))))) (ifM (binM inD (locM 5) (locB 1)) (seqM (exprM (appM 3 (un1 tupD (lstX (compM (zip2M (consA (ixPM (locB 0) (cstP (2))) (consA (locM 6) (nilA)))) [8, 9] (gT 2 (gsC (gN 8) (gsC (gN 9) (gsN)))) (binM inD (locM 8) (locB 2)) (locM 9)))))) (exprM (appM 4 (locM 7)))) (skipM))) (retM (tupM (consA (cst (.str "table")) (consA (locM 1) (consA (locM 2) (consA (un1 tupD (locB 3)) (consA (un1 tupD (locB 4)) (nilA)))))))))
def F_part_of : MF := defM 10 m_part_of
/- 0 thing, 1 one -/
def m_are_costs : MS :=
  seqM (ifM (orM (notM (un1 (isiD "tuple") (locM 0))) (notM (chainM leD leD (cst (.int 1)) (un1 lenD (locB 0)) (cst k_MOST)))) (retM (cst (.bl false))) (skipM)) (retM (un1 allD (lstX (compM (itemsM (locM 0)) [1] (gN 1) (yesM) (callM F_is_number (consA (locM 1) (consA (cst (.int 1)) (consA (cst k_HIGH) (nilA)))))))))
def F_are_costs : MF := defM 2 m_are_costs
/- 0 thing -/
def m_is_work : MS :=
  seqM (ifM (orM (notM (un1 (isiD "tuple") (locM 0))) (orM (binM ltD (un1 lenD (locB 0)) (cst (.int 2))) (notM (callM F_is_name (consA (ixPM (locB 0) (cstP (1))) (nilA)))))) (retM (cst (.bl false))) (skipM)) (seqM (ifM (callM F_is_word (consA (ixPM (locB 0) (cstP (0))) (consA (tupM (consA (cst (.str "leave")) (consA (cst (.str "drop")) (nilA)))) (nilA)))) (retM (binM eqD (un1 lenD (locB 0)) (cst (.int 2)))) (skipM)) (seqM (ifM (callM F_is_word (consA (ixPM (locB 0) (cstP (0))) (consA (tupM (consA (cst (.str "hours")) (nilA))) (nilA)))) (retM (andM (binM eqD (un1 lenD (locB 0)) (cst (.int 3))) (callM F_is_number (consA (ixPM (locB 0) (cstP (2))) (consA (cst (.int 1)) (consA (cst k_HIGH) (nilA))))))) (skipM)) (seqM (ifM (callM F_is_word (consA (ixPM (locB 0) (cstP (0))) (consA (tupM (consA (cst (.str "good")) (nilA))) (nilA)))) (retM (andM (binM eqD (un1 lenD (locB 0)) (cst (.int 3))) (callM F_are_costs (consA (ixPM (locB 0) (cstP (2))) (nilA))))) (skipM)) (seqM (ifM (callM F_is_word (consA (ixPM (locB 0) (cstP (0))) (consA (tupM (consA (cst (.str "cost")) (nilA))) (nilA)))) (retM (andM (binM eqD (un1 lenD (locB 0)) (cst (.int 4))) (andM (callM F_is_name (consA (ixPM (locB 0) (cstP (2))) (nilA))) (callM F_is_number (consA (ixPM (locB 0) (cstP (3))) (consA (cst (.int 1)) (consA (cst k_HIGH) (nilA)))))))) (skipM)) (seqM (ifM (orM (notM (callM F_is_word (consA (ixPM (locB 0) (cstP (0))) (consA (tupM (consA (cst (.str "land")) (nilA))) (nilA))))) (binM neD (un1 lenD (locB 0)) (cst (.int 4)))) (retM (cst (.bl false))) (skipM)) (retM (andM (callM F_are_costs (consA (ixPM (locB 0) (cstP (2))) (nilA))) (callM F_is_number (consA (ixPM (locB 0) (cstP (3))) (consA (cst (.int 1)) (consA (cst k_HIGH) (nilA))))))))))))
def F_is_work : MF := defM 1 m_is_work
/- 0 names, 1 name, 2 one -/
def m_without : MS :=
  seqM (ifM (binM eqD (un1 lenD (locB 0)) (cst (.int 1))) (raiseM 29) (skipM)) (retM (un1 tupD (lstX (compM (itemsM (locM 0)) [2] (gN 2) (binM neD (locM 2) (locB 1)) (locM 2)))))
def F_without : MF := defM 3 m_without
/- 0 table, 1 work -/
def m_less_by : MS :=
  seqM (ifM (binM eqD (ixPM (locB 1) (cstP (0))) (cst (.str "leave"))) (seqM (exprM (callM F_check_land (consA (locM 0) (consA (ixPM (locB 1) (cstP (1))) (nilA))))) (retM (callM F_part_of (consA (locM 0) (consA (callM F_without (consA (ixPM (locB 0) (cstP (1))) (consA (ixPM (locB 1) (cstP (1))) (nilA)))) (consA (ixPM (locB 0) (cstP (2))) (nilA))))))) (skipM)) (seqM (exprM (callM F_check_good (consA (locM 0) (consA (ixPM (locB 1) (cstP (1))) (nilA))))) (retM (callM F_part_of (consA (locM 0) (consA (ixPM (locB 0) (cstP (1))) (consA (callM F_without (consA (ixPM (locB 0) (cstP (2))) (consA (ixPM (locB 1) (cstP (1))) (nilA)))) (nilA)))))))
def F_less_by : MF := defM 2 m_less_by
/- 0 table, 1 work -/
def m_changed_by : MS :=
  seqM (ifM (binM eqD (ixPM (locB 1) (cstP (0))) (cst (.str "cost"))) (retM (callM F_with_cost (consA (locM 0) (consA (ixPM (locB 1) (cstP (1))) (consA (ixPM (locB 1) (cstP (2))) (consA (ixPM (locB 1) (cstP (3))) (nilA))))))) (skipM)) (seqM (ifM (binM eqD (ixPM (locB 1) (cstP (0))) (cst (.str "hours"))) (retM (callM F_with_hours (consA (locM 0) (consA (ixPM (locB 1) (cstP (1))) (consA (ixPM (locB 1) (cstP (2))) (nilA)))))) (skipM)) (seqM (ifM (binM eqD (ixPM (locB 1) (cstP (0))) (cst (.str "land"))) (retM (callM F_with_land (consA (locM 0) (consA (ixPM (locB 1) (cstP (1))) (consA (ixPM (locB 1) (cstP (2))) (consA (ixPM (locB 1) (cstP (3))) (nilA))))))) (skipM)) (seqM (ifM (binM eqD (ixPM (locB 1) (cstP (0))) (cst (.str "good"))) (retM (callM F_with_good (consA (locM 0) (consA (ixPM (locB 1) (cstP (1))) (consA (ixPM (locB 1) (cstP (2))) (nilA)))))) (skipM)) (retM (callM F_less_by (consA (locM 0) (consA (locM 1) (nilA))))))))
def F_changed_by : MF := defM 2 m_changed_by
/- 0 self, 1 table -/
def m_Book___init__ : MS :=
  seqM (exprM (callM F_check_table (consA (locM 1) (nilA)))) (seqM (setF 60 "tables" (locM 0) (objX (lenA1 (consA (locM 1) (nilA))))) (seqM (setF 60 "works" (locM 0) (objX (lenA1 (nilA)))) (setF 60 "undone" (locM 0) (objX (lenA1 (nilA))))))
def F_Book___init__ : MF := defM 2 m_Book___init__
/- 0 self, 1 other -/
def m_Book___eq__ : MS :=
  seqM (ifM (notM (isCM none (isE [] []) (isE [60] [60]) (locM 1))) (retM (cst (.bl false))) (skipM)) (retM (eqV false (tupM (consA (ixPM (vwM (fldM 60 "tables" (locM 0))) (cstP (0))) (consA (fldM 60 "works" (locM 0)) (nilA)))) (tupM (consA (ixPM (vwM (fldM 60 "tables" (locM 1))) (cstP (0))) (consA (fldM 60 "works" (locM 1)) (nilA))))))
def F_Book___eq__ : MF := defM 2 m_Book___eq__
/- 0 self, 1 work -/
def m_Book_do : MS :=
  seqM (ifM (notM (callM F_is_work (consA (locM 1) (nilA)))) (raiseM 24) (skipM)) (seqM (exprM (appO (fldM 60 "tables" (locM 0)) (callM F_changed_by (consA (ixPM (vwM (fldM 60 "tables" (locM 0))) (fun L M => ((cstP (1)) L M).map fun i => -i)) (consA (locM 1) (nilA)))))) (seqM (exprM (appO (fldM 60 "works" (locM 0)) (locM 1))) (setF 60 "undone" (locM 0) (objX (lenA1 (nilA))))))
def F_Book_do : MF := defM 2 m_Book_do
/- 0 self -/
def m_Book_table : MS :=
  retM (ixPM (vwM (fldM 60 "tables" (locM 0))) (fun L M => ((cstP (1)) L M).map fun i => -i))
def F_Book_table : MF := defM 1 m_Book_table
/- 0 self -/
def m_Book_beginning : MS :=
  retM (ixPM (vwM (fldM 60 "tables" (locM 0))) (cstP (0)))
def F_Book_beginning : MF := defM 1 m_Book_beginning
/- 0 self -/
def m_Book_journal : MS :=
  retM (lstX (unF listD (vwM (fldM 60 "works" (locM 0)))))
def F_Book_journal : MF := defM 1 m_Book_journal
/- 0 self -/
def m_Book_undo : MS :=
  seqM (ifM (emM false (vwM (fldM 60 "works" (locM 0)))) (raiseM 28) (skipM)) (exprM (appO (fldM 60 "undone" (locM 0)) (tupM (consA (popO (fldM 60 "works" (locM 0))) (consA (popO (fldM 60 "tables" (locM 0))) (nilA))))))
def F_Book_undo : MF := defM 1 m_Book_undo
/- 0 self, 1 work, 2 table -/
def m_Book_redo : MS :=
  seqM (ifM (emM false (vwM (fldM 60 "undone" (locM 0)))) (raiseM 28) (skipM)) (seqM (asgM (popO (fldM 60 "undone" (locM 0))) (gT 2 (gsC (gN 1) (gsC (gN 2) (gsN))))) (seqM (exprM (appO (fldM 60 "works" (locM 0)) (locM 1))) (exprM (appO (fldM 60 "tables" (locM 0)) (locM 2)))))
def F_Book_redo : MF := defM 3 m_Book_redo
/- 0 self, 1 found -/
def m_Book_copy : MS :=
  seqM (setM 1 (mkM 60 F_Book___init__ (consA (ixPM (vwM (fldM 60 "tables" (locM 0))) (cstP (0))) (nilA)))) (seqM (setF 60 "tables" (locM 1) (objX (unF listD (vwM (fldM 60 "tables" (locM 0)))))) (seqM (setF 60 "works" (locM 1) (objX (unF listD (vwM (fldM 60 "works" (locM 0)))))) (seqM (setF 60 "undone" (locM 1) (objX (unF listD (vwM (fldM 60 "undone" (locM 0)))))) (retM (locM 1)))))
def F_Book_copy : MF := defM 2 m_Book_copy
/- 0 script, 1 large, 2 grain -/
def m__law_begun : MS :=
  seqM (setM 1 (objX (compM (itemsM (locM 0)) [2] (gN 2) (binM geD (un1 absD (locB 2)) (binM powD (cst (.int 10)) (cst (.int 18)))) (binM subD (un1 absD (locB 2)) (binM powD (cst (.int 10)) (cst (.int 18))))))) (retM (dicX [("large", locM 1), ("cells", lstX (compM (itemsM (locM 0)) [2] (gN 2) (yesM) (binM modD (un1 intD (un1 absD (locB 2))) (cst (.int 2147483629))))), ("rest", cst (.int 0)), ("turn", cst (.int 0))]))
def F__law_begun : MF := defM 3 m__law_begun
/- 0 draw, 1 prime, 2 turn, 3 found, 4 blend, 5 grain -/
def m__law_mixed : MS :=
  seqM (par2 2 3 (valN (binM addD (dgM "turn" (locM 0)) (cst (.int 1))) (valN (cst (.int 0)) (nilN)))) (seqM (dpM "turn" (locM 0) (locM 2)) (seqM (forM (itemsM (lstX (lenA1 (consA (cst (.int 2147483647)) (consA (cst (.int 2147483629)) (consA (cst (.int 2147483587)) (consA (cst (.int 2147483579)) (nilA)))))))) (gN 1) (seqM (setM 4 (binM addD (binM mulD (cst (.int 48271)) (locB 2)) (binM divD (locM 1) (cst (.int 37))))) (seqM (forM (itemsM (dgM "cells" (locM 0))) (gN 5) (setM 4 (binM modD (un1 intD (binM addD (binM addD (binM mulD (locM 4) (cst (.int 69621))) (locB 5)) (locB 2))) (locB 1)))) (setM 3 (binM addD (binM mulD (locM 3) (cst (.int 2147483648))) (locB 4)))))) (retM (locM 3))))
def F__law_mixed : MF := defM 6 m__law_mixed
/- 0 draw, 1 many, 2 found -/
def m__law_take : MS :=
  seqM (ifM (binM eqD (dgM "rest" (locM 0)) (cst (.int 0))) (dpM "rest" (locM 0) (iteM (emM true (vwM (dgM "large" (locM 0)))) (popAO (dgM "large" (locM 0)) (cst (.int 0))) (callM F__law_mixed (consA (locM 0) (nilA))))) (skipM)) (seqM (setM 2 (binM modD (un1 intD (dgM "rest" (locM 0))) (locB 1))) (seqM (dpM "rest" (locM 0) (binM divD (un1 intD (dgM "rest" (locM 0))) (locB 1))) (retM (locM 2))))
def F__law_take : MF := defM 3 m__law_take
/- 0 draw, 1 some -/
def m__law_pick : MS :=
  retM (binM ixD (locM 1) (callM F__law_take (consA (locM 0) (consA (un1 lenD (locB 1)) (nilA)))))
def F__law_pick : MF := defM 2 m__law_pick
/- 0 draw, 1 some, 2 left, 3 found -/
def m__law_shuffled : MS :=
  seqM (par2 2 3 (newN (unF listD (locB 1)) (newN (lenA1 (nilA)) (nilN)))) (seqM (whL (emM true (locB 2)) (exprM (appM 3 (popM 2 (callM F__law_take (consA (locM 0) (consA (un1 lenD (locB 2)) (nilA))))))) 64) (retM (frzM 3)))
def F__law_shuffled : MF := defM 4 m__law_shuffled
/- 0 draw, 1 pool, 2 many -/
def m__law_lot_of : MS :=
  retM (un1 tupD (lstX (unF sortD (lstX (slF (callM F__law_shuffled (consA (locM 0) (consA (locM 1) (nilA)))) (noP) (soP (locP 2)))))))
def F__law_lot_of : MF := defM 3 m__law_lot_of
/- 0 draw, 1 many -/
def m__law_lands : MS :=
  retM (callM F__law_lot_of (consA (locM 0) (consA (lstX (lenA1 (consA (cst (.str "north")) (consA (cst (.str "south")) (consA (cst (.str "east")) (consA (cst (.str "west")) (consA (cst (.str "isle")) (consA (cst (.str "cape")) (nilA))))))))) (consA (locM 1) (nilA)))))
def F__law_lands : MF := defM 2 m__law_lands
/- 0 draw, 1 many -/
def m__law_goods : MS :=
  retM (callM F__law_lot_of (consA (locM 0) (consA (lstX (lenA1 (consA (cst (.str "cloth")) (consA (cst (.str "wine")) (consA (cst (.str "iron")) (consA (cst (.str "salt")) (consA (cst (.str "grain")) (consA (cst (.str "paper")) (nilA))))))))) (consA (locM 1) (nilA)))))
def F__law_goods : MF := defM 2 m__law_goods
/- 0 draw, 1 lands, 2 goods, 3 high, 4 rows, 5 top, 6 land, 7 good -/
def m__law_table : MS :=
  seqM (setM 4 (un1 tupD (lstX (compM (itemsM (locM 1)) [6] (gN 6) (yesM) (un1 tupD (lstX (compM (itemsM (locM 2)) [7] (gN 7) (yesM) (binM addD (cst (.int 1)) (callM F__law_take (consA (locM 0) (consA (locM 3) (nilA)))))))))))) (seqM (setM 5 (binM ixD (lstX (lenA1 (consA (cst (.int 12)) (consA (binM powD (cst (.int 10)) (cst (.int 6))) (nilA))))) (callM F__law_take (consA (locM 0) (consA (cst (.int 2)) (nilA)))))) (retM (tupM (consA (cst (.str "table")) (consA (locM 1) (consA (locM 2) (consA (locM 4) (consA (un1 tupD (lstX (compM (itemsM (locM 1)) [6] (gN 6) (yesM) (binM addD (cst (.int 1)) (callM F__law_take (consA (locM 0) (consA (locM 5) (nilA)))))))) (nilA)))))))))
def F__law_table : MF := defM 8 m__law_table
/- 0 draw, 1 most, 2 lands, 3 goods -/
def m__law_some_table : MS :=
  seqM (par2 2 3 (valN (callM F__law_lands (consA (locM 0) (consA (binM addD (cst (.int 1)) (callM F__law_take (consA (locM 0) (consA (locM 1) (nilA))))) (nilA)))) (valN (callM F__law_goods (consA (locM 0) (consA (binM addD (cst (.int 1)) (callM F__law_take (consA (locM 0) (consA (locM 1) (nilA))))) (nilA)))) (nilN)))) (retM (callM F__law_table (consA (locM 0) (consA (locM 2) (consA (locM 3) (consA (binM ixD (lstX (lenA1 (consA (cst (.int 3)) (consA (cst (.int 6)) (consA (cst (.int 40)) (consA (binM powD (cst (.int 10)) (cst (.int 6))) (nilA))))))) (callM F__law_take (consA (locM 0) (consA (cst (.int 4)) (nilA))))) (nilA)))))))
def F__law_some_table : MF := defM 4 m__law_some_table
/- 0 told, 1 due -/
def m__law_same : MS :=
  retM (andM (eqL false (locM 0) (locM 1)) (binM eqD (reprL (locM 0)) (reprL (locM 1))))
def F__law_same : MF := defM 2 m__law_same
/- 0 some, 1 at, 2 one -/
def m__law_put : MS :=
  retM (binM addD (binM addD (slM (locB 0) (noP) (soP (locP 1))) (tupM (consA (locM 2) (nilA)))) (slM (locB 0) (soP (locP 1)) (noP)))
def F__law_put : MF := defM 3 m__law_put
/- 0 some, 1 at -/
def m__law_left : MS :=
  retM (binM addD (slM (locB 0) (noP) (soP (locP 1))) (slM (locB 0) (soP (opP (· + ·) (locP 1) (cstP (1)))) (noP)))
def F__law_left : MF := defM 2 m__law_left
/- 0 table, 1 work, 2 at, 3 by, 4 row, 5 word, 6 lands, 7 goods, 8 rows, 9 hours, 10 one -/
def m__law_done : MS :=
  seqM (asgM (binM addD (tupM (consA (ixPM (locB 1) (cstP (0))) (nilA))) (slM (locB 0) (soP (cstP (1))) (noP))) (gT 5 (gsC (gN 5) (gsC (gN 6) (gsC (gN 7) (gsC (gN 8) (gsC (gN 9) (gsN)))))))) (seqM (ifM (andM (binM inD (locM 5) (lstX (lenA1 (consA (cst (.str "cost")) (consA (cst (.str "hours")) (consA (cst (.str "leave")) (nilA))))))) (binM ninD (ixPM (locB 1) (cstP (1))) (locB 6))) (retM (tupM (consA (cst (.str "noland")) (consA (locM 0) (nilA))))) (skipM)) (seqM (ifM (orM (andM (binM eqD (locM 5) (cst (.str "cost"))) (binM ninD (ixPM (locB 1) (cstP (2))) (locB 7))) (andM (binM eqD (locM 5) (cst (.str "drop"))) (binM ninD (ixPM (locB 1) (cstP (1))) (locB 7)))) (retM (tupM (consA (cst (.str "nogood")) (consA (locM 0) (nilA))))) (skipM)) (seqM (ifM (binM eqD (locM 5) (cst (.str "land"))) (seqM (ifM (binM inD (ixPM (locB 1) (cstP (1))) (locB 7)) (retM (tupM (consA (cst (.str "name")) (consA (locM 0) (nilA))))) (skipM)) (seqM (ifM (binM inD (ixPM (locB 1) (cstP (1))) (locB 6)) (retM (tupM (consA (cst (.str "twice")) (consA (locM 0) (nilA))))) (skipM)) (seqM (ifM (binM neD (un1 lenD (ixPM (locB 1) (cstP (2)))) (un1 lenD (locB 7))) (retM (tupM (consA (cst (.str "row")) (consA (locM 0) (nilA))))) (skipM)) (seqM (ifM (binM eqD (un1 lenD (locB 6)) (cst (.int 5))) (retM (tupM (consA (cst (.str "many")) (consA (locM 0) (nilA))))) (skipM)) (seqM (setM 2 (un1 lenD (lstX (compM (itemsM (locM 6)) [10] (gN 10) (binM ltD (locM 10) (ixPM (locB 1) (cstP (1)))) (locM 10))))) (retM (tupM (consA (cst .non) (consA (tupM (consA (cst (.str "table")) (consA (callM F__law_put (consA (locM 6) (consA (locM 2) (consA (ixPM (locB 1) (cstP (1))) (nilA))))) (consA (locM 7) (consA (callM F__law_put (consA (locM 8) (consA (locM 2) (consA (ixPM (locB 1) (cstP (2))) (nilA))))) (consA (callM F__law_put (consA (locM 9) (consA (locM 2) (consA (ixPM (locB 1) (cstP (3))) (nilA))))) (nilA))))))) (nilA)))))))))) (skipM)) (seqM (ifM (binM eqD (locM 5) (cst (.str "good"))) (seqM (ifM (binM inD (ixPM (locB 1) (cstP (1))) (locB 6)) (retM (tupM (consA (cst (.str "name")) (consA (locM 0) (nilA))))) (skipM)) (seqM (ifM (binM inD (ixPM (locB 1) (cstP (1))) (locB 7)) (retM (tupM (consA (cst (.str "twice")) (consA (locM 0) (nilA))))) (skipM)) (seqM (ifM (binM neD (un1 lenD (ixPM (locB 1) (cstP (2)))) (un1 lenD (locB 6))) (retM (tupM (consA (cst (.str "column")) (consA (locM 0) (nilA))))) (skipM)) (seqM (ifM (binM eqD (un1 lenD (locB 7)) (cst (.int 5))) (retM (tupM (consA (cst (.str "many")) (consA (locM 0) (nilA))))) (skipM)) (seqM (setM 2 (un1 lenD (lstX (compM (itemsM (locM 7)) [10] (gN 10) (binM ltD (locM 10) (ixPM (locB 1) (cstP (1)))) (locM 10))))) (retM (tupM (consA (cst .non) (consA (tupM (consA (cst (.str "table")) (consA (locM 6) (consA (callM F__law_put (consA (locM 7) (consA (locM 2) (consA (ixPM (locB 1) (cstP (1))) (nilA))))) (consA (un1 tupD (lstX (compM (zip2M (consA (locM 8) (consA (ixPM (locB 1) (cstP (2))) (nilA)))) [4, 10] (gT 2 (gsC (gN 4) (gsC (gN 10) (gsN)))) (yesM) (callM F__law_put (consA (locM 4) (consA (locM 2) (consA (locM 10) (nilA)))))))) (consA (locM 9) (nilA))))))) (nilA)))))))))) (skipM)) (seqM (ifM (binM eqD (locM 5) (cst (.str "leave"))) (seqM (setM 2 (idxM (locM 6) (ixPM (locB 1) (cstP (1))))) (retM (iteM (binM eqD (un1 lenD (locB 6)) (cst (.int 1))) (tupM (consA (cst (.str "few")) (consA (locM 0) (nilA)))) (tupM (consA (cst .non) (consA (tupM (consA (cst (.str "table")) (consA (callM F__law_left (consA (locM 6) (consA (locM 2) (nilA)))) (consA (locM 7) (consA (callM F__law_left (consA (locM 8) (consA (locM 2) (nilA)))) (consA (callM F__law_left (consA (locM 9) (consA (locM 2) (nilA)))) (nilA))))))) (nilA))))))) (skipM)) (seqM (ifM (binM eqD (locM 5) (cst (.str "drop"))) (seqM (setM 2 (idxM (locM 7) (ixPM (locB 1) (cstP (1))))) (retM (iteM (binM eqD (un1 lenD (locB 7)) (cst (.int 1))) (tupM (consA (cst (.str "few")) (consA (locM 0) (nilA)))) (tupM (consA (cst .non) (consA (tupM (consA (cst (.str "table")) (consA (locM 6) (consA (callM F__law_left (consA (locM 7) (consA (locM 2) (nilA)))) (consA (un1 tupD (lstX (compM (itemsM (locM 8)) [4] (gN 4) (yesM) (callM F__law_left (consA (locM 4) (consA (locM 2) (nilA))))))) (consA (locM 9) (nilA))))))) (nilA))))))) (skipM)) (seqM (setM 2 (idxM (locM 6) (ixPM (locB 1) (cstP (1))))) (seqM (ifM (binM eqD (locM 5) (cst (.str "hours"))) (retM (tupM (consA (cst .non) (consA (tupM (consA (cst (.str "table")) (consA (locM 6) (consA (locM 7) (consA (locM 8) (consA (binM addD (binM addD (slM (locB 9) (noP) (soP (locP 2))) (tupM (consA (ixPM (locB 1) (cstP (2))) (nilA)))) (slM (locB 9) (soP (opP (· + ·) (locP 2) (cstP (1)))) (noP))) (nilA))))))) (nilA))))) (skipM)) (seqM (setM 3 (idxM (locM 7) (ixPM (locB 1) (cstP (2))))) (seqM (setM 4 (binM addD (binM addD (slM (ixPM (locB 8) (locP 2)) (noP) (soP (locP 3))) (tupM (consA (ixPM (locB 1) (cstP (3))) (nilA)))) (slM (ixPM (locB 8) (locP 2)) (soP (opP (· + ·) (locP 3) (cstP (1)))) (noP)))) (retM (tupM (consA (cst .non) (consA (tupM (consA (cst (.str "table")) (consA (locM 6) (consA (locM 7) (consA (binM addD (binM addD (slM (locB 8) (noP) (soP (locP 2))) (tupM (consA (locM 4) (nilA)))) (slM (locB 8) (soP (opP (· + ·) (locP 2) (cstP (1)))) (noP))) (consA (locM 9) (nilA))))))) (nilA)))))))))))))))
def F__law_done : MF := defM 11 m__law_done
/- 0 error -/
def m__law_kind : MS :=
  seqM (ifM (isCM (some false) (isE [1, 3, 10, 11, 21, 22, 24, 25, 26, 28, 29, 30, 33] [26]) (isE [] []) (locM 0)) (retM (cst (.str "noland"))) (skipM)) (seqM (ifM (isCM (some false) (isE [1, 3, 10, 11, 21, 22, 24, 25, 26, 28, 29, 30, 33] [25]) (isE [] []) (locM 0)) (retM (cst (.str "nogood"))) (skipM)) (seqM (ifM (isCM (some false) (isE [1, 3, 10, 11, 21, 22, 24, 25, 26, 28, 29, 30, 33] [10]) (isE [] []) (locM 0)) (retM (cst (.str "name"))) (skipM)) (seqM (ifM (isCM (some false) (isE [1, 3, 10, 11, 21, 22, 24, 25, 26, 28, 29, 30, 33] [30]) (isE [] []) (locM 0)) (retM (cst (.str "twice"))) (skipM)) (seqM (ifM (isCM (some false) (isE [1, 3, 10, 11, 21, 22, 24, 25, 26, 28, 29, 30, 33] [21]) (isE [] []) (locM 0)) (retM (cst (.str "row"))) (skipM)) (seqM (ifM (isCM (some false) (isE [1, 3, 10, 11, 21, 22, 24, 25, 26, 28, 29, 30, 33] [3]) (isE [] []) (locM 0)) (retM (cst (.str "column"))) (skipM)) (seqM (ifM (isCM (some false) (isE [1, 3, 10, 11, 21, 22, 24, 25, 26, 28, 29, 30, 33] [11]) (isE [] []) (locM 0)) (retM (cst (.str "number"))) (skipM)) (seqM (ifM (isCM (some false) (isE [1, 3, 10, 11, 21, 22, 24, 25, 26, 28, 29, 30, 33] [29]) (isE [] []) (locM 0)) (retM (cst (.str "few"))) (skipM)) (seqM (ifM (isCM (some false) (isE [1, 3, 10, 11, 21, 22, 24, 25, 26, 28, 29, 30, 33] [33]) (isE [] []) (locM 0)) (retM (cst (.str "many"))) (skipM)) (seqM (ifM (isCM (some false) (isE [1, 3, 10, 11, 21, 22, 24, 25, 26, 28, 29, 30, 33] [28]) (isE [] []) (locM 0)) (retM (cst (.str "notnow"))) (skipM)) (retM (iteM (binM isD (locM 0) (cst .non)) (cst .non) (cst (.str "other")))))))))))))
def F__law_kind : MF := defM 1 m__law_kind
/- 0 draw, 1 table, 2 high, 3 land, 4 good, 5 number, 6 way, 7 names, 8 many, 9 lap -/
def m__law_work : MS :=
  seqM (par2 6 7 (valN (callM F__law_take (consA (locM 0) (consA (cst (.int 9)) (nilA)))) (newN (lenA1 (consA (cst (.str "north")) (consA (cst (.str "south")) (consA (cst (.str "east")) (consA (cst (.str "west")) (consA (cst (.str "isle")) (consA (cst (.str "cape")) (consA (cst (.str "cloth")) (consA (cst (.str "wine")) (consA (cst (.str "iron")) (consA (cst (.str "salt")) (consA (cst (.str "grain")) (consA (cst (.str "paper")) (nilA)))))))))))))) (nilN)))) (seqM (setM 3 (callM F__law_pick (consA (locM 0) (consA (lstX (catF (lstX (unF listD (ixPM (locB 1) (cstP (1))))) (lstX (lenA1 (consA (callM F__law_pick (consA (locM 0) (consA (frzM 7) (nilA)))) (nilA)))))) (nilA))))) (seqM (setM 4 (callM F__law_pick (consA (locM 0) (consA (lstX (catF (lstX (unF listD (ixPM (locB 1) (cstP (2))))) (lstX (lenA1 (consA (callM F__law_pick (consA (locM 0) (consA (frzM 7) (nilA)))) (nilA)))))) (nilA))))) (seqM (setM 5 (binM addD (cst (.int 1)) (callM F__law_take (consA (locM 0) (consA (locM 2) (nilA)))))) (seqM (ifM (binM ltD (locM 6) (cst (.int 3))) (retM (tupM (consA (cst (.str "cost")) (consA (locM 3) (consA (locM 4) (consA (locM 5) (nilA))))))) (skipM)) (seqM (ifM (binM eqD (locM 6) (cst (.int 3))) (retM (tupM (consA (cst (.str "hours")) (consA (locM 3) (consA (locM 5) (nilA)))))) (skipM)) (seqM (ifM (binM ltD (locM 6) (cst (.int 6))) (seqM (setM 8 (binM addD (un1 lenD (ixPM (locB 1) (cstP (2)))) (iteM (binM gtD (callM F__law_take (consA (locM 0) (consA (cst (.int 5)) (nilA)))) (cst (.int 0))) (cst (.int 0)) (binM subD (cst (.int 1)) (binM mulD (cst (.int 2)) (callM F__law_take (consA (locM 0) (consA (cst (.int 2)) (nilA))))))))) (retM (tupM (consA (cst (.str "land")) (consA (callM F__law_pick (consA (locM 0) (consA (frzM 7) (nilA)))) (consA (un1 tupD (lstX (compM (rng1 (consA (binM minD (cst (.int 5)) (binM maxD (cst (.int 1)) (locM 8))) (nilA))) [9] (gN 9) (yesM) (binM addD (cst (.int 1)) (callM F__law_take (consA (locM 0) (consA (locM 2) (nilA)))))))) (consA (locM 5) (nilA)))))))) (skipM)) (seqM (ifM (binM eqD (locM 6) (cst (.int 6))) (seqM (setM 8 (binM addD (un1 lenD (ixPM (locB 1) (cstP (1)))) (iteM (binM gtD (callM F__law_take (consA (locM 0) (consA (cst (.int 5)) (nilA)))) (cst (.int 0))) (cst (.int 0)) (binM subD (cst (.int 1)) (binM mulD (cst (.int 2)) (callM F__law_take (consA (locM 0) (consA (cst (.int 2)) (nilA))))))))) (retM (tupM (consA (cst (.str "good")) (consA (callM F__law_pick (consA (locM 0) (consA (frzM 7) (nilA)))) (consA (un1 tupD (lstX (compM (rng1 (consA (binM minD (cst (.int 5)) (binM maxD (cst (.int 1)) (locM 8))) (nilA))) [9] (gN 9) (yesM) (binM addD (cst (.int 1)) (callM F__law_take (consA (locM 0) (consA (locM 2) (nilA)))))))) (nilA))))))) (skipM)) (retM (iteM (binM eqD (locM 6) (cst (.int 7))) (tupM (consA (cst (.str "leave")) (consA (locM 3) (nilA)))) (tupM (consA (cst (.str "drop")) (consA (locM 4) (nilA)))))))))))))
def F__law_work : MF := defM 10 m__law_work
/- 0 script, 1 draw, 2 turn, 3 one, 4 table, 5 lap, 6 again, 7 work, 8 far, 9 book, 10 other, 11 tables, 12 works, 13 gone, 14 twins, 15 way, 16 twin, 17 mine, 18 known, 19 back, 20 word, 21 later -/
def m_law : MS :=
  seqM (setM 1 (callM F__law_begun (consA (locM 0) (nilA)))) (seqM (forM (rng1 (consA (binM addD (cst (.int 2)) (binM minD (un1 lenD (locB 0)) (cst (.int 5)))) (nilA))) (gN 2) (seqM (setM 4 (callM F__law_some_table (consA (locM 1) (consA (cst (.int 4)) (nilA))))) (seqM (asgM (tupM (consA (mkM 60 F_Book___init__ (consA (locM 4) (nilA))) (consA (objX (lenA1 (consA (locM 4) (nilA)))) (consA (objX (lenA1 (nilA))) (consA (objX (lenA1 (nilA))) (consA (objX (lenA1 (nilA))) (nilA))))))) (gT 5 (gsC (gN 9) (gsC (gN 11) (gsC (gN 12) (gsC (gN 13) (gsC (gN 14) (gsN)))))))) (seqM (forM (rng1 (consA (binM addD (cst (.int 10)) (callM F__law_take (consA (locM 1) (consA (cst (.int 8)) (nilA))))) (nilA))) (gN 5) (seqM (setM 15 (callM F__law_take (consA (locM 1) (consA (cst (.int 6)) (nilA))))) (seqM (ifM (binM eqD (locM 15) (cst (.int 0))) (seqM (setM 20 (callM F__law_kind (consA (caughtM xnT (isE [1, 3, 10, 11, 21, 22, 24, 25, 26, 28, 29, 30, 33] [1, 3, 10, 11, 21, 22, 24, 25, 26, 28, 29, 30, 33]) (methM 60 "undo" F_Book_undo (locM 9) nilA)) (nilA)))) (seqM (ifM (eqV true (locM 20) (iteM (emM true (vwM (locM 12))) (cst .non) (cst (.str "notnow")))) (retM (cst (.bl false))) (skipM)) (ifM (emM true (vwM (locM 12))) (exprM (appO (locM 13) (tupM (consA (popO (locM 12)) (consA (popO (locM 11)) (nilA)))))) (skipM)))) (ifM (binM eqD (locM 15) (cst (.int 1))) (seqM (setM 20 (callM F__law_kind (consA (caughtM xnT (isE [1, 3, 10, 11, 21, 22, 24, 25, 26, 28, 29, 30, 33] [1, 3, 10, 11, 21, 22, 24, 25, 26, 28, 29, 30, 33]) (methM 60 "redo" F_Book_redo (locM 9) nilA)) (nilA)))) (seqM (ifM (eqV true (locM 20) (iteM (emM true (vwM (locM 13))) (cst .non) (cst (.str "notnow")))) (retM (cst (.bl false))) (skipM)) (ifM (emM true (vwM (locM 13))) (seqM (asgM (popO (locM 13)) (gT 2 (gsC (gN 7) (gsC (gN 21) (gsN))))) (seqM (exprM (appO (locM 12) (locM 7))) (exprM (appO (locM 11) (locM 21))))) (skipM)))) (ifM (binM eqD (locM 15) (cst (.int 2))) (exprM (appO (locM 14) (tupM (consA (methM 60 "copy" F_Book_copy (locM 9) nilA) (consA (lstX (unF listD (vwM (locM 12)))) (consA (lstX (unF listD (vwM (locM 11)))) (consA (lstX (unF listD (vwM (locM 13)))) (nilA)))))))) (seqM (setM 7 (callM F__law_work (consA (locM 1) (consA (ixPM (vwM (locM 11)) (fun L M => ((cstP (1)) L M).map fun i => -i)) (consA (cst (.int 30)) (nilA)))))) (seqM (asgM (callM F__law_done (consA (ixPM (vwM (locM 11)) (fun L M => ((cstP (1)) L M).map fun i => -i)) (consA (locM 7) (nilA)))) (gT 2 (gsC (gN 20) (gsC (gN 21) (gsN))))) (seqM (ifM (binM neD (callM F__law_kind (consA (caughtM xnT (isE [1, 3, 10, 11, 21, 22, 24, 25, 26, 28, 29, 30, 33] [1, 3, 10, 11, 21, 22, 24, 25, 26, 28, 29, 30, 33]) (methM 60 "do" F_Book_do (locM 9) (consA (locM 7) (nilA)))) (nilA))) (locB 20)) (retM (cst (.bl false))) (skipM)) (ifM (binM isD (locM 20) (cst .non)) (seqM (exprM (appO (locM 12) (locM 7))) (seqM (exprM (appO (locM 11) (locM 21))) (setM 13 (objX (lenA1 (nilA)))))) (skipM)))))))) (ifM (notM (callM F__law_same (consA (lstX (lenA1 (consA (methM 60 "table" F_Book_table (locM 9) nilA) (consA (methM 60 "beginning" F_Book_beginning (locM 9) nilA) (consA (methM 60 "journal" F_Book_journal (locM 9) nilA) (nilA)))))) (consA (lstX (lenA1 (consA (ixPM (vwM (locM 11)) (fun L M => ((cstP (1)) L M).map fun i => -i)) (consA (locM 4) (consA (locM 12) (nilA)))))) (nilA))))) (retM (cst (.bl false))) (skipM))))) (seqM (forO (locM 14) (gT 4 (gsC (gN 16) (gsC (gN 17) (gsC (gN 18) (gsC (gN 19) (gsN)))))) (seqM (ifM (notM (callM F__law_same (consA (lstX (lenA1 (consA (methM 60 "table" F_Book_table (locM 16) nilA) (consA (methM 60 "journal" F_Book_journal (locM 16) nilA) (consA (eqO false 60 F_Book___eq__ (locM 16) (locM 9)) (nilA)))))) (consA (lstX (lenA1 (consA (ixPM (locB 18) (fun L M => ((cstP (1)) L M).map fun i => -i)) (consA (locM 17) (consA (eqV false (locM 17) (locM 12)) (nilA)))))) (nilA))))) (retM (cst (.bl false))) (skipM)) (ifM (emM true (locB 19)) (seqM (exprM (methM 60 "redo" F_Book_redo (locM 16) nilA)) (ifM (notM (callM F__law_same (consA (lstX (lenA1 (consA (methM 60 "table" F_Book_table (locM 16) nilA) (consA (methM 60 "journal" F_Book_journal (locM 16) nilA) (nilA))))) (consA (lstX (lenA1 (consA (ixPM (ixPM (locB 19) (fun L M => ((cstP (1)) L M).map fun i => -i)) (cstP (1))) (consA (lstX (catF (locM 17) (lstX (lenA1 (consA (ixPM (ixPM (locB 19) (fun L M => ((cstP (1)) L M).map fun i => -i)) (cstP (0))) (nilA)))))) (nilA))))) (nilA))))) (retM (cst (.bl false))) (skipM))) (skipM)))) (seqM (setM 6 (mkM 60 F_Book___init__ (consA (locM 4) (nilA)))) (seqM (forO (locM 12) (gN 7) (exprM (methM 60 "do" F_Book_do (locM 6) (consA (locM 7) (nilA))))) (seqM (setM 8 (mkM 60 F_Book___init__ (consA (tupM (consA (cst (.str "table")) (consA (tupM (consA (cst (.str "aa")) (nilA))) (consA (tupM (consA (cst (.str "bb")) (nilA))) (consA (tupM (consA (tupM (consA (cst (.int 1)) (nilA))) (nilA))) (consA (tupM (consA (cst (.int 1)) (nilA))) (nilA))))))) (nilA)))) (ifM (notM (callM F__law_same (consA (lstX (lenA1 (consA (eqO false 60 F_Book___eq__ (locM 6) (locM 9)) (consA (eqO false 60 F_Book___eq__ (locM 8) (locM 9)) (consA (eqO false 60 F_Book___eq__ (locM 9) (methM 60 "copy" F_Book_copy (locM 8) nilA)) (consA (eqO false 60 F_Book___eq__ (mkM 60 F_Book___init__ (consA (locM 4) (nilA))) (locM 9)) (nilA))))))) (consA (lstX (lenA1 (consA (cst (.bl true)) (consA (cst (.bl false)) (consA (cst (.bl false)) (consA (emM false (vwM (locM 12))) (nilA))))))) (nilA))))) (retM (cst (.bl false))) (skipM)))))))))) (seqM (setM 3 (tupM (consA (cst (.str "table")) (consA (tupM (consA (cst (.str "north")) (nilA))) (consA (tupM (consA (cst (.str "wine")) (nilA))) (consA (tupM (consA (tupM (consA (cst (.int 5)) (nilA))) (nilA))) (consA (tupM (consA (cst (.int 9)) (nilA))) (nilA)))))))) (seqM (asgM (tupM (consA (mkM 60 F_Book___init__ (consA (locM 3) (nilA))) (consA (mkM 60 F_Book___init__ (consA (locM 3) (nilA))) (nilA)))) (gT 2 (gsC (gN 9) (gsC (gN 10) (gsN))))) (seqM (exprM (methM 60 "do" F_Book_do (locM 9) (consA (tupM (consA (cst (.str "cost")) (consA (cst (.str "north")) (consA (cst (.str "wine")) (consA (cst (.int 5)) (nilA)))))) (nilA)))) (retM (callM F__law_same (consA (lstX (lenA1 (consA (binM eqD (methM 60 "table" F_Book_table (locM 9) nilA) (locB 3)) (consA (eqO false 60 F_Book___eq__ (locM 9) (locM 10)) (consA (methM 60 "journal" F_Book_journal (locM 9) nilA) (consA (methM 60 "journal" F_Book_journal (locM 10) nilA) (nilA))))))) (consA (lstX (lenA1 (consA (cst (.bl true)) (consA (cst (.bl false)) (consA (lstX (lenA1 (consA (tupM (consA (cst (.str "cost")) (consA (cst (.str "north")) (consA (cst (.str "wine")) (consA (cst (.int 5)) (nilA)))))) (nilA)))) (consA (lstX (lenA1 (nilA))) (nilA))))))) (nilA)))))))))
def F_law : MF := defM 22 m_law
end WK

namespace WK
open KK PySem PySem.Spec PyProof.Rows L2
def top (i : Nat) : Stmt := PySem.Challenge.pw_whomakes_k62_whole_books_through_works.main.body.getD i (.Pass ⟨0, 0, 0, 0⟩)
def mth (i j : Nat) : Stmt := match top i with | .ClassDef (body := b) .. => b.getD j (.Pass ⟨0, 0, 0, 0⟩) | s => s
section
variable {P : Program} {w : World} {K : PySem.W.Frag} {mg : Str → Option Value} {base : Heap} {fa ca : Nat → Addr} {T : List (Addr × Str)} {xn : Nat → Option Str}
abbrev s_is_name : Stmt := top 17
theorem sc_is_name : FnScope ["thing", "sign"] ["thing"] (defScope s_is_name) := ⟨rfl, rfl, rfl, by decide +kernel, rfl, by decide +kernel, by decide +kernel⟩
theorem d_is_name {f : Addr} {fd : FuncData} (F : Fun K "is_name" "is_name" s_is_name f fd) {v_LETTERS : Value} {x_LETTERS : V} {v_KEPT : Value} {x_KEPT : V} (g_LETTERS : mg "LETTERS" = some v_LETTERS) (r_LETTERS : L2.RelV x_LETTERS v_LETTERS) (t_LETTERS : ∀ ρ H, R ⟨K, fa, ca, T⟩ ρ H k_LETTERS x_LETTERS) (g_all : mg "all" = none) (g_isinstance : mg "isinstance" = none) (g_str : mg "str" = none) (g_len : mg "len" = none) (g_KEPT : mg "KEPT" = some v_KEPT) (r_KEPT : L2.RelV x_KEPT v_KEPT) (t_KEPT : ∀ ρ H, R ⟨K, fa, ca, T⟩ ρ H k_KEPT x_KEPT) : FnOk P w K mg base (L2.CX P w) 2 f fd ["thing"] (spF ⟨K, fa, ca, T⟩ xn 1 F_is_name) :=
  fn_ok F sc_is_name fun X W c fn si => (eb_cons (es_if (ew_et (ew_or (et_not (et_val (w_isS c ⟨rfl, g_isinstance⟩ ⟨rfl, g_str⟩ (nv c 0 rfl (by first | exact Or.inl rfl | exact Or.inr (Or.inl rfl) | exact Or.inr (Or.inr rfl)))))) (ew_or (et_not (et_chain od_le od_le ex_int (w_len c ⟨rfl, g_len⟩ (nb c 0 rfl (by first | exact Or.inl rfl | exact Or.inr (Or.inl rfl) | exact Or.inr (Or.inr rfl)))) ex_int)) (ew_one_or (et_cmpB (od_in c) (nv c 0 rfl (by first | exact Or.inl rfl | exact Or.inr (Or.inl rfl) | exact Or.inr (Or.inr rfl))) (exb (w_glob c g_KEPT rfl r_KEPT t_KEPT))))))) (eb_one (es_ret ex_bl)) eb_nil) (eb_one (es_ret (w_all c ⟨rfl, g_all⟩ (exb_ef (ef_lc (own := [("sign", 1)]) c (ei_any c (nv c 0 rfl (by first | exact Or.inl rfl | exact Or.inr (Or.inl rfl) | exact Or.inr (Or.inr rfl)))) ⟨rfl, by decide +kernel, by decide +kernel, by decide +kernel, by decide +kernel⟩ (fun Y c' f_ => (eg_name c' 1 rfl ((by first | exact Or.inl rfl | exact Or.inr ⟨rfl, (fun _ => f_ _) _⟩)))) (fun Y c' => ets_nil) (fun Y c' k_ => (ex_cmpB (od_in c') (nv c' 1 rfl (by first | exact Or.inl rfl | exact Or.inr (Or.inl rfl) | exact Or.inr (Or.inr rfl))) (exb (w_glob c' g_LETTERS rfl r_LETTERS t_LETTERS)))) (by decide)))))))
abbrev s_is_number : Stmt := top 18
theorem sc_is_number : FnScope ["thing", "low", "high"] ["thing", "low", "high"] (defScope s_is_number) := ⟨rfl, rfl, rfl, by decide +kernel, rfl, by decide +kernel, by decide +kernel⟩
theorem d_is_number {f : Addr} {fd : FuncData} (F : Fun K "is_number" "is_number" s_is_number f fd)  (g_isinstance : mg "isinstance" = none) (g_bool : mg "bool" = none) (g_int : mg "int" = none) : FnOk P w K mg base (L2.CX P w) 2 f fd ["thing", "low", "high"] (spF ⟨K, fa, ca, T⟩ xn 3 F_is_number) :=
  fn_ok F sc_is_number fun X W c fn si => (eb_cons (es_if (ew_et (ew_or (et_val (w_isB c ⟨rfl, g_isinstance⟩ ⟨rfl, g_bool⟩ (nv c 0 rfl (by first | exact Or.inl rfl | exact Or.inr (Or.inl rfl) | exact Or.inr (Or.inr rfl))))) (ew_one_or (et_not (et_val (w_isI c ⟨rfl, g_isinstance⟩ ⟨rfl, g_int⟩ (nv c 0 rfl (by first | exact Or.inl rfl | exact Or.inr (Or.inl rfl) | exact Or.inr (Or.inr rfl))))))))) (eb_one (es_ret ex_bl)) eb_nil) (eb_one (es_ret (ex_and (ex_cmpB od_ge (nv c 0 rfl (by first | exact Or.inl rfl | exact Or.inr (Or.inl rfl) | exact Or.inr (Or.inr rfl))) (nb c 1 rfl (by first | exact Or.inl rfl | exact Or.inr (Or.inl rfl) | exact Or.inr (Or.inr rfl)))) (ex_one (ex_or (ex_cmpB od_is (nv c 2 rfl (by first | exact Or.inl rfl | exact Or.inr (Or.inl rfl) | exact Or.inr (Or.inr rfl))) (exb ex_non)) (ex_one (ex_cmpB od_le (nv c 0 rfl (by first | exact Or.inl rfl | exact Or.inr (Or.inl rfl) | exact Or.inr (Or.inr rfl))) (nb c 2 rfl (by first | exact Or.inl rfl | exact Or.inr (Or.inl rfl) | exact Or.inr (Or.inr rfl)))))))))))
abbrev s_is_word : Stmt := top 19
theorem sc_is_word : FnScope ["thing", "words"] ["thing", "words"] (defScope s_is_word) := ⟨rfl, rfl, rfl, by decide +kernel, rfl, by decide +kernel, by decide +kernel⟩
theorem d_is_word {f : Addr} {fd : FuncData} (F : Fun K "is_word" "is_word" s_is_word f fd)  (g_isinstance : mg "isinstance" = none) (g_str : mg "str" = none) : FnOk P w K mg base (L2.CX P w) 2 f fd ["thing", "words"] (spF ⟨K, fa, ca, T⟩ xn 2 F_is_word) :=
  fn_ok F sc_is_word fun X W c fn si => (eb_one (es_ret (ex_and (w_isS c ⟨rfl, g_isinstance⟩ ⟨rfl, g_str⟩ (nv c 0 rfl (by first | exact Or.inl rfl | exact Or.inr (Or.inl rfl) | exact Or.inr (Or.inr rfl)))) (ex_one (ex_cmpB (od_in c) (nv c 0 rfl (by first | exact Or.inl rfl | exact Or.inr (Or.inl rfl) | exact Or.inr (Or.inr rfl))) (nb c 1 rfl (by first | exact Or.inl rfl | exact Or.inr (Or.inl rfl) | exact Or.inr (Or.inr rfl))))))))
abbrev s_is_row : Stmt := top 20
theorem sc_is_row : FnScope ["thing", "many"] ["thing", "many"] (defScope s_is_row) := ⟨rfl, rfl, rfl, by decide +kernel, rfl, by decide +kernel, by decide +kernel⟩
theorem d_is_row {f : Addr} {fd : FuncData} (F : Fun K "is_row" "is_row" s_is_row f fd)  (g_isinstance : mg "isinstance" = none) (g_tuple : mg "tuple" = none) (g_len : mg "len" = none) : FnOk P w K mg base (L2.CX P w) 2 f fd ["thing", "many"] (spF ⟨K, fa, ca, T⟩ xn 2 F_is_row) :=
  fn_ok F sc_is_row fun X W c fn si => (eb_one (es_ret (ex_and (w_isT c ⟨rfl, g_isinstance⟩ ⟨rfl, g_tuple⟩ (nv c 0 rfl (by first | exact Or.inl rfl | exact Or.inr (Or.inl rfl) | exact Or.inr (Or.inr rfl)))) (ex_one (ex_cmpB (od_eq c) (w_len c ⟨rfl, g_len⟩ (nb c 0 rfl (by first | exact Or.inl rfl | exact Or.inr (Or.inl rfl) | exact Or.inr (Or.inr rfl)))) (nb c 1 rfl (by first | exact Or.inl rfl | exact Or.inr (Or.inl rfl) | exact Or.inr (Or.inr rfl))))))))
abbrev s_are_ascending : Stmt := top 21
theorem sc_are_ascending : FnScope ["things", "k"] ["things"] (defScope s_are_ascending) := ⟨rfl, rfl, rfl, by decide +kernel, rfl, by decide +kernel, by decide +kernel⟩
theorem d_are_ascending {f : Addr} {fd : FuncData} (F : Fun K "are_ascending" "are_ascending" s_are_ascending f fd)  (g_len : mg "len" = none) (g_range : mg "range" = none) (g_all : mg "all" = none) : FnOk P w K mg base (L2.CX P w) 2 f fd ["things"] (spF ⟨K, fa, ca, T⟩ xn 1 F_are_ascending) :=
  fn_ok F sc_are_ascending fun X W c fn si => (eb_one (es_ret (w_all c ⟨rfl, g_all⟩ (exb_ef (ef_lc (own := [("k", 1)]) c (ei_range1 c rfl g_range (ea_cons (ex_binB od_sub (w_len c ⟨rfl, g_len⟩ (nb c 0 rfl (by first | exact Or.inl rfl | exact Or.inr (Or.inl rfl) | exact Or.inr (Or.inr rfl)))) (exb ex_int)) ea_nil)) ⟨rfl, by decide +kernel, by decide +kernel, by decide +kernel, by decide +kernel⟩ (fun Y c' f_ => (eg_name c' 1 rfl ((by first | exact Or.inl rfl | exact Or.inr ⟨rfl, (fun _ => f_ _) _⟩)))) (fun Y c' => ets_nil) (fun Y c' k_ => (ex_cmpB od_lt (ex_ix c' (nb c' 0 rfl (by first | exact Or.inl rfl | exact Or.inr (Or.inl rfl) | exact Or.inr (Or.inr rfl))) (ep_loc c' 1 rfl (by first | exact Or.inl rfl | exact Or.inr (Or.inl rfl) | exact Or.inr (Or.inr rfl))) (fun _ _ => rfl)) (exb (ex_ix c' (nb c' 0 rfl (by first | exact Or.inl rfl | exact Or.inr (Or.inl rfl) | exact Or.inr (Or.inr rfl))) (ep_add (ep_loc c' 1 rfl (by first | exact Or.inl rfl | exact Or.inr (Or.inl rfl) | exact Or.inr (Or.inr rfl))) ep_int) (fun _ _ => rfl))))) (by decide))))))
abbrev s_are_numbers : Stmt := top 22
theorem sc_are_numbers : FnScope ["thing", "many", "low", "high", "one"] ["thing", "many", "low", "high"] (defScope s_are_numbers) := ⟨rfl, rfl, rfl, by decide +kernel, rfl, by decide +kernel, by decide +kernel⟩
theorem d_are_numbers {f : Addr} {fd : FuncData} (F : Fun K "are_numbers" "are_numbers" s_are_numbers f fd)  (h_is_row : FnF ⟨P, w, mg, base, ⟨K, fa, ca, T⟩, xn⟩ 20 "is_row" ["thing", "many"] 2 F_is_row) (h_is_number : FnF ⟨P, w, mg, base, ⟨K, fa, ca, T⟩, xn⟩ 18 "is_number" ["thing", "low", "high"] 2 F_is_number) (g_all : mg "all" = none) : FnOk P w K mg base (L2.CX P w) 4 f fd ["thing", "many", "low", "high"] (spF ⟨K, fa, ca, T⟩ xn 4 F_are_numbers) :=
  fn_ok F sc_are_numbers fun X W c fn si => (eb_one (es_ret (ex_and (ex_call c h_is_row (by decide) (ea_cons (nv c 0 rfl (by first | exact Or.inl rfl | exact Or.inr (Or.inl rfl) | exact Or.inr (Or.inr rfl))) (ea_cons (nv c 1 rfl (by first | exact Or.inl rfl | exact Or.inr (Or.inl rfl) | exact Or.inr (Or.inr rfl))) ea_nil)) (len_cons (len_cons len_nil)) rfl) (ex_one (w_all c ⟨rfl, g_all⟩ (exb_ef (ef_lc (own := [("one", 4)]) c (ei_any c (nv c 0 rfl (by first | exact Or.inl rfl | exact Or.inr (Or.inl rfl) | exact Or.inr (Or.inr rfl)))) ⟨rfl, by decide +kernel, by decide +kernel, by decide +kernel, by decide +kernel⟩ (fun Y c' f_ => (eg_name c' 4 rfl ((by first | exact Or.inl rfl | exact Or.inr ⟨rfl, (fun _ => f_ _) _⟩)))) (fun Y c' => ets_nil) (fun Y c' k_ => (ex_call c' h_is_number (by decide) (ea_cons (nv c' 4 rfl (by first | exact Or.inl rfl | exact Or.inr (Or.inl rfl) | exact Or.inr (Or.inr rfl))) (ea_cons (nv c' 2 rfl (by first | exact Or.inl rfl | exact Or.inr (Or.inl rfl) | exact Or.inr (Or.inr rfl))) (ea_cons (nv c' 3 rfl (by first | exact Or.inl rfl | exact Or.inr (Or.inl rfl) | exact Or.inr (Or.inr rfl))) ea_nil))) (len_cons (len_cons (len_cons len_nil))) rfl)) (by decide))))))))
abbrev s_are_names : Stmt := top 26
theorem sc_are_names : FnScope ["thing", "name"] ["thing"] (defScope s_are_names) := ⟨rfl, rfl, rfl, by decide +kernel, rfl, by decide +kernel, by decide +kernel⟩
theorem d_are_names {f : Addr} {fd : FuncData} (F : Fun K "are_names" "are_names" s_are_names f fd) {v_MOST : Value} {x_MOST : V} (h_are_ascending : FnF ⟨P, w, mg, base, ⟨K, fa, ca, T⟩, xn⟩ 21 "are_ascending" ["things"] 2 F_are_ascending) (g_isinstance : mg "isinstance" = none) (g_tuple : mg "tuple" = none) (g_len : mg "len" = none) (g_MOST : mg "MOST" = some v_MOST) (r_MOST : L2.RelV x_MOST v_MOST) (t_MOST : ∀ ρ H, R ⟨K, fa, ca, T⟩ ρ H k_MOST x_MOST) (h_is_name : FnF ⟨P, w, mg, base, ⟨K, fa, ca, T⟩, xn⟩ 17 "is_name" ["thing"] 2 F_is_name) (g_all : mg "all" = none) : FnOk P w K mg base (L2.CX P w) 4 f fd ["thing"] (spF ⟨K, fa, ca, T⟩ xn 1 F_are_names) :=
  fn_ok F sc_are_names fun X W c fn si => (eb_cons (es_if (ew_et (ew_or (et_not (et_val (w_isT c ⟨rfl, g_isinstance⟩ ⟨rfl, g_tuple⟩ (nv c 0 rfl (by first | exact Or.inl rfl | exact Or.inr (Or.inl rfl) | exact Or.inr (Or.inr rfl)))))) (ew_or (et_not (et_chain od_le od_le ex_int (w_len c ⟨rfl, g_len⟩ (nb c 0 rfl (by first | exact Or.inl rfl | exact Or.inr (Or.inl rfl) | exact Or.inr (Or.inr rfl)))) (w_glob c g_MOST rfl r_MOST t_MOST))) (ew_one_or (et_not (et_val (w_all c ⟨rfl, g_all⟩ (exb_ef (ef_lc (own := [("name", 1)]) c (ei_any c (nv c 0 rfl (by first | exact Or.inl rfl | exact Or.inr (Or.inl rfl) | exact Or.inr (Or.inr rfl)))) ⟨rfl, by decide +kernel, by decide +kernel, by decide +kernel, by decide +kernel⟩ (fun Y c' f_ => (eg_name c' 1 rfl ((by first | exact Or.inl rfl | exact Or.inr ⟨rfl, (fun _ => f_ _) _⟩)))) (fun Y c' => ets_nil) (fun Y c' k_ => (ex_call c' h_is_name (by decide) (ea_cons (nv c' 1 rfl (by first | exact Or.inl rfl | exact Or.inr (Or.inl rfl) | exact Or.inr (Or.inr rfl))) ea_nil) (len_cons len_nil) rfl)) (by decide)))))))))) (eb_one (es_ret ex_bl)) eb_nil) (eb_one (es_ret (ex_call c h_are_ascending (by decide) (ea_cons (nv c 0 rfl (by first | exact Or.inl rfl | exact Or.inr (Or.inl rfl) | exact Or.inr (Or.inr rfl))) ea_nil) (len_cons len_nil) rfl))))
abbrev s_is_table : Stmt := top 27
theorem sc_is_table : FnScope ["thing", "name", "row"] ["thing"] (defScope s_is_table) := ⟨rfl, rfl, rfl, by decide +kernel, rfl, by decide +kernel, by decide +kernel⟩
theorem d_is_table {f : Addr} {fd : FuncData} (F : Fun K "is_table" "is_table" s_is_table f fd) {v_HIGH : Value} {x_HIGH : V} (g_HIGH : mg "HIGH" = some v_HIGH) (r_HIGH : L2.RelV x_HIGH v_HIGH) (t_HIGH : ∀ ρ H, R ⟨K, fa, ca, T⟩ ρ H k_HIGH x_HIGH) (g_len : mg "len" = none) (h_are_numbers : FnF ⟨P, w, mg, base, ⟨K, fa, ca, T⟩, xn⟩ 22 "are_numbers" ["thing", "many", "low", "high"] 4 F_are_numbers) (g_all : mg "all" = none) (g_any : mg "any" = none) (h_is_row : FnF ⟨P, w, mg, base, ⟨K, fa, ca, T⟩, xn⟩ 20 "is_row" ["thing", "many"] 2 F_is_row) (h_is_word : FnF ⟨P, w, mg, base, ⟨K, fa, ca, T⟩, xn⟩ 19 "is_word" ["thing", "words"] 2 F_is_word) (h_are_names : FnF ⟨P, w, mg, base, ⟨K, fa, ca, T⟩, xn⟩ 26 "are_names" ["thing"] 4 F_are_names) : FnOk P w K mg base (L2.CX P w) 6 f fd ["thing"] (spF ⟨K, fa, ca, T⟩ xn 1 F_is_table) :=
  fn_ok F sc_is_table fun X W c fn si => (eb_cons (es_if (ew_et (ew_or (et_not (et_val (ex_call c h_is_row (by decide) (ea_cons (nv c 0 rfl (by first | exact Or.inl rfl | exact Or.inr (Or.inl rfl) | exact Or.inr (Or.inr rfl))) (ea_cons ex_int ea_nil)) (len_cons (len_cons len_nil)) rfl))) (ew_or (et_not (et_val (ex_call c h_is_word (by decide) (ea_cons (ex_ix c (nb c 0 rfl (by first | exact Or.inl rfl | exact Or.inr (Or.inl rfl) | exact Or.inr (Or.inr rfl))) ep_int (fun _ _ => rfl)) (ea_cons (ex_tup (ea_cons ex_str ea_nil)) ea_nil)) (len_cons (len_cons len_nil)) rfl))) (ew_or (et_not (et_val (ex_call c h_are_names (by decide) (ea_cons (ex_ix c (nb c 0 rfl (by first | exact Or.inl rfl | exact Or.inr (Or.inl rfl) | exact Or.inr (Or.inr rfl))) ep_int (fun _ _ => rfl)) ea_nil) (len_cons len_nil) rfl))) (ew_one_or (et_not (et_val (ex_call c h_are_names (by decide) (ea_cons (ex_ix c (nb c 0 rfl (by first | exact Or.inl rfl | exact Or.inr (Or.inl rfl) | exact Or.inr (Or.inr rfl))) ep_int (fun _ _ => rfl)) ea_nil) (len_cons len_nil) rfl)))))))) (eb_one (es_ret ex_bl)) eb_nil) (eb_cons (es_if (ew_et (ew_or (et_val (w_any c ⟨rfl, g_any⟩ (exb_ef (ef_lc (own := [("name", 1)]) c (ei_any c (ex_ix c (nb c 0 rfl (by first | exact Or.inl rfl | exact Or.inr (Or.inl rfl) | exact Or.inr (Or.inr rfl))) ep_int (fun _ _ => rfl))) ⟨rfl, by decide +kernel, by decide +kernel, by decide +kernel, by decide +kernel⟩ (fun Y c' f_ => (eg_name c' 1 rfl ((by first | exact Or.inl rfl | exact Or.inr ⟨rfl, (fun _ => f_ _) _⟩)))) (fun Y c' => ets_nil) (fun Y c' k_ => (ex_cmpB (od_in c') (nv c' 1 rfl (by first | exact Or.inl rfl | exact Or.inr (Or.inl rfl) | exact Or.inr (Or.inr rfl))) (exb (ex_ix c' (nb c' 0 rfl (by first | exact Or.inl rfl | exact Or.inr (Or.inl rfl) | exact Or.inr (Or.inr rfl))) ep_int (fun _ _ => rfl))))) (by decide))))) (ew_one_or (et_not (et_val (ex_call c h_is_row (by decide) (ea_cons (ex_ix c (nb c 0 rfl (by first | exact Or.inl rfl | exact Or.inr (Or.inl rfl) | exact Or.inr (Or.inr rfl))) ep_int (fun _ _ => rfl)) (ea_cons (w_len c ⟨rfl, g_len⟩ (exb (ex_ix c (nb c 0 rfl (by first | exact Or.inl rfl | exact Or.inr (Or.inl rfl) | exact Or.inr (Or.inr rfl))) ep_int (fun _ _ => rfl)))) ea_nil)) (len_cons (len_cons len_nil)) rfl)))))) (eb_one (es_ret ex_bl)) eb_nil) (eb_cons (es_if (et_not (et_val (w_all c ⟨rfl, g_all⟩ (exb_ef (ef_lc (own := [("row", 2)]) c (ei_any c (ex_ix c (nb c 0 rfl (by first | exact Or.inl rfl | exact Or.inr (Or.inl rfl) | exact Or.inr (Or.inr rfl))) ep_int (fun _ _ => rfl))) ⟨rfl, by decide +kernel, by decide +kernel, by decide +kernel, by decide +kernel⟩ (fun Y c' f_ => (eg_name c' 2 rfl ((by first | exact Or.inl rfl | exact Or.inr ⟨rfl, (fun _ => f_ _) _⟩)))) (fun Y c' => ets_nil) (fun Y c' k_ => (ex_call c' h_are_numbers (by decide) (ea_cons (nv c' 2 rfl (by first | exact Or.inl rfl | exact Or.inr (Or.inl rfl) | exact Or.inr (Or.inr rfl))) (ea_cons (w_len c' ⟨rfl, g_len⟩ (exb (ex_ix c' (nb c' 0 rfl (by first | exact Or.inl rfl | exact Or.inr (Or.inl rfl) | exact Or.inr (Or.inr rfl))) ep_int (fun _ _ => rfl)))) (ea_cons ex_int (ea_cons (w_glob c' g_HIGH rfl r_HIGH t_HIGH) ea_nil)))) (len_cons (len_cons (len_cons (len_cons len_nil)))) rfl)) (by decide)))))) (eb_one (es_ret ex_bl)) eb_nil) (eb_one (es_ret (ex_call c h_are_numbers (by decide) (ea_cons (ex_ix c (nb c 0 rfl (by first | exact Or.inl rfl | exact Or.inr (Or.inl rfl) | exact Or.inr (Or.inr rfl))) ep_int (fun _ _ => rfl)) (ea_cons (w_len c ⟨rfl, g_len⟩ (exb (ex_ix c (nb c 0 rfl (by first | exact Or.inl rfl | exact Or.inr (Or.inl rfl) | exact Or.inr (Or.inr rfl))) ep_int (fun _ _ => rfl)))) (ea_cons ex_int (ea_cons (w_glob c g_HIGH rfl r_HIGH t_HIGH) ea_nil)))) (len_cons (len_cons (len_cons (len_cons len_nil)))) rfl))))))
abbrev s_check_table : Stmt := top 28
theorem sc_check_table : FnScope ["table"] ["table"] (defScope s_check_table) := ⟨rfl, rfl, rfl, by decide +kernel, rfl, by decide +kernel, by decide +kernel⟩
theorem d_check_table {f : Addr} {fd : FuncData} (F : Fun K "check_table" "check_table" s_check_table f fd)  (h_is_table : FnF ⟨P, w, mg, base, ⟨K, fa, ca, T⟩, xn⟩ 27 "is_table" ["thing"] 6 F_is_table) (e_BadTable : ExcF ⟨P, w, mg, base, ⟨K, fa, ca, T⟩, xn⟩ 22 "BadTable") : FnOk P w K mg base (L2.CX P w) 8 f fd ["table"] (spF ⟨K, fa, ca, T⟩ xn 1 F_check_table) :=
  fn_ok F sc_check_table fun X W c fn si => (eb_one (es_if (et_not (et_val (ex_call c h_is_table (by decide) (ea_cons (nv c 0 rfl (by first | exact Or.inl rfl | exact Or.inr (Or.inl rfl) | exact Or.inr (Or.inr rfl))) ea_nil) (len_cons len_nil) rfl))) (eb_one (es_raise c e_BadTable rfl)) eb_nil))
abbrev s_check_land : Stmt := top 29
theorem sc_check_land : FnScope ["table", "land"] ["table", "land"] (defScope s_check_land) := ⟨rfl, rfl, rfl, by decide +kernel, rfl, by decide +kernel, by decide +kernel⟩
theorem d_check_land {f : Addr} {fd : FuncData} (F : Fun K "check_land" "check_land" s_check_land f fd)  (h_is_word : FnF ⟨P, w, mg, base, ⟨K, fa, ca, T⟩, xn⟩ 19 "is_word" ["thing", "words"] 2 F_is_word) (e_NoLand : ExcF ⟨P, w, mg, base, ⟨K, fa, ca, T⟩, xn⟩ 26 "NoLand") : FnOk P w K mg base (L2.CX P w) 4 f fd ["table", "land"] (spF ⟨K, fa, ca, T⟩ xn 2 F_check_land) :=
  fn_ok F sc_check_land fun X W c fn si => (eb_one (es_if (et_not (et_val (ex_call c h_is_word (by decide) (ea_cons (nv c 1 rfl (by first | exact Or.inl rfl | exact Or.inr (Or.inl rfl) | exact Or.inr (Or.inr rfl))) (ea_cons (ex_ix c (nb c 0 rfl (by first | exact Or.inl rfl | exact Or.inr (Or.inl rfl) | exact Or.inr (Or.inr rfl))) ep_int (fun _ _ => rfl)) ea_nil)) (len_cons (len_cons len_nil)) rfl))) (eb_one (es_raise c e_NoLand rfl)) eb_nil))
abbrev s_check_good : Stmt := top 30
theorem sc_check_good : FnScope ["table", "good"] ["table", "good"] (defScope s_check_good) := ⟨rfl, rfl, rfl, by decide +kernel, rfl, by decide +kernel, by decide +kernel⟩
theorem d_check_good {f : Addr} {fd : FuncData} (F : Fun K "check_good" "check_good" s_check_good f fd)  (h_is_word : FnF ⟨P, w, mg, base, ⟨K, fa, ca, T⟩, xn⟩ 19 "is_word" ["thing", "words"] 2 F_is_word) (e_NoGood : ExcF ⟨P, w, mg, base, ⟨K, fa, ca, T⟩, xn⟩ 25 "NoGood") : FnOk P w K mg base (L2.CX P w) 4 f fd ["table", "good"] (spF ⟨K, fa, ca, T⟩ xn 2 F_check_good) :=
  fn_ok F sc_check_good fun X W c fn si => (eb_one (es_if (et_not (et_val (ex_call c h_is_word (by decide) (ea_cons (nv c 1 rfl (by first | exact Or.inl rfl | exact Or.inr (Or.inl rfl) | exact Or.inr (Or.inr rfl))) (ea_cons (ex_ix c (nb c 0 rfl (by first | exact Or.inl rfl | exact Or.inr (Or.inl rfl) | exact Or.inr (Or.inr rfl))) ep_int (fun _ _ => rfl)) ea_nil)) (len_cons (len_cons len_nil)) rfl))) (eb_one (es_raise c e_NoGood rfl)) eb_nil))
abbrev s_check_number : Stmt := top 32
theorem sc_check_number : FnScope ["number"] ["number"] (defScope s_check_number) := ⟨rfl, rfl, rfl, by decide +kernel, rfl, by decide +kernel, by decide +kernel⟩
theorem d_check_number {f : Addr} {fd : FuncData} (F : Fun K "check_number" "check_number" s_check_number f fd) {v_HIGH : Value} {x_HIGH : V} (g_HIGH : mg "HIGH" = some v_HIGH) (r_HIGH : L2.RelV x_HIGH v_HIGH) (t_HIGH : ∀ ρ H, R ⟨K, fa, ca, T⟩ ρ H k_HIGH x_HIGH) (h_is_number : FnF ⟨P, w, mg, base, ⟨K, fa, ca, T⟩, xn⟩ 18 "is_number" ["thing", "low", "high"] 2 F_is_number) (e_BadNumber : ExcF ⟨P, w, mg, base, ⟨K, fa, ca, T⟩, xn⟩ 11 "BadNumber") : FnOk P w K mg base (L2.CX P w) 4 f fd ["number"] (spF ⟨K, fa, ca, T⟩ xn 1 F_check_number) :=
  fn_ok F sc_check_number fun X W c fn si => (eb_one (es_if (et_not (et_val (ex_call c h_is_number (by decide) (ea_cons (nv c 0 rfl (by first | exact Or.inl rfl | exact Or.inr (Or.inl rfl) | exact Or.inr (Or.inr rfl))) (ea_cons ex_int (ea_cons (w_glob c g_HIGH rfl r_HIGH t_HIGH) ea_nil))) (len_cons (len_cons (len_cons len_nil))) rfl))) (eb_one (es_raise c e_BadNumber rfl)) eb_nil))
abbrev s_put : Stmt := top 33
theorem sc_put : FnScope ["row", "k", "item"] ["row", "k", "item"] (defScope s_put) := ⟨rfl, rfl, rfl, by decide +kernel, rfl, by decide +kernel, by decide +kernel⟩
theorem d_put {f : Addr} {fd : FuncData} (F : Fun K "put" "put" s_put f fd)   : FnOk P w K mg base (L2.CX P w) 2 f fd ["row", "k", "item"] (spF ⟨K, fa, ca, T⟩ xn 3 F_put) :=
  fn_ok F sc_put fun X W c fn si => (eb_one (es_ret (ex_binB (od_add c) (ex_binB (od_add c) (ex_sl c (nb c 0 rfl (by first | exact Or.inl rfl | exact Or.inr (Or.inl rfl) | exact Or.inr (Or.inr rfl))) epo_no (epo_so (ep_loc c 1 rfl (by first | exact Or.inl rfl | exact Or.inr (Or.inl rfl) | exact Or.inr (Or.inr rfl))))) (exb (ex_tup (ea_cons (nv c 2 rfl (by first | exact Or.inl rfl | exact Or.inr (Or.inl rfl) | exact Or.inr (Or.inr rfl))) ea_nil)))) (exb (ex_sl c (nb c 0 rfl (by first | exact Or.inl rfl | exact Or.inr (Or.inl rfl) | exact Or.inr (Or.inr rfl))) (epo_so (ep_add (ep_loc c 1 rfl (by first | exact Or.inl rfl | exact Or.inr (Or.inl rfl) | exact Or.inr (Or.inr rfl))) ep_int)) epo_no)))))
abbrev s_put_in : Stmt := top 34
theorem sc_put_in : FnScope ["row", "k", "item"] ["row", "k", "item"] (defScope s_put_in) := ⟨rfl, rfl, rfl, by decide +kernel, rfl, by decide +kernel, by decide +kernel⟩
theorem d_put_in {f : Addr} {fd : FuncData} (F : Fun K "put_in" "put_in" s_put_in f fd)   : FnOk P w K mg base (L2.CX P w) 2 f fd ["row", "k", "item"] (spF ⟨K, fa, ca, T⟩ xn 3 F_put_in) :=
  fn_ok F sc_put_in fun X W c fn si => (eb_one (es_ret (ex_binB (od_add c) (ex_binB (od_add c) (ex_sl c (nb c 0 rfl (by first | exact Or.inl rfl | exact Or.inr (Or.inl rfl) | exact Or.inr (Or.inr rfl))) epo_no (epo_so (ep_loc c 1 rfl (by first | exact Or.inl rfl | exact Or.inr (Or.inl rfl) | exact Or.inr (Or.inr rfl))))) (exb (ex_tup (ea_cons (nv c 2 rfl (by first | exact Or.inl rfl | exact Or.inr (Or.inl rfl) | exact Or.inr (Or.inr rfl))) ea_nil)))) (exb (ex_sl c (nb c 0 rfl (by first | exact Or.inl rfl | exact Or.inr (Or.inl rfl) | exact Or.inr (Or.inr rfl))) (epo_so (ep_loc c 1 rfl (by first | exact Or.inl rfl | exact Or.inr (Or.inl rfl) | exact Or.inr (Or.inr rfl)))) epo_no)))))
abbrev s_with_cost : Stmt := top 35
theorem sc_with_cost : FnScope ["table", "land", "good", "number", "k", "j"] ["table", "land", "good", "number"] (defScope s_with_cost) := ⟨rfl, rfl, rfl, by decide +kernel, rfl, by decide +kernel, by decide +kernel⟩
theorem d_with_cost {f : Addr} {fd : FuncData} (F : Fun K "with_cost" "with_cost" s_with_cost f fd)  (h_put : FnF ⟨P, w, mg, base, ⟨K, fa, ca, T⟩, xn⟩ 33 "put" ["row", "k", "item"] 2 F_put) (h_check_number : FnF ⟨P, w, mg, base, ⟨K, fa, ca, T⟩, xn⟩ 32 "check_number" ["number"] 4 F_check_number) (h_check_good : FnF ⟨P, w, mg, base, ⟨K, fa, ca, T⟩, xn⟩ 30 "check_good" ["table", "good"] 4 F_check_good) (h_check_land : FnF ⟨P, w, mg, base, ⟨K, fa, ca, T⟩, xn⟩ 29 "check_land" ["table", "land"] 4 F_check_land) (h_check_table : FnF ⟨P, w, mg, base, ⟨K, fa, ca, T⟩, xn⟩ 28 "check_table" ["table"] 8 F_check_table) : FnOk P w K mg base (L2.CX P w) 10 f fd ["table", "land", "good", "number"] (spF ⟨K, fa, ca, T⟩ xn 4 F_with_cost) :=
  fn_ok F sc_with_cost fun X W c fn si => (eb_cons (es_expr (ex_call c h_check_table (by decide) (ea_cons (nv c 0 rfl (by first | exact Or.inl rfl | exact Or.inr (Or.inl rfl) | exact Or.inr (Or.inr rfl))) ea_nil) (len_cons len_nil) rfl)) (eb_cons (es_expr (ex_call c h_check_land (by decide) (ea_cons (nv c 0 rfl (by first | exact Or.inl rfl | exact Or.inr (Or.inl rfl) | exact Or.inr (Or.inr rfl))) (ea_cons (nv c 1 rfl (by first | exact Or.inl rfl | exact Or.inr (Or.inl rfl) | exact Or.inr (Or.inr rfl))) ea_nil)) (len_cons (len_cons len_nil)) rfl)) (eb_cons (es_expr (ex_call c h_check_good (by decide) (ea_cons (nv c 0 rfl (by first | exact Or.inl rfl | exact Or.inr (Or.inl rfl) | exact Or.inr (Or.inr rfl))) (ea_cons (nv c 2 rfl (by first | exact Or.inl rfl | exact Or.inr (Or.inl rfl) | exact Or.inr (Or.inr rfl))) ea_nil)) (len_cons (len_cons len_nil)) rfl)) (eb_cons (es_expr (ex_call c h_check_number (by decide) (ea_cons (nv c 3 rfl (by first | exact Or.inl rfl | exact Or.inr (Or.inl rfl) | exact Or.inr (Or.inr rfl))) ea_nil) (len_cons len_nil) rfl)) (eb_cons (es_par2 c 4 5 (by decide) (en_val (ex_index c (ex_ix c (nb c 0 rfl (by first | exact Or.inl rfl | exact Or.inr (Or.inl rfl) | exact Or.inr (Or.inr rfl))) ep_int (fun _ _ => rfl)) (nv c 1 rfl (by first | exact Or.inl rfl | exact Or.inr (Or.inl rfl) | exact Or.inr (Or.inr rfl)))) (en_val (ex_index c (ex_ix c (nb c 0 rfl (by first | exact Or.inl rfl | exact Or.inr (Or.inl rfl) | exact Or.inr (Or.inr rfl))) ep_int (fun _ _ => rfl)) (nv c 2 rfl (by first | exact Or.inl rfl | exact Or.inr (Or.inl rfl) | exact Or.inr (Or.inr rfl)))) en_nil)) rfl rfl rfl rfl (fun _ => rfl)) (eb_one (es_ret (ex_binB (od_add c) (ex_sl c (nb c 0 rfl (by first | exact Or.inl rfl | exact Or.inr (Or.inl rfl) | exact Or.inr (Or.inr rfl))) epo_no (epo_so ep_int)) (exb (ex_tup (ea_cons (ex_call c h_put (by decide) (ea_cons (ex_ix c (nb c 0 rfl (by first | exact Or.inl rfl | exact Or.inr (Or.inl rfl) | exact Or.inr (Or.inr rfl))) ep_int (fun _ _ => rfl)) (ea_cons (nv c 4 rfl (by first | exact Or.inl rfl | exact Or.inr (Or.inl rfl) | exact Or.inr (Or.inr rfl))) (ea_cons (ex_call c h_put (by decide) (ea_cons (ex_ix c (exb (ex_ix c (nb c 0 rfl (by first | exact Or.inl rfl | exact Or.inr (Or.inl rfl) | exact Or.inr (Or.inr rfl))) ep_int (fun _ _ => rfl))) (ep_loc c 4 rfl (by first | exact Or.inl rfl | exact Or.inr (Or.inl rfl) | exact Or.inr (Or.inr rfl))) (fun _ _ => rfl)) (ea_cons (nv c 5 rfl (by first | exact Or.inl rfl | exact Or.inr (Or.inl rfl) | exact Or.inr (Or.inr rfl))) (ea_cons (nv c 3 rfl (by first | exact Or.inl rfl | exact Or.inr (Or.inl rfl) | exact Or.inr (Or.inr rfl))) ea_nil))) (len_cons (len_cons (len_cons len_nil))) rfl) ea_nil))) (len_cons (len_cons (len_cons len_nil))) rfl) (ea_cons (ex_ix c (nb c 0 rfl (by first | exact Or.inl rfl | exact Or.inr (Or.inl rfl) | exact Or.inr (Or.inr rfl))) ep_int (fun _ _ => rfl)) ea_nil))))))))))))
abbrev s_with_hours : Stmt := top 36
theorem sc_with_hours : FnScope ["table", "land", "number"] ["table", "land", "number"] (defScope s_with_hours) := ⟨rfl, rfl, rfl, by decide +kernel, rfl, by decide +kernel, by decide +kernel⟩
theorem d_with_hours {f : Addr} {fd : FuncData} (F : Fun K "with_hours" "with_hours" s_with_hours f fd)  (h_put : FnF ⟨P, w, mg, base, ⟨K, fa, ca, T⟩, xn⟩ 33 "put" ["row", "k", "item"] 2 F_put) (h_check_number : FnF ⟨P, w, mg, base, ⟨K, fa, ca, T⟩, xn⟩ 32 "check_number" ["number"] 4 F_check_number) (h_check_land : FnF ⟨P, w, mg, base, ⟨K, fa, ca, T⟩, xn⟩ 29 "check_land" ["table", "land"] 4 F_check_land) (h_check_table : FnF ⟨P, w, mg, base, ⟨K, fa, ca, T⟩, xn⟩ 28 "check_table" ["table"] 8 F_check_table) : FnOk P w K mg base (L2.CX P w) 10 f fd ["table", "land", "number"] (spF ⟨K, fa, ca, T⟩ xn 3 F_with_hours) :=
  fn_ok F sc_with_hours fun X W c fn si => (eb_cons (es_expr (ex_call c h_check_table (by decide) (ea_cons (nv c 0 rfl (by first | exact Or.inl rfl | exact Or.inr (Or.inl rfl) | exact Or.inr (Or.inr rfl))) ea_nil) (len_cons len_nil) rfl)) (eb_cons (es_expr (ex_call c h_check_land (by decide) (ea_cons (nv c 0 rfl (by first | exact Or.inl rfl | exact Or.inr (Or.inl rfl) | exact Or.inr (Or.inr rfl))) (ea_cons (nv c 1 rfl (by first | exact Or.inl rfl | exact Or.inr (Or.inl rfl) | exact Or.inr (Or.inr rfl))) ea_nil)) (len_cons (len_cons len_nil)) rfl)) (eb_cons (es_expr (ex_call c h_check_number (by decide) (ea_cons (nv c 2 rfl (by first | exact Or.inl rfl | exact Or.inr (Or.inl rfl) | exact Or.inr (Or.inr rfl))) ea_nil) (len_cons len_nil) rfl)) (eb_one (es_ret (ex_binB (od_add c) (ex_sl c (nb c 0 rfl (by first | exact Or.inl rfl | exact Or.inr (Or.inl rfl) | exact Or.inr (Or.inr rfl))) epo_no (epo_so ep_int)) (exb (ex_tup (ea_cons (ex_call c h_put (by decide) (ea_cons (ex_ix c (nb c 0 rfl (by first | exact Or.inl rfl | exact Or.inr (Or.inl rfl) | exact Or.inr (Or.inr rfl))) ep_int (fun _ _ => rfl)) (ea_cons (ex_index c (ex_ix c (nb c 0 rfl (by first | exact Or.inl rfl | exact Or.inr (Or.inl rfl) | exact Or.inr (Or.inr rfl))) ep_int (fun _ _ => rfl)) (nv c 1 rfl (by first | exact Or.inl rfl | exact Or.inr (Or.inl rfl) | exact Or.inr (Or.inr rfl)))) (ea_cons (nv c 2 rfl (by first | exact Or.inl rfl | exact Or.inr (Or.inl rfl) | exact Or.inr (Or.inr rfl))) ea_nil))) (len_cons (len_cons (len_cons len_nil))) rfl) ea_nil)))))))))
abbrev s_with_land : Stmt := top 37
theorem sc_with_land : FnScope ["table", "name", "row", "number", "k", "one"] ["table", "name", "row", "number"] (defScope s_with_land) := ⟨rfl, rfl, rfl, by decide +kernel, rfl, by decide +kernel, by decide +kernel⟩
theorem d_with_land {f : Addr} {fd : FuncData} (F : Fun K "with_land" "with_land" s_with_land f fd) {v_MOST : Value} {x_MOST : V} {v_HIGH : Value} {x_HIGH : V} (h_put_in : FnF ⟨P, w, mg, base, ⟨K, fa, ca, T⟩, xn⟩ 34 "put_in" ["row", "k", "item"] 2 F_put_in) (g_len : mg "len" = none) (g_MOST : mg "MOST" = some v_MOST) (r_MOST : L2.RelV x_MOST v_MOST) (t_MOST : ∀ ρ H, R ⟨K, fa, ca, T⟩ ρ H k_MOST x_MOST) (e_TooMany : ExcS ⟨P, w, mg, base, ⟨K, fa, ca, T⟩, xn⟩ 33 213 "TooMany" "self" "most" "most") (h_check_number : FnF ⟨P, w, mg, base, ⟨K, fa, ca, T⟩, xn⟩ 32 "check_number" ["number"] 4 F_check_number) (g_HIGH : mg "HIGH" = some v_HIGH) (r_HIGH : L2.RelV x_HIGH v_HIGH) (t_HIGH : ∀ ρ H, R ⟨K, fa, ca, T⟩ ρ H k_HIGH x_HIGH) (h_are_numbers : FnF ⟨P, w, mg, base, ⟨K, fa, ca, T⟩, xn⟩ 22 "are_numbers" ["thing", "many", "low", "high"] 4 F_are_numbers) (e_BadRow : ExcF ⟨P, w, mg, base, ⟨K, fa, ca, T⟩, xn⟩ 21 "BadRow") (e_Twice : ExcF ⟨P, w, mg, base, ⟨K, fa, ca, T⟩, xn⟩ 30 "Twice") (h_is_name : FnF ⟨P, w, mg, base, ⟨K, fa, ca, T⟩, xn⟩ 17 "is_name" ["thing"] 2 F_is_name) (e_BadName : ExcF ⟨P, w, mg, base, ⟨K, fa, ca, T⟩, xn⟩ 10 "BadName") (h_check_table : FnF ⟨P, w, mg, base, ⟨K, fa, ca, T⟩, xn⟩ 28 "check_table" ["table"] 8 F_check_table) : FnOk P w K mg base (L2.CX P w) 10 f fd ["table", "name", "row", "number"] (spF ⟨K, fa, ca, T⟩ xn 4 F_with_land) :=
  fn_ok F sc_with_land fun X W c fn si => (eb_cons (es_expr (ex_call c h_check_table (by decide) (ea_cons (nv c 0 rfl (by first | exact Or.inl rfl | exact Or.inr (Or.inl rfl) | exact Or.inr (Or.inr rfl))) ea_nil) (len_cons len_nil) rfl)) (eb_cons (es_if (ew_et (ew_or (et_not (et_val (ex_call c h_is_name (by decide) (ea_cons (nv c 1 rfl (by first | exact Or.inl rfl | exact Or.inr (Or.inl rfl) | exact Or.inr (Or.inr rfl))) ea_nil) (len_cons len_nil) rfl))) (ew_one_or (et_cmpB (od_in c) (nv c 1 rfl (by first | exact Or.inl rfl | exact Or.inr (Or.inl rfl) | exact Or.inr (Or.inr rfl))) (exb (ex_ix c (nb c 0 rfl (by first | exact Or.inl rfl | exact Or.inr (Or.inl rfl) | exact Or.inr (Or.inr rfl))) ep_int (fun _ _ => rfl))))))) (eb_one (es_raise c e_BadName rfl)) eb_nil) (eb_cons (es_if (et_cmpB (od_in c) (nv c 1 rfl (by first | exact Or.inl rfl | exact Or.inr (Or.inl rfl) | exact Or.inr (Or.inr rfl))) (exb (ex_ix c (nb c 0 rfl (by first | exact Or.inl rfl | exact Or.inr (Or.inl rfl) | exact Or.inr (Or.inr rfl))) ep_int (fun _ _ => rfl)))) (eb_one (es_raise c e_Twice rfl)) eb_nil) (eb_cons (es_if (et_not (et_val (ex_call c h_are_numbers (by decide) (ea_cons (nv c 2 rfl (by first | exact Or.inl rfl | exact Or.inr (Or.inl rfl) | exact Or.inr (Or.inr rfl))) (ea_cons (w_len c ⟨rfl, g_len⟩ (exb (ex_ix c (nb c 0 rfl (by first | exact Or.inl rfl | exact Or.inr (Or.inl rfl) | exact Or.inr (Or.inr rfl))) ep_int (fun _ _ => rfl)))) (ea_cons ex_int (ea_cons (w_glob c g_HIGH rfl r_HIGH t_HIGH) ea_nil)))) (len_cons (len_cons (len_cons (len_cons len_nil)))) rfl))) (eb_one (es_raise c e_BadRow rfl)) eb_nil) (eb_cons (es_expr (ex_call c h_check_number (by decide) (ea_cons (nv c 3 rfl (by first | exact Or.inl rfl | exact Or.inr (Or.inl rfl) | exact Or.inr (Or.inr rfl))) ea_nil) (len_cons len_nil) rfl)) (eb_cons (es_if (et_cmpB (od_eq c) (w_len c ⟨rfl, g_len⟩ (exb (ex_ix c (nb c 0 rfl (by first | exact Or.inl rfl | exact Or.inr (Or.inl rfl) | exact Or.inr (Or.inr rfl))) ep_int (fun _ _ => rfl)))) (exb (w_glob c g_MOST rfl r_MOST t_MOST))) (eb_one (es_raiseF c e_TooMany (w_glob c g_MOST rfl r_MOST t_MOST) rfl)) eb_nil) (eb_cons (es_set c (w_len c ⟨rfl, g_len⟩ (exb_ef (ef_lc (own := [("one", 5)]) c (ei_any c (ex_ix c (nb c 0 rfl (by first | exact Or.inl rfl | exact Or.inr (Or.inl rfl) | exact Or.inr (Or.inr rfl))) ep_int (fun _ _ => rfl))) ⟨rfl, by decide +kernel, by decide +kernel, by decide +kernel, by decide +kernel⟩ (fun Y c' f_ => (eg_name c' 5 rfl ((by first | exact Or.inl rfl | exact Or.inr ⟨rfl, (fun _ => f_ _) _⟩)))) (fun Y c' => (ets_one (et_cmpB od_lt (nv c' 5 rfl (by first | exact Or.inl rfl | exact Or.inr (Or.inl rfl) | exact Or.inr (Or.inr rfl))) (nb c' 1 rfl (by first | exact Or.inl rfl | exact Or.inr (Or.inl rfl) | exact Or.inr (Or.inr rfl)))))) (fun Y c' k_ => (nv c' 5 rfl (by first | exact Or.inl rfl | exact Or.inr (Or.inl rfl) | exact Or.inr (Or.inr rfl)))) (by decide)))) rfl ((by first | exact Or.inl rfl | exact Or.inr ⟨rfl, fn _⟩))) (eb_one (es_ret (ex_tup (ea_cons ex_str (ea_cons (ex_call c h_put_in (by decide) (ea_cons (ex_ix c (nb c 0 rfl (by first | exact Or.inl rfl | exact Or.inr (Or.inl rfl) | exact Or.inr (Or.inr rfl))) ep_int (fun _ _ => rfl)) (ea_cons (nv c 4 rfl (by first | exact Or.inl rfl | exact Or.inr (Or.inl rfl) | exact Or.inr (Or.inr rfl))) (ea_cons (nv c 1 rfl (by first | exact Or.inl rfl | exact Or.inr (Or.inl rfl) | exact Or.inr (Or.inr rfl))) ea_nil))) (len_cons (len_cons (len_cons len_nil))) rfl) (ea_cons (ex_ix c (nb c 0 rfl (by first | exact Or.inl rfl | exact Or.inr (Or.inl rfl) | exact Or.inr (Or.inr rfl))) ep_int (fun _ _ => rfl)) (ea_cons (ex_call c h_put_in (by decide) (ea_cons (ex_ix c (nb c 0 rfl (by first | exact Or.inl rfl | exact Or.inr (Or.inl rfl) | exact Or.inr (Or.inr rfl))) ep_int (fun _ _ => rfl)) (ea_cons (nv c 4 rfl (by first | exact Or.inl rfl | exact Or.inr (Or.inl rfl) | exact Or.inr (Or.inr rfl))) (ea_cons (nv c 2 rfl (by first | exact Or.inl rfl | exact Or.inr (Or.inl rfl) | exact Or.inr (Or.inr rfl))) ea_nil))) (len_cons (len_cons (len_cons len_nil))) rfl) (ea_cons (ex_call c h_put_in (by decide) (ea_cons (ex_ix c (nb c 0 rfl (by first | exact Or.inl rfl | exact Or.inr (Or.inl rfl) | exact Or.inr (Or.inr rfl))) ep_int (fun _ _ => rfl)) (ea_cons (nv c 4 rfl (by first | exact Or.inl rfl | exact Or.inr (Or.inl rfl) | exact Or.inr (Or.inr rfl))) (ea_cons (nv c 3 rfl (by first | exact Or.inl rfl | exact Or.inr (Or.inl rfl) | exact Or.inr (Or.inr rfl))) ea_nil))) (len_cons (len_cons (len_cons len_nil))) rfl) ea_nil)))))))))))))))
abbrev s_with_good : Stmt := top 38
theorem sc_with_good : FnScope ["table", "name", "column", "k", "rows", "one", "row", "many"] ["table", "name", "column"] (defScope s_with_good) := ⟨rfl, rfl, rfl, by decide +kernel, rfl, by decide +kernel, by decide +kernel⟩
theorem d_with_good {f : Addr} {fd : FuncData} (F : Fun K "with_good" "with_good" s_with_good f fd) {v_MOST : Value} {x_MOST : V} {v_HIGH : Value} {x_HIGH : V} (h_put_in : FnF ⟨P, w, mg, base, ⟨K, fa, ca, T⟩, xn⟩ 34 "put_in" ["row", "k", "item"] 2 F_put_in) (g_zip : mg "zip" = none) (g_tuple : mg "tuple" = none) (g_len : mg "len" = none) (g_MOST : mg "MOST" = some v_MOST) (r_MOST : L2.RelV x_MOST v_MOST) (t_MOST : ∀ ρ H, R ⟨K, fa, ca, T⟩ ρ H k_MOST x_MOST) (e_TooMany : ExcS ⟨P, w, mg, base, ⟨K, fa, ca, T⟩, xn⟩ 33 213 "TooMany" "self" "most" "most") (g_HIGH : mg "HIGH" = some v_HIGH) (r_HIGH : L2.RelV x_HIGH v_HIGH) (t_HIGH : ∀ ρ H, R ⟨K, fa, ca, T⟩ ρ H k_HIGH x_HIGH) (h_are_numbers : FnF ⟨P, w, mg, base, ⟨K, fa, ca, T⟩, xn⟩ 22 "are_numbers" ["thing", "many", "low", "high"] 4 F_are_numbers) (e_BadColumn : ExcF ⟨P, w, mg, base, ⟨K, fa, ca, T⟩, xn⟩ 3 "BadColumn") (e_Twice : ExcF ⟨P, w, mg, base, ⟨K, fa, ca, T⟩, xn⟩ 30 "Twice") (h_is_name : FnF ⟨P, w, mg, base, ⟨K, fa, ca, T⟩, xn⟩ 17 "is_name" ["thing"] 2 F_is_name) (e_BadName : ExcF ⟨P, w, mg, base, ⟨K, fa, ca, T⟩, xn⟩ 10 "BadName") (h_check_table : FnF ⟨P, w, mg, base, ⟨K, fa, ca, T⟩, xn⟩ 28 "check_table" ["table"] 8 F_check_table) : FnOk P w K mg base (L2.CX P w) 10 f fd ["table", "name", "column"] (spF ⟨K, fa, ca, T⟩ xn 3 F_with_good) :=
  fn_ok F sc_with_good fun X W c fn si => (eb_cons (es_expr (ex_call c h_check_table (by decide) (ea_cons (nv c 0 rfl (by first | exact Or.inl rfl | exact Or.inr (Or.inl rfl) | exact Or.inr (Or.inr rfl))) ea_nil) (len_cons len_nil) rfl)) (eb_cons (es_if (ew_et (ew_or (et_not (et_val (ex_call c h_is_name (by decide) (ea_cons (nv c 1 rfl (by first | exact Or.inl rfl | exact Or.inr (Or.inl rfl) | exact Or.inr (Or.inr rfl))) ea_nil) (len_cons len_nil) rfl))) (ew_one_or (et_cmpB (od_in c) (nv c 1 rfl (by first | exact Or.inl rfl | exact Or.inr (Or.inl rfl) | exact Or.inr (Or.inr rfl))) (exb (ex_ix c (nb c 0 rfl (by first | exact Or.inl rfl | exact Or.inr (Or.inl rfl) | exact Or.inr (Or.inr rfl))) ep_int (fun _ _ => rfl))))))) (eb_one (es_raise c e_BadName rfl)) eb_nil) (eb_cons (es_if (et_cmpB (od_in c) (nv c 1 rfl (by first | exact Or.inl rfl | exact Or.inr (Or.inl rfl) | exact Or.inr (Or.inr rfl))) (exb (ex_ix c (nb c 0 rfl (by first | exact Or.inl rfl | exact Or.inr (Or.inl rfl) | exact Or.inr (Or.inr rfl))) ep_int (fun _ _ => rfl)))) (eb_one (es_raise c e_Twice rfl)) eb_nil) (eb_cons (es_if (et_not (et_val (ex_call c h_are_numbers (by decide) (ea_cons (nv c 2 rfl (by first | exact Or.inl rfl | exact Or.inr (Or.inl rfl) | exact Or.inr (Or.inr rfl))) (ea_cons (w_len c ⟨rfl, g_len⟩ (exb (ex_ix c (nb c 0 rfl (by first | exact Or.inl rfl | exact Or.inr (Or.inl rfl) | exact Or.inr (Or.inr rfl))) ep_int (fun _ _ => rfl)))) (ea_cons ex_int (ea_cons (w_glob c g_HIGH rfl r_HIGH t_HIGH) ea_nil)))) (len_cons (len_cons (len_cons (len_cons len_nil)))) rfl))) (eb_one (es_raise c e_BadColumn rfl)) eb_nil) (eb_cons (es_if (et_cmpB (od_eq c) (w_len c ⟨rfl, g_len⟩ (exb (ex_ix c (nb c 0 rfl (by first | exact Or.inl rfl | exact Or.inr (Or.inl rfl) | exact Or.inr (Or.inr rfl))) ep_int (fun _ _ => rfl)))) (exb (w_glob c g_MOST rfl r_MOST t_MOST))) (eb_one (es_raiseF c e_TooMany (w_glob c g_MOST rfl r_MOST t_MOST) rfl)) eb_nil) (eb_cons (es_set c (w_len c ⟨rfl, g_len⟩ (exb_ef (ef_lc (own := [("one", 5)]) c (ei_any c (ex_ix c (nb c 0 rfl (by first | exact Or.inl rfl | exact Or.inr (Or.inl rfl) | exact Or.inr (Or.inr rfl))) ep_int (fun _ _ => rfl))) ⟨rfl, by decide +kernel, by decide +kernel, by decide +kernel, by decide +kernel⟩ (fun Y c' f_ => (eg_name c' 5 rfl ((by first | exact Or.inl rfl | exact Or.inr ⟨rfl, (fun _ => f_ _) _⟩)))) (fun Y c' => (ets_one (et_cmpB od_lt (nv c' 5 rfl (by first | exact Or.inl rfl | exact Or.inr (Or.inl rfl) | exact Or.inr (Or.inr rfl))) (nb c' 1 rfl (by first | exact Or.inl rfl | exact Or.inr (Or.inl rfl) | exact Or.inr (Or.inr rfl)))))) (fun Y c' k_ => (nv c' 5 rfl (by first | exact Or.inl rfl | exact Or.inr (Or.inl rfl) | exact Or.inr (Or.inr rfl)))) (by decide)))) rfl ((by first | exact Or.inl rfl | exact Or.inr ⟨rfl, fn _⟩))) (eb_cons (es_set c (w_tuple c ⟨rfl, g_tuple⟩ (exb_ef (ef_lc (own := [("row", 6), ("many", 7)]) c (ei_zip2 c rfl g_zip (ea_cons (ex_ix c (nb c 0 rfl (by first | exact Or.inl rfl | exact Or.inr (Or.inl rfl) | exact Or.inr (Or.inr rfl))) ep_int (fun _ _ => rfl)) (ea_cons (nv c 2 rfl (by first | exact Or.inl rfl | exact Or.inr (Or.inl rfl) | exact Or.inr (Or.inr rfl))) ea_nil))) ⟨rfl, by decide +kernel, by decide +kernel, by decide +kernel, by decide +kernel⟩ (fun Y c' f_ => (eg_tup c' (egs_cons (eg_name c' 6 rfl ((by first | exact Or.inl rfl | exact Or.inr ⟨rfl, (fun _ => f_ _) _⟩))) (egs_cons (eg_name c' 7 rfl ((by first | exact Or.inl rfl | exact Or.inr ⟨rfl, (fun _ => f_ _) _⟩))) egs_nil)))) (fun Y c' => ets_nil) (fun Y c' k_ => (ex_call c' h_put_in (by decide) (ea_cons (nv c' 6 rfl (by first | exact Or.inl rfl | exact Or.inr (Or.inl rfl) | exact Or.inr (Or.inr rfl))) (ea_cons (nv c' 3 rfl (by first | exact Or.inl rfl | exact Or.inr (Or.inl rfl) | exact Or.inr (Or.inr rfl))) (ea_cons (nv c' 7 rfl (by first | exact Or.inl rfl | exact Or.inr (Or.inl rfl) | exact Or.inr (Or.inr rfl))) ea_nil))) (len_cons (len_cons (len_cons len_nil))) rfl)) (by decide)))) rfl ((by first | exact Or.inl rfl | exact Or.inr ⟨rfl, fn _⟩))) (eb_one (es_ret (ex_tup (ea_cons ex_str (ea_cons (ex_ix c (nb c 0 rfl (by first | exact Or.inl rfl | exact Or.inr (Or.inl rfl) | exact Or.inr (Or.inr rfl))) ep_int (fun _ _ => rfl)) (ea_cons (ex_call c h_put_in (by decide) (ea_cons (ex_ix c (nb c 0 rfl (by first | exact Or.inl rfl | exact Or.inr (Or.inl rfl) | exact Or.inr (Or.inr rfl))) ep_int (fun _ _ => rfl)) (ea_cons (nv c 3 rfl (by first | exact Or.inl rfl | exact Or.inr (Or.inl rfl) | exact Or.inr (Or.inr rfl))) (ea_cons (nv c 1 rfl (by first | exact Or.inl rfl | exact Or.inr (Or.inl rfl) | exact Or.inr (Or.inr rfl))) ea_nil))) (len_cons (len_cons (len_cons len_nil))) rfl) (ea_cons (nv c 4 rfl (by first | exact Or.inl rfl | exact Or.inr (Or.inl rfl) | exact Or.inr (Or.inr rfl))) (ea_cons (ex_ix c (nb c 0 rfl (by first | exact Or.inl rfl | exact Or.inr (Or.inl rfl) | exact Or.inr (Or.inr rfl))) ep_int (fun _ _ => rfl)) ea_nil)))))))))))))))
abbrev s_part_of : Stmt := top 39
theorem sc_part_of : FnScope ["table", "some", "where", "rows", "hours", "land", "row", "many", "good", "one"] ["table", "some", "where"] (defScope s_part_of) := ⟨rfl, rfl, rfl, by decide +kernel, rfl, by decide +kernel, by decide +kernel⟩
theorem d_part_of {f : Addr} {fd : FuncData} (F : Fun K "part_of" "part_of" s_part_of f fd)  (g_tuple : mg "tuple" = none) (g_zip : mg "zip" = none) : FnOk P w K mg base (L2.CX P w) 2 f fd ["table", "some", "where"] (spF ⟨K, fa, ca, T⟩ xn 3 F_part_of) :=
  fn_ok F sc_part_of fun X W c fn si => (eb_cons (es_par2 c 3 4 (by decide) (en_new (ef_lst ea_nil) (en_new (ef_lst ea_nil) en_nil)) rfl rfl rfl rfl (fun _ => rfl)) (eb_cons (es_for c (ei_zip3 c rfl g_zip (ea_cons (ex_ix c (nb c 0 rfl (by first | exact Or.inl rfl | exact Or.inr (Or.inl rfl) | exact Or.inr (Or.inr rfl))) ep_int (fun _ _ => rfl)) (ea_cons (ex_ix c (nb c 0 rfl (by first | exact Or.inl rfl | exact Or.inr (Or.inl rfl) | exact Or.inr (Or.inr rfl))) ep_int (fun _ _ => rfl)) (ea_cons (ex_ix c (nb c 0 rfl (by first | exact Or.inl rfl | exact Or.inr (Or.inl rfl) | exact Or.inr (Or.inr rfl))) ep_int (fun _ _ => rfl)) ea_nil)))) (eg_tup c (egs_cons (eg_name c 5 rfl ((by first | exact Or.inl rfl | exact Or.inr ⟨rfl, (fun _ => fn _) _⟩))) (egs_cons (eg_name c 6 rfl ((by first | exact Or.inl rfl | exact Or.inr ⟨rfl, (fun _ => fn _) _⟩))) (egs_cons (eg_name c 7 rfl ((by first | exact Or.inl rfl | exact Or.inr ⟨rfl, (fun _ => fn _) _⟩))) egs_nil)))) (eb_one (es_if (et_cmpB (od_in c) (nv c 5 rfl (by first | exact Or.inl rfl | exact Or.inr (Or.inl rfl) | exact Or.inr (Or.inr rfl))) (nb c 1 rfl (by first | exact Or.inl rfl | exact Or.inr (Or.inl rfl) | exact Or.inr (Or.inr rfl)))) (eb_cons (es_expr (ex_app 3 (w_tuple c ⟨rfl, g_tuple⟩ (exb_ef (ef_lc (own := [("good", 8), ("one", 9)]) c (ei_zip2 c rfl g_zip (ea_cons (ex_ix c (nb c 0 rfl (by first | exact Or.inl rfl | exact Or.inr (Or.inl rfl) | exact Or.inr (Or.inr rfl))) ep_int (fun _ _ => rfl)) (ea_cons (nv c 6 rfl (by first | exact Or.inl rfl | exact Or.inr (Or.inl rfl) | exact Or.inr (Or.inr rfl))) ea_nil))) ⟨rfl, by decide +kernel, by decide +kernel, by decide +kernel, by decide +kernel⟩ (fun Y c' f_ => (eg_tup c' (egs_cons (eg_name c' 8 rfl ((by first | exact Or.inl rfl | exact Or.inr ⟨rfl, (fun _ => f_ _) _⟩))) (egs_cons (eg_name c' 9 rfl ((by first | exact Or.inl rfl | exact Or.inr ⟨rfl, (fun _ => f_ _) _⟩))) egs_nil)))) (fun Y c' => (ets_one (et_cmpB (od_in c') (nv c' 8 rfl (by first | exact Or.inl rfl | exact Or.inr (Or.inl rfl) | exact Or.inr (Or.inr rfl))) (nb c' 2 rfl (by first | exact Or.inl rfl | exact Or.inr (Or.inl rfl) | exact Or.inr (Or.inr rfl)))))) (fun Y c' k_ => (nv c' 9 rfl (by first | exact Or.inl rfl | exact Or.inr (Or.inl rfl) | exact Or.inr (Or.inr rfl)))) (by decide)))) (c.at_ rfl) (c.vis (by first | exact Or.inl rfl | exact Or.inr (Or.inl rfl) | exact Or.inr (Or.inr rfl))))) (eb_one (es_expr (ex_app 4 (nv c 7 rfl (by first | exact Or.inl rfl | exact Or.inr (Or.inl rfl) | exact Or.inr (Or.inr rfl))) (c.at_ rfl) (c.vis (by first | exact Or.inl rfl | exact Or.inr (Or.inl rfl) | exact Or.inr (Or.inr rfl))))))) eb_nil))) (eb_one (es_ret (ex_tup (ea_cons ex_str (ea_cons (nv c 1 rfl (by first | exact Or.inl rfl | exact Or.inr (Or.inl rfl) | exact Or.inr (Or.inr rfl))) (ea_cons (nv c 2 rfl (by first | exact Or.inl rfl | exact Or.inr (Or.inl rfl) | exact Or.inr (Or.inr rfl))) (ea_cons (w_tuple c ⟨rfl, g_tuple⟩ (nb c 3 rfl (by first | exact Or.inl rfl | exact Or.inr (Or.inl rfl) | exact Or.inr (Or.inr rfl)))) (ea_cons (w_tuple c ⟨rfl, g_tuple⟩ (nb c 4 rfl (by first | exact Or.inl rfl | exact Or.inr (Or.inl rfl) | exact Or.inr (Or.inr rfl)))) ea_nil))))))))))
abbrev s_are_costs : Stmt := top 41
theorem sc_are_costs : FnScope ["thing", "one"] ["thing"] (defScope s_are_costs) := ⟨rfl, rfl, rfl, by decide +kernel, rfl, by decide +kernel, by decide +kernel⟩
theorem d_are_costs {f : Addr} {fd : FuncData} (F : Fun K "are_costs" "are_costs" s_are_costs f fd) {v_HIGH : Value} {x_HIGH : V} {v_MOST : Value} {x_MOST : V} (g_HIGH : mg "HIGH" = some v_HIGH) (r_HIGH : L2.RelV x_HIGH v_HIGH) (t_HIGH : ∀ ρ H, R ⟨K, fa, ca, T⟩ ρ H k_HIGH x_HIGH) (h_is_number : FnF ⟨P, w, mg, base, ⟨K, fa, ca, T⟩, xn⟩ 18 "is_number" ["thing", "low", "high"] 2 F_is_number) (g_all : mg "all" = none) (g_isinstance : mg "isinstance" = none) (g_tuple : mg "tuple" = none) (g_len : mg "len" = none) (g_MOST : mg "MOST" = some v_MOST) (r_MOST : L2.RelV x_MOST v_MOST) (t_MOST : ∀ ρ H, R ⟨K, fa, ca, T⟩ ρ H k_MOST x_MOST) : FnOk P w K mg base (L2.CX P w) 4 f fd ["thing"] (spF ⟨K, fa, ca, T⟩ xn 1 F_are_costs) :=
  fn_ok F sc_are_costs fun X W c fn si => (eb_cons (es_if (ew_et (ew_or (et_not (et_val (w_isT c ⟨rfl, g_isinstance⟩ ⟨rfl, g_tuple⟩ (nv c 0 rfl (by first | exact Or.inl rfl | exact Or.inr (Or.inl rfl) | exact Or.inr (Or.inr rfl)))))) (ew_one_or (et_not (et_chain od_le od_le ex_int (w_len c ⟨rfl, g_len⟩ (nb c 0 rfl (by first | exact Or.inl rfl | exact Or.inr (Or.inl rfl) | exact Or.inr (Or.inr rfl)))) (w_glob c g_MOST rfl r_MOST t_MOST)))))) (eb_one (es_ret ex_bl)) eb_nil) (eb_one (es_ret (w_all c ⟨rfl, g_all⟩ (exb_ef (ef_lc (own := [("one", 1)]) c (ei_any c (nv c 0 rfl (by first | exact Or.inl rfl | exact Or.inr (Or.inl rfl) | exact Or.inr (Or.inr rfl)))) ⟨rfl, by decide +kernel, by decide +kernel, by decide +kernel, by decide +kernel⟩ (fun Y c' f_ => (eg_name c' 1 rfl ((by first | exact Or.inl rfl | exact Or.inr ⟨rfl, (fun _ => f_ _) _⟩)))) (fun Y c' => ets_nil) (fun Y c' k_ => (ex_call c' h_is_number (by decide) (ea_cons (nv c' 1 rfl (by first | exact Or.inl rfl | exact Or.inr (Or.inl rfl) | exact Or.inr (Or.inr rfl))) (ea_cons ex_int (ea_cons (w_glob c' g_HIGH rfl r_HIGH t_HIGH) ea_nil))) (len_cons (len_cons (len_cons len_nil))) rfl)) (by decide)))))))
abbrev s_is_work : Stmt := top 42
theorem sc_is_work : FnScope ["thing"] ["thing"] (defScope s_is_work) := ⟨rfl, rfl, rfl, by decide +kernel, rfl, by decide +kernel, by decide +kernel⟩
theorem d_is_work {f : Addr} {fd : FuncData} (F : Fun K "is_work" "is_work" s_is_work f fd) {v_HIGH : Value} {x_HIGH : V} (h_are_costs : FnF ⟨P, w, mg, base, ⟨K, fa, ca, T⟩, xn⟩ 41 "are_costs" ["thing"] 4 F_are_costs) (g_HIGH : mg "HIGH" = some v_HIGH) (r_HIGH : L2.RelV x_HIGH v_HIGH) (t_HIGH : ∀ ρ H, R ⟨K, fa, ca, T⟩ ρ H k_HIGH x_HIGH) (h_is_number : FnF ⟨P, w, mg, base, ⟨K, fa, ca, T⟩, xn⟩ 18 "is_number" ["thing", "low", "high"] 2 F_is_number) (h_is_word : FnF ⟨P, w, mg, base, ⟨K, fa, ca, T⟩, xn⟩ 19 "is_word" ["thing", "words"] 2 F_is_word) (g_len : mg "len" = none) (h_is_name : FnF ⟨P, w, mg, base, ⟨K, fa, ca, T⟩, xn⟩ 17 "is_name" ["thing"] 2 F_is_name) (g_isinstance : mg "isinstance" = none) (g_tuple : mg "tuple" = none) : FnOk P w K mg base (L2.CX P w) 6 f fd ["thing"] (spF ⟨K, fa, ca, T⟩ xn 1 F_is_work) :=
  fn_ok F sc_is_work fun X W c fn si => (eb_cons (es_if (ew_et (ew_or (et_not (et_val (w_isT c ⟨rfl, g_isinstance⟩ ⟨rfl, g_tuple⟩ (nv c 0 rfl (by first | exact Or.inl rfl | exact Or.inr (Or.inl rfl) | exact Or.inr (Or.inr rfl)))))) (ew_or (et_cmpB od_lt (w_len c ⟨rfl, g_len⟩ (nb c 0 rfl (by first | exact Or.inl rfl | exact Or.inr (Or.inl rfl) | exact Or.inr (Or.inr rfl)))) (exb ex_int)) (ew_one_or (et_not (et_val (ex_call c h_is_name (by decide) (ea_cons (ex_ix c (nb c 0 rfl (by first | exact Or.inl rfl | exact Or.inr (Or.inl rfl) | exact Or.inr (Or.inr rfl))) ep_int (fun _ _ => rfl)) ea_nil) (len_cons len_nil) rfl))))))) (eb_one (es_ret ex_bl)) eb_nil) (eb_cons (es_if (et_val (ex_call c h_is_word (by decide) (ea_cons (ex_ix c (nb c 0 rfl (by first | exact Or.inl rfl | exact Or.inr (Or.inl rfl) | exact Or.inr (Or.inr rfl))) ep_int (fun _ _ => rfl)) (ea_cons (ex_tup (ea_cons ex_str (ea_cons ex_str ea_nil))) ea_nil)) (len_cons (len_cons len_nil)) rfl)) (eb_one (es_ret (ex_cmpB (od_eq c) (w_len c ⟨rfl, g_len⟩ (nb c 0 rfl (by first | exact Or.inl rfl | exact Or.inr (Or.inl rfl) | exact Or.inr (Or.inr rfl)))) (exb ex_int)))) eb_nil) (eb_cons (es_if (et_val (ex_call c h_is_word (by decide) (ea_cons (ex_ix c (nb c 0 rfl (by first | exact Or.inl rfl | exact Or.inr (Or.inl rfl) | exact Or.inr (Or.inr rfl))) ep_int (fun _ _ => rfl)) (ea_cons (ex_tup (ea_cons ex_str ea_nil)) ea_nil)) (len_cons (len_cons len_nil)) rfl)) (eb_one (es_ret (ex_and (ex_cmpB (od_eq c) (w_len c ⟨rfl, g_len⟩ (nb c 0 rfl (by first | exact Or.inl rfl | exact Or.inr (Or.inl rfl) | exact Or.inr (Or.inr rfl)))) (exb ex_int)) (ex_one (ex_call c h_is_number (by decide) (ea_cons (ex_ix c (nb c 0 rfl (by first | exact Or.inl rfl | exact Or.inr (Or.inl rfl) | exact Or.inr (Or.inr rfl))) ep_int (fun _ _ => rfl)) (ea_cons ex_int (ea_cons (w_glob c g_HIGH rfl r_HIGH t_HIGH) ea_nil))) (len_cons (len_cons (len_cons len_nil))) rfl))))) eb_nil) (eb_cons (es_if (et_val (ex_call c h_is_word (by decide) (ea_cons (ex_ix c (nb c 0 rfl (by first | exact Or.inl rfl | exact Or.inr (Or.inl rfl) | exact Or.inr (Or.inr rfl))) ep_int (fun _ _ => rfl)) (ea_cons (ex_tup (ea_cons ex_str ea_nil)) ea_nil)) (len_cons (len_cons len_nil)) rfl)) (eb_one (es_ret (ex_and (ex_cmpB (od_eq c) (w_len c ⟨rfl, g_len⟩ (nb c 0 rfl (by first | exact Or.inl rfl | exact Or.inr (Or.inl rfl) | exact Or.inr (Or.inr rfl)))) (exb ex_int)) (ex_one (ex_call c h_are_costs (by decide) (ea_cons (ex_ix c (nb c 0 rfl (by first | exact Or.inl rfl | exact Or.inr (Or.inl rfl) | exact Or.inr (Or.inr rfl))) ep_int (fun _ _ => rfl)) ea_nil) (len_cons len_nil) rfl))))) eb_nil) (eb_cons (es_if (et_val (ex_call c h_is_word (by decide) (ea_cons (ex_ix c (nb c 0 rfl (by first | exact Or.inl rfl | exact Or.inr (Or.inl rfl) | exact Or.inr (Or.inr rfl))) ep_int (fun _ _ => rfl)) (ea_cons (ex_tup (ea_cons ex_str ea_nil)) ea_nil)) (len_cons (len_cons len_nil)) rfl)) (eb_one (es_ret (ex_and (ex_cmpB (od_eq c) (w_len c ⟨rfl, g_len⟩ (nb c 0 rfl (by first | exact Or.inl rfl | exact Or.inr (Or.inl rfl) | exact Or.inr (Or.inr rfl)))) (exb ex_int)) (ex_and (ex_call c h_is_name (by decide) (ea_cons (ex_ix c (nb c 0 rfl (by first | exact Or.inl rfl | exact Or.inr (Or.inl rfl) | exact Or.inr (Or.inr rfl))) ep_int (fun _ _ => rfl)) ea_nil) (len_cons len_nil) rfl) (ex_one (ex_call c h_is_number (by decide) (ea_cons (ex_ix c (nb c 0 rfl (by first | exact Or.inl rfl | exact Or.inr (Or.inl rfl) | exact Or.inr (Or.inr rfl))) ep_int (fun _ _ => rfl)) (ea_cons ex_int (ea_cons (w_glob c g_HIGH rfl r_HIGH t_HIGH) ea_nil))) (len_cons (len_cons (len_cons len_nil))) rfl)))))) eb_nil) (eb_cons (es_if (ew_et (ew_or (et_not (et_val (ex_call c h_is_word (by decide) (ea_cons (ex_ix c (nb c 0 rfl (by first | exact Or.inl rfl | exact Or.inr (Or.inl rfl) | exact Or.inr (Or.inr rfl))) ep_int (fun _ _ => rfl)) (ea_cons (ex_tup (ea_cons ex_str ea_nil)) ea_nil)) (len_cons (len_cons len_nil)) rfl))) (ew_one_or (et_cmpB (od_ne c) (w_len c ⟨rfl, g_len⟩ (nb c 0 rfl (by first | exact Or.inl rfl | exact Or.inr (Or.inl rfl) | exact Or.inr (Or.inr rfl)))) (exb ex_int))))) (eb_one (es_ret ex_bl)) eb_nil) (eb_one (es_ret (ex_and (ex_call c h_are_costs (by decide) (ea_cons (ex_ix c (nb c 0 rfl (by first | exact Or.inl rfl | exact Or.inr (Or.inl rfl) | exact Or.inr (Or.inr rfl))) ep_int (fun _ _ => rfl)) ea_nil) (len_cons len_nil) rfl) (ex_one (ex_call c h_is_number (by decide) (ea_cons (ex_ix c (nb c 0 rfl (by first | exact Or.inl rfl | exact Or.inr (Or.inl rfl) | exact Or.inr (Or.inr rfl))) ep_int (fun _ _ => rfl)) (ea_cons ex_int (ea_cons (w_glob c g_HIGH rfl r_HIGH t_HIGH) ea_nil))) (len_cons (len_cons (len_cons len_nil))) rfl)))))))))))
abbrev s_without : Stmt := top 43
theorem sc_without : FnScope ["names", "name", "one"] ["names", "name"] (defScope s_without) := ⟨rfl, rfl, rfl, by decide +kernel, rfl, by decide +kernel, by decide +kernel⟩
theorem d_without {f : Addr} {fd : FuncData} (F : Fun K "without" "without" s_without f fd)  (g_tuple : mg "tuple" = none) (g_len : mg "len" = none) (e_TooFew : ExcF ⟨P, w, mg, base, ⟨K, fa, ca, T⟩, xn⟩ 29 "TooFew") : FnOk P w K mg base (L2.CX P w) 2 f fd ["names", "name"] (spF ⟨K, fa, ca, T⟩ xn 2 F_without) :=
  fn_ok F sc_without fun X W c fn si => (eb_cons (es_if (et_cmpB (od_eq c) (w_len c ⟨rfl, g_len⟩ (nb c 0 rfl (by first | exact Or.inl rfl | exact Or.inr (Or.inl rfl) | exact Or.inr (Or.inr rfl)))) (exb ex_int)) (eb_one (es_raise c e_TooFew rfl)) eb_nil) (eb_one (es_ret (w_tuple c ⟨rfl, g_tuple⟩ (exb_ef (ef_lc (own := [("one", 2)]) c (ei_any c (nv c 0 rfl (by first | exact Or.inl rfl | exact Or.inr (Or.inl rfl) | exact Or.inr (Or.inr rfl)))) ⟨rfl, by decide +kernel, by decide +kernel, by decide +kernel, by decide +kernel⟩ (fun Y c' f_ => (eg_name c' 2 rfl ((by first | exact Or.inl rfl | exact Or.inr ⟨rfl, (fun _ => f_ _) _⟩)))) (fun Y c' => (ets_one (et_cmpB (od_ne c') (nv c' 2 rfl (by first | exact Or.inl rfl | exact Or.inr (Or.inl rfl) | exact Or.inr (Or.inr rfl))) (nb c' 1 rfl (by first | exact Or.inl rfl | exact Or.inr (Or.inl rfl) | exact Or.inr (Or.inr rfl)))))) (fun Y c' k_ => (nv c' 2 rfl (by first | exact Or.inl rfl | exact Or.inr (Or.inl rfl) | exact Or.inr (Or.inr rfl)))) (by decide)))))))
abbrev s_less_by : Stmt := top 44
theorem sc_less_by : FnScope ["table", "work"] ["table", "work"] (defScope s_less_by) := ⟨rfl, rfl, rfl, by decide +kernel, rfl, by decide +kernel, by decide +kernel⟩
theorem d_less_by {f : Addr} {fd : FuncData} (F : Fun K "less_by" "less_by" s_less_by f fd)  (h_without : FnF ⟨P, w, mg, base, ⟨K, fa, ca, T⟩, xn⟩ 43 "without" ["names", "name"] 2 F_without) (h_part_of : FnF ⟨P, w, mg, base, ⟨K, fa, ca, T⟩, xn⟩ 39 "part_of" ["table", "some", "where"] 2 F_part_of) (h_check_good : FnF ⟨P, w, mg, base, ⟨K, fa, ca, T⟩, xn⟩ 30 "check_good" ["table", "good"] 4 F_check_good) (h_check_land : FnF ⟨P, w, mg, base, ⟨K, fa, ca, T⟩, xn⟩ 29 "check_land" ["table", "land"] 4 F_check_land) : FnOk P w K mg base (L2.CX P w) 6 f fd ["table", "work"] (spF ⟨K, fa, ca, T⟩ xn 2 F_less_by) :=
  fn_ok F sc_less_by fun X W c fn si => (eb_cons (es_if (et_cmpB (od_eq c) (ex_ix c (nb c 1 rfl (by first | exact Or.inl rfl | exact Or.inr (Or.inl rfl) | exact Or.inr (Or.inr rfl))) ep_int (fun _ _ => rfl)) (exb ex_str)) (eb_cons (es_expr (ex_call c h_check_land (by decide) (ea_cons (nv c 0 rfl (by first | exact Or.inl rfl | exact Or.inr (Or.inl rfl) | exact Or.inr (Or.inr rfl))) (ea_cons (ex_ix c (nb c 1 rfl (by first | exact Or.inl rfl | exact Or.inr (Or.inl rfl) | exact Or.inr (Or.inr rfl))) ep_int (fun _ _ => rfl)) ea_nil)) (len_cons (len_cons len_nil)) rfl)) (eb_one (es_ret (ex_call c h_part_of (by decide) (ea_cons (nv c 0 rfl (by first | exact Or.inl rfl | exact Or.inr (Or.inl rfl) | exact Or.inr (Or.inr rfl))) (ea_cons (ex_call c h_without (by decide) (ea_cons (ex_ix c (nb c 0 rfl (by first | exact Or.inl rfl | exact Or.inr (Or.inl rfl) | exact Or.inr (Or.inr rfl))) ep_int (fun _ _ => rfl)) (ea_cons (ex_ix c (nb c 1 rfl (by first | exact Or.inl rfl | exact Or.inr (Or.inl rfl) | exact Or.inr (Or.inr rfl))) ep_int (fun _ _ => rfl)) ea_nil)) (len_cons (len_cons len_nil)) rfl) (ea_cons (ex_ix c (nb c 0 rfl (by first | exact Or.inl rfl | exact Or.inr (Or.inl rfl) | exact Or.inr (Or.inr rfl))) ep_int (fun _ _ => rfl)) ea_nil))) (len_cons (len_cons (len_cons len_nil))) rfl)))) eb_nil) (eb_cons (es_expr (ex_call c h_check_good (by decide) (ea_cons (nv c 0 rfl (by first | exact Or.inl rfl | exact Or.inr (Or.inl rfl) | exact Or.inr (Or.inr rfl))) (ea_cons (ex_ix c (nb c 1 rfl (by first | exact Or.inl rfl | exact Or.inr (Or.inl rfl) | exact Or.inr (Or.inr rfl))) ep_int (fun _ _ => rfl)) ea_nil)) (len_cons (len_cons len_nil)) rfl)) (eb_one (es_ret (ex_call c h_part_of (by decide) (ea_cons (nv c 0 rfl (by first | exact Or.inl rfl | exact Or.inr (Or.inl rfl) | exact Or.inr (Or.inr rfl))) (ea_cons (ex_ix c (nb c 0 rfl (by first | exact Or.inl rfl | exact Or.inr (Or.inl rfl) | exact Or.inr (Or.inr rfl))) ep_int (fun _ _ => rfl)) (ea_cons (ex_call c h_without (by decide) (ea_cons (ex_ix c (nb c 0 rfl (by first | exact Or.inl rfl | exact Or.inr (Or.inl rfl) | exact Or.inr (Or.inr rfl))) ep_int (fun _ _ => rfl)) (ea_cons (ex_ix c (nb c 1 rfl (by first | exact Or.inl rfl | exact Or.inr (Or.inl rfl) | exact Or.inr (Or.inr rfl))) ep_int (fun _ _ => rfl)) ea_nil)) (len_cons (len_cons len_nil)) rfl) ea_nil))) (len_cons (len_cons (len_cons len_nil))) rfl)))))
abbrev s_changed_by : Stmt := top 45
theorem sc_changed_by : FnScope ["table", "work"] ["table", "work"] (defScope s_changed_by) := ⟨rfl, rfl, rfl, by decide +kernel, rfl, by decide +kernel, by decide +kernel⟩
theorem d_changed_by {f : Addr} {fd : FuncData} (F : Fun K "changed_by" "changed_by" s_changed_by f fd)  (h_less_by : FnF ⟨P, w, mg, base, ⟨K, fa, ca, T⟩, xn⟩ 44 "less_by" ["table", "work"] 6 F_less_by) (h_with_good : FnF ⟨P, w, mg, base, ⟨K, fa, ca, T⟩, xn⟩ 38 "with_good" ["table", "name", "column"] 10 F_with_good) (h_with_land : FnF ⟨P, w, mg, base, ⟨K, fa, ca, T⟩, xn⟩ 37 "with_land" ["table", "name", "row", "number"] 10 F_with_land) (h_with_hours : FnF ⟨P, w, mg, base, ⟨K, fa, ca, T⟩, xn⟩ 36 "with_hours" ["table", "land", "number"] 10 F_with_hours) (h_with_cost : FnF ⟨P, w, mg, base, ⟨K, fa, ca, T⟩, xn⟩ 35 "with_cost" ["table", "land", "good", "number"] 10 F_with_cost) : FnOk P w K mg base (L2.CX P w) 12 f fd ["table", "work"] (spF ⟨K, fa, ca, T⟩ xn 2 F_changed_by) :=
  fn_ok F sc_changed_by fun X W c fn si => (eb_cons (es_if (et_cmpB (od_eq c) (ex_ix c (nb c 1 rfl (by first | exact Or.inl rfl | exact Or.inr (Or.inl rfl) | exact Or.inr (Or.inr rfl))) ep_int (fun _ _ => rfl)) (exb ex_str)) (eb_one (es_ret (ex_call c h_with_cost (by decide) (ea_cons (nv c 0 rfl (by first | exact Or.inl rfl | exact Or.inr (Or.inl rfl) | exact Or.inr (Or.inr rfl))) (ea_cons (ex_ix c (nb c 1 rfl (by first | exact Or.inl rfl | exact Or.inr (Or.inl rfl) | exact Or.inr (Or.inr rfl))) ep_int (fun _ _ => rfl)) (ea_cons (ex_ix c (nb c 1 rfl (by first | exact Or.inl rfl | exact Or.inr (Or.inl rfl) | exact Or.inr (Or.inr rfl))) ep_int (fun _ _ => rfl)) (ea_cons (ex_ix c (nb c 1 rfl (by first | exact Or.inl rfl | exact Or.inr (Or.inl rfl) | exact Or.inr (Or.inr rfl))) ep_int (fun _ _ => rfl)) ea_nil)))) (len_cons (len_cons (len_cons (len_cons len_nil)))) rfl))) eb_nil) (eb_cons (es_if (et_cmpB (od_eq c) (ex_ix c (nb c 1 rfl (by first | exact Or.inl rfl | exact Or.inr (Or.inl rfl) | exact Or.inr (Or.inr rfl))) ep_int (fun _ _ => rfl)) (exb ex_str)) (eb_one (es_ret (ex_call c h_with_hours (by decide) (ea_cons (nv c 0 rfl (by first | exact Or.inl rfl | exact Or.inr (Or.inl rfl) | exact Or.inr (Or.inr rfl))) (ea_cons (ex_ix c (nb c 1 rfl (by first | exact Or.inl rfl | exact Or.inr (Or.inl rfl) | exact Or.inr (Or.inr rfl))) ep_int (fun _ _ => rfl)) (ea_cons (ex_ix c (nb c 1 rfl (by first | exact Or.inl rfl | exact Or.inr (Or.inl rfl) | exact Or.inr (Or.inr rfl))) ep_int (fun _ _ => rfl)) ea_nil))) (len_cons (len_cons (len_cons len_nil))) rfl))) eb_nil) (eb_cons (es_if (et_cmpB (od_eq c) (ex_ix c (nb c 1 rfl (by first | exact Or.inl rfl | exact Or.inr (Or.inl rfl) | exact Or.inr (Or.inr rfl))) ep_int (fun _ _ => rfl)) (exb ex_str)) (eb_one (es_ret (ex_call c h_with_land (by decide) (ea_cons (nv c 0 rfl (by first | exact Or.inl rfl | exact Or.inr (Or.inl rfl) | exact Or.inr (Or.inr rfl))) (ea_cons (ex_ix c (nb c 1 rfl (by first | exact Or.inl rfl | exact Or.inr (Or.inl rfl) | exact Or.inr (Or.inr rfl))) ep_int (fun _ _ => rfl)) (ea_cons (ex_ix c (nb c 1 rfl (by first | exact Or.inl rfl | exact Or.inr (Or.inl rfl) | exact Or.inr (Or.inr rfl))) ep_int (fun _ _ => rfl)) (ea_cons (ex_ix c (nb c 1 rfl (by first | exact Or.inl rfl | exact Or.inr (Or.inl rfl) | exact Or.inr (Or.inr rfl))) ep_int (fun _ _ => rfl)) ea_nil)))) (len_cons (len_cons (len_cons (len_cons len_nil)))) rfl))) eb_nil) (eb_cons (es_if (et_cmpB (od_eq c) (ex_ix c (nb c 1 rfl (by first | exact Or.inl rfl | exact Or.inr (Or.inl rfl) | exact Or.inr (Or.inr rfl))) ep_int (fun _ _ => rfl)) (exb ex_str)) (eb_one (es_ret (ex_call c h_with_good (by decide) (ea_cons (nv c 0 rfl (by first | exact Or.inl rfl | exact Or.inr (Or.inl rfl) | exact Or.inr (Or.inr rfl))) (ea_cons (ex_ix c (nb c 1 rfl (by first | exact Or.inl rfl | exact Or.inr (Or.inl rfl) | exact Or.inr (Or.inr rfl))) ep_int (fun _ _ => rfl)) (ea_cons (ex_ix c (nb c 1 rfl (by first | exact Or.inl rfl | exact Or.inr (Or.inl rfl) | exact Or.inr (Or.inr rfl))) ep_int (fun _ _ => rfl)) ea_nil))) (len_cons (len_cons (len_cons len_nil))) rfl))) eb_nil) (eb_one (es_ret (ex_call c h_less_by (by decide) (ea_cons (nv c 0 rfl (by first | exact Or.inl rfl | exact Or.inr (Or.inl rfl) | exact Or.inr (Or.inr rfl))) (ea_cons (nv c 1 rfl (by first | exact Or.inl rfl | exact Or.inr (Or.inl rfl) | exact Or.inr (Or.inr rfl))) ea_nil)) (len_cons (len_cons len_nil)) rfl)))))))
abbrev s_Book___init__ : Stmt := mth 46 0
theorem sc_Book___init__ : FnScope ["self", "table"] ["self", "table"] (defScope s_Book___init__) := ⟨rfl, rfl, rfl, by decide +kernel, rfl, by decide +kernel, by decide +kernel⟩
theorem d_Book___init__ {f : Addr} {fd : FuncData} (F : Fun K "__init__" "Book.__init__" s_Book___init__ f fd)  (k_Book : ClF ⟨P, w, mg, base, ⟨K, fa, ca, T⟩, xn⟩ 60) (n_Book_undone : NoAttr K (ca 60) "undone") (n_Book_works : NoAttr K (ca 60) "works") (n_Book_tables : NoAttr K (ca 60) "tables") (h_check_table : FnF ⟨P, w, mg, base, ⟨K, fa, ca, T⟩, xn⟩ 28 "check_table" ["table"] 8 F_check_table) : FnOk P w K mg base (L2.CX P w) 10 f fd ["self", "table"] (spF ⟨K, fa, ca, T⟩ xn 2 F_Book___init__) :=
  fn_ok F sc_Book___init__ fun X W c fn si => (eb_cons (es_expr (ex_call c h_check_table (by decide) (ea_cons (nv c 1 rfl (by first | exact Or.inl rfl | exact Or.inr (Or.inl rfl) | exact Or.inr (Or.inr rfl))) ea_nil) (len_cons len_nil) rfl)) (eb_cons (es_fld c k_Book n_Book_tables (nv c 0 rfl (by first | exact Or.inl rfl | exact Or.inr (Or.inl rfl) | exact Or.inr (Or.inr rfl))) (ex_obj (ef_lst (ea_cons (nv c 1 rfl (by first | exact Or.inl rfl | exact Or.inr (Or.inl rfl) | exact Or.inr (Or.inr rfl))) ea_nil)))) (eb_cons (es_fld c k_Book n_Book_works (nv c 0 rfl (by first | exact Or.inl rfl | exact Or.inr (Or.inl rfl) | exact Or.inr (Or.inr rfl))) (ex_obj (ef_lst ea_nil))) (eb_one (es_fld c k_Book n_Book_undone (nv c 0 rfl (by first | exact Or.inl rfl | exact Or.inr (Or.inl rfl) | exact Or.inr (Or.inr rfl))) (ex_obj (ef_lst ea_nil)))))))
abbrev s_Book___eq__ : Stmt := mth 46 1
theorem sc_Book___eq__ : FnScope ["self", "other"] ["self", "other"] (defScope s_Book___eq__) := ⟨rfl, rfl, rfl, by decide +kernel, rfl, by decide +kernel, by decide +kernel⟩
theorem d_Book___eq__ {f : Addr} {fd : FuncData} (F : Fun K "__eq__" "Book.__eq__" s_Book___eq__ f fd)  (k_Book : ClF ⟨P, w, mg, base, ⟨K, fa, ca, T⟩, xn⟩ 60) (n_Book_works : NoAttr K (ca 60) "works") (n_Book_tables : NoAttr K (ca 60) "tables") (g_isinstance : mg "isinstance" = none) (g_Book : mg "Book" = some (.ref (ca 60))) (i_Book : IsC ⟨P, w, mg, base, ⟨K, fa, ca, T⟩, xn⟩ (ca 60) none (isE [] []) (isE [60] [60])) : FnOk P w K mg base (L2.CX P w) 2 f fd ["self", "other"] (spF ⟨K, fa, ca, T⟩ xn 2 F_Book___eq__) :=
  fn_ok F sc_Book___eq__ fun X W c fn si => (eb_cons (es_if (et_not (et_val (ex_isC c i_Book (nv c 1 rfl (by first | exact Or.inl rfl | exact Or.inr (Or.inl rfl) | exact Or.inr (Or.inr rfl))) g_Book rfl rfl g_isinstance rfl (by decide +kernel)))) (eb_one (es_ret ex_bl)) eb_nil) (eb_one (es_ret (ex_eqV c (ex_tup (ea_cons (ex_ix c (exb_vw (ex_fld c k_Book n_Book_tables (nv c 0 rfl (by first | exact Or.inl rfl | exact Or.inr (Or.inl rfl) | exact Or.inr (Or.inr rfl))))) ep_int (fun _ _ => rfl)) (ea_cons (ex_fld c k_Book n_Book_works (nv c 0 rfl (by first | exact Or.inl rfl | exact Or.inr (Or.inl rfl) | exact Or.inr (Or.inr rfl)))) ea_nil))) (ex_tup (ea_cons (ex_ix c (exb_vw (ex_fld c k_Book n_Book_tables (nv c 1 rfl (by first | exact Or.inl rfl | exact Or.inr (Or.inl rfl) | exact Or.inr (Or.inr rfl))))) ep_int (fun _ _ => rfl)) (ea_cons (ex_fld c k_Book n_Book_works (nv c 1 rfl (by first | exact Or.inl rfl | exact Or.inr (Or.inl rfl) | exact Or.inr (Or.inr rfl)))) ea_nil)))))))
abbrev s_Book_do : Stmt := mth 46 2
theorem sc_Book_do : FnScope ["self", "work"] ["self", "work"] (defScope s_Book_do) := ⟨rfl, rfl, rfl, by decide +kernel, rfl, by decide +kernel, by decide +kernel⟩
theorem d_Book_do {f : Addr} {fd : FuncData} (F : Fun K "do" "Book.do" s_Book_do f fd)  (k_Book : ClF ⟨P, w, mg, base, ⟨K, fa, ca, T⟩, xn⟩ 60) (n_Book_undone : NoAttr K (ca 60) "undone") (n_Book_works : NoAttr K (ca 60) "works") (n_Book_tables : NoAttr K (ca 60) "tables") (h_changed_by : FnF ⟨P, w, mg, base, ⟨K, fa, ca, T⟩, xn⟩ 45 "changed_by" ["table", "work"] 12 F_changed_by) (h_is_work : FnF ⟨P, w, mg, base, ⟨K, fa, ca, T⟩, xn⟩ 42 "is_work" ["thing"] 6 F_is_work) (e_BadWork : ExcF ⟨P, w, mg, base, ⟨K, fa, ca, T⟩, xn⟩ 24 "BadWork") : FnOk P w K mg base (L2.CX P w) 14 f fd ["self", "work"] (spF ⟨K, fa, ca, T⟩ xn 2 F_Book_do) :=
  fn_ok F sc_Book_do fun X W c fn si => (eb_cons (es_if (et_not (et_val (ex_call c h_is_work (by decide) (ea_cons (nv c 1 rfl (by first | exact Or.inl rfl | exact Or.inr (Or.inl rfl) | exact Or.inr (Or.inr rfl))) ea_nil) (len_cons len_nil) rfl))) (eb_one (es_raise c e_BadWork rfl)) eb_nil) (eb_cons (es_expr (ex_appO (ex_fld c k_Book n_Book_tables (nv c 0 rfl (by first | exact Or.inl rfl | exact Or.inr (Or.inl rfl) | exact Or.inr (Or.inr rfl)))) (ex_call c h_changed_by (by decide) (ea_cons (ex_ix c (exb_vw (ex_fld c k_Book n_Book_tables (nv c 0 rfl (by first | exact Or.inl rfl | exact Or.inr (Or.inl rfl) | exact Or.inr (Or.inr rfl))))) (ep_neg ep_int) (fun _ _ => rfl)) (ea_cons (nv c 1 rfl (by first | exact Or.inl rfl | exact Or.inr (Or.inl rfl) | exact Or.inr (Or.inr rfl))) ea_nil)) (len_cons (len_cons len_nil)) rfl))) (eb_cons (es_expr (ex_appO (ex_fld c k_Book n_Book_works (nv c 0 rfl (by first | exact Or.inl rfl | exact Or.inr (Or.inl rfl) | exact Or.inr (Or.inr rfl)))) (nv c 1 rfl (by first | exact Or.inl rfl | exact Or.inr (Or.inl rfl) | exact Or.inr (Or.inr rfl))))) (eb_one (es_fld c k_Book n_Book_undone (nv c 0 rfl (by first | exact Or.inl rfl | exact Or.inr (Or.inl rfl) | exact Or.inr (Or.inr rfl))) (ex_obj (ef_lst ea_nil)))))))
abbrev s_Book_table : Stmt := mth 46 3
theorem sc_Book_table : FnScope ["self"] ["self"] (defScope s_Book_table) := ⟨rfl, rfl, rfl, by decide +kernel, rfl, by decide +kernel, by decide +kernel⟩
theorem d_Book_table {f : Addr} {fd : FuncData} (F : Fun K "table" "Book.table" s_Book_table f fd)  (k_Book : ClF ⟨P, w, mg, base, ⟨K, fa, ca, T⟩, xn⟩ 60) (n_Book_tables : NoAttr K (ca 60) "tables") : FnOk P w K mg base (L2.CX P w) 2 f fd ["self"] (spF ⟨K, fa, ca, T⟩ xn 1 F_Book_table) :=
  fn_ok F sc_Book_table fun X W c fn si => (eb_one (es_ret (ex_ix c (exb_vw (ex_fld c k_Book n_Book_tables (nv c 0 rfl (by first | exact Or.inl rfl | exact Or.inr (Or.inl rfl) | exact Or.inr (Or.inr rfl))))) (ep_neg ep_int) (fun _ _ => rfl))))
abbrev s_Book_beginning : Stmt := mth 46 4
theorem sc_Book_beginning : FnScope ["self"] ["self"] (defScope s_Book_beginning) := ⟨rfl, rfl, rfl, by decide +kernel, rfl, by decide +kernel, by decide +kernel⟩
theorem d_Book_beginning {f : Addr} {fd : FuncData} (F : Fun K "beginning" "Book.beginning" s_Book_beginning f fd)  (k_Book : ClF ⟨P, w, mg, base, ⟨K, fa, ca, T⟩, xn⟩ 60) (n_Book_tables : NoAttr K (ca 60) "tables") : FnOk P w K mg base (L2.CX P w) 2 f fd ["self"] (spF ⟨K, fa, ca, T⟩ xn 1 F_Book_beginning) :=
  fn_ok F sc_Book_beginning fun X W c fn si => (eb_one (es_ret (ex_ix c (exb_vw (ex_fld c k_Book n_Book_tables (nv c 0 rfl (by first | exact Or.inl rfl | exact Or.inr (Or.inl rfl) | exact Or.inr (Or.inr rfl))))) ep_int (fun _ _ => rfl))))
abbrev s_Book_journal : Stmt := mth 46 5
theorem sc_Book_journal : FnScope ["self"] ["self"] (defScope s_Book_journal) := ⟨rfl, rfl, rfl, by decide +kernel, rfl, by decide +kernel, by decide +kernel⟩
theorem d_Book_journal {f : Addr} {fd : FuncData} (F : Fun K "journal" "Book.journal" s_Book_journal f fd)  (k_Book : ClF ⟨P, w, mg, base, ⟨K, fa, ca, T⟩, xn⟩ 60) (n_Book_works : NoAttr K (ca 60) "works") (g_list : mg "list" = none) : FnOk P w K mg base (L2.CX P w) 2 f fd ["self"] (spF ⟨K, fa, ca, T⟩ xn 1 F_Book_journal) :=
  fn_ok F sc_Book_journal fun X W c fn si => (eb_one (es_ret (ex_ef (w_list c ⟨rfl, g_list⟩ (exb_vw (ex_fld c k_Book n_Book_works (nv c 0 rfl (by first | exact Or.inl rfl | exact Or.inr (Or.inl rfl) | exact Or.inr (Or.inr rfl)))))))))
abbrev s_Book_undo : Stmt := mth 46 6
theorem sc_Book_undo : FnScope ["self"] ["self"] (defScope s_Book_undo) := ⟨rfl, rfl, rfl, by decide +kernel, rfl, by decide +kernel, by decide +kernel⟩
theorem d_Book_undo {f : Addr} {fd : FuncData} (F : Fun K "undo" "Book.undo" s_Book_undo f fd)  (k_Book : ClF ⟨P, w, mg, base, ⟨K, fa, ca, T⟩, xn⟩ 60) (n_Book_undone : NoAttr K (ca 60) "undone") (n_Book_tables : NoAttr K (ca 60) "tables") (n_Book_works : NoAttr K (ca 60) "works") (e_NotNow : ExcF ⟨P, w, mg, base, ⟨K, fa, ca, T⟩, xn⟩ 28 "NotNow") : FnOk P w K mg base (L2.CX P w) 2 f fd ["self"] (spF ⟨K, fa, ca, T⟩ xn 1 F_Book_undo) :=
  fn_ok F sc_Book_undo fun X W c fn si => (eb_cons (es_if (et_eqE c (exb_vw (ex_fld c k_Book n_Book_works (nv c 0 rfl (by first | exact Or.inl rfl | exact Or.inr (Or.inl rfl) | exact Or.inr (Or.inr rfl)))))) (eb_one (es_raise c e_NotNow rfl)) eb_nil) (eb_one (es_expr (ex_appO (ex_fld c k_Book n_Book_undone (nv c 0 rfl (by first | exact Or.inl rfl | exact Or.inr (Or.inl rfl) | exact Or.inr (Or.inr rfl)))) (ex_tup (ea_cons (ex_popO (ex_fld c k_Book n_Book_works (nv c 0 rfl (by first | exact Or.inl rfl | exact Or.inr (Or.inl rfl) | exact Or.inr (Or.inr rfl))))) (ea_cons (ex_popO (ex_fld c k_Book n_Book_tables (nv c 0 rfl (by first | exact Or.inl rfl | exact Or.inr (Or.inl rfl) | exact Or.inr (Or.inr rfl))))) ea_nil)))))))
abbrev s_Book_redo : Stmt := mth 46 7
theorem sc_Book_redo : FnScope ["self", "work", "table"] ["self"] (defScope s_Book_redo) := ⟨rfl, rfl, rfl, by decide +kernel, rfl, by decide +kernel, by decide +kernel⟩
theorem d_Book_redo {f : Addr} {fd : FuncData} (F : Fun K "redo" "Book.redo" s_Book_redo f fd)  (k_Book : ClF ⟨P, w, mg, base, ⟨K, fa, ca, T⟩, xn⟩ 60) (n_Book_tables : NoAttr K (ca 60) "tables") (n_Book_works : NoAttr K (ca 60) "works") (n_Book_undone : NoAttr K (ca 60) "undone") (e_NotNow : ExcF ⟨P, w, mg, base, ⟨K, fa, ca, T⟩, xn⟩ 28 "NotNow") : FnOk P w K mg base (L2.CX P w) 2 f fd ["self"] (spF ⟨K, fa, ca, T⟩ xn 1 F_Book_redo) :=
  fn_ok F sc_Book_redo fun X W c fn si => (eb_cons (es_if (et_eqE c (exb_vw (ex_fld c k_Book n_Book_undone (nv c 0 rfl (by first | exact Or.inl rfl | exact Or.inr (Or.inl rfl) | exact Or.inr (Or.inr rfl)))))) (eb_one (es_raise c e_NotNow rfl)) eb_nil) (eb_cons (es_asg (ex_popO (ex_fld c k_Book n_Book_undone (nv c 0 rfl (by first | exact Or.inl rfl | exact Or.inr (Or.inl rfl) | exact Or.inr (Or.inr rfl))))) (eg_tup c (egs_cons (eg_name c 1 rfl ((by first | exact Or.inl rfl | exact Or.inr ⟨rfl, (fun _ => fn _) _⟩))) (egs_cons (eg_name c 2 rfl ((by first | exact Or.inl rfl | exact Or.inr ⟨rfl, (fun _ => fn _) _⟩))) egs_nil)))) (eb_cons (es_expr (ex_appO (ex_fld c k_Book n_Book_works (nv c 0 rfl (by first | exact Or.inl rfl | exact Or.inr (Or.inl rfl) | exact Or.inr (Or.inr rfl)))) (nv c 1 rfl (by first | exact Or.inl rfl | exact Or.inr (Or.inl rfl) | exact Or.inr (Or.inr rfl))))) (eb_one (es_expr (ex_appO (ex_fld c k_Book n_Book_tables (nv c 0 rfl (by first | exact Or.inl rfl | exact Or.inr (Or.inl rfl) | exact Or.inr (Or.inr rfl)))) (nv c 2 rfl (by first | exact Or.inl rfl | exact Or.inr (Or.inl rfl) | exact Or.inr (Or.inr rfl)))))))))
abbrev s_Book_copy : Stmt := mth 46 8
theorem sc_Book_copy : FnScope ["self", "found"] ["self"] (defScope s_Book_copy) := ⟨rfl, rfl, rfl, by decide +kernel, rfl, by decide +kernel, by decide +kernel⟩
theorem d_Book_copy {f : Addr} {fd : FuncData} (F : Fun K "copy" "Book.copy" s_Book_copy f fd)  (k_Book : ClF ⟨P, w, mg, base, ⟨K, fa, ca, T⟩, xn⟩ 60) (n_Book_undone : NoAttr K (ca 60) "undone") (g_list : mg "list" = none) (n_Book_works : NoAttr K (ca 60) "works") (n_Book_tables : NoAttr K (ca 60) "tables") (b_Book___init__ : FnB ⟨P, w, mg, base, ⟨K, fa, ca, T⟩, xn⟩ 300 ["self", "table"] 10 F_Book___init__) (mk_Book : Mk K (ca 60) (fa 300)) (g_Book : mg "Book" = some (.ref (ca 60))) : FnOk P w K mg base (L2.CX P w) 13 f fd ["self"] (spF ⟨K, fa, ca, T⟩ xn 1 F_Book_copy) :=
  fn_ok F sc_Book_copy fun X W c fn si => (eb_cons (es_set c (ex_make c si mk_Book g_Book b_Book___init__ (by decide) (ea_cons (ex_ix c (exb_vw (ex_fld c k_Book n_Book_tables (nv c 0 rfl (by first | exact Or.inl rfl | exact Or.inr (Or.inl rfl) | exact Or.inr (Or.inr rfl))))) ep_int (fun _ _ => rfl)) ea_nil) (len_cons len_nil) rfl rfl) rfl ((by first | exact Or.inl rfl | exact Or.inr ⟨rfl, fn _⟩))) (eb_cons (es_fld c k_Book n_Book_tables (nv c 1 rfl (by first | exact Or.inl rfl | exact Or.inr (Or.inl rfl) | exact Or.inr (Or.inr rfl))) (ex_obj (w_list c ⟨rfl, g_list⟩ (exb_vw (ex_fld c k_Book n_Book_tables (nv c 0 rfl (by first | exact Or.inl rfl | exact Or.inr (Or.inl rfl) | exact Or.inr (Or.inr rfl)))))))) (eb_cons (es_fld c k_Book n_Book_works (nv c 1 rfl (by first | exact Or.inl rfl | exact Or.inr (Or.inl rfl) | exact Or.inr (Or.inr rfl))) (ex_obj (w_list c ⟨rfl, g_list⟩ (exb_vw (ex_fld c k_Book n_Book_works (nv c 0 rfl (by first | exact Or.inl rfl | exact Or.inr (Or.inl rfl) | exact Or.inr (Or.inr rfl)))))))) (eb_cons (es_fld c k_Book n_Book_undone (nv c 1 rfl (by first | exact Or.inl rfl | exact Or.inr (Or.inl rfl) | exact Or.inr (Or.inr rfl))) (ex_obj (w_list c ⟨rfl, g_list⟩ (exb_vw (ex_fld c k_Book n_Book_undone (nv c 0 rfl (by first | exact Or.inl rfl | exact Or.inr (Or.inl rfl) | exact Or.inr (Or.inr rfl)))))))) (eb_one (es_ret (nv c 1 rfl (by first | exact Or.inl rfl | exact Or.inr (Or.inl rfl) | exact Or.inr (Or.inr rfl)))))))))
abbrev s__law_begun : Stmt := top 48
theorem sc__law_begun : FnScope ["script", "large", "grain"] ["script"] (defScope s__law_begun) := ⟨rfl, rfl, rfl, by decide +kernel, rfl, by decide +kernel, by decide +kernel⟩
theorem d__law_begun {f : Addr} {fd : FuncData} (F : Fun K "_law_begun" "_law_begun" s__law_begun f fd)  (g_abs : mg "abs" = none) (g_int : mg "int" = none) : FnOk P w K mg base (L2.CX P w) 2 f fd ["script"] (spF ⟨K, fa, ca, T⟩ xn 1 F__law_begun) :=
  fn_ok F sc__law_begun fun X W c fn si => (eb_cons (es_lcO (own := [("grain", 2)]) c rfl rfl rfl (by decide +kernel) rfl (ei_any c (nv c 0 rfl (by first | exact Or.inl rfl | exact Or.inr (Or.inl rfl) | exact Or.inr (Or.inr rfl)))) ⟨rfl, by decide +kernel, by decide +kernel, by decide +kernel, by decide +kernel⟩ (fun Y c' f_ => (eg_name c' 2 rfl ((by first | exact Or.inl rfl | exact Or.inr ⟨rfl, (fun _ => f_ _) _⟩)))) (fun Y c' => (ets_one (et_cmpB od_ge (w_abs c' ⟨rfl, g_abs⟩ (nb c' 2 rfl (by first | exact Or.inl rfl | exact Or.inr (Or.inl rfl) | exact Or.inr (Or.inr rfl)))) (exb (ex_binB od_pow ex_int (exb ex_int)))))) (fun Y c' k_ => (ex_binB od_sub (w_abs c' ⟨rfl, g_abs⟩ (nb c' 2 rfl (by first | exact Or.inl rfl | exact Or.inr (Or.inl rfl) | exact Or.inr (Or.inr rfl)))) (exb (ex_binB od_pow ex_int (exb ex_int))))) (by decide)) (eb_one (es_ret (ex_dic (edp_cons (nv c 1 rfl (by first | exact Or.inl rfl | exact Or.inr (Or.inl rfl) | exact Or.inr (Or.inr rfl))) (edp_cons (ex_ef (ef_lc (own := [("grain", 2)]) c (ei_any c (nv c 0 rfl (by first | exact Or.inl rfl | exact Or.inr (Or.inl rfl) | exact Or.inr (Or.inr rfl)))) ⟨rfl, by decide +kernel, by decide +kernel, by decide +kernel, by decide +kernel⟩ (fun Y c' f_ => (eg_name c' 2 rfl ((by first | exact Or.inl rfl | exact Or.inr ⟨rfl, (fun _ => f_ _) _⟩)))) (fun Y c' => ets_nil) (fun Y c' k_ => (ex_binB od_mod (w_int c' ⟨rfl, g_int⟩ (exb (w_abs c' ⟨rfl, g_abs⟩ (nb c' 2 rfl (by first | exact Or.inl rfl | exact Or.inr (Or.inl rfl) | exact Or.inr (Or.inr rfl)))))) (exb ex_int))) (by decide))) (edp_cons ex_int (edp_cons ex_int edp_nil)))) (by decide +kernel) (by decide)))))
abbrev s__law_mixed : Stmt := top 49
theorem sc__law_mixed : FnScope ["draw", "prime", "turn", "found", "blend", "grain"] ["draw"] (defScope s__law_mixed) := ⟨rfl, rfl, rfl, by decide +kernel, rfl, by decide +kernel, by decide +kernel⟩
theorem d__law_mixed {f : Addr} {fd : FuncData} (F : Fun K "_law_mixed" "_law_mixed" s__law_mixed f fd)  (g_int : mg "int" = none) : FnOk P w K mg base (L2.CX P w) 2 f fd ["draw"] (spF ⟨K, fa, ca, T⟩ xn 1 F__law_mixed) :=
  fn_ok F sc__law_mixed fun X W c fn si => (eb_cons (es_par2 c 2 3 (by decide) (en_val (ex_binB (od_add c) (ex_dg c (nv c 0 rfl (by first | exact Or.inl rfl | exact Or.inr (Or.inl rfl) | exact Or.inr (Or.inr rfl)))) (exb ex_int)) (en_val ex_int en_nil)) rfl rfl rfl rfl (fun _ => rfl)) (eb_cons (es_dp c (nv c 0 rfl (by first | exact Or.inl rfl | exact Or.inr (Or.inl rfl) | exact Or.inr (Or.inr rfl))) (nv c 2 rfl (by first | exact Or.inl rfl | exact Or.inr (Or.inl rfl) | exact Or.inr (Or.inr rfl)))) (eb_cons (es_for c (ei_any c (ex_ef (ef_lst (ea_cons ex_int (ea_cons ex_int (ea_cons ex_int (ea_cons ex_int ea_nil))))))) (eg_name c 1 rfl ((by first | exact Or.inl rfl | exact Or.inr ⟨rfl, (fun _ => fn _) _⟩))) (eb_cons (es_set c (ex_binB (od_add c) (ex_binB od_mul ex_int (nb c 2 rfl (by first | exact Or.inl rfl | exact Or.inr (Or.inl rfl) | exact Or.inr (Or.inr rfl)))) (exb (ex_binB od_div (nv c 1 rfl (by first | exact Or.inl rfl | exact Or.inr (Or.inl rfl) | exact Or.inr (Or.inr rfl))) (exb ex_int)))) rfl ((by first | exact Or.inl rfl | exact Or.inr ⟨rfl, fn _⟩))) (eb_cons (es_for c (ei_any c (ex_dg c (nv c 0 rfl (by first | exact Or.inl rfl | exact Or.inr (Or.inl rfl) | exact Or.inr (Or.inr rfl))))) (eg_name c 5 rfl ((by first | exact Or.inl rfl | exact Or.inr ⟨rfl, (fun _ => fn _) _⟩))) (eb_one (es_set c (ex_binB od_mod (w_int c ⟨rfl, g_int⟩ (exb (ex_binB (od_add c) (ex_binB (od_add c) (ex_binB od_mul (nv c 4 rfl (by first | exact Or.inl rfl | exact Or.inr (Or.inl rfl) | exact Or.inr (Or.inr rfl))) (exb ex_int)) (nb c 5 rfl (by first | exact Or.inl rfl | exact Or.inr (Or.inl rfl) | exact Or.inr (Or.inr rfl)))) (nb c 2 rfl (by first | exact Or.inl rfl | exact Or.inr (Or.inl rfl) | exact Or.inr (Or.inr rfl)))))) (nb c 1 rfl (by first | exact Or.inl rfl | exact Or.inr (Or.inl rfl) | exact Or.inr (Or.inr rfl)))) rfl ((by first | exact Or.inl rfl | exact Or.inr ⟨rfl, fn _⟩))))) (eb_one (es_set c (ex_binB (od_add c) (ex_binB od_mul (nv c 3 rfl (by first | exact Or.inl rfl | exact Or.inr (Or.inl rfl) | exact Or.inr (Or.inr rfl))) (exb ex_int)) (nb c 4 rfl (by first | exact Or.inl rfl | exact Or.inr (Or.inl rfl) | exact Or.inr (Or.inr rfl)))) rfl ((by first | exact Or.inl rfl | exact Or.inr ⟨rfl, fn _⟩))))))) (eb_one (es_ret (nv c 3 rfl (by first | exact Or.inl rfl | exact Or.inr (Or.inl rfl) | exact Or.inr (Or.inr rfl))))))))
abbrev s__law_take : Stmt := top 50
theorem sc__law_take : FnScope ["draw", "many", "found"] ["draw", "many"] (defScope s__law_take) := ⟨rfl, rfl, rfl, by decide +kernel, rfl, by decide +kernel, by decide +kernel⟩
theorem d__law_take {f : Addr} {fd : FuncData} (F : Fun K "_law_take" "_law_take" s__law_take f fd)  (g_int : mg "int" = none) (h__law_mixed : FnF ⟨P, w, mg, base, ⟨K, fa, ca, T⟩, xn⟩ 49 "_law_mixed" ["draw"] 2 F__law_mixed) : FnOk P w K mg base (L2.CX P w) 4 f fd ["draw", "many"] (spF ⟨K, fa, ca, T⟩ xn 2 F__law_take) :=
  fn_ok F sc__law_take fun X W c fn si => (eb_cons (es_if (et_cmpB (od_eq c) (ex_dg c (nv c 0 rfl (by first | exact Or.inl rfl | exact Or.inr (Or.inl rfl) | exact Or.inr (Or.inr rfl)))) (exb ex_int)) (eb_one (es_dp c (nv c 0 rfl (by first | exact Or.inl rfl | exact Or.inr (Or.inl rfl) | exact Or.inr (Or.inr rfl))) (ex_ite (et_neE c (exb_vw (ex_dg c (nv c 0 rfl (by first | exact Or.inl rfl | exact Or.inr (Or.inl rfl) | exact Or.inr (Or.inr rfl)))))) (ex_popAO (ex_dg c (nv c 0 rfl (by first | exact Or.inl rfl | exact Or.inr (Or.inl rfl) | exact Or.inr (Or.inr rfl)))) ex_int) (ex_call c h__law_mixed (by decide) (ea_cons (nv c 0 rfl (by first | exact Or.inl rfl | exact Or.inr (Or.inl rfl) | exact Or.inr (Or.inr rfl))) ea_nil) (len_cons len_nil) rfl)))) eb_nil) (eb_cons (es_set c (ex_binB od_mod (w_int c ⟨rfl, g_int⟩ (exb (ex_dg c (nv c 0 rfl (by first | exact Or.inl rfl | exact Or.inr (Or.inl rfl) | exact Or.inr (Or.inr rfl)))))) (nb c 1 rfl (by first | exact Or.inl rfl | exact Or.inr (Or.inl rfl) | exact Or.inr (Or.inr rfl)))) rfl ((by first | exact Or.inl rfl | exact Or.inr ⟨rfl, fn _⟩))) (eb_cons (es_dp c (nv c 0 rfl (by first | exact Or.inl rfl | exact Or.inr (Or.inl rfl) | exact Or.inr (Or.inr rfl))) (ex_binB od_div (w_int c ⟨rfl, g_int⟩ (exb (ex_dg c (nv c 0 rfl (by first | exact Or.inl rfl | exact Or.inr (Or.inl rfl) | exact Or.inr (Or.inr rfl)))))) (nb c 1 rfl (by first | exact Or.inl rfl | exact Or.inr (Or.inl rfl) | exact Or.inr (Or.inr rfl))))) (eb_one (es_ret (nv c 2 rfl (by first | exact Or.inl rfl | exact Or.inr (Or.inl rfl) | exact Or.inr (Or.inr rfl))))))))
abbrev s__law_pick : Stmt := top 51
theorem sc__law_pick : FnScope ["draw", "some"] ["draw", "some"] (defScope s__law_pick) := ⟨rfl, rfl, rfl, by decide +kernel, rfl, by decide +kernel, by decide +kernel⟩
theorem d__law_pick {f : Addr} {fd : FuncData} (F : Fun K "_law_pick" "_law_pick" s__law_pick f fd)  (g_len : mg "len" = none) (h__law_take : FnF ⟨P, w, mg, base, ⟨K, fa, ca, T⟩, xn⟩ 50 "_law_take" ["draw", "many"] 4 F__law_take) : FnOk P w K mg base (L2.CX P w) 6 f fd ["draw", "some"] (spF ⟨K, fa, ca, T⟩ xn 2 F__law_pick) :=
  fn_ok F sc__law_pick fun X W c fn si => (eb_one (es_ret (ex_ixe c (nv c 1 rfl (by first | exact Or.inl rfl | exact Or.inr (Or.inl rfl) | exact Or.inr (Or.inr rfl))) (ex_call c h__law_take (by decide) (ea_cons (nv c 0 rfl (by first | exact Or.inl rfl | exact Or.inr (Or.inl rfl) | exact Or.inr (Or.inr rfl))) (ea_cons (w_len c ⟨rfl, g_len⟩ (nb c 1 rfl (by first | exact Or.inl rfl | exact Or.inr (Or.inl rfl) | exact Or.inr (Or.inr rfl)))) ea_nil)) (len_cons (len_cons len_nil)) rfl) (fun _ _ => rfl))))
abbrev s__law_shuffled : Stmt := top 52
theorem sc__law_shuffled : FnScope ["draw", "some", "left", "found"] ["draw", "some"] (defScope s__law_shuffled) := ⟨rfl, rfl, rfl, by decide +kernel, rfl, by decide +kernel, by decide +kernel⟩
theorem d__law_shuffled {f : Addr} {fd : FuncData} (F : Fun K "_law_shuffled" "_law_shuffled" s__law_shuffled f fd)  (g_len : mg "len" = none) (h__law_take : FnF ⟨P, w, mg, base, ⟨K, fa, ca, T⟩, xn⟩ 50 "_law_take" ["draw", "many"] 4 F__law_take) (g_list : mg "list" = none) : FnOk P w K mg base (L2.CX P w) 6 f fd ["draw", "some"] (spF ⟨K, fa, ca, T⟩ xn 2 F__law_shuffled) :=
  fn_ok F sc__law_shuffled fun X W c fn si => (eb_cons (es_par2 c 2 3 (by decide) (en_new (w_list c ⟨rfl, g_list⟩ (nb c 1 rfl (by first | exact Or.inl rfl | exact Or.inr (Or.inl rfl) | exact Or.inr (Or.inr rfl)))) (en_new (ef_lst ea_nil) en_nil)) rfl rfl rfl rfl (fun _ => rfl)) (eb_cons (es_while c 64 (et_neE c (nb c 2 rfl (by first | exact Or.inl rfl | exact Or.inr (Or.inl rfl) | exact Or.inr (Or.inr rfl)))) (eb_one (es_expr (ex_app 3 (ex_pop 2 (ex_call c h__law_take (by decide) (ea_cons (nv c 0 rfl (by first | exact Or.inl rfl | exact Or.inr (Or.inl rfl) | exact Or.inr (Or.inr rfl))) (ea_cons (w_len c ⟨rfl, g_len⟩ (nb c 2 rfl (by first | exact Or.inl rfl | exact Or.inr (Or.inl rfl) | exact Or.inr (Or.inr rfl)))) ea_nil)) (len_cons (len_cons len_nil)) rfl) (c.at_ rfl) (c.vis (by first | exact Or.inl rfl | exact Or.inr (Or.inl rfl) | exact Or.inr (Or.inr rfl)))) (c.at_ rfl) (c.vis (by first | exact Or.inl rfl | exact Or.inr (Or.inl rfl) | exact Or.inr (Or.inr rfl))))))) (eb_one (es_ret (nf c 3 rfl (by first | exact Or.inl rfl | exact Or.inr (Or.inl rfl) | exact Or.inr (Or.inr rfl)))))))
abbrev s__law_lot_of : Stmt := top 54
theorem sc__law_lot_of : FnScope ["draw", "pool", "many"] ["draw", "pool", "many"] (defScope s__law_lot_of) := ⟨rfl, rfl, rfl, by decide +kernel, rfl, by decide +kernel, by decide +kernel⟩
theorem d__law_lot_of {f : Addr} {fd : FuncData} (F : Fun K "_law_lot_of" "_law_lot_of" s__law_lot_of f fd)  (h__law_shuffled : FnF ⟨P, w, mg, base, ⟨K, fa, ca, T⟩, xn⟩ 52 "_law_shuffled" ["draw", "some"] 6 F__law_shuffled) (g_sorted : mg "sorted" = none) (g_tuple : mg "tuple" = none) : FnOk P w K mg base (L2.CX P w) 8 f fd ["draw", "pool", "many"] (spF ⟨K, fa, ca, T⟩ xn 3 F__law_lot_of) :=
  fn_ok F sc__law_lot_of fun X W c fn si => (eb_one (es_ret (w_tuple c ⟨rfl, g_tuple⟩ (exb_ef (w_sorted c ⟨rfl, g_sorted⟩ (exb_ef (ef_sl c (exb (ex_call c h__law_shuffled (by decide) (ea_cons (nv c 0 rfl (by first | exact Or.inl rfl | exact Or.inr (Or.inl rfl) | exact Or.inr (Or.inr rfl))) (ea_cons (nv c 1 rfl (by first | exact Or.inl rfl | exact Or.inr (Or.inl rfl) | exact Or.inr (Or.inr rfl))) ea_nil)) (len_cons (len_cons len_nil)) rfl)) epo_no (epo_so (ep_loc c 2 rfl (by first | exact Or.inl rfl | exact Or.inr (Or.inl rfl) | exact Or.inr (Or.inr rfl)))))))))))
abbrev s__law_lands : Stmt := top 55
theorem sc__law_lands : FnScope ["draw", "many"] ["draw", "many"] (defScope s__law_lands) := ⟨rfl, rfl, rfl, by decide +kernel, rfl, by decide +kernel, by decide +kernel⟩
theorem d__law_lands {f : Addr} {fd : FuncData} (F : Fun K "_law_lands" "_law_lands" s__law_lands f fd)  (h__law_lot_of : FnF ⟨P, w, mg, base, ⟨K, fa, ca, T⟩, xn⟩ 54 "_law_lot_of" ["draw", "pool", "many"] 8 F__law_lot_of) : FnOk P w K mg base (L2.CX P w) 10 f fd ["draw", "many"] (spF ⟨K, fa, ca, T⟩ xn 2 F__law_lands) :=
  fn_ok F sc__law_lands fun X W c fn si => (eb_one (es_ret (ex_call c h__law_lot_of (by decide) (ea_cons (nv c 0 rfl (by first | exact Or.inl rfl | exact Or.inr (Or.inl rfl) | exact Or.inr (Or.inr rfl))) (ea_cons (ex_ef (ef_lst (ea_cons ex_str (ea_cons ex_str (ea_cons ex_str (ea_cons ex_str (ea_cons ex_str (ea_cons ex_str ea_nil)))))))) (ea_cons (nv c 1 rfl (by first | exact Or.inl rfl | exact Or.inr (Or.inl rfl) | exact Or.inr (Or.inr rfl))) ea_nil))) (len_cons (len_cons (len_cons len_nil))) rfl)))
abbrev s__law_goods : Stmt := top 56
theorem sc__law_goods : FnScope ["draw", "many"] ["draw", "many"] (defScope s__law_goods) := ⟨rfl, rfl, rfl, by decide +kernel, rfl, by decide +kernel, by decide +kernel⟩
theorem d__law_goods {f : Addr} {fd : FuncData} (F : Fun K "_law_goods" "_law_goods" s__law_goods f fd)  (h__law_lot_of : FnF ⟨P, w, mg, base, ⟨K, fa, ca, T⟩, xn⟩ 54 "_law_lot_of" ["draw", "pool", "many"] 8 F__law_lot_of) : FnOk P w K mg base (L2.CX P w) 10 f fd ["draw", "many"] (spF ⟨K, fa, ca, T⟩ xn 2 F__law_goods) :=
  fn_ok F sc__law_goods fun X W c fn si => (eb_one (es_ret (ex_call c h__law_lot_of (by decide) (ea_cons (nv c 0 rfl (by first | exact Or.inl rfl | exact Or.inr (Or.inl rfl) | exact Or.inr (Or.inr rfl))) (ea_cons (ex_ef (ef_lst (ea_cons ex_str (ea_cons ex_str (ea_cons ex_str (ea_cons ex_str (ea_cons ex_str (ea_cons ex_str ea_nil)))))))) (ea_cons (nv c 1 rfl (by first | exact Or.inl rfl | exact Or.inr (Or.inl rfl) | exact Or.inr (Or.inr rfl))) ea_nil))) (len_cons (len_cons (len_cons len_nil))) rfl)))
abbrev s__law_table : Stmt := top 57
theorem sc__law_table : FnScope ["draw", "lands", "goods", "high", "rows", "top", "land", "good"] ["draw", "lands", "goods", "high"] (defScope s__law_table) := ⟨rfl, rfl, rfl, by decide +kernel, rfl, by decide +kernel, by decide +kernel⟩
theorem d__law_table {f : Addr} {fd : FuncData} (F : Fun K "_law_table" "_law_table" s__law_table f fd)  (h__law_take : FnF ⟨P, w, mg, base, ⟨K, fa, ca, T⟩, xn⟩ 50 "_law_take" ["draw", "many"] 4 F__law_take) (g_tuple : mg "tuple" = none) : FnOk P w K mg base (L2.CX P w) 6 f fd ["draw", "lands", "goods", "high"] (spF ⟨K, fa, ca, T⟩ xn 4 F__law_table) :=
  fn_ok F sc__law_table fun X W c fn si => (eb_cons (es_set c (w_tuple c ⟨rfl, g_tuple⟩ (exb_ef (ef_lc (own := [("land", 6)]) c (ei_any c (nv c 1 rfl (by first | exact Or.inl rfl | exact Or.inr (Or.inl rfl) | exact Or.inr (Or.inr rfl)))) ⟨rfl, by decide +kernel, by decide +kernel, by decide +kernel, by decide +kernel⟩ (fun Y c' f_ => (eg_name c' 6 rfl ((by first | exact Or.inl rfl | exact Or.inr ⟨rfl, (fun _ => f_ _) _⟩)))) (fun Y c' => ets_nil) (fun Y c' k_ => (w_tuple c' ⟨rfl, g_tuple⟩ (exb_ef (ef_lc (own := [("good", 7)]) c' (ei_any c' (nv c' 2 rfl (by first | exact Or.inl rfl | exact Or.inr (Or.inl rfl) | exact Or.inr (Or.inr rfl)))) ⟨rfl, by decide +kernel, by decide +kernel, by decide +kernel, by decide +kernel⟩ (fun Y c'' f_ => (eg_name c'' 7 rfl ((by first | exact Or.inl rfl | exact Or.inr ⟨rfl, (fun _ => f_ _) _⟩)))) (fun Y c'' => ets_nil) (fun Y c'' k_ => (ex_binB (od_add c'') ex_int (exb (ex_call c'' h__law_take (by decide) (ea_cons (nv c'' 0 rfl (by first | exact Or.inl rfl | exact Or.inr (Or.inl rfl) | exact Or.inr (Or.inr rfl))) (ea_cons (nv c'' 3 rfl (by first | exact Or.inl rfl | exact Or.inr (Or.inl rfl) | exact Or.inr (Or.inr rfl))) ea_nil)) (len_cons (len_cons len_nil)) rfl)))) (by decide))))) (by decide)))) rfl ((by first | exact Or.inl rfl | exact Or.inr ⟨rfl, fn _⟩))) (eb_cons (es_set c (ex_ixe c (ex_ef (ef_lst (ea_cons ex_int (ea_cons (ex_binB od_pow ex_int (exb ex_int)) ea_nil)))) (ex_call c h__law_take (by decide) (ea_cons (nv c 0 rfl (by first | exact Or.inl rfl | exact Or.inr (Or.inl rfl) | exact Or.inr (Or.inr rfl))) (ea_cons ex_int ea_nil)) (len_cons (len_cons len_nil)) rfl) (fun _ _ => rfl)) rfl ((by first | exact Or.inl rfl | exact Or.inr ⟨rfl, fn _⟩))) (eb_one (es_ret (ex_tup (ea_cons ex_str (ea_cons (nv c 1 rfl (by first | exact Or.inl rfl | exact Or.inr (Or.inl rfl) | exact Or.inr (Or.inr rfl))) (ea_cons (nv c 2 rfl (by first | exact Or.inl rfl | exact Or.inr (Or.inl rfl) | exact Or.inr (Or.inr rfl))) (ea_cons (nv c 4 rfl (by first | exact Or.inl rfl | exact Or.inr (Or.inl rfl) | exact Or.inr (Or.inr rfl))) (ea_cons (w_tuple c ⟨rfl, g_tuple⟩ (exb_ef (ef_lc (own := [("land", 6)]) c (ei_any c (nv c 1 rfl (by first | exact Or.inl rfl | exact Or.inr (Or.inl rfl) | exact Or.inr (Or.inr rfl)))) ⟨rfl, by decide +kernel, by decide +kernel, by decide +kernel, by decide +kernel⟩ (fun Y c' f_ => (eg_name c' 6 rfl ((by first | exact Or.inl rfl | exact Or.inr ⟨rfl, (fun _ => f_ _) _⟩)))) (fun Y c' => ets_nil) (fun Y c' k_ => (ex_binB (od_add c') ex_int (exb (ex_call c' h__law_take (by decide) (ea_cons (nv c' 0 rfl (by first | exact Or.inl rfl | exact Or.inr (Or.inl rfl) | exact Or.inr (Or.inr rfl))) (ea_cons (nv c' 5 rfl (by first | exact Or.inl rfl | exact Or.inr (Or.inl rfl) | exact Or.inr (Or.inr rfl))) ea_nil)) (len_cons (len_cons len_nil)) rfl)))) (by decide)))) ea_nil))))))))))
abbrev s__law_some_table : Stmt := top 58
theorem sc__law_some_table : FnScope ["draw", "most", "lands", "goods"] ["draw", "most"] (defScope s__law_some_table) := ⟨rfl, rfl, rfl, by decide +kernel, rfl, by decide +kernel, by decide +kernel⟩
theorem d__law_some_table {f : Addr} {fd : FuncData} (F : Fun K "_law_some_table" "_law_some_table" s__law_some_table f fd)  (h__law_take : FnF ⟨P, w, mg, base, ⟨K, fa, ca, T⟩, xn⟩ 50 "_law_take" ["draw", "many"] 4 F__law_take) (h__law_table : FnF ⟨P, w, mg, base, ⟨K, fa, ca, T⟩, xn⟩ 57 "_law_table" ["draw", "lands", "goods", "high"] 6 F__law_table) (h__law_goods : FnF ⟨P, w, mg, base, ⟨K, fa, ca, T⟩, xn⟩ 56 "_law_goods" ["draw", "many"] 10 F__law_goods) (h__law_lands : FnF ⟨P, w, mg, base, ⟨K, fa, ca, T⟩, xn⟩ 55 "_law_lands" ["draw", "many"] 10 F__law_lands) : FnOk P w K mg base (L2.CX P w) 12 f fd ["draw", "most"] (spF ⟨K, fa, ca, T⟩ xn 2 F__law_some_table) :=
  fn_ok F sc__law_some_table fun X W c fn si => (eb_cons (es_par2 c 2 3 (by decide) (en_val (ex_call c h__law_lands (by decide) (ea_cons (nv c 0 rfl (by first | exact Or.inl rfl | exact Or.inr (Or.inl rfl) | exact Or.inr (Or.inr rfl))) (ea_cons (ex_binB (od_add c) ex_int (exb (ex_call c h__law_take (by decide) (ea_cons (nv c 0 rfl (by first | exact Or.inl rfl | exact Or.inr (Or.inl rfl) | exact Or.inr (Or.inr rfl))) (ea_cons (nv c 1 rfl (by first | exact Or.inl rfl | exact Or.inr (Or.inl rfl) | exact Or.inr (Or.inr rfl))) ea_nil)) (len_cons (len_cons len_nil)) rfl))) ea_nil)) (len_cons (len_cons len_nil)) rfl) (en_val (ex_call c h__law_goods (by decide) (ea_cons (nv c 0 rfl (by first | exact Or.inl rfl | exact Or.inr (Or.inl rfl) | exact Or.inr (Or.inr rfl))) (ea_cons (ex_binB (od_add c) ex_int (exb (ex_call c h__law_take (by decide) (ea_cons (nv c 0 rfl (by first | exact Or.inl rfl | exact Or.inr (Or.inl rfl) | exact Or.inr (Or.inr rfl))) (ea_cons (nv c 1 rfl (by first | exact Or.inl rfl | exact Or.inr (Or.inl rfl) | exact Or.inr (Or.inr rfl))) ea_nil)) (len_cons (len_cons len_nil)) rfl))) ea_nil)) (len_cons (len_cons len_nil)) rfl) en_nil)) rfl rfl rfl rfl (fun _ => rfl)) (eb_one (es_ret (ex_call c h__law_table (by decide) (ea_cons (nv c 0 rfl (by first | exact Or.inl rfl | exact Or.inr (Or.inl rfl) | exact Or.inr (Or.inr rfl))) (ea_cons (nv c 2 rfl (by first | exact Or.inl rfl | exact Or.inr (Or.inl rfl) | exact Or.inr (Or.inr rfl))) (ea_cons (nv c 3 rfl (by first | exact Or.inl rfl | exact Or.inr (Or.inl rfl) | exact Or.inr (Or.inr rfl))) (ea_cons (ex_ixe c (ex_ef (ef_lst (ea_cons ex_int (ea_cons ex_int (ea_cons ex_int (ea_cons (ex_binB od_pow ex_int (exb ex_int)) ea_nil)))))) (ex_call c h__law_take (by decide) (ea_cons (nv c 0 rfl (by first | exact Or.inl rfl | exact Or.inr (Or.inl rfl) | exact Or.inr (Or.inr rfl))) (ea_cons ex_int ea_nil)) (len_cons (len_cons len_nil)) rfl) (fun _ _ => rfl)) ea_nil)))) (len_cons (len_cons (len_cons (len_cons len_nil)))) rfl))))
abbrev s__law_same : Stmt := top 59
theorem sc__law_same : FnScope ["told", "due"] ["told", "due"] (defScope s__law_same) := ⟨rfl, rfl, rfl, by decide +kernel, rfl, by decide +kernel, by decide +kernel⟩
theorem d__law_same {f : Addr} {fd : FuncData} (F : Fun K "_law_same" "_law_same" s__law_same f fd)  (g_repr : mg "repr" = none) : FnG P w K mg base (L2.CX P w) 2 f fd ["told", "due"] (spF ⟨K, fa, ca, T⟩ xn 2 F__law_same) :=
  gn_ok F sc__law_same fun X W c fn si gd => (eb_one (es_ret (ex_and (ex_eqL c (nv c 0 rfl (by first | exact Or.inl rfl | exact Or.inr (Or.inl rfl) | exact Or.inr (Or.inr rfl))) (nv c 1 rfl (by first | exact Or.inl rfl | exact Or.inr (Or.inl rfl) | exact Or.inr (Or.inr rfl)))) (ex_one (ex_cmpB (od_eq c) (w_reprL c gd ⟨rfl, g_repr⟩ (nv c 0 rfl (by first | exact Or.inl rfl | exact Or.inr (Or.inl rfl) | exact Or.inr (Or.inr rfl)))) (exb (w_reprL c gd ⟨rfl, g_repr⟩ (nv c 1 rfl (by first | exact Or.inl rfl | exact Or.inr (Or.inl rfl) | exact Or.inr (Or.inr rfl))))))))))
abbrev s__law_put : Stmt := top 60
theorem sc__law_put : FnScope ["some", "at", "one"] ["some", "at", "one"] (defScope s__law_put) := ⟨rfl, rfl, rfl, by decide +kernel, rfl, by decide +kernel, by decide +kernel⟩
theorem d__law_put {f : Addr} {fd : FuncData} (F : Fun K "_law_put" "_law_put" s__law_put f fd)   : FnOk P w K mg base (L2.CX P w) 2 f fd ["some", "at", "one"] (spF ⟨K, fa, ca, T⟩ xn 3 F__law_put) :=
  fn_ok F sc__law_put fun X W c fn si => (eb_one (es_ret (ex_binB (od_add c) (ex_binB (od_add c) (ex_sl c (nb c 0 rfl (by first | exact Or.inl rfl | exact Or.inr (Or.inl rfl) | exact Or.inr (Or.inr rfl))) epo_no (epo_so (ep_loc c 1 rfl (by first | exact Or.inl rfl | exact Or.inr (Or.inl rfl) | exact Or.inr (Or.inr rfl))))) (exb (ex_tup (ea_cons (nv c 2 rfl (by first | exact Or.inl rfl | exact Or.inr (Or.inl rfl) | exact Or.inr (Or.inr rfl))) ea_nil)))) (exb (ex_sl c (nb c 0 rfl (by first | exact Or.inl rfl | exact Or.inr (Or.inl rfl) | exact Or.inr (Or.inr rfl))) (epo_so (ep_loc c 1 rfl (by first | exact Or.inl rfl | exact Or.inr (Or.inl rfl) | exact Or.inr (Or.inr rfl)))) epo_no)))))
abbrev s__law_left : Stmt := top 61
theorem sc__law_left : FnScope ["some", "at"] ["some", "at"] (defScope s__law_left) := ⟨rfl, rfl, rfl, by decide +kernel, rfl, by decide +kernel, by decide +kernel⟩
theorem d__law_left {f : Addr} {fd : FuncData} (F : Fun K "_law_left" "_law_left" s__law_left f fd)   : FnOk P w K mg base (L2.CX P w) 2 f fd ["some", "at"] (spF ⟨K, fa, ca, T⟩ xn 2 F__law_left) :=
  fn_ok F sc__law_left fun X W c fn si => (eb_one (es_ret (ex_binB (od_add c) (ex_sl c (nb c 0 rfl (by first | exact Or.inl rfl | exact Or.inr (Or.inl rfl) | exact Or.inr (Or.inr rfl))) epo_no (epo_so (ep_loc c 1 rfl (by first | exact Or.inl rfl | exact Or.inr (Or.inl rfl) | exact Or.inr (Or.inr rfl))))) (exb (ex_sl c (nb c 0 rfl (by first | exact Or.inl rfl | exact Or.inr (Or.inl rfl) | exact Or.inr (Or.inr rfl))) (epo_so (ep_add (ep_loc c 1 rfl (by first | exact Or.inl rfl | exact Or.inr (Or.inl rfl) | exact Or.inr (Or.inr rfl))) ep_int)) epo_no)))))
abbrev s__law_done : Stmt := top 62
theorem sc__law_done : FnScope ["table", "work", "at", "by", "row", "word", "lands", "goods", "rows", "hours", "one"] ["table", "work"] (defScope s__law_done) := ⟨rfl, rfl, rfl, by decide +kernel, rfl, by decide +kernel, by decide +kernel⟩
theorem d__law_done {f : Addr} {fd : FuncData} (F : Fun K "_law_done" "_law_done" s__law_done f fd)  (g_len : mg "len" = none) (h__law_left : FnF ⟨P, w, mg, base, ⟨K, fa, ca, T⟩, xn⟩ 61 "_law_left" ["some", "at"] 2 F__law_left) (g_tuple : mg "tuple" = none) (g_zip : mg "zip" = none) (h__law_put : FnF ⟨P, w, mg, base, ⟨K, fa, ca, T⟩, xn⟩ 60 "_law_put" ["some", "at", "one"] 2 F__law_put) : FnOk P w K mg base (L2.CX P w) 4 f fd ["table", "work"] (spF ⟨K, fa, ca, T⟩ xn 2 F__law_done) :=
  fn_ok F sc__law_done fun X W c fn si => (eb_cons (es_asg (ex_binB (od_add c) (ex_tup (ea_cons (ex_ix c (nb c 1 rfl (by first | exact Or.inl rfl | exact Or.inr (Or.inl rfl) | exact Or.inr (Or.inr rfl))) ep_int (fun _ _ => rfl)) ea_nil)) (exb (ex_sl c (nb c 0 rfl (by first | exact Or.inl rfl | exact Or.inr (Or.inl rfl) | exact Or.inr (Or.inr rfl))) (epo_so ep_int) epo_no))) (eg_tup c (egs_cons (eg_name c 5 rfl ((by first | exact Or.inl rfl | exact Or.inr ⟨rfl, (fun _ => fn _) _⟩))) (egs_cons (eg_name c 6 rfl ((by first | exact Or.inl rfl | exact Or.inr ⟨rfl, (fun _ => fn _) _⟩))) (egs_cons (eg_name c 7 rfl ((by first | exact Or.inl rfl | exact Or.inr ⟨rfl, (fun _ => fn _) _⟩))) (egs_cons (eg_name c 8 rfl ((by first | exact Or.inl rfl | exact Or.inr ⟨rfl, (fun _ => fn _) _⟩))) (egs_cons (eg_name c 9 rfl ((by first | exact Or.inl rfl | exact Or.inr ⟨rfl, (fun _ => fn _) _⟩))) egs_nil))))))) (eb_cons (es_if (ew_et (ew_and (et_cmpB (od_in c) (nv c 5 rfl (by first | exact Or.inl rfl | exact Or.inr (Or.inl rfl) | exact Or.inr (Or.inr rfl))) (exb_ef (ef_lst (ea_cons ex_str (ea_cons ex_str (ea_cons ex_str ea_nil)))))) (ew_one_and (et_cmpB (od_nin c) (ex_ix c (nb c 1 rfl (by first | exact Or.inl rfl | exact Or.inr (Or.inl rfl) | exact Or.inr (Or.inr rfl))) ep_int (fun _ _ => rfl)) (nb c 6 rfl (by first | exact Or.inl rfl | exact Or.inr (Or.inl rfl) | exact Or.inr (Or.inr rfl))))))) (eb_one (es_ret (ex_tup (ea_cons ex_str (ea_cons (nv c 0 rfl (by first | exact Or.inl rfl | exact Or.inr (Or.inl rfl) | exact Or.inr (Or.inr rfl))) ea_nil))))) eb_nil) (eb_cons (es_if (ew_et (ew_or (ew_et (ew_and (et_cmpB (od_eq c) (nv c 5 rfl (by first | exact Or.inl rfl | exact Or.inr (Or.inl rfl) | exact Or.inr (Or.inr rfl))) (exb ex_str)) (ew_one_and (et_cmpB (od_nin c) (ex_ix c (nb c 1 rfl (by first | exact Or.inl rfl | exact Or.inr (Or.inl rfl) | exact Or.inr (Or.inr rfl))) ep_int (fun _ _ => rfl)) (nb c 7 rfl (by first | exact Or.inl rfl | exact Or.inr (Or.inl rfl) | exact Or.inr (Or.inr rfl))))))) (ew_one_or (ew_et (ew_and (et_cmpB (od_eq c) (nv c 5 rfl (by first | exact Or.inl rfl | exact Or.inr (Or.inl rfl) | exact Or.inr (Or.inr rfl))) (exb ex_str)) (ew_one_and (et_cmpB (od_nin c) (ex_ix c (nb c 1 rfl (by first | exact Or.inl rfl | exact Or.inr (Or.inl rfl) | exact Or.inr (Or.inr rfl))) ep_int (fun _ _ => rfl)) (nb c 7 rfl (by first | exact Or.inl rfl | exact Or.inr (Or.inl rfl) | exact Or.inr (Or.inr rfl)))))))))) (eb_one (es_ret (ex_tup (ea_cons ex_str (ea_cons (nv c 0 rfl (by first | exact Or.inl rfl | exact Or.inr (Or.inl rfl) | exact Or.inr (Or.inr rfl))) ea_nil))))) eb_nil) (eb_cons (es_if (et_cmpB (od_eq c) (nv c 5 rfl (by first | exact Or.inl rfl | exact Or.inr (Or.inl rfl) | exact Or.inr (Or.inr rfl))) (exb ex_str)) (eb_cons (es_if (et_cmpB (od_in c) (ex_ix c (nb c 1 rfl (by first | exact Or.inl rfl | exact Or.inr (Or.inl rfl) | exact Or.inr (Or.inr rfl))) ep_int (fun _ _ => rfl)) (nb c 7 rfl (by first | exact Or.inl rfl | exact Or.inr (Or.inl rfl) | exact Or.inr (Or.inr rfl)))) (eb_one (es_ret (ex_tup (ea_cons ex_str (ea_cons (nv c 0 rfl (by first | exact Or.inl rfl | exact Or.inr (Or.inl rfl) | exact Or.inr (Or.inr rfl))) ea_nil))))) eb_nil) (eb_cons (es_if (et_cmpB (od_in c) (ex_ix c (nb c 1 rfl (by first | exact Or.inl rfl | exact Or.inr (Or.inl rfl) | exact Or.inr (Or.inr rfl))) ep_int (fun _ _ => rfl)) (nb c 6 rfl (by first | exact Or.inl rfl | exact Or.inr (Or.inl rfl) | exact Or.inr (Or.inr rfl)))) (eb_one (es_ret (ex_tup (ea_cons ex_str (ea_cons (nv c 0 rfl (by first | exact Or.inl rfl | exact Or.inr (Or.inl rfl) | exact Or.inr (Or.inr rfl))) ea_nil))))) eb_nil) (eb_cons (es_if (et_cmpB (od_ne c) (w_len c ⟨rfl, g_len⟩ (exb (ex_ix c (nb c 1 rfl (by first | exact Or.inl rfl | exact Or.inr (Or.inl rfl) | exact Or.inr (Or.inr rfl))) ep_int (fun _ _ => rfl)))) (exb (w_len c ⟨rfl, g_len⟩ (nb c 7 rfl (by first | exact Or.inl rfl | exact Or.inr (Or.inl rfl) | exact Or.inr (Or.inr rfl)))))) (eb_one (es_ret (ex_tup (ea_cons ex_str (ea_cons (nv c 0 rfl (by first | exact Or.inl rfl | exact Or.inr (Or.inl rfl) | exact Or.inr (Or.inr rfl))) ea_nil))))) eb_nil) (eb_cons (es_if (et_cmpB (od_eq c) (w_len c ⟨rfl, g_len⟩ (nb c 6 rfl (by first | exact Or.inl rfl | exact Or.inr (Or.inl rfl) | exact Or.inr (Or.inr rfl)))) (exb ex_int)) (eb_one (es_ret (ex_tup (ea_cons ex_str (ea_cons (nv c 0 rfl (by first | exact Or.inl rfl | exact Or.inr (Or.inl rfl) | exact Or.inr (Or.inr rfl))) ea_nil))))) eb_nil) (eb_cons (es_set c (w_len c ⟨rfl, g_len⟩ (exb_ef (ef_lc (own := [("one", 10)]) c (ei_any c (nv c 6 rfl (by first | exact Or.inl rfl | exact Or.inr (Or.inl rfl) | exact Or.inr (Or.inr rfl)))) ⟨rfl, by decide +kernel, by decide +kernel, by decide +kernel, by decide +kernel⟩ (fun Y c' f_ => (eg_name c' 10 rfl ((by first | exact Or.inl rfl | exact Or.inr ⟨rfl, (fun _ => f_ _) _⟩)))) (fun Y c' => (ets_one (et_cmpB od_lt (nv c' 10 rfl (by first | exact Or.inl rfl | exact Or.inr (Or.inl rfl) | exact Or.inr (Or.inr rfl))) (exb (ex_ix c' (nb c' 1 rfl (by first | exact Or.inl rfl | exact Or.inr (Or.inl rfl) | exact Or.inr (Or.inr rfl))) ep_int (fun _ _ => rfl)))))) (fun Y c' k_ => (nv c' 10 rfl (by first | exact Or.inl rfl | exact Or.inr (Or.inl rfl) | exact Or.inr (Or.inr rfl)))) (by decide)))) rfl ((by first | exact Or.inl rfl | exact Or.inr ⟨rfl, fn _⟩))) (eb_one (es_ret (ex_tup (ea_cons ex_non (ea_cons (ex_tup (ea_cons ex_str (ea_cons (ex_call c h__law_put (by decide) (ea_cons (nv c 6 rfl (by first | exact Or.inl rfl | exact Or.inr (Or.inl rfl) | exact Or.inr (Or.inr rfl))) (ea_cons (nv c 2 rfl (by first | exact Or.inl rfl | exact Or.inr (Or.inl rfl) | exact Or.inr (Or.inr rfl))) (ea_cons (ex_ix c (nb c 1 rfl (by first | exact Or.inl rfl | exact Or.inr (Or.inl rfl) | exact Or.inr (Or.inr rfl))) ep_int (fun _ _ => rfl)) ea_nil))) (len_cons (len_cons (len_cons len_nil))) rfl) (ea_cons (nv c 7 rfl (by first | exact Or.inl rfl | exact Or.inr (Or.inl rfl) | exact Or.inr (Or.inr rfl))) (ea_cons (ex_call c h__law_put (by decide) (ea_cons (nv c 8 rfl (by first | exact Or.inl rfl | exact Or.inr (Or.inl rfl) | exact Or.inr (Or.inr rfl))) (ea_cons (nv c 2 rfl (by first | exact Or.inl rfl | exact Or.inr (Or.inl rfl) | exact Or.inr (Or.inr rfl))) (ea_cons (ex_ix c (nb c 1 rfl (by first | exact Or.inl rfl | exact Or.inr (Or.inl rfl) | exact Or.inr (Or.inr rfl))) ep_int (fun _ _ => rfl)) ea_nil))) (len_cons (len_cons (len_cons len_nil))) rfl) (ea_cons (ex_call c h__law_put (by decide) (ea_cons (nv c 9 rfl (by first | exact Or.inl rfl | exact Or.inr (Or.inl rfl) | exact Or.inr (Or.inr rfl))) (ea_cons (nv c 2 rfl (by first | exact Or.inl rfl | exact Or.inr (Or.inl rfl) | exact Or.inr (Or.inr rfl))) (ea_cons (ex_ix c (nb c 1 rfl (by first | exact Or.inl rfl | exact Or.inr (Or.inl rfl) | exact Or.inr (Or.inr rfl))) ep_int (fun _ _ => rfl)) ea_nil))) (len_cons (len_cons (len_cons len_nil))) rfl) ea_nil)))))) ea_nil)))))))))) eb_nil) (eb_cons (es_if (et_cmpB (od_eq c) (nv c 5 rfl (by first | exact Or.inl rfl | exact Or.inr (Or.inl rfl) | exact Or.inr (Or.inr rfl))) (exb ex_str)) (eb_cons (es_if (et_cmpB (od_in c) (ex_ix c (nb c 1 rfl (by first | exact Or.inl rfl | exact Or.inr (Or.inl rfl) | exact Or.inr (Or.inr rfl))) ep_int (fun _ _ => rfl)) (nb c 6 rfl (by first | exact Or.inl rfl | exact Or.inr (Or.inl rfl) | exact Or.inr (Or.inr rfl)))) (eb_one (es_ret (ex_tup (ea_cons ex_str (ea_cons (nv c 0 rfl (by first | exact Or.inl rfl | exact Or.inr (Or.inl rfl) | exact Or.inr (Or.inr rfl))) ea_nil))))) eb_nil) (eb_cons (es_if (et_cmpB (od_in c) (ex_ix c (nb c 1 rfl (by first | exact Or.inl rfl | exact Or.inr (Or.inl rfl) | exact Or.inr (Or.inr rfl))) ep_int (fun _ _ => rfl)) (nb c 7 rfl (by first | exact Or.inl rfl | exact Or.inr (Or.inl rfl) | exact Or.inr (Or.inr rfl)))) (eb_one (es_ret (ex_tup (ea_cons ex_str (ea_cons (nv c 0 rfl (by first | exact Or.inl rfl | exact Or.inr (Or.inl rfl) | exact Or.inr (Or.inr rfl))) ea_nil))))) eb_nil) (eb_cons (es_if (et_cmpB (od_ne c) (w_len c ⟨rfl, g_len⟩ (exb (ex_ix c (nb c 1 rfl (by first | exact Or.inl rfl | exact Or.inr (Or.inl rfl) | exact Or.inr (Or.inr rfl))) ep_int (fun _ _ => rfl)))) (exb (w_len c ⟨rfl, g_len⟩ (nb c 6 rfl (by first | exact Or.inl rfl | exact Or.inr (Or.inl rfl) | exact Or.inr (Or.inr rfl)))))) (eb_one (es_ret (ex_tup (ea_cons ex_str (ea_cons (nv c 0 rfl (by first | exact Or.inl rfl | exact Or.inr (Or.inl rfl) | exact Or.inr (Or.inr rfl))) ea_nil))))) eb_nil) (eb_cons (es_if (et_cmpB (od_eq c) (w_len c ⟨rfl, g_len⟩ (nb c 7 rfl (by first | exact Or.inl rfl | exact Or.inr (Or.inl rfl) | exact Or.inr (Or.inr rfl)))) (exb ex_int)) (eb_one (es_ret (ex_tup (ea_cons ex_str (ea_cons (nv c 0 rfl (by first | exact Or.inl rfl | exact Or.inr (Or.inl rfl) | exact Or.inr (Or.inr rfl))) ea_nil))))) eb_nil) (eb_cons (es_set c (w_len c ⟨rfl, g_len⟩ (exb_ef (ef_lc (own := [("one", 10)]) c (ei_any c (nv c 7 rfl (by first | exact Or.inl rfl | exact Or.inr (Or.inl rfl) | exact Or.inr (Or.inr rfl)))) ⟨rfl, by decide +kernel, by decide +kernel, by decide +kernel, by decide +kernel⟩ (fun Y c' f_ => (eg_name c' 10 rfl ((by first | exact Or.inl rfl | exact Or.inr ⟨rfl, (fun _ => f_ _) _⟩)))) (fun Y c' => (ets_one (et_cmpB od_lt (nv c' 10 rfl (by first | exact Or.inl rfl | exact Or.inr (Or.inl rfl) | exact Or.inr (Or.inr rfl))) (exb (ex_ix c' (nb c' 1 rfl (by first | exact Or.inl rfl | exact Or.inr (Or.inl rfl) | exact Or.inr (Or.inr rfl))) ep_int (fun _ _ => rfl)))))) (fun Y c' k_ => (nv c' 10 rfl (by first | exact Or.inl rfl | exact Or.inr (Or.inl rfl) | exact Or.inr (Or.inr rfl)))) (by decide)))) rfl ((by first | exact Or.inl rfl | exact Or.inr ⟨rfl, fn _⟩))) (eb_one (es_ret (ex_tup (ea_cons ex_non (ea_cons (ex_tup (ea_cons ex_str (ea_cons (nv c 6 rfl (by first | exact Or.inl rfl | exact Or.inr (Or.inl rfl) | exact Or.inr (Or.inr rfl))) (ea_cons (ex_call c h__law_put (by decide) (ea_cons (nv c 7 rfl (by first | exact Or.inl rfl | exact Or.inr (Or.inl rfl) | exact Or.inr (Or.inr rfl))) (ea_cons (nv c 2 rfl (by first | exact Or.inl rfl | exact Or.inr (Or.inl rfl) | exact Or.inr (Or.inr rfl))) (ea_cons (ex_ix c (nb c 1 rfl (by first | exact Or.inl rfl | exact Or.inr (Or.inl rfl) | exact Or.inr (Or.inr rfl))) ep_int (fun _ _ => rfl)) ea_nil))) (len_cons (len_cons (len_cons len_nil))) rfl) (ea_cons (w_tuple c ⟨rfl, g_tuple⟩ (exb_ef (ef_lc (own := [("row", 4), ("one", 10)]) c (ei_zip2 c rfl g_zip (ea_cons (nv c 8 rfl (by first | exact Or.inl rfl | exact Or.inr (Or.inl rfl) | exact Or.inr (Or.inr rfl))) (ea_cons (ex_ix c (nb c 1 rfl (by first | exact Or.inl rfl | exact Or.inr (Or.inl rfl) | exact Or.inr (Or.inr rfl))) ep_int (fun _ _ => rfl)) ea_nil))) ⟨rfl, by decide +kernel, by decide +kernel, by decide +kernel, by decide +kernel⟩ (fun Y c' f_ => (eg_tup c' (egs_cons (eg_name c' 4 rfl ((by first | exact Or.inl rfl | exact Or.inr ⟨rfl, (fun _ => f_ _) _⟩))) (egs_cons (eg_name c' 10 rfl ((by first | exact Or.inl rfl | exact Or.inr ⟨rfl, (fun _ => f_ _) _⟩))) egs_nil)))) (fun Y c' => ets_nil) (fun Y c' k_ => (ex_call c' h__law_put (by decide) (ea_cons (nv c' 4 rfl (by first | exact Or.inl rfl | exact Or.inr (Or.inl rfl) | exact Or.inr (Or.inr rfl))) (ea_cons (nv c' 2 rfl (by first | exact Or.inl rfl | exact Or.inr (Or.inl rfl) | exact Or.inr (Or.inr rfl))) (ea_cons (nv c' 10 rfl (by first | exact Or.inl rfl | exact Or.inr (Or.inl rfl) | exact Or.inr (Or.inr rfl))) ea_nil))) (len_cons (len_cons (len_cons len_nil))) rfl)) (by decide)))) (ea_cons (nv c 9 rfl (by first | exact Or.inl rfl | exact Or.inr (Or.inl rfl) | exact Or.inr (Or.inr rfl))) ea_nil)))))) ea_nil)))))))))) eb_nil) (eb_cons (es_if (et_cmpB (od_eq c) (nv c 5 rfl (by first | exact Or.inl rfl | exact Or.inr (Or.inl rfl) | exact Or.inr (Or.inr rfl))) (exb ex_str)) (eb_cons (es_set c (ex_index c (nv c 6 rfl (by first | exact Or.inl rfl | exact Or.inr (Or.inl rfl) | exact Or.inr (Or.inr rfl))) (ex_ix c (nb c 1 rfl (by first | exact Or.inl rfl | exact Or.inr (Or.inl rfl) | exact Or.inr (Or.inr rfl))) ep_int (fun _ _ => rfl))) rfl ((by first | exact Or.inl rfl | exact Or.inr ⟨rfl, fn _⟩))) (eb_one (es_ret (ex_ite (et_cmpB (od_eq c) (w_len c ⟨rfl, g_len⟩ (nb c 6 rfl (by first | exact Or.inl rfl | exact Or.inr (Or.inl rfl) | exact Or.inr (Or.inr rfl)))) (exb ex_int)) (ex_tup (ea_cons ex_str (ea_cons (nv c 0 rfl (by first | exact Or.inl rfl | exact Or.inr (Or.inl rfl) | exact Or.inr (Or.inr rfl))) ea_nil))) (ex_tup (ea_cons ex_non (ea_cons (ex_tup (ea_cons ex_str (ea_cons (ex_call c h__law_left (by decide) (ea_cons (nv c 6 rfl (by first | exact Or.inl rfl | exact Or.inr (Or.inl rfl) | exact Or.inr (Or.inr rfl))) (ea_cons (nv c 2 rfl (by first | exact Or.inl rfl | exact Or.inr (Or.inl rfl) | exact Or.inr (Or.inr rfl))) ea_nil)) (len_cons (len_cons len_nil)) rfl) (ea_cons (nv c 7 rfl (by first | exact Or.inl rfl | exact Or.inr (Or.inl rfl) | exact Or.inr (Or.inr rfl))) (ea_cons (ex_call c h__law_left (by decide) (ea_cons (nv c 8 rfl (by first | exact Or.inl rfl | exact Or.inr (Or.inl rfl) | exact Or.inr (Or.inr rfl))) (ea_cons (nv c 2 rfl (by first | exact Or.inl rfl | exact Or.inr (Or.inl rfl) | exact Or.inr (Or.inr rfl))) ea_nil)) (len_cons (len_cons len_nil)) rfl) (ea_cons (ex_call c h__law_left (by decide) (ea_cons (nv c 9 rfl (by first | exact Or.inl rfl | exact Or.inr (Or.inl rfl) | exact Or.inr (Or.inr rfl))) (ea_cons (nv c 2 rfl (by first | exact Or.inl rfl | exact Or.inr (Or.inl rfl) | exact Or.inr (Or.inr rfl))) ea_nil)) (len_cons (len_cons len_nil)) rfl) ea_nil)))))) ea_nil))))))) eb_nil) (eb_cons (es_if (et_cmpB (od_eq c) (nv c 5 rfl (by first | exact Or.inl rfl | exact Or.inr (Or.inl rfl) | exact Or.inr (Or.inr rfl))) (exb ex_str)) (eb_cons (es_set c (ex_index c (nv c 7 rfl (by first | exact Or.inl rfl | exact Or.inr (Or.inl rfl) | exact Or.inr (Or.inr rfl))) (ex_ix c (nb c 1 rfl (by first | exact Or.inl rfl | exact Or.inr (Or.inl rfl) | exact Or.inr (Or.inr rfl))) ep_int (fun _ _ => rfl))) rfl ((by first | exact Or.inl rfl | exact Or.inr ⟨rfl, fn _⟩))) (eb_one (es_ret (ex_ite (et_cmpB (od_eq c) (w_len c ⟨rfl, g_len⟩ (nb c 7 rfl (by first | exact Or.inl rfl | exact Or.inr (Or.inl rfl) | exact Or.inr (Or.inr rfl)))) (exb ex_int)) (ex_tup (ea_cons ex_str (ea_cons (nv c 0 rfl (by first | exact Or.inl rfl | exact Or.inr (Or.inl rfl) | exact Or.inr (Or.inr rfl))) ea_nil))) (ex_tup (ea_cons ex_non (ea_cons (ex_tup (ea_cons ex_str (ea_cons (nv c 6 rfl (by first | exact Or.inl rfl | exact Or.inr (Or.inl rfl) | exact Or.inr (Or.inr rfl))) (ea_cons (ex_call c h__law_left (by decide) (ea_cons (nv c 7 rfl (by first | exact Or.inl rfl | exact Or.inr (Or.inl rfl) | exact Or.inr (Or.inr rfl))) (ea_cons (nv c 2 rfl (by first | exact Or.inl rfl | exact Or.inr (Or.inl rfl) | exact Or.inr (Or.inr rfl))) ea_nil)) (len_cons (len_cons len_nil)) rfl) (ea_cons (w_tuple c ⟨rfl, g_tuple⟩ (exb_ef (ef_lc (own := [("row", 4)]) c (ei_any c (nv c 8 rfl (by first | exact Or.inl rfl | exact Or.inr (Or.inl rfl) | exact Or.inr (Or.inr rfl)))) ⟨rfl, by decide +kernel, by decide +kernel, by decide +kernel, by decide +kernel⟩ (fun Y c' f_ => (eg_name c' 4 rfl ((by first | exact Or.inl rfl | exact Or.inr ⟨rfl, (fun _ => f_ _) _⟩)))) (fun Y c' => ets_nil) (fun Y c' k_ => (ex_call c' h__law_left (by decide) (ea_cons (nv c' 4 rfl (by first | exact Or.inl rfl | exact Or.inr (Or.inl rfl) | exact Or.inr (Or.inr rfl))) (ea_cons (nv c' 2 rfl (by first | exact Or.inl rfl | exact Or.inr (Or.inl rfl) | exact Or.inr (Or.inr rfl))) ea_nil)) (len_cons (len_cons len_nil)) rfl)) (by decide)))) (ea_cons (nv c 9 rfl (by first | exact Or.inl rfl | exact Or.inr (Or.inl rfl) | exact Or.inr (Or.inr rfl))) ea_nil)))))) ea_nil))))))) eb_nil) (eb_cons (es_set c (ex_index c (nv c 6 rfl (by first | exact Or.inl rfl | exact Or.inr (Or.inl rfl) | exact Or.inr (Or.inr rfl))) (ex_ix c (nb c 1 rfl (by first | exact Or.inl rfl | exact Or.inr (Or.inl rfl) | exact Or.inr (Or.inr rfl))) ep_int (fun _ _ => rfl))) rfl ((by first | exact Or.inl rfl | exact Or.inr ⟨rfl, fn _⟩))) (eb_cons (es_if (et_cmpB (od_eq c) (nv c 5 rfl (by first | exact Or.inl rfl | exact Or.inr (Or.inl rfl) | exact Or.inr (Or.inr rfl))) (exb ex_str)) (eb_one (es_ret (ex_tup (ea_cons ex_non (ea_cons (ex_tup (ea_cons ex_str (ea_cons (nv c 6 rfl (by first | exact Or.inl rfl | exact Or.inr (Or.inl rfl) | exact Or.inr (Or.inr rfl))) (ea_cons (nv c 7 rfl (by first | exact Or.inl rfl | exact Or.inr (Or.inl rfl) | exact Or.inr (Or.inr rfl))) (ea_cons (nv c 8 rfl (by first | exact Or.inl rfl | exact Or.inr (Or.inl rfl) | exact Or.inr (Or.inr rfl))) (ea_cons (ex_binB (od_add c) (ex_binB (od_add c) (ex_sl c (nb c 9 rfl (by first | exact Or.inl rfl | exact Or.inr (Or.inl rfl) | exact Or.inr (Or.inr rfl))) epo_no (epo_so (ep_loc c 2 rfl (by first | exact Or.inl rfl | exact Or.inr (Or.inl rfl) | exact Or.inr (Or.inr rfl))))) (exb (ex_tup (ea_cons (ex_ix c (nb c 1 rfl (by first | exact Or.inl rfl | exact Or.inr (Or.inl rfl) | exact Or.inr (Or.inr rfl))) ep_int (fun _ _ => rfl)) ea_nil)))) (exb (ex_sl c (nb c 9 rfl (by first | exact Or.inl rfl | exact Or.inr (Or.inl rfl) | exact Or.inr (Or.inr rfl))) (epo_so (ep_add (ep_loc c 2 rfl (by first | exact Or.inl rfl | exact Or.inr (Or.inl rfl) | exact Or.inr (Or.inr rfl))) ep_int)) epo_no))) ea_nil)))))) ea_nil))))) eb_nil) (eb_cons (es_set c (ex_index c (nv c 7 rfl (by first | exact Or.inl rfl | exact Or.inr (Or.inl rfl) | exact Or.inr (Or.inr rfl))) (ex_ix c (nb c 1 rfl (by first | exact Or.inl rfl | exact Or.inr (Or.inl rfl) | exact Or.inr (Or.inr rfl))) ep_int (fun _ _ => rfl))) rfl ((by first | exact Or.inl rfl | exact Or.inr ⟨rfl, fn _⟩))) (eb_cons (es_set c (ex_binB (od_add c) (ex_binB (od_add c) (ex_sl c (exb (ex_ix c (nb c 8 rfl (by first | exact Or.inl rfl | exact Or.inr (Or.inl rfl) | exact Or.inr (Or.inr rfl))) (ep_loc c 2 rfl (by first | exact Or.inl rfl | exact Or.inr (Or.inl rfl) | exact Or.inr (Or.inr rfl))) (fun _ _ => rfl))) epo_no (epo_so (ep_loc c 3 rfl (by first | exact Or.inl rfl | exact Or.inr (Or.inl rfl) | exact Or.inr (Or.inr rfl))))) (exb (ex_tup (ea_cons (ex_ix c (nb c 1 rfl (by first | exact Or.inl rfl | exact Or.inr (Or.inl rfl) | exact Or.inr (Or.inr rfl))) ep_int (fun _ _ => rfl)) ea_nil)))) (exb (ex_sl c (exb (ex_ix c (nb c 8 rfl (by first | exact Or.inl rfl | exact Or.inr (Or.inl rfl) | exact Or.inr (Or.inr rfl))) (ep_loc c 2 rfl (by first | exact Or.inl rfl | exact Or.inr (Or.inl rfl) | exact Or.inr (Or.inr rfl))) (fun _ _ => rfl))) (epo_so (ep_add (ep_loc c 3 rfl (by first | exact Or.inl rfl | exact Or.inr (Or.inl rfl) | exact Or.inr (Or.inr rfl))) ep_int)) epo_no))) rfl ((by first | exact Or.inl rfl | exact Or.inr ⟨rfl, fn _⟩))) (eb_one (es_ret (ex_tup (ea_cons ex_non (ea_cons (ex_tup (ea_cons ex_str (ea_cons (nv c 6 rfl (by first | exact Or.inl rfl | exact Or.inr (Or.inl rfl) | exact Or.inr (Or.inr rfl))) (ea_cons (nv c 7 rfl (by first | exact Or.inl rfl | exact Or.inr (Or.inl rfl) | exact Or.inr (Or.inr rfl))) (ea_cons (ex_binB (od_add c) (ex_binB (od_add c) (ex_sl c (nb c 8 rfl (by first | exact Or.inl rfl | exact Or.inr (Or.inl rfl) | exact Or.inr (Or.inr rfl))) epo_no (epo_so (ep_loc c 2 rfl (by first | exact Or.inl rfl | exact Or.inr (Or.inl rfl) | exact Or.inr (Or.inr rfl))))) (exb (ex_tup (ea_cons (nv c 4 rfl (by first | exact Or.inl rfl | exact Or.inr (Or.inl rfl) | exact Or.inr (Or.inr rfl))) ea_nil)))) (exb (ex_sl c (nb c 8 rfl (by first | exact Or.inl rfl | exact Or.inr (Or.inl rfl) | exact Or.inr (Or.inr rfl))) (epo_so (ep_add (ep_loc c 2 rfl (by first | exact Or.inl rfl | exact Or.inr (Or.inl rfl) | exact Or.inr (Or.inr rfl))) ep_int)) epo_no))) (ea_cons (nv c 9 rfl (by first | exact Or.inl rfl | exact Or.inr (Or.inl rfl) | exact Or.inr (Or.inr rfl))) ea_nil)))))) ea_nil))))))))))))))))
abbrev s__law_kind : Stmt := top 63
theorem sc__law_kind : FnScope ["error"] ["error"] (defScope s__law_kind) := ⟨rfl, rfl, rfl, by decide +kernel, rfl, by decide +kernel, by decide +kernel⟩
theorem d__law_kind {f : Addr} {fd : FuncData} (F : Fun K "_law_kind" "_law_kind" s__law_kind f fd)  (g_isinstance : mg "isinstance" = none) (g_NotNow : mg "NotNow" = some (.ref (ca 28))) (i_NotNow : IsC ⟨P, w, mg, base, ⟨K, fa, ca, T⟩, xn⟩ (ca 28) (some false) (isE [1, 3, 10, 11, 21, 22, 24, 25, 26, 28, 29, 30, 33] [28]) (isE [] [])) (g_TooMany : mg "TooMany" = some (.ref (ca 33))) (i_TooMany : IsC ⟨P, w, mg, base, ⟨K, fa, ca, T⟩, xn⟩ (ca 33) (some false) (isE [1, 3, 10, 11, 21, 22, 24, 25, 26, 28, 29, 30, 33] [33]) (isE [] [])) (g_TooFew : mg "TooFew" = some (.ref (ca 29))) (i_TooFew : IsC ⟨P, w, mg, base, ⟨K, fa, ca, T⟩, xn⟩ (ca 29) (some false) (isE [1, 3, 10, 11, 21, 22, 24, 25, 26, 28, 29, 30, 33] [29]) (isE [] [])) (g_BadNumber : mg "BadNumber" = some (.ref (ca 11))) (i_BadNumber : IsC ⟨P, w, mg, base, ⟨K, fa, ca, T⟩, xn⟩ (ca 11) (some false) (isE [1, 3, 10, 11, 21, 22, 24, 25, 26, 28, 29, 30, 33] [11]) (isE [] [])) (g_BadColumn : mg "BadColumn" = some (.ref (ca 3))) (i_BadColumn : IsC ⟨P, w, mg, base, ⟨K, fa, ca, T⟩, xn⟩ (ca 3) (some false) (isE [1, 3, 10, 11, 21, 22, 24, 25, 26, 28, 29, 30, 33] [3]) (isE [] [])) (g_BadRow : mg "BadRow" = some (.ref (ca 21))) (i_BadRow : IsC ⟨P, w, mg, base, ⟨K, fa, ca, T⟩, xn⟩ (ca 21) (some false) (isE [1, 3, 10, 11, 21, 22, 24, 25, 26, 28, 29, 30, 33] [21]) (isE [] [])) (g_Twice : mg "Twice" = some (.ref (ca 30))) (i_Twice : IsC ⟨P, w, mg, base, ⟨K, fa, ca, T⟩, xn⟩ (ca 30) (some false) (isE [1, 3, 10, 11, 21, 22, 24, 25, 26, 28, 29, 30, 33] [30]) (isE [] [])) (g_BadName : mg "BadName" = some (.ref (ca 10))) (i_BadName : IsC ⟨P, w, mg, base, ⟨K, fa, ca, T⟩, xn⟩ (ca 10) (some false) (isE [1, 3, 10, 11, 21, 22, 24, 25, 26, 28, 29, 30, 33] [10]) (isE [] [])) (g_NoGood : mg "NoGood" = some (.ref (ca 25))) (i_NoGood : IsC ⟨P, w, mg, base, ⟨K, fa, ca, T⟩, xn⟩ (ca 25) (some false) (isE [1, 3, 10, 11, 21, 22, 24, 25, 26, 28, 29, 30, 33] [25]) (isE [] [])) (g_NoLand : mg "NoLand" = some (.ref (ca 26))) (i_NoLand : IsC ⟨P, w, mg, base, ⟨K, fa, ca, T⟩, xn⟩ (ca 26) (some false) (isE [1, 3, 10, 11, 21, 22, 24, 25, 26, 28, 29, 30, 33] [26]) (isE [] [])) : FnOk P w K mg base (L2.CX P w) 2 f fd ["error"] (spF ⟨K, fa, ca, T⟩ xn 1 F__law_kind) :=
  fn_ok F sc__law_kind fun X W c fn si => (eb_cons (es_if (et_val (ex_isC c i_NoLand (nv c 0 rfl (by first | exact Or.inl rfl | exact Or.inr (Or.inl rfl) | exact Or.inr (Or.inr rfl))) g_NoLand rfl rfl g_isinstance rfl (by decide +kernel))) (eb_one (es_ret ex_str)) eb_nil) (eb_cons (es_if (et_val (ex_isC c i_NoGood (nv c 0 rfl (by first | exact Or.inl rfl | exact Or.inr (Or.inl rfl) | exact Or.inr (Or.inr rfl))) g_NoGood rfl rfl g_isinstance rfl (by decide +kernel))) (eb_one (es_ret ex_str)) eb_nil) (eb_cons (es_if (et_val (ex_isC c i_BadName (nv c 0 rfl (by first | exact Or.inl rfl | exact Or.inr (Or.inl rfl) | exact Or.inr (Or.inr rfl))) g_BadName rfl rfl g_isinstance rfl (by decide +kernel))) (eb_one (es_ret ex_str)) eb_nil) (eb_cons (es_if (et_val (ex_isC c i_Twice (nv c 0 rfl (by first | exact Or.inl rfl | exact Or.inr (Or.inl rfl) | exact Or.inr (Or.inr rfl))) g_Twice rfl rfl g_isinstance rfl (by decide +kernel))) (eb_one (es_ret ex_str)) eb_nil) (eb_cons (es_if (et_val (ex_isC c i_BadRow (nv c 0 rfl (by first | exact Or.inl rfl | exact Or.inr (Or.inl rfl) | exact Or.inr (Or.inr rfl))) g_BadRow rfl rfl g_isinstance rfl (by decide +kernel))) (eb_one (es_ret ex_str)) eb_nil) (eb_cons (es_if (et_val (ex_isC c i_BadColumn (nv c 0 rfl (by first | exact Or.inl rfl | exact Or.inr (Or.inl rfl) | exact Or.inr (Or.inr rfl))) g_BadColumn rfl rfl g_isinstance rfl (by decide +kernel))) (eb_one (es_ret ex_str)) eb_nil) (eb_cons (es_if (et_val (ex_isC c i_BadNumber (nv c 0 rfl (by first | exact Or.inl rfl | exact Or.inr (Or.inl rfl) | exact Or.inr (Or.inr rfl))) g_BadNumber rfl rfl g_isinstance rfl (by decide +kernel))) (eb_one (es_ret ex_str)) eb_nil) (eb_cons (es_if (et_val (ex_isC c i_TooFew (nv c 0 rfl (by first | exact Or.inl rfl | exact Or.inr (Or.inl rfl) | exact Or.inr (Or.inr rfl))) g_TooFew rfl rfl g_isinstance rfl (by decide +kernel))) (eb_one (es_ret ex_str)) eb_nil) (eb_cons (es_if (et_val (ex_isC c i_TooMany (nv c 0 rfl (by first | exact Or.inl rfl | exact Or.inr (Or.inl rfl) | exact Or.inr (Or.inr rfl))) g_TooMany rfl rfl g_isinstance rfl (by decide +kernel))) (eb_one (es_ret ex_str)) eb_nil) (eb_cons (es_if (et_val (ex_isC c i_NotNow (nv c 0 rfl (by first | exact Or.inl rfl | exact Or.inr (Or.inl rfl) | exact Or.inr (Or.inr rfl))) g_NotNow rfl rfl g_isinstance rfl (by decide +kernel))) (eb_one (es_ret ex_str)) eb_nil) (eb_one (es_ret (ex_ite (et_cmpB od_is (nv c 0 rfl (by first | exact Or.inl rfl | exact Or.inr (Or.inl rfl) | exact Or.inr (Or.inr rfl))) (exb ex_non)) ex_non ex_str)))))))))))))
abbrev s__law_work : Stmt := top 64
theorem sc__law_work : FnScope ["draw", "table", "high", "land", "good", "number", "way", "names", "many", "lap"] ["draw", "table", "high"] (defScope s__law_work) := ⟨rfl, rfl, rfl, by decide +kernel, rfl, by decide +kernel, by decide +kernel⟩
theorem d__law_work {f : Addr} {fd : FuncData} (F : Fun K "_law_work" "_law_work" s__law_work f fd)  (g_max : mg "max" = none) (g_min : mg "min" = none) (g_range : mg "range" = none) (h__law_take : FnF ⟨P, w, mg, base, ⟨K, fa, ca, T⟩, xn⟩ 50 "_law_take" ["draw", "many"] 4 F__law_take) (g_tuple : mg "tuple" = none) (h__law_pick : FnF ⟨P, w, mg, base, ⟨K, fa, ca, T⟩, xn⟩ 51 "_law_pick" ["draw", "some"] 6 F__law_pick) (g_len : mg "len" = none) (g_list : mg "list" = none) : FnOk P w K mg base (L2.CX P w) 8 f fd ["draw", "table", "high"] (spF ⟨K, fa, ca, T⟩ xn 3 F__law_work) :=
  fn_ok F sc__law_work fun X W c fn si => (eb_cons (es_par2 c 6 7 (by decide) (en_val (ex_call c h__law_take (by decide) (ea_cons (nv c 0 rfl (by first | exact Or.inl rfl | exact Or.inr (Or.inl rfl) | exact Or.inr (Or.inr rfl))) (ea_cons ex_int ea_nil)) (len_cons (len_cons len_nil)) rfl) (en_new (ef_lst (ea_cons ex_str (ea_cons ex_str (ea_cons ex_str (ea_cons ex_str (ea_cons ex_str (ea_cons ex_str (ea_cons ex_str (ea_cons ex_str (ea_cons ex_str (ea_cons ex_str (ea_cons ex_str (ea_cons ex_str ea_nil))))))))))))) en_nil)) rfl rfl rfl rfl (fun _ => rfl)) (eb_cons (es_set c (ex_call c h__law_pick (by decide) (ea_cons (nv c 0 rfl (by first | exact Or.inl rfl | exact Or.inr (Or.inl rfl) | exact Or.inr (Or.inr rfl))) (ea_cons (ex_ef (ef_cat (ex_ef (w_list c ⟨rfl, g_list⟩ (exb (ex_ix c (nb c 1 rfl (by first | exact Or.inl rfl | exact Or.inr (Or.inl rfl) | exact Or.inr (Or.inr rfl))) ep_int (fun _ _ => rfl))))) (exb_ef (ef_lst (ea_cons (ex_call c h__law_pick (by decide) (ea_cons (nv c 0 rfl (by first | exact Or.inl rfl | exact Or.inr (Or.inl rfl) | exact Or.inr (Or.inr rfl))) (ea_cons (nf c 7 rfl (by first | exact Or.inl rfl | exact Or.inr (Or.inl rfl) | exact Or.inr (Or.inr rfl))) ea_nil)) (len_cons (len_cons len_nil)) rfl) ea_nil))))) ea_nil)) (len_cons (len_cons len_nil)) rfl) rfl ((by first | exact Or.inl rfl | exact Or.inr ⟨rfl, fn _⟩))) (eb_cons (es_set c (ex_call c h__law_pick (by decide) (ea_cons (nv c 0 rfl (by first | exact Or.inl rfl | exact Or.inr (Or.inl rfl) | exact Or.inr (Or.inr rfl))) (ea_cons (ex_ef (ef_cat (ex_ef (w_list c ⟨rfl, g_list⟩ (exb (ex_ix c (nb c 1 rfl (by first | exact Or.inl rfl | exact Or.inr (Or.inl rfl) | exact Or.inr (Or.inr rfl))) ep_int (fun _ _ => rfl))))) (exb_ef (ef_lst (ea_cons (ex_call c h__law_pick (by decide) (ea_cons (nv c 0 rfl (by first | exact Or.inl rfl | exact Or.inr (Or.inl rfl) | exact Or.inr (Or.inr rfl))) (ea_cons (nf c 7 rfl (by first | exact Or.inl rfl | exact Or.inr (Or.inl rfl) | exact Or.inr (Or.inr rfl))) ea_nil)) (len_cons (len_cons len_nil)) rfl) ea_nil))))) ea_nil)) (len_cons (len_cons len_nil)) rfl) rfl ((by first | exact Or.inl rfl | exact Or.inr ⟨rfl, fn _⟩))) (eb_cons (es_set c (ex_binB (od_add c) ex_int (exb (ex_call c h__law_take (by decide) (ea_cons (nv c 0 rfl (by first | exact Or.inl rfl | exact Or.inr (Or.inl rfl) | exact Or.inr (Or.inr rfl))) (ea_cons (nv c 2 rfl (by first | exact Or.inl rfl | exact Or.inr (Or.inl rfl) | exact Or.inr (Or.inr rfl))) ea_nil)) (len_cons (len_cons len_nil)) rfl))) rfl ((by first | exact Or.inl rfl | exact Or.inr ⟨rfl, fn _⟩))) (eb_cons (es_if (et_cmpB od_lt (nv c 6 rfl (by first | exact Or.inl rfl | exact Or.inr (Or.inl rfl) | exact Or.inr (Or.inr rfl))) (exb ex_int)) (eb_one (es_ret (ex_tup (ea_cons ex_str (ea_cons (nv c 3 rfl (by first | exact Or.inl rfl | exact Or.inr (Or.inl rfl) | exact Or.inr (Or.inr rfl))) (ea_cons (nv c 4 rfl (by first | exact Or.inl rfl | exact Or.inr (Or.inl rfl) | exact Or.inr (Or.inr rfl))) (ea_cons (nv c 5 rfl (by first | exact Or.inl rfl | exact Or.inr (Or.inl rfl) | exact Or.inr (Or.inr rfl))) ea_nil))))))) eb_nil) (eb_cons (es_if (et_cmpB (od_eq c) (nv c 6 rfl (by first | exact Or.inl rfl | exact Or.inr (Or.inl rfl) | exact Or.inr (Or.inr rfl))) (exb ex_int)) (eb_one (es_ret (ex_tup (ea_cons ex_str (ea_cons (nv c 3 rfl (by first | exact Or.inl rfl | exact Or.inr (Or.inl rfl) | exact Or.inr (Or.inr rfl))) (ea_cons (nv c 5 rfl (by first | exact Or.inl rfl | exact Or.inr (Or.inl rfl) | exact Or.inr (Or.inr rfl))) ea_nil)))))) eb_nil) (eb_cons (es_if (et_cmpB od_lt (nv c 6 rfl (by first | exact Or.inl rfl | exact Or.inr (Or.inl rfl) | exact Or.inr (Or.inr rfl))) (exb ex_int)) (eb_cons (es_set c (ex_binB (od_add c) (w_len c ⟨rfl, g_len⟩ (exb (ex_ix c (nb c 1 rfl (by first | exact Or.inl rfl | exact Or.inr (Or.inl rfl) | exact Or.inr (Or.inr rfl))) ep_int (fun _ _ => rfl)))) (exb (ex_ite (et_cmpB od_gt (ex_call c h__law_take (by decide) (ea_cons (nv c 0 rfl (by first | exact Or.inl rfl | exact Or.inr (Or.inl rfl) | exact Or.inr (Or.inr rfl))) (ea_cons ex_int ea_nil)) (len_cons (len_cons len_nil)) rfl) (exb ex_int)) ex_int (ex_binB od_sub ex_int (exb (ex_binB od_mul ex_int (exb (ex_call c h__law_take (by decide) (ea_cons (nv c 0 rfl (by first | exact Or.inl rfl | exact Or.inr (Or.inl rfl) | exact Or.inr (Or.inr rfl))) (ea_cons ex_int ea_nil)) (len_cons (len_cons len_nil)) rfl)))))))) rfl ((by first | exact Or.inl rfl | exact Or.inr ⟨rfl, fn _⟩))) (eb_one (es_ret (ex_tup (ea_cons ex_str (ea_cons (ex_call c h__law_pick (by decide) (ea_cons (nv c 0 rfl (by first | exact Or.inl rfl | exact Or.inr (Or.inl rfl) | exact Or.inr (Or.inr rfl))) (ea_cons (nf c 7 rfl (by first | exact Or.inl rfl | exact Or.inr (Or.inl rfl) | exact Or.inr (Or.inr rfl))) ea_nil)) (len_cons (len_cons len_nil)) rfl) (ea_cons (w_tuple c ⟨rfl, g_tuple⟩ (exb_ef (ef_lc (own := [("lap", 9)]) c (ei_range1 c rfl g_range (ea_cons (w_min c ⟨rfl, g_min⟩ ex_int (w_max c ⟨rfl, g_max⟩ ex_int (nv c 8 rfl (by first | exact Or.inl rfl | exact Or.inr (Or.inl rfl) | exact Or.inr (Or.inr rfl))))) ea_nil)) ⟨rfl, by decide +kernel, by decide +kernel, by decide +kernel, by decide +kernel⟩ (fun Y c' f_ => (eg_name c' 9 rfl ((by first | exact Or.inl rfl | exact Or.inr ⟨rfl, (fun _ => f_ _) _⟩)))) (fun Y c' => ets_nil) (fun Y c' k_ => (ex_binB (od_add c') ex_int (exb (ex_call c' h__law_take (by decide) (ea_cons (nv c' 0 rfl (by first | exact Or.inl rfl | exact Or.inr (Or.inl rfl) | exact Or.inr (Or.inr rfl))) (ea_cons (nv c' 2 rfl (by first | exact Or.inl rfl | exact Or.inr (Or.inl rfl) | exact Or.inr (Or.inr rfl))) ea_nil)) (len_cons (len_cons len_nil)) rfl)))) (by decide)))) (ea_cons (nv c 5 rfl (by first | exact Or.inl rfl | exact Or.inr (Or.inl rfl) | exact Or.inr (Or.inr rfl))) ea_nil)))))))) eb_nil) (eb_cons (es_if (et_cmpB (od_eq c) (nv c 6 rfl (by first | exact Or.inl rfl | exact Or.inr (Or.inl rfl) | exact Or.inr (Or.inr rfl))) (exb ex_int)) (eb_cons (es_set c (ex_binB (od_add c) (w_len c ⟨rfl, g_len⟩ (exb (ex_ix c (nb c 1 rfl (by first | exact Or.inl rfl | exact Or.inr (Or.inl rfl) | exact Or.inr (Or.inr rfl))) ep_int (fun _ _ => rfl)))) (exb (ex_ite (et_cmpB od_gt (ex_call c h__law_take (by decide) (ea_cons (nv c 0 rfl (by first | exact Or.inl rfl | exact Or.inr (Or.inl rfl) | exact Or.inr (Or.inr rfl))) (ea_cons ex_int ea_nil)) (len_cons (len_cons len_nil)) rfl) (exb ex_int)) ex_int (ex_binB od_sub ex_int (exb (ex_binB od_mul ex_int (exb (ex_call c h__law_take (by decide) (ea_cons (nv c 0 rfl (by first | exact Or.inl rfl | exact Or.inr (Or.inl rfl) | exact Or.inr (Or.inr rfl))) (ea_cons ex_int ea_nil)) (len_cons (len_cons len_nil)) rfl)))))))) rfl ((by first | exact Or.inl rfl | exact Or.inr ⟨rfl, fn _⟩))) (eb_one (es_ret (ex_tup (ea_cons ex_str (ea_cons (ex_call c h__law_pick (by decide) (ea_cons (nv c 0 rfl (by first | exact Or.inl rfl | exact Or.inr (Or.inl rfl) | exact Or.inr (Or.inr rfl))) (ea_cons (nf c 7 rfl (by first | exact Or.inl rfl | exact Or.inr (Or.inl rfl) | exact Or.inr (Or.inr rfl))) ea_nil)) (len_cons (len_cons len_nil)) rfl) (ea_cons (w_tuple c ⟨rfl, g_tuple⟩ (exb_ef (ef_lc (own := [("lap", 9)]) c (ei_range1 c rfl g_range (ea_cons (w_min c ⟨rfl, g_min⟩ ex_int (w_max c ⟨rfl, g_max⟩ ex_int (nv c 8 rfl (by first | exact Or.inl rfl | exact Or.inr (Or.inl rfl) | exact Or.inr (Or.inr rfl))))) ea_nil)) ⟨rfl, by decide +kernel, by decide +kernel, by decide +kernel, by decide +kernel⟩ (fun Y c' f_ => (eg_name c' 9 rfl ((by first | exact Or.inl rfl | exact Or.inr ⟨rfl, (fun _ => f_ _) _⟩)))) (fun Y c' => ets_nil) (fun Y c' k_ => (ex_binB (od_add c') ex_int (exb (ex_call c' h__law_take (by decide) (ea_cons (nv c' 0 rfl (by first | exact Or.inl rfl | exact Or.inr (Or.inl rfl) | exact Or.inr (Or.inr rfl))) (ea_cons (nv c' 2 rfl (by first | exact Or.inl rfl | exact Or.inr (Or.inl rfl) | exact Or.inr (Or.inr rfl))) ea_nil)) (len_cons (len_cons len_nil)) rfl)))) (by decide)))) ea_nil))))))) eb_nil) (eb_one (es_ret (ex_ite (et_cmpB (od_eq c) (nv c 6 rfl (by first | exact Or.inl rfl | exact Or.inr (Or.inl rfl) | exact Or.inr (Or.inr rfl))) (exb ex_int)) (ex_tup (ea_cons ex_str (ea_cons (nv c 3 rfl (by first | exact Or.inl rfl | exact Or.inr (Or.inl rfl) | exact Or.inr (Or.inr rfl))) ea_nil))) (ex_tup (ea_cons ex_str (ea_cons (nv c 4 rfl (by first | exact Or.inl rfl | exact Or.inr (Or.inl rfl) | exact Or.inr (Or.inr rfl))) ea_nil))))))))))))))
abbrev s_law : Stmt := top 65
theorem sc_law : FnScope ["script", "draw", "turn", "one", "table", "lap", "again", "work", "far", "book", "other", "tables", "works", "gone", "twins", "way", "twin", "mine", "known", "back", "word", "later"] ["script"] (defScope s_law) := ⟨rfl, rfl, rfl, by decide +kernel, rfl, by decide +kernel, by decide +kernel⟩
theorem d_law {f : Addr} {fd : FuncData} (F : Fun K "law" "law" s_law f fd) {cc tp : Addr} (hcc : fd.code = .ref cc) (TB : LamX.TabB base mg cc tp) (hT : (tp, ("law.<locals>.<lambda>" : Str)) ∈ T) (hu : ∀ p ∈ T, p.1 = tp → p.2 = ("law.<locals>.<lambda>" : Str))  (b_Book_journal : FnB ⟨P, w, mg, base, ⟨K, fa, ca, T⟩, xnT⟩ 305 ["self"] 2 F_Book_journal) (k_Book : ClF ⟨P, w, mg, base, ⟨K, fa, ca, T⟩, xnT⟩ 60) (m_Book_journal : Meth K (ca 60) "journal" (fa 305)) (q_Book : EqO ⟨P, w, mg, base, ⟨K, fa, ca, T⟩, xnT⟩ 60 301 ["self", "other"] 2 F_Book___eq__) (b_Book_table : FnB ⟨P, w, mg, base, ⟨K, fa, ca, T⟩, xnT⟩ 303 ["self"] 2 F_Book_table) (m_Book_table : Meth K (ca 60) "table" (fa 303)) (h__law_same : FnGF ⟨P, w, mg, base, ⟨K, fa, ca, T⟩, xnT⟩ 59 "_law_same" ["told", "due"] 2 F__law_same) (b_Book_do : FnB ⟨P, w, mg, base, ⟨K, fa, ca, T⟩, xnT⟩ 302 ["self", "work"] 14 F_Book_do) (m_Book_do : Meth K (ca 60) "do" (fa 302)) (b_Book___init__ : FnB ⟨P, w, mg, base, ⟨K, fa, ca, T⟩, xnT⟩ 300 ["self", "table"] 10 F_Book___init__) (mk_Book : Mk K (ca 60) (fa 300)) (g_Book : mg "Book" = some (.ref (ca 60))) (g_len : mg "len" = none) (g_min : mg "min" = none) (g_range : mg "range" = none) (b_Book_copy : FnB ⟨P, w, mg, base, ⟨K, fa, ca, T⟩, xnT⟩ 308 ["self"] 13 F_Book_copy) (m_Book_copy : Meth K (ca 60) "copy" (fa 308)) (b_Book_redo : FnB ⟨P, w, mg, base, ⟨K, fa, ca, T⟩, xnT⟩ 307 ["self"] 2 F_Book_redo) (m_Book_redo : Meth K (ca 60) "redo" (fa 307)) (h__law_take : FnF ⟨P, w, mg, base, ⟨K, fa, ca, T⟩, xnT⟩ 50 "_law_take" ["draw", "many"] 4 F__law_take) (b_Book_beginning : FnB ⟨P, w, mg, base, ⟨K, fa, ca, T⟩, xnT⟩ 304 ["self"] 2 F_Book_beginning) (m_Book_beginning : Meth K (ca 60) "beginning" (fa 304)) (b_Book_undo : FnB ⟨P, w, mg, base, ⟨K, fa, ca, T⟩, xnT⟩ 306 ["self"] 2 F_Book_undo) (m_Book_undo : Meth K (ca 60) "undo" (fa 306)) (cau__law_caught : CauF ⟨P, w, mg, base, ⟨K, fa, ca, T⟩, xnT⟩ "_law_caught" "work" (fa 53) (ca 1) (defArgs (top 53)) (defBody (top 53)) (defScope (top 53)) ["work", "caught", "error"]) (hcb_TradeError : ∀ i b, (isE [1, 3, 10, 11, 21, 22, 24, 25, 26, 28, 29, 30, 33] [1, 3, 10, 11, 21, 22, 24, 25, 26, 28, 29, 30, 33]) i = some b → PySem.W.exmOne K (.ref (ca i)) (.ref (ca 1)) = some b) (h__law_kind : FnF ⟨P, w, mg, base, ⟨K, fa, ca, T⟩, xnT⟩ 63 "_law_kind" ["error"] 2 F__law_kind) (g_list : mg "list" = none) (h__law_done : FnF ⟨P, w, mg, base, ⟨K, fa, ca, T⟩, xnT⟩ 62 "_law_done" ["table", "work"] 4 F__law_done) (h__law_work : FnF ⟨P, w, mg, base, ⟨K, fa, ca, T⟩, xnT⟩ 64 "_law_work" ["draw", "table", "high"] 8 F__law_work) (h__law_some_table : FnF ⟨P, w, mg, base, ⟨K, fa, ca, T⟩, xnT⟩ 58 "_law_some_table" ["draw", "most"] 12 F__law_some_table) (h__law_begun : FnF ⟨P, w, mg, base, ⟨K, fa, ca, T⟩, xnT⟩ 48 "_law_begun" ["script"] 2 F__law_begun) : FnG P w K mg base (L2.CX P w) 17 f fd ["script"] (spF ⟨K, fa, ca, T⟩ xnT 1 F_law) :=
  gn_okL F hcc sc_law TB hT hu (by decide +kernel) fun X W c fn si gd la => (eb_cons (es_set c (ex_call c h__law_begun (by decide) (ea_cons (nv c 0 rfl (by first | exact Or.inl rfl | exact Or.inr (Or.inl rfl) | exact Or.inr (Or.inr rfl))) ea_nil) (len_cons len_nil) rfl) rfl ((by first | exact Or.inl rfl | exact Or.inr ⟨rfl, fn _⟩))) (eb_cons (es_for c (ei_range1 c rfl g_range (ea_cons (ex_binB (od_add c) ex_int (exb (w_min c ⟨rfl, g_min⟩ (w_len c ⟨rfl, g_len⟩ (nb c 0 rfl (by first | exact Or.inl rfl | exact Or.inr (Or.inl rfl) | exact Or.inr (Or.inr rfl)))) ex_int))) ea_nil)) (eg_name c 2 rfl ((by first | exact Or.inl rfl | exact Or.inr ⟨rfl, (fun _ => fn _) _⟩))) (eb_cons (es_set c (ex_call c h__law_some_table (by decide) (ea_cons (nv c 1 rfl (by first | exact Or.inl rfl | exact Or.inr (Or.inl rfl) | exact Or.inr (Or.inr rfl))) (ea_cons ex_int ea_nil)) (len_cons (len_cons len_nil)) rfl) rfl ((by first | exact Or.inl rfl | exact Or.inr ⟨rfl, fn _⟩))) (eb_cons (es_asg (ex_tup (ea_cons (ex_make c si mk_Book g_Book b_Book___init__ (by decide) (ea_cons (nv c 4 rfl (by first | exact Or.inl rfl | exact Or.inr (Or.inl rfl) | exact Or.inr (Or.inr rfl))) ea_nil) (len_cons len_nil) rfl rfl) (ea_cons (ex_obj (ef_lst (ea_cons (nv c 4 rfl (by first | exact Or.inl rfl | exact Or.inr (Or.inl rfl) | exact Or.inr (Or.inr rfl))) ea_nil))) (ea_cons (ex_obj (ef_lst ea_nil)) (ea_cons (ex_obj (ef_lst ea_nil)) (ea_cons (ex_obj (ef_lst ea_nil)) ea_nil)))))) (eg_tup c (egs_cons (eg_name c 9 rfl ((by first | exact Or.inl rfl | exact Or.inr ⟨rfl, (fun _ => fn _) _⟩))) (egs_cons (eg_name c 11 rfl ((by first | exact Or.inl rfl | exact Or.inr ⟨rfl, (fun _ => fn _) _⟩))) (egs_cons (eg_name c 12 rfl ((by first | exact Or.inl rfl | exact Or.inr ⟨rfl, (fun _ => fn _) _⟩))) (egs_cons (eg_name c 13 rfl ((by first | exact Or.inl rfl | exact Or.inr ⟨rfl, (fun _ => fn _) _⟩))) (egs_cons (eg_name c 14 rfl ((by first | exact Or.inl rfl | exact Or.inr ⟨rfl, (fun _ => fn _) _⟩))) egs_nil))))))) (eb_cons (es_for c (ei_range1 c rfl g_range (ea_cons (ex_binB (od_add c) ex_int (exb (ex_call c h__law_take (by decide) (ea_cons (nv c 1 rfl (by first | exact Or.inl rfl | exact Or.inr (Or.inl rfl) | exact Or.inr (Or.inr rfl))) (ea_cons ex_int ea_nil)) (len_cons (len_cons len_nil)) rfl))) ea_nil)) (eg_name c 5 rfl ((by first | exact Or.inl rfl | exact Or.inr ⟨rfl, (fun _ => fn _) _⟩))) (eb_cons (es_set c (ex_call c h__law_take (by decide) (ea_cons (nv c 1 rfl (by first | exact Or.inl rfl | exact Or.inr (Or.inl rfl) | exact Or.inr (Or.inr rfl))) (ea_cons ex_int ea_nil)) (len_cons (len_cons len_nil)) rfl) rfl ((by first | exact Or.inl rfl | exact Or.inr ⟨rfl, fn _⟩))) (eb_cons (es_if (et_cmpB (od_eq c) (nv c 15 rfl (by first | exact Or.inl rfl | exact Or.inr (Or.inl rfl) | exact Or.inr (Or.inr rfl))) (exb ex_int)) (eb_cons (es_set c (ex_call c h__law_kind (by decide) (ea_cons (ex_cau (k := 2) c cau__law_caught la (by decide) rfl hcb_TradeError (LamX.lamS_by (by decide +kernel)) rfl (fun _ _ _ _ _ => rfl) (fun Y W cl sl => (ex_meth0 cl sl k_Book m_Book_undo b_Book_undo (by decide) (nv cl 9 rfl (by first | exact Or.inl rfl | exact Or.inr (Or.inl rfl) | exact Or.inr (Or.inr rfl))) rfl))) ea_nil) (len_cons len_nil) rfl) rfl ((by first | exact Or.inl rfl | exact Or.inr ⟨rfl, fn _⟩))) (eb_cons (es_if (et_neV c (nv c 20 rfl (by first | exact Or.inl rfl | exact Or.inr (Or.inl rfl) | exact Or.inr (Or.inr rfl))) (ex_ite (et_neE c (exb_vw (nv c 12 rfl (by first | exact Or.inl rfl | exact Or.inr (Or.inl rfl) | exact Or.inr (Or.inr rfl))))) ex_non ex_str)) (eb_one (es_ret ex_bl)) eb_nil) (eb_one (es_if (et_neE c (exb_vw (nv c 12 rfl (by first | exact Or.inl rfl | exact Or.inr (Or.inl rfl) | exact Or.inr (Or.inr rfl))))) (eb_one (es_expr (ex_appO (nv c 13 rfl (by first | exact Or.inl rfl | exact Or.inr (Or.inl rfl) | exact Or.inr (Or.inr rfl))) (ex_tup (ea_cons (ex_popO (nv c 12 rfl (by first | exact Or.inl rfl | exact Or.inr (Or.inl rfl) | exact Or.inr (Or.inr rfl)))) (ea_cons (ex_popO (nv c 11 rfl (by first | exact Or.inl rfl | exact Or.inr (Or.inl rfl) | exact Or.inr (Or.inr rfl)))) ea_nil)))))) eb_nil)))) (eb_one (es_if (et_cmpB (od_eq c) (nv c 15 rfl (by first | exact Or.inl rfl | exact Or.inr (Or.inl rfl) | exact Or.inr (Or.inr rfl))) (exb ex_int)) (eb_cons (es_set c (ex_call c h__law_kind (by decide) (ea_cons (ex_cau (k := 2) c cau__law_caught la (by decide) rfl hcb_TradeError (LamX.lamS_by (by decide +kernel)) rfl (fun _ _ _ _ _ => rfl) (fun Y W cl sl => (ex_meth0 cl sl k_Book m_Book_redo b_Book_redo (by decide) (nv cl 9 rfl (by first | exact Or.inl rfl | exact Or.inr (Or.inl rfl) | exact Or.inr (Or.inr rfl))) rfl))) ea_nil) (len_cons len_nil) rfl) rfl ((by first | exact Or.inl rfl | exact Or.inr ⟨rfl, fn _⟩))) (eb_cons (es_if (et_neV c (nv c 20 rfl (by first | exact Or.inl rfl | exact Or.inr (Or.inl rfl) | exact Or.inr (Or.inr rfl))) (ex_ite (et_neE c (exb_vw (nv c 13 rfl (by first | exact Or.inl rfl | exact Or.inr (Or.inl rfl) | exact Or.inr (Or.inr rfl))))) ex_non ex_str)) (eb_one (es_ret ex_bl)) eb_nil) (eb_one (es_if (et_neE c (exb_vw (nv c 13 rfl (by first | exact Or.inl rfl | exact Or.inr (Or.inl rfl) | exact Or.inr (Or.inr rfl))))) (eb_cons (es_asg (ex_popO (nv c 13 rfl (by first | exact Or.inl rfl | exact Or.inr (Or.inl rfl) | exact Or.inr (Or.inr rfl)))) (eg_tup c (egs_cons (eg_name c 7 rfl ((by first | exact Or.inl rfl | exact Or.inr ⟨rfl, (fun _ => fn _) _⟩))) (egs_cons (eg_name c 21 rfl ((by first | exact Or.inl rfl | exact Or.inr ⟨rfl, (fun _ => fn _) _⟩))) egs_nil)))) (eb_cons (es_expr (ex_appO (nv c 12 rfl (by first | exact Or.inl rfl | exact Or.inr (Or.inl rfl) | exact Or.inr (Or.inr rfl))) (nv c 7 rfl (by first | exact Or.inl rfl | exact Or.inr (Or.inl rfl) | exact Or.inr (Or.inr rfl))))) (eb_one (es_expr (ex_appO (nv c 11 rfl (by first | exact Or.inl rfl | exact Or.inr (Or.inl rfl) | exact Or.inr (Or.inr rfl))) (nv c 21 rfl (by first | exact Or.inl rfl | exact Or.inr (Or.inl rfl) | exact Or.inr (Or.inr rfl)))))))) eb_nil)))) (eb_one (es_if (et_cmpB (od_eq c) (nv c 15 rfl (by first | exact Or.inl rfl | exact Or.inr (Or.inl rfl) | exact Or.inr (Or.inr rfl))) (exb ex_int)) (eb_one (es_expr (ex_appO (nv c 14 rfl (by first | exact Or.inl rfl | exact Or.inr (Or.inl rfl) | exact Or.inr (Or.inr rfl))) (ex_tup (ea_cons (ex_meth0 c si k_Book m_Book_copy b_Book_copy (by decide) (nv c 9 rfl (by first | exact Or.inl rfl | exact Or.inr (Or.inl rfl) | exact Or.inr (Or.inr rfl))) rfl) (ea_cons (ex_ef (w_list c ⟨rfl, g_list⟩ (exb_vw (nv c 12 rfl (by first | exact Or.inl rfl | exact Or.inr (Or.inl rfl) | exact Or.inr (Or.inr rfl)))))) (ea_cons (ex_ef (w_list c ⟨rfl, g_list⟩ (exb_vw (nv c 11 rfl (by first | exact Or.inl rfl | exact Or.inr (Or.inl rfl) | exact Or.inr (Or.inr rfl)))))) (ea_cons (ex_ef (w_list c ⟨rfl, g_list⟩ (exb_vw (nv c 13 rfl (by first | exact Or.inl rfl | exact Or.inr (Or.inl rfl) | exact Or.inr (Or.inr rfl)))))) ea_nil)))))))) (eb_cons (es_set c (ex_call c h__law_work (by decide) (ea_cons (nv c 1 rfl (by first | exact Or.inl rfl | exact Or.inr (Or.inl rfl) | exact Or.inr (Or.inr rfl))) (ea_cons (ex_ix c (exb_vw (nv c 11 rfl (by first | exact Or.inl rfl | exact Or.inr (Or.inl rfl) | exact Or.inr (Or.inr rfl)))) (ep_neg ep_int) (fun _ _ => rfl)) (ea_cons ex_int ea_nil))) (len_cons (len_cons (len_cons len_nil))) rfl) rfl ((by first | exact Or.inl rfl | exact Or.inr ⟨rfl, fn _⟩))) (eb_cons (es_asg (ex_call c h__law_done (by decide) (ea_cons (ex_ix c (exb_vw (nv c 11 rfl (by first | exact Or.inl rfl | exact Or.inr (Or.inl rfl) | exact Or.inr (Or.inr rfl)))) (ep_neg ep_int) (fun _ _ => rfl)) (ea_cons (nv c 7 rfl (by first | exact Or.inl rfl | exact Or.inr (Or.inl rfl) | exact Or.inr (Or.inr rfl))) ea_nil)) (len_cons (len_cons len_nil)) rfl) (eg_tup c (egs_cons (eg_name c 20 rfl ((by first | exact Or.inl rfl | exact Or.inr ⟨rfl, (fun _ => fn _) _⟩))) (egs_cons (eg_name c 21 rfl ((by first | exact Or.inl rfl | exact Or.inr ⟨rfl, (fun _ => fn _) _⟩))) egs_nil)))) (eb_cons (es_if (et_cmpB (od_ne c) (ex_call c h__law_kind (by decide) (ea_cons (ex_cau (k := 14) c cau__law_caught la (by decide) rfl hcb_TradeError (LamX.lamS_by (by decide +kernel)) rfl (fun _ _ _ _ _ => rfl) (fun Y W cl sl => (ex_meth cl sl k_Book m_Book_do b_Book_do (by decide) (nv cl 9 rfl (by first | exact Or.inl rfl | exact Or.inr (Or.inl rfl) | exact Or.inr (Or.inr rfl))) (ea_cons (nv cl 7 rfl (by first | exact Or.inl rfl | exact Or.inr (Or.inl rfl) | exact Or.inr (Or.inr rfl))) ea_nil) (len_cons len_nil) rfl))) ea_nil) (len_cons len_nil) rfl) (nb c 20 rfl (by first | exact Or.inl rfl | exact Or.inr (Or.inl rfl) | exact Or.inr (Or.inr rfl)))) (eb_one (es_ret ex_bl)) eb_nil) (eb_one (es_if (et_cmpB od_is (nv c 20 rfl (by first | exact Or.inl rfl | exact Or.inr (Or.inl rfl) | exact Or.inr (Or.inr rfl))) (exb ex_non)) (eb_cons (es_expr (ex_appO (nv c 12 rfl (by first | exact Or.inl rfl | exact Or.inr (Or.inl rfl) | exact Or.inr (Or.inr rfl))) (nv c 7 rfl (by first | exact Or.inl rfl | exact Or.inr (Or.inl rfl) | exact Or.inr (Or.inr rfl))))) (eb_cons (es_expr (ex_appO (nv c 11 rfl (by first | exact Or.inl rfl | exact Or.inr (Or.inl rfl) | exact Or.inr (Or.inr rfl))) (nv c 21 rfl (by first | exact Or.inl rfl | exact Or.inr (Or.inl rfl) | exact Or.inr (Or.inr rfl))))) (eb_one (es_set c (ex_obj (ef_lst ea_nil)) rfl ((by first | exact Or.inl rfl | exact Or.inr ⟨rfl, fn _⟩)))))) eb_nil)))))))))) (eb_one (es_if (et_not (et_val (ex_callG c gd h__law_same (by decide) (ea_cons (ex_ef (ef_lst (ea_cons (ex_meth0 c si k_Book m_Book_table b_Book_table (by decide) (nv c 9 rfl (by first | exact Or.inl rfl | exact Or.inr (Or.inl rfl) | exact Or.inr (Or.inr rfl))) rfl) (ea_cons (ex_meth0 c si k_Book m_Book_beginning b_Book_beginning (by decide) (nv c 9 rfl (by first | exact Or.inl rfl | exact Or.inr (Or.inl rfl) | exact Or.inr (Or.inr rfl))) rfl) (ea_cons (ex_meth0 c si k_Book m_Book_journal b_Book_journal (by decide) (nv c 9 rfl (by first | exact Or.inl rfl | exact Or.inr (Or.inl rfl) | exact Or.inr (Or.inr rfl))) rfl) ea_nil))))) (ea_cons (ex_ef (ef_lst (ea_cons (ex_ix c (exb_vw (nv c 11 rfl (by first | exact Or.inl rfl | exact Or.inr (Or.inl rfl) | exact Or.inr (Or.inr rfl)))) (ep_neg ep_int) (fun _ _ => rfl)) (ea_cons (nv c 4 rfl (by first | exact Or.inl rfl | exact Or.inr (Or.inl rfl) | exact Or.inr (Or.inr rfl))) (ea_cons (nv c 12 rfl (by first | exact Or.inl rfl | exact Or.inr (Or.inl rfl) | exact Or.inr (Or.inr rfl))) ea_nil))))) ea_nil)) (len_cons (len_cons len_nil)) rfl rfl))) (eb_one (es_ret ex_bl)) eb_nil))))) (eb_cons (es_forO c (nv c 14 rfl (by first | exact Or.inl rfl | exact Or.inr (Or.inl rfl) | exact Or.inr (Or.inr rfl))) (eg_tup c (egs_cons (eg_name c 16 rfl ((by first | exact Or.inl rfl | exact Or.inr ⟨rfl, (fun _ => fn _) _⟩))) (egs_cons (eg_name c 17 rfl ((by first | exact Or.inl rfl | exact Or.inr ⟨rfl, (fun _ => fn _) _⟩))) (egs_cons (eg_name c 18 rfl ((by first | exact Or.inl rfl | exact Or.inr ⟨rfl, (fun _ => fn _) _⟩))) (egs_cons (eg_name c 19 rfl ((by first | exact Or.inl rfl | exact Or.inr ⟨rfl, (fun _ => fn _) _⟩))) egs_nil))))) (eb_cons (es_if (et_not (et_val (ex_callG c gd h__law_same (by decide) (ea_cons (ex_ef (ef_lst (ea_cons (ex_meth0 c si k_Book m_Book_table b_Book_table (by decide) (nv c 16 rfl (by first | exact Or.inl rfl | exact Or.inr (Or.inl rfl) | exact Or.inr (Or.inr rfl))) rfl) (ea_cons (ex_meth0 c si k_Book m_Book_journal b_Book_journal (by decide) (nv c 16 rfl (by first | exact Or.inl rfl | exact Or.inr (Or.inl rfl) | exact Or.inr (Or.inr rfl))) rfl) (ea_cons (ex_eqO c si q_Book (by decide) (nv c 16 rfl (by first | exact Or.inl rfl | exact Or.inr (Or.inl rfl) | exact Or.inr (Or.inr rfl))) (nv c 9 rfl (by first | exact Or.inl rfl | exact Or.inr (Or.inl rfl) | exact Or.inr (Or.inr rfl)))) ea_nil))))) (ea_cons (ex_ef (ef_lst (ea_cons (ex_ix c (nb c 18 rfl (by first | exact Or.inl rfl | exact Or.inr (Or.inl rfl) | exact Or.inr (Or.inr rfl))) (ep_neg ep_int) (fun _ _ => rfl)) (ea_cons (nv c 17 rfl (by first | exact Or.inl rfl | exact Or.inr (Or.inl rfl) | exact Or.inr (Or.inr rfl))) (ea_cons (ex_eqV c (nv c 17 rfl (by first | exact Or.inl rfl | exact Or.inr (Or.inl rfl) | exact Or.inr (Or.inr rfl))) (nv c 12 rfl (by first | exact Or.inl rfl | exact Or.inr (Or.inl rfl) | exact Or.inr (Or.inr rfl)))) ea_nil))))) ea_nil)) (len_cons (len_cons len_nil)) rfl rfl))) (eb_one (es_ret ex_bl)) eb_nil) (eb_one (es_if (et_neE c (nb c 19 rfl (by first | exact Or.inl rfl | exact Or.inr (Or.inl rfl) | exact Or.inr (Or.inr rfl)))) (eb_cons (es_expr (ex_meth0 c si k_Book m_Book_redo b_Book_redo (by decide) (nv c 16 rfl (by first | exact Or.inl rfl | exact Or.inr (Or.inl rfl) | exact Or.inr (Or.inr rfl))) rfl)) (eb_one (es_if (et_not (et_val (ex_callG c gd h__law_same (by decide) (ea_cons (ex_ef (ef_lst (ea_cons (ex_meth0 c si k_Book m_Book_table b_Book_table (by decide) (nv c 16 rfl (by first | exact Or.inl rfl | exact Or.inr (Or.inl rfl) | exact Or.inr (Or.inr rfl))) rfl) (ea_cons (ex_meth0 c si k_Book m_Book_journal b_Book_journal (by decide) (nv c 16 rfl (by first | exact Or.inl rfl | exact Or.inr (Or.inl rfl) | exact Or.inr (Or.inr rfl))) rfl) ea_nil)))) (ea_cons (ex_ef (ef_lst (ea_cons (ex_ix c (exb (ex_ix c (nb c 19 rfl (by first | exact Or.inl rfl | exact Or.inr (Or.inl rfl) | exact Or.inr (Or.inr rfl))) (ep_neg ep_int) (fun _ _ => rfl))) ep_int (fun _ _ => rfl)) (ea_cons (ex_ef (ef_cat (nv c 17 rfl (by first | exact Or.inl rfl | exact Or.inr (Or.inl rfl) | exact Or.inr (Or.inr rfl))) (exb_ef (ef_lst (ea_cons (ex_ix c (exb (ex_ix c (nb c 19 rfl (by first | exact Or.inl rfl | exact Or.inr (Or.inl rfl) | exact Or.inr (Or.inr rfl))) (ep_neg ep_int) (fun _ _ => rfl))) ep_int (fun _ _ => rfl)) ea_nil))))) ea_nil)))) ea_nil)) (len_cons (len_cons len_nil)) rfl rfl))) (eb_one (es_ret ex_bl)) eb_nil))) eb_nil)))) (eb_cons (es_set c (ex_make c si mk_Book g_Book b_Book___init__ (by decide) (ea_cons (nv c 4 rfl (by first | exact Or.inl rfl | exact Or.inr (Or.inl rfl) | exact Or.inr (Or.inr rfl))) ea_nil) (len_cons len_nil) rfl rfl) rfl ((by first | exact Or.inl rfl | exact Or.inr ⟨rfl, fn _⟩))) (eb_cons (es_forO c (nv c 12 rfl (by first | exact Or.inl rfl | exact Or.inr (Or.inl rfl) | exact Or.inr (Or.inr rfl))) (eg_name c 7 rfl ((by first | exact Or.inl rfl | exact Or.inr ⟨rfl, (fun _ => fn _) _⟩))) (eb_one (es_expr (ex_meth c si k_Book m_Book_do b_Book_do (by decide) (nv c 6 rfl (by first | exact Or.inl rfl | exact Or.inr (Or.inl rfl) | exact Or.inr (Or.inr rfl))) (ea_cons (nv c 7 rfl (by first | exact Or.inl rfl | exact Or.inr (Or.inl rfl) | exact Or.inr (Or.inr rfl))) ea_nil) (len_cons len_nil) rfl)))) (eb_cons (es_set c (ex_make c si mk_Book g_Book b_Book___init__ (by decide) (ea_cons (ex_tup (ea_cons ex_str (ea_cons (ex_tup (ea_cons ex_str ea_nil)) (ea_cons (ex_tup (ea_cons ex_str ea_nil)) (ea_cons (ex_tup (ea_cons (ex_tup (ea_cons ex_int ea_nil)) ea_nil)) (ea_cons (ex_tup (ea_cons ex_int ea_nil)) ea_nil)))))) ea_nil) (len_cons len_nil) rfl rfl) rfl ((by first | exact Or.inl rfl | exact Or.inr ⟨rfl, fn _⟩))) (eb_one (es_if (et_not (et_val (ex_callG c gd h__law_same (by decide) (ea_cons (ex_ef (ef_lst (ea_cons (ex_eqO c si q_Book (by decide) (nv c 6 rfl (by first | exact Or.inl rfl | exact Or.inr (Or.inl rfl) | exact Or.inr (Or.inr rfl))) (nv c 9 rfl (by first | exact Or.inl rfl | exact Or.inr (Or.inl rfl) | exact Or.inr (Or.inr rfl)))) (ea_cons (ex_eqO c si q_Book (by decide) (nv c 8 rfl (by first | exact Or.inl rfl | exact Or.inr (Or.inl rfl) | exact Or.inr (Or.inr rfl))) (nv c 9 rfl (by first | exact Or.inl rfl | exact Or.inr (Or.inl rfl) | exact Or.inr (Or.inr rfl)))) (ea_cons (ex_eqO c si q_Book (by decide) (nv c 9 rfl (by first | exact Or.inl rfl | exact Or.inr (Or.inl rfl) | exact Or.inr (Or.inr rfl))) (ex_meth0 c si k_Book m_Book_copy b_Book_copy (by decide) (nv c 8 rfl (by first | exact Or.inl rfl | exact Or.inr (Or.inl rfl) | exact Or.inr (Or.inr rfl))) rfl)) (ea_cons (ex_eqO c si q_Book (by decide) (ex_make c si mk_Book g_Book b_Book___init__ (by decide) (ea_cons (nv c 4 rfl (by first | exact Or.inl rfl | exact Or.inr (Or.inl rfl) | exact Or.inr (Or.inr rfl))) ea_nil) (len_cons len_nil) rfl rfl) (nv c 9 rfl (by first | exact Or.inl rfl | exact Or.inr (Or.inl rfl) | exact Or.inr (Or.inr rfl)))) ea_nil)))))) (ea_cons (ex_ef (ef_lst (ea_cons ex_bl (ea_cons ex_bl (ea_cons ex_bl (ea_cons (ex_eqE c (exb_vw (nv c 12 rfl (by first | exact Or.inl rfl | exact Or.inr (Or.inl rfl) | exact Or.inr (Or.inr rfl))))) ea_nil)))))) ea_nil)) (len_cons (len_cons len_nil)) rfl rfl))) (eb_one (es_ret ex_bl)) eb_nil)))))))))) (eb_cons (es_set c (ex_tup (ea_cons ex_str (ea_cons (ex_tup (ea_cons ex_str ea_nil)) (ea_cons (ex_tup (ea_cons ex_str ea_nil)) (ea_cons (ex_tup (ea_cons (ex_tup (ea_cons ex_int ea_nil)) ea_nil)) (ea_cons (ex_tup (ea_cons ex_int ea_nil)) ea_nil)))))) rfl ((by first | exact Or.inl rfl | exact Or.inr ⟨rfl, fn _⟩))) (eb_cons (es_asgS c (ex_tup (ea_cons (ex_make c si mk_Book g_Book b_Book___init__ (by decide) (ea_cons (nv c 3 rfl (by first | exact Or.inl rfl | exact Or.inr (Or.inl rfl) | exact Or.inr (Or.inr rfl))) ea_nil) (len_cons len_nil) rfl rfl) (ea_cons (ex_make c si mk_Book g_Book b_Book___init__ (by decide) (ea_cons (nv c 3 rfl (by first | exact Or.inl rfl | exact Or.inr (Or.inl rfl) | exact Or.inr (Or.inr rfl))) ea_nil) (len_cons len_nil) rfl rfl) ea_nil))) (eg_tup c (egs_cons (eg_name c 9 rfl ((by first | exact Or.inl rfl | exact Or.inr ⟨rfl, (fun _ => fn _) _⟩))) (egs_cons (eg_name c 10 rfl ((by first | exact Or.inl rfl | exact Or.inr ⟨rfl, (fun _ => fn _) _⟩))) egs_nil))) (fun _ => rfl)) (eb_cons (es_expr (ex_meth c si k_Book m_Book_do b_Book_do (by decide) (nv c 9 rfl (by first | exact Or.inl rfl | exact Or.inr (Or.inl rfl) | exact Or.inr (Or.inr rfl))) (ea_cons (ex_tup (ea_cons ex_str (ea_cons ex_str (ea_cons ex_str (ea_cons ex_int ea_nil))))) ea_nil) (len_cons len_nil) rfl)) (eb_one (es_ret (ex_callG c gd h__law_same (by decide) (ea_cons (ex_ef (ef_lst (ea_cons (ex_cmpB (od_eq c) (ex_meth0 c si k_Book m_Book_table b_Book_table (by decide) (nv c 9 rfl (by first | exact Or.inl rfl | exact Or.inr (Or.inl rfl) | exact Or.inr (Or.inr rfl))) rfl) (nb c 3 rfl (by first | exact Or.inl rfl | exact Or.inr (Or.inl rfl) | exact Or.inr (Or.inr rfl)))) (ea_cons (ex_eqO c si q_Book (by decide) (nv c 9 rfl (by first | exact Or.inl rfl | exact Or.inr (Or.inl rfl) | exact Or.inr (Or.inr rfl))) (nv c 10 rfl (by first | exact Or.inl rfl | exact Or.inr (Or.inl rfl) | exact Or.inr (Or.inr rfl)))) (ea_cons (ex_meth0 c si k_Book m_Book_journal b_Book_journal (by decide) (nv c 9 rfl (by first | exact Or.inl rfl | exact Or.inr (Or.inl rfl) | exact Or.inr (Or.inr rfl))) rfl) (ea_cons (ex_meth0 c si k_Book m_Book_journal b_Book_journal (by decide) (nv c 10 rfl (by first | exact Or.inl rfl | exact Or.inr (Or.inl rfl) | exact Or.inr (Or.inr rfl))) rfl) ea_nil)))))) (ea_cons (ex_ef (ef_lst (ea_cons ex_bl (ea_cons ex_bl (ea_cons (ex_ef (ef_lst (ea_cons (ex_tup (ea_cons ex_str (ea_cons ex_str (ea_cons ex_str (ea_cons ex_int ea_nil))))) ea_nil))) (ea_cons (ex_ef (ef_lst ea_nil)) ea_nil)))))) ea_nil)) (len_cons (len_cons len_nil)) rfl rfl))))))))
end
end WK

/-! ## plain: names, numbers, tables -/
namespace WK
open KK PySem PySem.Spec PyProof.Rows L2
section
variable {L : LL} {M : MM}
@[simp high] theorem high_ev : cst k_HIGH L M = .ok (.int 1000000) L M := rfl
@[simp high] theorem most_ev : cst k_MOST L M = .ok (.int 5) L M := rfl
end
theorem size_le {n : Nat} (h : n ≤ 1000) : n ≤ sizeLine := by rw [sizeLine_eq]; omega
theorem p_is_word {x : Str} {ws : List Str} {M : MM} (h1 : PyData.strOk x = true) (h2 : ∀ y ∈ ws, PyData.strOk y = true) : F_is_word [.str x, .tup (ws.map D.str)] M = .ok (.bl (decide (x ∈ ws))) M := by
  have e1 := dep_str h1
  have e2 := depA_strs h2
  unfold F_is_word defM m_is_word ini
  simp [e1, e2]
theorem p_is_row {ds : List D} {n : Int} {M : MM} : F_is_row [.tup ds, .int n] M = .ok (.bl (decide ((ds.length : Int) = n))) M := by
  unfold F_is_row defM m_is_row ini
  simp [eqv_int]
  rfl
theorem p_is_number {n lo hi : Int} {M : MM} : F_is_number [.int n, .int lo, .int hi] M = .ok (.bl (decide (lo ≤ n) && decide (n ≤ hi))) M := by
  unfold F_is_number defM m_is_number ini
  by_cases h : lo ≤ n <;> simp [h]
def keptL : List Str := ["always", "beaten", "borne", "cannot", "cost", "done", "drop", "end", "entry", "gain", "good", "goods", "greatest", "hours", "journal", "land", "leave", "none", "over", "pattern", "prices", "redo", "table", "undo", "wages", "what", "worths"]
theorem kept_eq : k_KEPT = .tup (keptL.map D.str) := rfl
theorem kept_ok : ∀ y ∈ keptL, PyData.strOk y = true := by decide +kernel
def letters : Str := "abcdefghijklmnopqrstuvwxyz"
/-- a name -/
def isNm (x : Str) : Bool := decide (1 ≤ x.length) && decide (x.length ≤ 8) && !decide (x ∈ keptL) && x.cps.toList.all fun c => decide (c ∈ letters.cps.toList)
theorem p_is_name {x : Str} {M : MM} (h1 : PyData.strOk x = true) (h2 : x.length ≤ 1000) : F_is_name [.str x] M = .ok (.bl (isNm x)) M := by
  have e1 := dep_str h1
  have e2 := depA_strs kept_ok
  have z := size_le h2
  have key : ∀ L1 : LL, L1 = [.val (.str x), .non] → compM (itemsM (locM 0)) [1] (gN 1) (yesM) (binM inD (locM 1) (cst k_LETTERS)) L1 M = .ok (x.cps.toList.map fun c => D.bl (decide (c ∈ letters.cps.toList))) L1 M := by
    rintro L1 rfl
    refine comp_all (x.cps.toList) (fun c => .str ⟨#[c]⟩) _ (fun c => [.val (.str x), .val (.str ⟨#[c]⟩)]) (by simp) rfl (by show x.cps.toList.length ≤ _; rw [Array.length_toList]; exact z) fun c hc => ⟨rfl, ?_, rfl, rfl⟩
    simp [k_LETTERS]; rfl
  unfold F_is_name defM m_is_name ini isNm
  have l1 : (1 : Int) ≤ (x.length : Int) ↔ 1 ≤ x.length := by omega
  have l2 : (x.length : Int) ≤ 8 ↔ x.length ≤ 8 := by omega
  by_cases a : 1 ≤ x.length
  · by_cases b : x.length ≤ 8
    · by_cases c : x ∈ keptL
      · simp [kept_eq, e1, e2, z, a, b, c, l1, l2]
      · simp [kept_eq, e1, e2, z, a, b, c, l1, l2, key _ rfl]
    · simp [e1, e2, z, a, b, l1, l2]
  · simp [e1, e2, z, a, l1, l2]
theorem isNm_ok {x : Str} (h : isNm x = true) : PyData.strOk x = true ∧ x.length ≤ 8 ∧ 1 ≤ x.length := by
  unfold isNm at h
  simp only [Bool.and_eq_true, decide_eq_true_eq, List.all_eq_true] at h
  obtain ⟨⟨⟨h1, h2⟩, _⟩, h3⟩ := h
  refine ⟨?_, h2, h1⟩
  unfold PyData.strOk
  rw [Array.all_eq_true']
  intro c hc
  have := h3 c (by simpa using hc)
  have l : ∀ c ∈ letters.cps.toList, c < 0x110000 := by decide +kernel
  exact decide_eq_true (l c this)
/-- ascending, by neighbours -/
def ascR (xs : List Str) : Bool := (List.range (xs.length - 1)).all fun k => match xs[k]?, xs[k + 1]? with
  | some a, some b => sLt a b
  | _, _ => false
def Asc (xs : List Str) : Prop := xs.Pairwise fun a b => sLt a b = true
theorem ascR_of {xs : List Str} (h : Asc xs) : ascR xs = true := by
  unfold ascR
  rw [List.all_eq_true]
  intro k hk
  rw [List.mem_range] at hk
  rw [List.getElem?_eq_getElem (show k < xs.length by omega), List.getElem?_eq_getElem (show k + 1 < xs.length by omega)]
  exact List.pairwise_iff_getElem.mp h k (k + 1) (by omega) (by omega) (by omega)
theorem p_are_ascending {xs : List Str} {M : MM} (h : xs.length ≤ 1000) : F_are_ascending [.tup (xs.map D.str)] M = .ok (.bl (ascR xs)) M := by
  have key : ∀ L1 : LL, L1 = [.val (.tup (xs.map D.str)), .non] → compM (rng1 (consA (binM subD (un1 lenD (locB 0)) (cst (.int 1))) (nilA))) [1] (gN 1) (yesM) (binM ltD (ixPM (locB 0) (locP 1)) (ixPM (locB 0) (opP (· + ·) (locP 1) (cstP (1))))) L1 M =
      .ok ((List.range (xs.length - 1)).map fun k => D.bl (match xs[k]?, xs[k + 1]? with | some a, some b => sLt a b | _, _ => false)) L1 M := by
    rintro L1 rfl
    refine comp_all (List.range (xs.length - 1)) (fun k => .int (0 + (k : Nat))) _ (fun k => [.val (.tup (xs.map D.str)), .val (.int (0 + (k : Nat)))]) ?_ rfl (by rw [List.length_range]; exact size_le (by omega)) fun k hk => ⟨rfl, ?_, rfl, rfl⟩
    · have e : ok62 ((xs.length : Int) - 1) = true := by unfold ok62; simp; omega
      have e2 : ((xs.length : Int) - 1).toNat = xs.length - 1 := by omega
      simp [e, rngD, e2]
    · rw [List.mem_range] at hk
      have e1 : xs[k]? = some xs[k] := List.getElem?_eq_getElem (by omega)
      have e2 : xs[k + 1]? = some xs[k + 1] := List.getElem?_eq_getElem (by omega)
      have e3 : ((k : Int) + 1) = ((k + 1 : Nat) : Int) := by omega
      simp [e3, e1, e2, -Int.natCast_add]
  unfold F_are_ascending defM m_are_ascending ini ascR
  simp [key _ rfl]
theorem p_are_numbers {ns : List Int} {many lo hi : Int} {M : MM} (h : ns.length ≤ 1000) : F_are_numbers [.tup (ns.map D.int), .int many, .int lo, .int hi] M = .ok (.bl (decide ((ns.length : Int) = many) && ns.all fun n => decide (lo ≤ n) && decide (n ≤ hi))) M := by
  have key : ∀ L1 : LL, L1 = [.val (.tup (ns.map D.int)), .val (.int many), .val (.int lo), .val (.int hi), .non] → compM (itemsM (locM 0)) [4] (gN 4) (yesM) (callM F_is_number (consA (locM 4) (consA (locM 2) (consA (locM 3) (nilA))))) L1 M =
      .ok (ns.map fun n => D.bl (decide (lo ≤ n) && decide (n ≤ hi))) L1 M := by
    rintro L1 rfl
    refine comp_all ns D.int _ (fun n => [.val (.tup (ns.map D.int)), .val (.int many), .val (.int lo), .val (.int hi), .val (.int n)]) (by simp) rfl (size_le h) fun n hn => ⟨rfl, ?_, rfl, rfl⟩
    simp [p_is_number]
  unfold F_are_numbers defM m_are_numbers ini
  by_cases a : (ns.length : Int) = many <;> simp [p_is_row, a, key _ rfl]
theorem p_are_names {xs : List Str} {M : MM} (h : ∀ x ∈ xs, PyData.strOk x = true ∧ x.length ≤ 1000) (hz : xs.length ≤ 1000) : F_are_names [.tup (xs.map D.str)] M = .ok (.bl (decide (1 ≤ xs.length) && decide (xs.length ≤ 5) && xs.all isNm && ascR xs)) M := by
  have key : ∀ L1 : LL, L1 = [.val (.tup (xs.map D.str)), .non] → compM (itemsM (locM 0)) [1] (gN 1) (yesM) (callM F_is_name (consA (locM 1) (nilA))) L1 M = .ok (xs.map fun x => D.bl (isNm x)) L1 M := by
    rintro L1 rfl
    refine comp_all xs D.str _ (fun x => [.val (.tup (xs.map D.str)), .val (.str x)]) (by simp) rfl (size_le hz) fun x hx => ⟨rfl, ?_, rfl, rfl⟩
    simp [p_is_name (h x hx).1 (h x hx).2]
  have l1 : (1 : Int) ≤ (xs.length : Int) ↔ 1 ≤ xs.length := by omega
  have l2 : (xs.length : Int) ≤ 5 ↔ xs.length ≤ 5 := by omega
  unfold F_are_names defM m_are_names ini
  by_cases a : 1 ≤ xs.length
  · by_cases b : xs.length ≤ 5
    · cases c : xs.all isNm <;> simp [l1, l2, a, b, c, key _ rfl, p_are_ascending hz]
    · simp [l1, l2, a, b]
  · simp [l1, l2, a]
/-! ### tables -/
structure Tb where
  la : List Str
  go : List Str
  ro : List (List Int)
  ho : List Int
abbrev rowD (r : List Int) : D := .tup (r.map D.int)
def tD (t : Tb) : D := .tup [.str "table", .tup (t.la.map D.str), .tup (t.go.map D.str), .tup (t.ro.map rowD), .tup (t.ho.map D.int)]
section
variable {t : Tb} {M : MM}
@[simp] theorem tD_0 : ixD (tD t) (.int 0) = some (.str "table") := rfl
@[simp] theorem tD_1 : ixD (tD t) (.int 1) = some (.tup (t.la.map D.str)) := rfl
@[simp] theorem tD_2 : ixD (tD t) (.int 2) = some (.tup (t.go.map D.str)) := rfl
@[simp] theorem tD_3 : ixD (tD t) (.int 3) = some (.tup (t.ro.map rowD)) := rfl
@[simp] theorem tD_4 : ixD (tD t) (.int 4) = some (.tup (t.ho.map D.int)) := rfl
@[simp] theorem tD_to3 : slD (tD t) none (some 3) = some (.tup [.str "table", .tup (t.la.map D.str), .tup (t.go.map D.str)]) := rfl
@[simp] theorem tD_to4 : slD (tD t) none (some 4) = some (.tup [.str "table", .tup (t.la.map D.str), .tup (t.go.map D.str), .tup (t.ro.map rowD)]) := rfl
@[simp] theorem tD_from1 : slD (tD t) (some 1) none = some (.tup [.tup (t.la.map D.str), .tup (t.go.map D.str), .tup (t.ro.map rowD), .tup (t.ho.map D.int)]) := rfl
@[simp] theorem p_row_t : F_is_row [tD t, .int 5] M = .ok (.bl true) M := p_is_row
end
structure TOk (t : Tb) : Prop where
  l1 : 1 ≤ t.la.length
  l5 : t.la.length ≤ 5
  g1 : 1 ≤ t.go.length
  g5 : t.go.length ≤ 5
  nl : ∀ x ∈ t.la, isNm x = true
  ng : ∀ x ∈ t.go, isNm x = true
  al : Asc t.la
  ag : Asc t.go
  dis : ∀ x ∈ t.la, x ∉ t.go
  rl : t.ro.length = t.la.length
  rg : ∀ r ∈ t.ro, r.length = t.go.length
  rn : ∀ r ∈ t.ro, ∀ n ∈ r, 1 ≤ n ∧ n ≤ 1000000
  hl : t.ho.length = t.la.length
  hn : ∀ n ∈ t.ho, 1 ≤ n ∧ n ≤ 1000000
theorem nms {xs : List Str} (h : ∀ x ∈ xs, isNm x = true) : ∀ x ∈ xs, PyData.strOk x = true ∧ x.length ≤ 1000 := fun x hx => by
  obtain ⟨h1, h2, _⟩ := isNm_ok (h x hx)
  exact ⟨h1, by omega⟩
theorem nm1 {xs : List Str} (h : ∀ x ∈ xs, isNm x = true) : ∀ x ∈ xs, PyData.strOk x = true := fun x hx => (nms h x hx).1
theorem TOk.names_l {t : Tb} (k : TOk t) {M : MM} : F_are_names [.tup (t.la.map D.str)] M = .ok (.bl true) M := by
  rw [p_are_names (nms k.nl) (by have := k.l5; omega)]
  have : (t.la.all isNm) = true := List.all_eq_true.mpr k.nl
  simp [k.l1, k.l5, this, ascR_of k.al]
theorem TOk.names_g {t : Tb} (k : TOk t) {M : MM} : F_are_names [.tup (t.go.map D.str)] M = .ok (.bl true) M := by
  rw [p_are_names (nms k.ng) (by have := k.g5; omega)]
  have : (t.go.all isNm) = true := List.all_eq_true.mpr k.ng
  simp [k.g1, k.g5, this, ascR_of k.ag]
theorem nums {ns : List Int} {M : MM} {k : Nat} (h : ∀ n ∈ ns, 1 ≤ n ∧ n ≤ 1000000) (hl : ns.length = k) (hk : k ≤ 5) : F_are_numbers [.tup (ns.map D.int), .int (k : Nat), .int 1, .int 1000000] M = .ok (.bl true) M := by
  rw [p_are_numbers (by omega)]
  have : (ns.all fun n => decide (1 ≤ n) && decide (n ≤ 1000000)) = true := List.all_eq_true.mpr fun n hn => by simp [h n hn]
  simp [hl, this]
theorem p_is_table {t : Tb} {M : MM} (k : TOk t) : F_is_table [tD t] M = .ok (.bl true) M := by
  have e1 := depA_strs (nm1 k.ng)
  have key1 : ∀ L1 : LL, L1 = [.val (tD t), .non, .non] → compM (itemsM (ixPM (locB 0) (cstP (1)))) [1] (gN 1) (yesM) (binM inD (locM 1) (ixPM (locB 0) (cstP (2)))) L1 M = .ok (t.la.map fun x => D.bl (decide (x ∈ t.go))) L1 M := by
    rintro L1 rfl
    refine comp_all t.la D.str _ (fun x => [.val (tD t), .val (.str x), .non]) (by simp) rfl (size_le (by have := k.l5; omega)) fun x hx => ⟨rfl, ?_, rfl, rfl⟩
    simp [e1, dep_str (nm1 k.nl x hx)]
  have key2 : ∀ L1 : LL, L1 = [.val (tD t), .non, .non] → compM (itemsM (ixPM (locB 0) (cstP (3)))) [2] (gN 2) (yesM) (callM F_are_numbers (consA (locM 2) (consA (un1 lenD (ixPM (locB 0) (cstP (2)))) (consA (cst (.int 1)) (consA (cst k_HIGH) (nilA)))))) L1 M = .ok (t.ro.map fun x => D.bl true) L1 M := by
    rintro L1 rfl
    refine comp_all t.ro rowD _ (fun r => [.val (tD t), .non, .val (rowD r)]) (by simp) rfl (size_le (by have := k.l5; have := k.rl; omega)) fun r hr => ⟨rfl, ?_, rfl, rfl⟩
    simp [nums (k.rn r hr) (k.rg r hr) k.g5]
  have no : (t.la.any fun x => decide (x ∈ t.go)) = false := by
    rw [List.any_eq_false]; intro x hx; simpa using k.dis x hx
  have w1 : F_is_word [.str "table", .tup [.str "table"]] M = .ok (.bl true) M := by
    have := p_is_word (x := "table") (ws := ["table"]) (M := M) (by simp) (by simp)
    simpa using this
  have all : allD (.lst (t.ro.map fun x => D.bl true)) = some (.bl true) := by rw [allD_map]; simp
  unfold F_is_table defM m_is_table ini
  simp [p_is_row, w1, k.names_l, k.names_g, key1, key2, all, no, k.rl, nums k.hn k.hl k.l5]
end WK

/-! ## plain: tables changed -/
namespace WK
open KK PySem PySem.Spec PyProof.Rows L2
def cut3 {α : Type} (l : List α) (k : Nat) (a : α) : List α := l.take k ++ [a] ++ l.drop (k + 1)
def put3 {α : Type} (l : List α) (k : Nat) (a : α) : List α := l.take k ++ [a] ++ l.drop k
def del3 {α : Type} (l : List α) (k : Nat) : List α := l.take k ++ l.drop (k + 1)
theorem map_cut3 {α β : Type} {f : α → β} {l : List α} {k : Nat} {a : α} : (cut3 l k a).map f = cut3 (l.map f) k (f a) := by simp [cut3, List.map_take, List.map_drop]
theorem map_put3 {α β : Type} {f : α → β} {l : List α} {k : Nat} {a : α} : (put3 l k a).map f = put3 (l.map f) k (f a) := by simp [put3, List.map_take, List.map_drop]
theorem map_del3 {α β : Type} {f : α → β} {l : List α} {k : Nat} : (del3 l k).map f = del3 (l.map f) k := by simp [del3, List.map_take, List.map_drop]
section
variable {M : MM} {ds : List D} {d : D} {k : Nat}
theorem sz_cut {n m : Nat} (h : n ≤ 1000) (h' : m ≤ 1000) : n + m ≤ sizeLine := size_le' (by omega) where
  size_le' {n : Nat} (h : n ≤ 2000) : n ≤ sizeLine := by rw [sizeLine_eq]; omega
theorem p_put (h : ds.length ≤ 900) : F_put [.tup ds, .int (k : Nat), d] M = .ok (.tup (cut3 ds k d)) M := by
  have a1 : (ds.take k).length + 1 ≤ sizeLine := sz_cut (by rw [List.length_take]; omega) (by omega)
  have a2 : (ds.take k).length + 1 + (ds.drop (k + 1)).length ≤ sizeLine := sz_cut (by rw [List.length_take]; omega) (by rw [List.length_drop]; omega)
  rw [List.length_take] at a1 a2
  rw [List.length_drop] at a2
  have e3 : ((k : Int) + 1) = ((k + 1 : Nat) : Int) := by omega
  unfold F_put defM m_put ini cut3
  simp [e3, a1, a2, -Int.natCast_add]
theorem p_put_in (h : ds.length ≤ 900) : F_put_in [.tup ds, .int (k : Nat), d] M = .ok (.tup (put3 ds k d)) M := by
  have a1 : (ds.take k).length + 1 ≤ sizeLine := sz_cut (by rw [List.length_take]; omega) (by omega)
  have a2 : (ds.take k).length + 1 + (ds.drop k).length ≤ sizeLine := sz_cut (by rw [List.length_take]; omega) (by rw [List.length_drop]; omega)
  rw [List.length_take] at a1 a2
  rw [List.length_drop] at a2
  unfold F_put_in defM m_put_in ini put3
  simp [a1, a2]
theorem p_law_put (h : ds.length ≤ 900) : F__law_put [.tup ds, .int (k : Nat), d] M = .ok (.tup (put3 ds k d)) M := p_put_in h
theorem p_law_left (h : ds.length ≤ 900) : F__law_left [.tup ds, .int (k : Nat)] M = .ok (.tup (del3 ds k)) M := by
  have a2 : (ds.take k).length + (ds.drop (k + 1)).length ≤ sizeLine := sz_cut (by rw [List.length_take]; omega) (by rw [List.length_drop]; omega)
  rw [List.length_take, List.length_drop] at a2
  have e3 : ((k : Int) + 1) = ((k + 1 : Nat) : Int) := by omega
  unfold F__law_left defM m__law_left ini del3
  simp [e3, a2, -Int.natCast_add]
theorem idx_some {x : Str} : ∀ {xs : List Str}, x ∈ xs → ∃ k, idx x xs = some k ∧ k < xs.length ∧ xs[k]? = some x
  | [], h => by cases h
  | y :: ys, h => by
    by_cases e : y = x
    · subst e; exact ⟨0, by unfold idx; rw [if_pos rfl], by simp, rfl⟩
    · have h' : x ∈ ys := by
        rcases List.mem_cons.mp h with q | q  -- 158
        · exact absurd q.symm e
        · exact q
      obtain ⟨k, h1, h2, h3⟩ := idx_some h'
      exact ⟨k + 1, by unfold idx; rw [if_neg e, h1]; rfl, by simpa using h2, by simpa using h3⟩
variable {t : Tb} (ok : TOk t) {x y : Str} {n : Int}
include ok
theorem p_check_table : F_check_table [tD t] M = .ok .non M := by
  unfold F_check_table defM m_check_table ini
  simp [p_is_table ok]
theorem p_check_land (h : PyData.strOk x = true) : F_check_land [tD t, .str x] M = if x ∈ t.la then .ok .non M else .err ⟨26, .non⟩ M := by
  unfold F_check_land defM m_check_land ini
  by_cases a : x ∈ t.la <;> simp [p_is_word h (nm1 ok.nl), a]
theorem p_check_good (h : PyData.strOk x = true) : F_check_good [tD t, .str x] M = if x ∈ t.go then .ok .non M else .err ⟨25, .non⟩ M := by
  unfold F_check_good defM m_check_good ini
  by_cases a : x ∈ t.go <;> simp [p_is_word h (nm1 ok.ng), a]
omit ok
theorem p_check_number (h : 1 ≤ n ∧ n ≤ 1000000) : F_check_number [.int n] M = .ok .non M := by
  unfold F_check_number defM m_check_number ini
  simp [p_is_number, h]
def rowAt (t : Tb) (k : Nat) : List Int := t.ro.getD k []
def tCost (t : Tb) (k j : Nat) (n : Int) : Tb := { t with ro := cut3 t.ro k (cut3 (rowAt t k) j n) }
def tHours (t : Tb) (k : Nat) (n : Int) : Tb := { t with ho := cut3 t.ho k n }
include ok
theorem row_at {k : Nat} (hk : k < t.la.length) : (t.ro.map rowD)[k]? = some (rowD (rowAt t k)) ∧ (rowAt t k).length = t.go.length := by
  have h : k < t.ro.length := by rw [ok.rl]; exact hk
  have e : rowAt t k = t.ro[k] := by unfold rowAt; rw [List.getD_eq_getElem?_getD, List.getElem?_eq_getElem h]; rfl
  rw [List.getElem?_map, List.getElem?_eq_getElem h, e]
  exact ⟨rfl, ok.rg _ (List.getElem_mem h)⟩
theorem p_with_cost (h1 : PyData.strOk x = true) (h2 : PyData.strOk y = true) (hn : 1 ≤ n ∧ n ≤ 1000000) : F_with_cost [tD t, .str x, .str y, .int n] M =
    if x ∈ t.la then (if y ∈ t.go then .ok (tD (tCost t ((idx x t.la).getD 0) ((idx y t.go).getD 0) n)) M else .err ⟨25, .non⟩ M) else .err ⟨26, .non⟩ M := by
  unfold F_with_cost defM m_with_cost ini
  by_cases a : x ∈ t.la
  · by_cases b : y ∈ t.go
    · obtain ⟨k, k1, k2, k3⟩ := idx_some a
      obtain ⟨j, j1, j2, j3⟩ := idx_some b
      obtain ⟨r1, r2⟩ := row_at ok k2
      have q1 : (List.map D.int (rowAt t k)).length ≤ 900 := by rw [List.length_map, r2]; have := ok.g5; omega
      have q2 : (List.map rowD t.ro).length ≤ 900 := by rw [List.length_map, ok.rl]; have := ok.l5; omega
      have e : tD (tCost t k j n) = .tup [.str "table", .tup (t.la.map D.str), .tup (t.go.map D.str), .tup (cut3 (t.ro.map rowD) k (.tup (cut3 ((rowAt t k).map D.int) j (.int n)))), .tup (t.ho.map D.int)] := by
        simp [tD, tCost, map_cut3]
        show cut3 _ k (D.tup ((cut3 (rowAt t k) j n).map D.int)) = _
        rw [map_cut3]
      rw [if_pos a, if_pos b]
      rw [List.getElem?_map] at r1
      simp [p_check_table ok, p_check_land ok h1, p_check_good ok h2, p_check_number hn, a, b, k1, j1, r1, p_put q1, p_put q2, e]
    · simp [p_check_table ok, p_check_land ok h1, p_check_good ok h2, a, b]
  · simp [p_check_table ok, p_check_land ok h1, a]
theorem p_with_hours (h1 : PyData.strOk x = true) (hn : 1 ≤ n ∧ n ≤ 1000000) : F_with_hours [tD t, .str x, .int n] M =
    if x ∈ t.la then .ok (tD (tHours t ((idx x t.la).getD 0) n)) M else .err ⟨26, .non⟩ M := by
  unfold F_with_hours defM m_with_hours ini
  by_cases a : x ∈ t.la
  · obtain ⟨k, k1, k2, k3⟩ := idx_some a
    have q1 : (List.map D.int t.ho).length ≤ 900 := by rw [List.length_map, ok.hl]; have := ok.l5; omega
    have e : tD (tHours t k n) = .tup [.str "table", .tup (t.la.map D.str), .tup (t.go.map D.str), .tup (t.ro.map rowD), .tup (cut3 (t.ho.map D.int) k (.int n))] := by
      simp [tD, tHours, map_cut3]
    simp [p_check_table ok, p_check_land ok h1, p_check_number hn, a, k1, p_put q1, e]
  · simp [p_check_table ok, p_check_land ok h1, a]
/-- how many stand before x -/
def insL (xs : List Str) (x : Str) : Nat := (xs.filter fun o => sLt o x).length
theorem insL_le {xs : List Str} {x : Str} : insL xs x ≤ xs.length := List.length_filter_le ..
def tLand (t : Tb) (x : Str) (r : List Int) (n : Int) : Tb := ⟨put3 t.la (insL t.la x) x, t.go, put3 t.ro (insL t.la x) r, put3 t.ho (insL t.la x) n⟩
def tGood (t : Tb) (x : Str) (c : List Int) : Tb := ⟨t.la, put3 t.go (insL t.go x) x, (t.ro.zip c).map fun p => put3 p.1 (insL t.go x) p.2, t.ho⟩
theorem p_with_land {r : List Int} (hx : isNm x = true) (hr : ∀ n ∈ r, 1 ≤ n ∧ n ≤ 1000000) (hz : r.length ≤ 900) (hn : 1 ≤ n ∧ n ≤ 1000000) : F_with_land [tD t, .str x, rowD r, .int n] M =
    if x ∈ t.go then .err ⟨10, .non⟩ M else if x ∈ t.la then .err ⟨30, .non⟩ M else if r.length ≠ t.go.length then .err ⟨21, .non⟩ M else if t.la.length = 5 then .err ⟨33, .int 5⟩ M else .ok (tD (tLand t x r n)) M := by
  obtain ⟨h1, h2, h3⟩ := isNm_ok hx
  have e1 := dep_str h1
  have e2 := depA_strs (nm1 ok.ng)
  have e3 := depA_strs (nm1 ok.nl)
  have nm : ∀ M : MM, F_is_name [.str x] M = .ok (.bl true) M := fun M => by rw [p_is_name h1 (by omega), hx]
  have nn : ∀ M : MM, F_are_numbers [rowD r, .int (t.go.length : Nat), .int 1, .int 1000000] M = .ok (.bl (decide (r.length = t.go.length))) M := fun M => by
    rw [p_are_numbers (by omega)]
    have : (r.all fun n => decide (1 ≤ n) && decide (n ≤ 1000000)) = true := List.all_eq_true.mpr fun n hn => by simp [hr n hn]
    have l : ((r.length : Int) = (t.go.length : Int)) ↔ r.length = t.go.length := by omega
    simp [this, l]
  have l5 : ((t.la.length : Int) == 5) = decide (t.la.length = 5) := by
    by_cases q : t.la.length = 5
    · simp [q]
    · have : ¬ ((t.la.length : Int) = 5) := by omega
      simp [q, this]
  unfold F_with_land defM m_with_land ini
  by_cases a : x ∈ t.go
  · simp [p_check_table ok, nm, a, e1, e2]
  · by_cases b : x ∈ t.la
    · simp [p_check_table ok, nm, a, b, e1, e2, e3]
    · by_cases c : r.length = t.go.length
      · by_cases d : t.la.length = 5
        · simp [p_check_table ok, nm, a, b, e1, e2, e3, nn, c, p_check_number hn, d]
        · have key : ∀ L1 : LL, L1 = [.val (tD t), .val (.str x), .val (rowD r), .val (.int n), .non, .non] → compM (itemsM (ixPM (locB 0) (cstP (1)))) [5] (gN 5) (binM ltD (locM 5) (locB 1)) (locM 5) L1 M = .ok ((t.la.filter fun o => sLt o x).map D.str) L1 M := by
            rintro L1 rfl
            exact comp_pure t.la D.str D.str _ (fun o => [.val (tD t), .val (.str x), .val (rowD r), .val (.int n), .non, .val (.str o)]) (by simp) rfl (size_le (by have := ok.l5; omega)) fun o ho => ⟨rfl, by simp, fun _ => by simp, rfl, rfl⟩
          have q1 : (List.map D.str t.la).length ≤ 900 := by rw [List.length_map]; have := ok.l5; omega
          have q2 : (List.map rowD t.ro).length ≤ 900 := by rw [List.length_map, ok.rl]; have := ok.l5; omega
          have q3 : (List.map D.int t.ho).length ≤ 900 := by rw [List.length_map, ok.hl]; have := ok.l5; omega
          have e : tD (tLand t x r n) = .tup [.str "table", .tup (put3 (t.la.map D.str) (insL t.la x) (.str x)), .tup (t.go.map D.str), .tup (put3 (t.ro.map rowD) (insL t.la x) (rowD r)), .tup (put3 (t.ho.map D.int) (insL t.la x) (.int n))] := by
            simp [tD, tLand, map_put3]
          have f : (t.la.filter fun o => sLt o x).length = insL t.la x := rfl
          simp [p_check_table ok, nm, a, b, e1, e2, e3, nn, c, p_check_number hn, d, l5, key, f, p_put_in q1, p_put_in q2, p_put_in q3, e]
      · simp [p_check_table ok, nm, a, b, e1, e2, e3, nn, c]
omit ok
theorem zip2_map {α β : Type} {f : α → D} {g : β → D} : ∀ {as : List α} {bs : List β}, zip2 (as.map f) (bs.map g) = (as.zip bs).map fun p => .pr [f p.1, g p.2]
  | [], _ => by simp [zip2]
  | _ :: _, [] => by simp [zip2]
  | a :: as, b :: bs => by simp only [List.map_cons, zip2, List.zip_cons_cons, zip2_map]
theorem zip3_map {α β γ : Type} {f : α → D} {g : β → D} {h : γ → D} : ∀ {as : List α} {bs : List β} {cs : List γ}, zip3 (as.map f) (bs.map g) (cs.map h) = (as.zip (bs.zip cs)).map fun p => .pr [f p.1, g p.2.1, h p.2.2]
  | [], _, _ => by simp [zip3]
  | _ :: _, [], _ => by simp [zip3]
  | _ :: _, _ :: _, [] => by simp [zip3]
  | a :: as, b :: bs, c :: cs => by simp only [List.map_cons, zip3, List.zip_cons_cons, zip3_map]
include ok
theorem p_with_good {c : List Int} (hx : isNm x = true) (hc : ∀ n ∈ c, 1 ≤ n ∧ n ≤ 1000000) (hz : c.length ≤ 900) : F_with_good [tD t, .str x, rowD c] M =
    if x ∈ t.la then .err ⟨10, .non⟩ M else if x ∈ t.go then .err ⟨30, .non⟩ M else if c.length ≠ t.la.length then .err ⟨3, .non⟩ M else if t.go.length = 5 then .err ⟨33, .int 5⟩ M else .ok (tD (tGood t x c)) M := by
  obtain ⟨h1, h2, h3⟩ := isNm_ok hx
  have e1 := dep_str h1
  have e2 := depA_strs (nm1 ok.ng)
  have e3 := depA_strs (nm1 ok.nl)
  have nm : ∀ M : MM, F_is_name [.str x] M = .ok (.bl true) M := fun M => by rw [p_is_name h1 (by omega), hx]
  have nn : ∀ M : MM, F_are_numbers [rowD c, .int (t.la.length : Nat), .int 1, .int 1000000] M = .ok (.bl (decide (c.length = t.la.length))) M := fun M => by
    rw [p_are_numbers (by omega)]
    have : (c.all fun n => decide (1 ≤ n) && decide (n ≤ 1000000)) = true := List.all_eq_true.mpr fun n hn => by simp [hc n hn]
    have l : ((c.length : Int) = (t.la.length : Int)) ↔ c.length = t.la.length := by omega
    simp [this, l]
  have l5 : ((t.go.length : Int) == 5) = decide (t.go.length = 5) := by
    by_cases q : t.go.length = 5
    · simp [q]
    · have : ¬ ((t.go.length : Int) = 5) := by omega
      simp [q, this]
  unfold F_with_good defM m_with_good ini
  by_cases a : x ∈ t.la
  · simp [p_check_table ok, nm, a, e1, e3]
  · by_cases b : x ∈ t.go
    · simp [p_check_table ok, nm, a, b, e1, e2, e3]
    · by_cases c' : c.length = t.la.length
      · by_cases d : t.go.length = 5
        · simp [p_check_table ok, nm, a, b, e1, e2, e3, nn, c', d]
        · have key : ∀ L1 : LL, L1 = [.val (tD t), .val (.str x), .val (rowD c), .non, .non, .non, .non, .non] → compM (itemsM (ixPM (locB 0) (cstP (2)))) [5] (gN 5) (binM ltD (locM 5) (locB 1)) (locM 5) L1 M = .ok ((t.go.filter fun o => sLt o x).map D.str) L1 M := by
            rintro L1 rfl
            exact comp_pure t.go D.str D.str _ (fun o => [.val (tD t), .val (.str x), .val (rowD c), .non, .non, .val (.str o), .non, .non]) (by simp) rfl (size_le (by have := ok.g5; omega)) fun o ho => ⟨rfl, by simp, fun _ => by simp, rfl, rfl⟩
          have key2 : ∀ L1 : LL, L1 = [.val (tD t), .val (.str x), .val (rowD c), .val (.int (insL t.go x : Nat)), .non, .non, .non, .non] → compM (zip2M (consA (ixPM (locB 0) (cstP (3))) (consA (locM 2) (nilA)))) [6, 7] (gT 2 (gsC (gN 6) (gsC (gN 7) (gsN)))) (yesM) (callM F_put_in (consA (locM 6) (consA (locM 3) (consA (locM 7) (nilA))))) L1 M =
              .ok ((t.ro.zip c).map fun p => .tup (put3 (p.1.map D.int) (insL t.go x) (.int p.2))) L1 M := by
            rintro L1 rfl
            refine comp_all (t.ro.zip c) (fun p => .pr [rowD p.1, .int p.2]) _ (fun p => [.val (tD t), .val (.str x), .val (rowD c), .val (.int (insL t.go x : Nat)), .non, .non, .val (rowD p.1), .val (.int p.2)]) ?_ rfl (size_le (by rw [List.length_zip]; have := ok.rl; have := ok.l5; omega)) fun p hp => ⟨rfl, ?_, rfl, rfl⟩
            · have : zip2 (t.ro.map rowD) (c.map D.int) = (t.ro.zip c).map fun p => .pr [rowD p.1, .int p.2] := zip2_map
              simp at this ⊢
              exact this
            · have q : (p.1.map D.int).length ≤ 900 := by
                rw [List.length_map, ok.rg _ (List.of_mem_zip hp).1]; have := ok.g5; omega
              simp [p_put_in q]
          have q1 : (List.map D.str t.go).length ≤ 900 := by rw [List.length_map]; have := ok.g5; omega
          have e : tD (tGood t x c) = .tup [.str "table", .tup (t.la.map D.str), .tup (put3 (t.go.map D.str) (insL t.go x) (.str x)), .tup ((t.ro.zip c).map fun p => .tup (put3 (p.1.map D.int) (insL t.go x) (.int p.2))), .tup (t.ho.map D.int)] := by
            simp [tD, tGood, map_put3, Function.comp_def]
          have f : (t.go.filter fun o => sLt o x).length = insL t.go x := rfl
          simp [p_check_table ok, nm, a, b, e1, e2, e3, nn, c', d, l5, key, key2, f, p_put_in q1, e]
      · simp [p_check_table ok, nm, a, b, e1, e2, e3, nn, c']
/-! ### lands leave, goods are dropped -/
def keepR (go wh : List Str) (r : List Int) : List Int := ((go.zip r).filter fun p => decide (p.1 ∈ wh)).map (·.2)
def tPart (t : Tb) (so wh : List Str) : Tb := ⟨so, wh, ((t.la.zip (t.ro.zip t.ho)).filter fun p => decide (p.1 ∈ so)).map fun p => keepR t.go wh p.2.1, ((t.la.zip (t.ro.zip t.ho)).filter fun p => decide (p.1 ∈ so)).map fun p => p.2.2⟩
theorem p_part_of {so wh : List Str} (hs : ∀ x ∈ so, PyData.strOk x = true) (hw : ∀ x ∈ wh, PyData.strOk x = true) : F_part_of [tD t, .tup (so.map D.str), .tup (wh.map D.str)] M = .ok (tD (tPart t so wh)) M := by
  have e1 := depA_strs hs
  have e2 := depA_strs hw
  have loop : ∀ (l : List (Str × List Int × Int)) (r1 : List (List Int)) (h1 : List Int) (s5 s6 s7 : Sl), (∀ p ∈ l, p.1 ∈ t.la ∧ p.2.1 ∈ t.ro) → r1.length + l.length ≤ 900 → h1.length + l.length ≤ 900 → ∃ s5' s6' s7',
      forL (gT 3 (gsC (gN 5) (gsC (gN 6) (gsC (gN 7) (gsN))))) (ifM (binM inD (locM 5) (locB 1)) (seqM (exprM (appM 3 (un1 tupD (lstX (compM (zip2M (consA (ixPM (locB 0) (cstP (2))) (consA (locM 6) (nilA)))) [8, 9] (gT 2 (gsC (gN 8) (gsC (gN 9) (gsN)))) (binM inD (locM 8) (locB 2)) (locM 9)))))) (exprM (appM 4 (locM 7)))) (skipM))
        (l.map fun p => .pr [.str p.1, rowD p.2.1, .int p.2.2]) [.val (tD t), .val (.tup (so.map D.str)), .val (.tup (wh.map D.str)), .own (r1.map rowD), .own (h1.map D.int), s5, s6, s7, .non, .non] M =
      .nx [.val (tD t), .val (.tup (so.map D.str)), .val (.tup (wh.map D.str)), .own ((r1 ++ (l.filter fun p => decide (p.1 ∈ so)).map fun p => keepR t.go wh p.2.1).map rowD), .own ((h1 ++ (l.filter fun p => decide (p.1 ∈ so)).map fun p => p.2.2).map D.int), s5', s6', s7', .non, .non] M := by
    intro l
    induction l with
    | nil => intro r1 h1 s5 s6 s7 _ _ _; exact ⟨s5, s6, s7, by simp⟩
    | cons p l ih =>
      intro r1 h1 s5 s6 s7 hl hz hy
      obtain ⟨pl, pr⟩ := hl p (List.mem_cons_self ..)
      rw [List.length_cons] at hz hy
      have d1 := dep_str (nm1 ok.nl _ pl)
      by_cases a : p.1 ∈ so
      · obtain ⟨u5, u6, u7, e⟩ := ih (r1 ++ [keepR t.go wh p.2.1]) (h1 ++ [p.2.2]) (.val (.str p.1)) (.val (rowD p.2.1)) (.val (.int p.2.2)) (fun q hq => hl q (List.mem_cons_of_mem _ hq)) (by simp; omega) (by simp; omega)
        have key : ∀ L1 : LL, L1 = [.val (tD t), .val (.tup (so.map D.str)), .val (.tup (wh.map D.str)), .own (r1.map rowD), .own (h1.map D.int), .val (.str p.1), .val (rowD p.2.1), .val (.int p.2.2), .non, .non] →
            compM (zip2M (consA (ixPM (locB 0) (cstP (2))) (consA (locM 6) (nilA)))) [8, 9] (gT 2 (gsC (gN 8) (gsC (gN 9) (gsN)))) (binM inD (locM 8) (locB 2)) (locM 9) L1 M = .ok (((t.go.zip p.2.1).filter fun q => decide (q.1 ∈ wh)).map fun q => .int q.2) L1 M := by
          rintro L1 rfl
          refine comp_pure (t.go.zip p.2.1) (fun q => .pr [.str q.1, .int q.2]) _ _ (fun q => [.val (tD t), .val (.tup (so.map D.str)), .val (.tup (wh.map D.str)), .own (r1.map rowD), .own (h1.map D.int), .val (.str p.1), .val (rowD p.2.1), .val (.int p.2.2), .val (.str q.1), .val (.int q.2)]) ?_ rfl (size_le (by rw [List.length_zip]; have := ok.g5; omega)) fun q hq => ⟨rfl, ?_, fun _ => by simp, rfl, rfl⟩
          · have : zip2 (t.go.map D.str) (p.2.1.map D.int) = (t.go.zip p.2.1).map fun q => .pr [.str q.1, .int q.2] := zip2_map
            simp at this ⊢
            exact this
          · have := dep_str (nm1 ok.ng _ (List.of_mem_zip hq).1)
            simp [this, e2]
        have kr : (((t.go.zip p.2.1).filter fun q => decide (q.1 ∈ wh)).map fun q => D.int q.2) = (keepR t.go wh p.2.1).map D.int := by simp [keepR, Function.comp_def]
        refine ⟨u5, u6, u7, ?_⟩
        have z1 : r1.length < sizeLine := by rw [sizeLine_eq]; omega
        have z2 : h1.length < sizeLine := by rw [sizeLine_eq]; omega
        rw [List.map_cons, forL_cons]
        simp [d1, e1, a, key, kr, z1, z2]
        simpa using e
      · obtain ⟨u5, u6, u7, e⟩ := ih r1 h1 (.val (.str p.1)) (.val (rowD p.2.1)) (.val (.int p.2.2)) (fun q hq => hl q (List.mem_cons_of_mem _ hq)) (by omega) (by omega)
        refine ⟨u5, u6, u7, ?_⟩
        rw [List.map_cons, forL_cons]
        simp [d1, e1, a]
        simpa using e
  obtain ⟨u5, u6, u7, e⟩ := loop (t.la.zip (t.ro.zip t.ho)) [] [] .non .non .non (fun p hp => ⟨(List.of_mem_zip hp).1, (List.of_mem_zip (List.of_mem_zip hp).2).1⟩) (by simp; have := ok.l5; omega) (by simp; have := ok.l5; omega)
  have z : zip3 (t.la.map D.str) (t.ro.map rowD) (t.ho.map D.int) = (t.la.zip (t.ro.zip t.ho)).map fun p => .pr [.str p.1, rowD p.2.1, .int p.2.2] := zip3_map
  unfold F_part_of defM m_part_of ini
  simp only [List.map_nil, List.nil_append] at e
  have e3 : tD (tPart t so wh) = .tup [.str "table", .tup (so.map D.str), .tup (wh.map D.str), .tup ((((t.la.zip (t.ro.zip t.ho)).filter fun p => decide (p.1 ∈ so)).map fun p => keepR t.go wh p.2.1).map rowD), .tup ((((t.la.zip (t.ro.zip t.ho)).filter fun p => decide (p.1 ∈ so)).map fun p => p.2.2).map D.int)] := rfl
  rw [e3]
  simp [z, e]
omit ok
theorem eqD_len {n : Nat} {k : Nat} : eqD (.int (n : Nat)) (.int (k : Nat)) = some (.bl (decide (n = k))) := by
  rw [eqD_ev (by simp) (by simp), eqv_int]
  by_cases h : n = k
  · simp [h]
  · have : ¬ ((n : Int) = (k : Int)) := by omega
    simp [h, this]
theorem p_without {xs : List Str} (hs : ∀ y ∈ xs, PyData.strOk y = true) (hx : PyData.strOk x = true) (hz : xs.length ≤ 1000) : F_without [.tup (xs.map D.str), .str x] M = if xs.length = 1 then .err ⟨29, .non⟩ M else .ok (.tup ((xs.filter fun o => !(o == x)).map D.str)) M := by
  have key : ∀ L1 : LL, L1 = [.val (.tup (xs.map D.str)), .val (.str x), .non] → compM (itemsM (locM 0)) [2] (gN 2) (binM neD (locM 2) (locB 1)) (locM 2) L1 M = .ok ((xs.filter fun o => !(o == x)).map D.str) L1 M := by
    rintro L1 rfl
    refine comp_pure xs D.str D.str _ (fun o => [.val (.tup (xs.map D.str)), .val (.str x), .val (.str o)]) (by simp) rfl (size_le hz) fun o ho => ⟨rfl, ?_, fun _ => by simp, rfl, rfl⟩
    simp [dep_str hx, dep_str (hs o ho)]
  have l1 : ((xs.length : Int) == 1) = decide (xs.length = 1) := by
    by_cases q : xs.length = 1
    · simp [q]
    · have : ¬ ((xs.length : Int) = 1) := by omega
      simp [q, this]
  unfold F_without defM m_without ini
  by_cases a : xs.length = 1
  · simp [a]
  · simp [l1, a, key]
/-! ### a list without one of its items -/
theorem sLt_irr {x : Str} : sLt x x = false := by unfold sLt; exact decide_eq_false (List.lt_irrefl _)
theorem Asc.nd {xs : List Str} (h : Asc xs) : xs.Nodup := h.imp fun {a b} q e => by subst e; rw [sLt_irr] at q; cases q
theorem zip_snd {α β : Type} : ∀ {xs : List α} {ys : List β}, xs.length = ys.length → (xs.zip ys).map (·.2) = ys
  | [], [], _ => rfl
  | x :: xs, y :: ys, h => by rw [List.zip_cons_cons, List.map_cons, zip_snd (by simpa using h)]
theorem del_zip {β : Type} {x : Str} : ∀ {xs : List Str} {ys : List β} {k : Nat} (q : Str → Bool), xs.Nodup → xs.length = ys.length → idx x xs = some k → (∀ y ∈ xs, q y = !(y == x)) → ((xs.zip ys).filter fun p => q p.1).map (·.2) = del3 ys k
  | [], _, _, _, _, _, h, _ => by cases h
  | z :: xs, [], _, _, _, h, _, _ => by simp at h
  | z :: xs, y :: ys, k, q, nd, hl, h, hq => by
    have nd' := List.nodup_cons.mp nd
    unfold idx at h
    rw [List.zip_cons_cons, List.filter_cons]
    by_cases e : z = x
    · rw [if_pos e] at h; cases h
      have q0 : q z = false := by rw [hq z (List.mem_cons_self ..), e]; simp
      rw [if_neg (by rw [q0]; decide), List.filter_eq_self.mpr fun p hp => ?_, zip_snd (by simpa using hl)]
      · rfl
      · have hm := (List.of_mem_zip hp).1
        rw [hq _ (List.mem_cons_of_mem _ hm)]
        have : p.1 ≠ x := fun w => nd'.1 (by rw [e, ← w]; exact hm)
        simp [this]
    · rw [if_neg e] at h
      cases h2 : idx x xs with
      | none => rw [h2] at h; cases h
      | some j =>
        rw [h2] at h; cases h
        have q0 : q z = true := by rw [hq z (List.mem_cons_self ..)]; simp [e]
        rw [if_pos q0, List.map_cons, del_zip q nd'.2 (by simpa using hl) h2 fun y hy => hq y (List.mem_cons_of_mem _ hy)]
        simp [del3]
theorem del_self {x : Str} {xs : List Str} {k : Nat} (nd : xs.Nodup) (h : idx x xs = some k) : (xs.filter fun y => !(y == x)) = del3 xs k := by
  have := del_zip (x := x) (xs := xs) (ys := xs) (fun y => !(y == x)) nd rfl h fun _ _ => rfl
  rw [← this]
  have : ∀ (l : List Str), ((l.zip l).filter fun p => !(p.1 == x)).map (·.2) = l.filter fun y => !(y == x) := by
    intro l
    induction l with
    | nil => rfl
    | cons a l ih =>
      rw [List.zip_cons_cons, List.filter_cons, List.filter_cons]
      by_cases c : (!(a == x)) = true
      · rw [if_pos c, if_pos c, List.map_cons, ih]
      · rw [if_neg c, if_neg c, ih]
  exact (this xs).symm
def tLeave (t : Tb) (k : Nat) : Tb := ⟨del3 t.la k, t.go, del3 t.ro k, del3 t.ho k⟩
def tDrop (t : Tb) (j : Nat) : Tb := ⟨t.la, del3 t.go j, t.ro.map fun r => del3 r j, t.ho⟩
theorem zip_fst3 {α β γ δ : Type} {f : β → δ} {q : α → Bool} : ∀ {xs : List α} {ys : List β} {zs : List γ}, ys.length = zs.length → ((xs.zip (ys.zip zs)).filter fun p => q p.1).map (fun p => f p.2.1) = ((xs.zip ys).filter fun p => q p.1).map fun p => f p.2
  | [], _, _, _ => by simp
  | _ :: _, [], zs, h => by cases zs <;> simp
  | _ :: _, _ :: _, [], h => by simp at h
  | x :: xs, y :: ys, z :: zs, h => by
    rw [List.zip_cons_cons, List.zip_cons_cons, List.zip_cons_cons, List.filter_cons, List.filter_cons]
    have ih := zip_fst3 (f := f) (q := q) (xs := xs) (ys := ys) (zs := zs) (by simpa using h)
    by_cases c : q x = true
    · rw [if_pos c, if_pos c, List.map_cons, List.map_cons, ih]
    · rw [if_neg c, if_neg c, ih]
theorem zip_snd3 {α β γ : Type} {q : α → Bool} : ∀ {xs : List α} {ys : List β} {zs : List γ}, ys.length = zs.length → ((xs.zip (ys.zip zs)).filter fun p => q p.1).map (fun p => p.2.2) = ((xs.zip zs).filter fun p => q p.1).map fun p => p.2
  | [], _, _, _ => by simp
  | _ :: _, [], zs, h => by cases zs with | nil => simp | cons _ _ => simp at h
  | _ :: _, _ :: _, [], h => by simp at h
  | x :: xs, y :: ys, z :: zs, h => by
    rw [List.zip_cons_cons, List.zip_cons_cons, List.zip_cons_cons, List.filter_cons, List.filter_cons]
    have ih := zip_snd3 (q := q) (xs := xs) (ys := ys) (zs := zs) (by simpa using h)
    by_cases c : q x = true
    · rw [if_pos c, if_pos c, List.map_cons, List.map_cons, ih]
    · rw [if_neg c, if_neg c, ih]
theorem keep_all {go : List Str} {r : List Int} (h : go.length = r.length) : keepR go go r = r := by
  unfold keepR
  rw [List.filter_eq_self.mpr fun p hp => decide_eq_true (List.of_mem_zip hp).1, zip_snd h]
include ok
theorem part_leave {k : Nat} (h : idx x t.la = some k) : tPart t (t.la.filter fun o => !(o == x)) t.go = tLeave t k := by
  have nd := ok.al.nd
  have hq : ∀ y ∈ t.la, decide (y ∈ t.la.filter fun o => !(o == x)) = !(y == x) := fun y hy => by
    by_cases e : y = x <;> simp [e, hy]
  have hro : t.ro.length = t.ho.length := by rw [ok.rl, ok.hl]
  unfold tPart tLeave
  rw [zip_fst3 (f := keepR t.go t.go) (q := fun y => decide (y ∈ t.la.filter fun o => !(o == x))) hro, zip_snd3 (q := fun y => decide (y ∈ t.la.filter fun o => !(o == x))) hro, del_zip _ nd (by rw [ok.hl]) h hq]
  have e : ((t.la.zip t.ro).filter fun p => decide (p.1 ∈ t.la.filter fun o => !(o == x))).map (fun p => keepR t.go t.go p.2) = ((t.la.zip t.ro).filter fun p => decide (p.1 ∈ t.la.filter fun o => !(o == x))).map (·.2) := List.map_congr_left fun p hp => by
    have := (List.of_mem_zip (List.mem_filter.mp hp).1).2
    exact keep_all (by rw [ok.rg _ this])
  rw [e, del_zip (fun y => decide (y ∈ t.la.filter fun o => !(o == x))) nd (by rw [ok.rl]) h hq, del_self nd h]
theorem part_drop {k : Nat} (h : idx x t.go = some k) : tPart t t.la (t.go.filter fun o => !(o == x)) = tDrop t k := by
  have nd := ok.ag.nd
  have hq : ∀ y ∈ t.go, decide (y ∈ t.go.filter fun o => !(o == x)) = !(y == x) := fun y hy => by
    by_cases e : y = x <;> simp [e, hy]
  have hro : t.ro.length = t.ho.length := by rw [ok.rl, ok.hl]
  unfold tPart tDrop
  rw [zip_fst3 (f := keepR t.go (t.go.filter fun o => !(o == x))) (q := fun y => decide (y ∈ t.la)) hro, zip_snd3 (q := fun y => decide (y ∈ t.la)) hro,
    List.filter_eq_self.mpr fun p hp => decide_eq_true (List.of_mem_zip hp).1, List.filter_eq_self.mpr fun p hp => decide_eq_true (List.of_mem_zip hp).1, zip_snd (by rw [ok.hl])]
  have e : (t.la.zip t.ro).map (fun p => keepR t.go (t.go.filter fun o => !(o == x)) p.2) = t.ro.map fun r => del3 r k := by
    have e1 : (t.la.zip t.ro).map (fun p => keepR t.go (t.go.filter fun o => !(o == x)) p.2) = ((t.la.zip t.ro).map (·.2)).map (keepR t.go (t.go.filter fun o => !(o == x))) := by rw [List.map_map]; rfl
    rw [e1, zip_snd (by rw [ok.rl])]
    refine List.map_congr_left fun r hr => ?_
    unfold keepR
    exact del_zip _ nd (by rw [ok.rg r hr]) h hq
  rw [e, del_self nd h]
end
end WK

/-! ## plain: works -/
namespace WK
open KK PySem PySem.Spec PyProof.Rows L2
inductive Wk where
  | cost (l g : Str) (n : Int)
  | hours (l : Str) (n : Int)
  | land (x : Str) (r : List Int) (n : Int)
  | good (x : Str) (c : List Int)
  | leave (l : Str)
  | drop (g : Str)
def wD : Wk → D
  | .cost l g n => .tup [.str "cost", .str l, .str g, .int n]
  | .hours l n => .tup [.str "hours", .str l, .int n]
  | .land x r n => .tup [.str "land", .str x, rowD r, .int n]
  | .good x c => .tup [.str "good", .str x, rowD c]
  | .leave l => .tup [.str "leave", .str l]
  | .drop g => .tup [.str "drop", .str g]
def nOk (n : Int) : Prop := 1 ≤ n ∧ n ≤ 1000000
def rOk (r : List Int) : Prop := 1 ≤ r.length ∧ r.length ≤ 5 ∧ ∀ n ∈ r, nOk n
def WOk : Wk → Prop
  | .cost l g n => isNm l = true ∧ isNm g = true ∧ nOk n
  | .hours l n => isNm l = true ∧ nOk n
  | .land x r n => isNm x = true ∧ rOk r ∧ nOk n
  | .good x c => isNm x = true ∧ rOk c
  | .leave l => isNm l = true
  | .drop g => isNm g = true
/-- what comes of a work: an error, or the table behind it -/
def chg (t : Tb) : Wk → Except Er Tb
  | .cost l g n => if l ∈ t.la then (if g ∈ t.go then .ok (tCost t ((idx l t.la).getD 0) ((idx g t.go).getD 0) n) else .error ⟨25, .non⟩) else .error ⟨26, .non⟩
  | .hours l n => if l ∈ t.la then .ok (tHours t ((idx l t.la).getD 0) n) else .error ⟨26, .non⟩
  | .land x r n => if x ∈ t.go then .error ⟨10, .non⟩ else if x ∈ t.la then .error ⟨30, .non⟩ else if r.length ≠ t.go.length then .error ⟨21, .non⟩ else if t.la.length = 5 then .error ⟨33, .int 5⟩ else .ok (tLand t x r n)
  | .good x c => if x ∈ t.la then .error ⟨10, .non⟩ else if x ∈ t.go then .error ⟨30, .non⟩ else if c.length ≠ t.la.length then .error ⟨3, .non⟩ else if t.go.length = 5 then .error ⟨33, .int 5⟩ else .ok (tGood t x c)
  | .leave l => if l ∈ t.la then (if t.la.length = 1 then .error ⟨29, .non⟩ else .ok (tLeave t ((idx l t.la).getD 0))) else .error ⟨26, .non⟩
  | .drop g => if g ∈ t.go then (if t.go.length = 1 then .error ⟨29, .non⟩ else .ok (tDrop t ((idx g t.go).getD 0))) else .error ⟨25, .non⟩
def outT (M : MM) : Except Er Tb → Fr
  | .ok t => .ok (tD t) M
  | .error e => .err e M
section
variable {M : MM} {t : Tb} (ok : TOk t) {x : Str} {n : Int}
include ok
theorem p_leave (h : isNm x = true) : F_less_by [tD t, wD (.leave x)] M = outT M (chg t (.leave x)) := by
  obtain ⟨h1, h2, h3⟩ := isNm_ok h
  unfold F_less_by defM m_less_by ini chg outT wD
  by_cases a : x ∈ t.la
  · by_cases b : t.la.length = 1
    · simp [p_check_land ok h1, a, p_without (nm1 ok.nl) h1 (by have := ok.l5; omega), b]
    · obtain ⟨k, k1, k2, k3⟩ := idx_some a
      have e := part_leave ok k1
      simp only [k1, Option.getD_some]
      rw [← e]
      simp [p_check_land ok h1, a, p_without (nm1 ok.nl) h1 (by have := ok.l5; omega), b, p_part_of ok (so := t.la.filter fun o => !(o == x)) (wh := t.go) (fun y hy => nm1 ok.nl y (List.mem_filter.mp hy).1) (nm1 ok.ng)]
  · simp [p_check_land ok h1, a]
theorem p_drop (h : isNm x = true) : F_less_by [tD t, wD (.drop x)] M = outT M (chg t (.drop x)) := by
  obtain ⟨h1, h2, h3⟩ := isNm_ok h
  unfold F_less_by defM m_less_by ini chg outT wD
  by_cases a : x ∈ t.go
  · by_cases b : t.go.length = 1
    · simp [p_check_good ok h1, a, p_without (nm1 ok.ng) h1 (by have := ok.g5; omega), b]
    · obtain ⟨k, k1, k2, k3⟩ := idx_some a
      have e := part_drop ok k1
      simp only [k1, Option.getD_some]
      rw [← e]
      simp [p_check_good ok h1, a, p_without (nm1 ok.ng) h1 (by have := ok.g5; omega), b, p_part_of ok (so := t.la) (wh := t.go.filter fun o => !(o == x)) (nm1 ok.nl) (fun y hy => nm1 ok.ng y (List.mem_filter.mp hy).1)]
  · simp [p_check_good ok h1, a]
theorem p_changed_by {w : Wk} (h : WOk w) : F_changed_by [tD t, wD w] M = outT M (chg t w) := by
  unfold F_changed_by defM m_changed_by ini
  cases w with
  | cost l g n =>
    obtain ⟨h1, h2, h3⟩ := h
    unfold wD chg
    simp [p_with_cost ok (isNm_ok h1).1 (isNm_ok h2).1 h3]
    by_cases a : l ∈ t.la <;> by_cases b : g ∈ t.go <;> simp [a, b, outT]
  | hours l n =>
    obtain ⟨h1, h3⟩ := h
    unfold wD chg
    simp [p_with_hours ok (isNm_ok h1).1 h3]
    by_cases a : l ∈ t.la <;> simp [a, outT]
  | land x r n =>
    obtain ⟨h1, h2, h3⟩ := h
    unfold wD chg
    simp [p_with_land ok h1 h2.2.2 (by have := h2.2.1; omega) h3]
    by_cases a : x ∈ t.go <;> by_cases b : x ∈ t.la <;> by_cases c : r.length = t.go.length <;> by_cases d : t.la.length = 5 <;> simp [a, b, c, d, outT]
  | good x c' =>
    obtain ⟨h1, h2⟩ := h
    unfold wD chg
    simp [p_with_good ok h1 h2.2.2 (by have := h2.2.1; omega)]
    by_cases a : x ∈ t.la <;> by_cases b : x ∈ t.go <;> by_cases c : c'.length = t.la.length <;> by_cases d : t.go.length = 5 <;> simp [a, b, c, d, outT]
  | leave l =>
    have e := p_leave (M := M) ok h
    unfold wD at e ⊢
    simp [e]
    cases chg t (.leave l) <;> simp [outT]
  | drop l =>
    have e := p_drop (M := M) ok h
    unfold wD at e ⊢
    simp [e]
    cases chg t (.drop l) <;> simp [outT]
omit ok
theorem p_are_costs {r : List Int} (h : rOk r) : F_are_costs [rowD r] M = .ok (.bl true) M := by
  obtain ⟨h1, h2, h3⟩ := h
  have key : ∀ L1 : LL, L1 = [.val (rowD r), .non] → compM (itemsM (locM 0)) [1] (gN 1) (yesM) (callM F_is_number (consA (locM 1) (consA (cst (.int 1)) (consA (cst k_HIGH) (nilA))))) L1 M = .ok (r.map fun n => D.bl true) L1 M := by
    rintro L1 rfl
    refine comp_all r D.int _ (fun n => [.val (rowD r), .val (.int n)]) (by simp) rfl (size_le (by omega)) fun n hn => ⟨rfl, ?_, rfl, rfl⟩
    have q := h3 n hn
    unfold nOk at q
    simp [p_is_number, q]
  have l1 : (1 : Int) ≤ (r.length : Int) := by omega
  have l2 : (r.length : Int) ≤ 5 := by omega
  have all : allD (.lst (r.map fun x => D.bl true)) = some (.bl true) := by rw [allD_map]; simp
  unfold F_are_costs defM m_are_costs ini
  simp [l1, l2, key, all]
theorem p_is_work {w : Wk} (h : WOk w) : F_is_work [wD w] M = .ok (.bl true) M := by
  have nm : ∀ (x : Str) (M : MM), isNm x = true → F_is_name [.str x] M = .ok (.bl true) M := fun x M hx => by
    obtain ⟨h1, h2, h3⟩ := isNm_ok hx
    rw [p_is_name h1 (by omega), hx]
  have nn : ∀ (n : Int) (M : MM), nOk n → F_is_number [.int n, .int 1, .int 1000000] M = .ok (.bl true) M := fun n M hn => by
    unfold nOk at hn
    rw [p_is_number]; simp [hn]
  have wd : ∀ (s : Str) (ws : List Str) (M : MM), PyData.strOk s = true → (∀ y ∈ ws, PyData.strOk y = true) → F_is_word [.str s, .tup (ws.map D.str)] M = .ok (.bl (decide (s ∈ ws))) M := fun s ws M h1 h2 => p_is_word h1 h2
  have w2 : ∀ (s a b : Str) (M : MM), PyData.strOk s = true → PyData.strOk a = true → PyData.strOk b = true → F_is_word [.str s, .tup [.str a, .str b]] M = .ok (.bl (decide (s = a) || decide (s = b))) M := fun s a b M h1 h2 h3 => by
    have := wd s [a, b] M h1 (by simp [h2, h3])
    simpa using this
  have w1 : ∀ (s a : Str) (M : MM), PyData.strOk s = true → PyData.strOk a = true → F_is_word [.str s, .tup [.str a]] M = .ok (.bl (decide (s = a))) M := fun s a M h1 h2 => by
    have := wd s [a] M h1 (by simp [h2])
    simpa using this
  unfold F_is_work defM m_is_work ini
  cases w with
  | cost l g n =>
    obtain ⟨h1, h2, h3⟩ := h
    unfold wD
    simp [w1, w2, nm _ _ h1, nm _ _ h2, nn _ _ h3]
  | hours l n =>
    obtain ⟨h1, h3⟩ := h
    unfold wD
    simp [w1, w2, nm _ _ h1, nn _ _ h3]
  | land x r n =>
    obtain ⟨h1, h2, h3⟩ := h
    unfold wD
    simp [w1, w2, nm _ _ h1, p_are_costs h2, nn _ _ h3]
  | good x c =>
    obtain ⟨h1, h2⟩ := h
    unfold wD
    simp [w1, w2, nm _ _ h1, p_are_costs h2]
  | leave l =>
    unfold wD
    simp [w1, w2, nm _ _ h]
  | drop l =>
    unfold wD
    simp [w1, w2, nm _ _ h]
end
end WK

/-! ## plain: books -/
namespace WK
open KK PySem PySem.Spec PyProof.Rows L2
/-- a book at i, its lists at a, b, c -/
structure Bk (M : MM) (i a b c : Nat) (ts ws us : List D) : Prop where
  ins : M[i]? = some (.inst 60 [("tables", .obj a), ("works", .obj b), ("undone", .obj c)])
  la : M[a]? = some (.list ts)
  lb : M[b]? = some (.list ws)
  lc : M[c]? = some (.list us)
  ab : a ≠ b
  ac : a ≠ c
  bc : b ≠ c
section
variable {M M' : MM} {i a b c : Nat} {ts ws us : List D}
theorem Bk.ia (k : Bk M i a b c ts ws us) : i ≠ a := fun e => by have := k.ins; rw [e, k.la] at this; cases this
theorem Bk.ib (k : Bk M i a b c ts ws us) : i ≠ b := fun e => by have := k.ins; rw [e, k.lb] at this; cases this
theorem Bk.ic (k : Bk M i a b c ts ws us) : i ≠ c := fun e => by have := k.ins; rw [e, k.lc] at this; cases this
theorem Bk.keep {S : List Nat} (k : Bk M i a b c ts ws us) (f : Fm S M M') (h : ∀ j ∈ S, j ≠ i ∧ j ≠ a ∧ j ≠ b ∧ j ≠ c) : Bk M' i a b c ts ws us :=
  ⟨f.get k.ins fun z => (h _ z).1 rfl, f.get k.la fun z => (h _ z).2.1 rfl, f.get k.lb fun z => (h _ z).2.2.1 rfl, f.get k.lc fun z => (h _ z).2.2.2 rfl, k.ab, k.ac, k.bc⟩
/-! ### Book(table) -/
theorem p_init {t : Tb} (ok : TOk t) (h : M[i]? = some (.inst 60 [])) : ∃ M', F_Book___init__ [.obj i, tD t] M = .ok .non M' ∧ Bk M' i M.length (M.length + 1) (M.length + 2) [tD t] [] [] ∧ Fm [i] M M' ∧ M'.length = M.length + 3 := by
  have li := lt_of_some h
  have h1 : (M ++ [MO.list [tD t]])[i]? = some (.inst 60 []) := app_lt h
  have h2 : ((M ++ [MO.list [tD t]]).set i (.inst 60 [("tables", .obj M.length)]))[i]? = some (.inst 60 [("tables", .obj M.length)]) := set_eq h1
  have h3 : (((M ++ [MO.list [tD t]]).set i (.inst 60 [("tables", .obj M.length)])) ++ [MO.list []])[i]? = some (.inst 60 [("tables", .obj M.length)]) := app_lt h2
  have h4 : ((((M ++ [MO.list [tD t]]).set i (.inst 60 [("tables", .obj M.length)])) ++ [MO.list []]).set i (.inst 60 [("tables", .obj M.length), ("works", .obj (M.length + 1))]))[i]? = some (.inst 60 [("tables", .obj M.length), ("works", .obj (M.length + 1))]) := set_eq h3
  have h5 : (((((M ++ [MO.list [tD t]]).set i (.inst 60 [("tables", .obj M.length)])) ++ [MO.list []]).set i (.inst 60 [("tables", .obj M.length), ("works", .obj (M.length + 1))])) ++ [MO.list []])[i]? = some (.inst 60 [("tables", .obj M.length), ("works", .obj (M.length + 1))]) := app_lt h4
  have h6 : ((((((M ++ [MO.list [tD t]]).set i (.inst 60 [("tables", .obj M.length)])) ++ [MO.list []]).set i (.inst 60 [("tables", .obj M.length), ("works", .obj (M.length + 1))])) ++ [MO.list []]).set i (.inst 60 [("tables", .obj M.length), ("works", .obj (M.length + 1)), ("undone", .obj (M.length + 2))]))[i]? = some (.inst 60 [("tables", .obj M.length), ("works", .obj (M.length + 1)), ("undone", .obj (M.length + 2))]) := set_eq h5
  have l2 : ((M ++ [MO.list [tD t]]).set i (.inst 60 [("tables", .obj M.length)])).length = M.length + 1 := by simp
  have l4 : ((((M ++ [MO.list [tD t]]).set i (.inst 60 [("tables", .obj M.length)])) ++ [MO.list []]).set i (.inst 60 [("tables", .obj M.length), ("works", .obj (M.length + 1))])).length = M.length + 2 := by simp
  have l6 : ((((((M ++ [MO.list [tD t]]).set i (.inst 60 [("tables", .obj M.length)])) ++ [MO.list []]).set i (.inst 60 [("tables", .obj M.length), ("works", .obj (M.length + 1))])) ++ [MO.list []]).set i (.inst 60 [("tables", .obj M.length), ("works", .obj (M.length + 1)), ("undone", .obj (M.length + 2))])).length = M.length + 3 := by simp
  have ev : F_Book___init__ [.obj i, tD t] M = .ok .non ((((((M ++ [MO.list [tD t]]).set i (.inst 60 [("tables", .obj M.length)])) ++ [MO.list []]).set i (.inst 60 [("tables", .obj M.length), ("works", .obj (M.length + 1))])) ++ [MO.list []]).set i (.inst 60 [("tables", .obj M.length), ("works", .obj (M.length + 1)), ("undone", .obj (M.length + 2))])) := by
    unfold F_Book___init__ defM m_Book___init__ ini
    simp [p_check_table ok, instOf_of h1, instOf_of h3, instOf_of h5]
  have a0 : (M ++ [MO.list [tD t]])[M.length]? = some (.list [tD t]) := by simp
  have a1 : (((M ++ [MO.list [tD t]]).set i (.inst 60 [("tables", .obj M.length)])) ++ [MO.list []])[M.length + 1]? = some (.list []) := by rw [← l2, List.getElem?_concat_length]
  have a2 : (((((M ++ [MO.list [tD t]]).set i (.inst 60 [("tables", .obj M.length)])) ++ [MO.list []]).set i (.inst 60 [("tables", .obj M.length), ("works", .obj (M.length + 1))])) ++ [MO.list []])[M.length + 2]? = some (.list []) := by rw [← l4, List.getElem?_concat_length]
  have n0 : i ≠ M.length := by omega
  have n1 : i ≠ M.length + 1 := by omega
  have n2 : i ≠ M.length + 2 := by omega
  refine ⟨_, ev, ⟨h6, ?_, ?_, ?_, by omega, by omega, by omega⟩, ?_, l6⟩
  · exact set_ne (app_lt (set_ne (app_lt (set_ne a0 n0)) n0)) n0
  · exact set_ne (app_lt (set_ne a1 n1)) n1
  · exact set_ne a2 n2
  · exact ((((Fm.push.trans Fm.set).trans Fm.push).trans Fm.set).trans Fm.push).trans Fm.set
/-- Book(table), as an expression -/
theorem p_make {t : Tb} (ok : TOk t) : ∃ M', F_Book___init__ [.obj M.length, tD t] (M ++ [.inst 60 []]) = .ok .non M' ∧ Bk M' M.length (M.length + 1) (M.length + 2) (M.length + 3) [tD t] [] [] ∧ Fm [] M M' ∧ M'.length = M.length + 4 := by
  obtain ⟨M', e, k, f, l⟩ := p_init (M := M ++ [.inst 60 []]) (i := M.length) ok (by simp)
  simp only [List.length_append, List.length_cons, List.length_nil] at k l
  refine ⟨M', e, k, (Fm.push (l := [.inst 60 []])).trans' f fun j hj => .inr (by simp at hj; omega), l⟩
/-! ### do -/
theorem p_do_ok {t t' : Tb} {w : Wk} (k : Bk M i a b c (ts ++ [tD t]) ws us) (ok : TOk t) (hw : WOk w) (e : chg t w = .ok t') (hz : ts.length ≤ 900) (hy : ws.length ≤ 900) :
    ∃ M', F_Book_do [.obj i, wD w] M = .ok .non M' ∧ Bk M' i a b M.length (ts ++ [tD t, tD t']) (ws ++ [wD w]) [] ∧ Fm [i, a, b] M M' ∧ M'.length = M.length + 1 := by
  have li := lt_of_some k.ins
  have la := lt_of_some k.la
  have lb := lt_of_some k.lb
  have z1 : (ts ++ [tD t]).length < sizeLine := by rw [sizeLine_eq]; simp; omega
  have z2 : ws.length < sizeLine := by rw [sizeLine_eq]; omega
  have i1 := set_ne (x := MO.list (ts ++ [tD t, tD t'])) k.ins k.ia.symm
  have b1 := set_ne (x := MO.list (ts ++ [tD t, tD t'])) k.lb k.ab
  have i2 := set_ne (x := MO.list (ws ++ [wD w])) i1 k.ib.symm
  have a2 := set_ne (x := MO.list (ws ++ [wD w])) (set_eq (x := MO.list (ts ++ [tD t, tD t'])) k.la) k.ab.symm
  have b2 := set_eq (x := MO.list (ws ++ [wD w])) b1
  have i3 := app_lt (r := [MO.list []]) i2
  have ch := p_changed_by (M := M) ok hw
  rw [e] at ch
  have ev : F_Book_do [.obj i, wD w] M = .ok .non ((((M.set a (MO.list (ts ++ [tD t, tD t']))).set b (MO.list (ws ++ [wD w]))) ++ [MO.list []]).set i (.inst 60 [("tables", .obj a), ("works", .obj b), ("undone", .obj M.length)])) := by
    unfold F_Book_do defM m_Book_do ini
    simp [p_is_work hw, instOf_of k.ins, instOf_of i1, instOf_of i2, instOf_of i3, vw_of k.la, lstAt_of k.la, lstAt_of b1, ch, outT, appK3_ev (lstAt_of k.la) z1, appK3_ev (lstAt_of b1) z2]
  have n : i ≠ M.length := by omega
  refine ⟨_, ev, ⟨set_eq i3, set_ne (app_lt a2) k.ia, set_ne (app_lt b2) k.ib, ?_, k.ab, by omega, by omega⟩, ?_, by simp⟩
  · refine set_ne ?_ n
    have l : ((M.set a (MO.list (ts ++ [tD t, tD t']))).set b (MO.list (ws ++ [wD w]))).length = M.length := by simp
    rw [← l, List.getElem?_concat_length]
  · exact (((Fm.set.sub (by simp)).trans (Fm.set.sub (by simp))).trans Fm.push).trans (Fm.set.sub (by simp))
theorem p_do_err {t : Tb} {w : Wk} {er : Er} (k : Bk M i a b c (ts ++ [tD t]) ws us) (ok : TOk t) (hw : WOk w) (e : chg t w = .error er) : F_Book_do [.obj i, wD w] M = .err er M := by
  have ch := p_changed_by (M := M) ok hw
  rw [e] at ch
  unfold F_Book_do defM m_Book_do ini
  simp [p_is_work hw, instOf_of k.ins, vw_of k.la, lstAt_of k.la, ch, outT]
theorem p_do_bad {d : D} (h : F_is_work [d] M = .ok (.bl false) M) : F_Book_do [.obj i, d] M = .err ⟨24, .non⟩ M := by
  unfold F_Book_do defM m_Book_do ini
  simp [h]
/-! ### reading -/
theorem p_table {x : D} (k : Bk M i a b c (ts ++ [x]) ws us) : F_Book_table [.obj i] M = .ok x M := by
  unfold F_Book_table defM m_Book_table ini
  simp [instOf_of k.ins, vw_of k.la]
theorem p_journal (k : Bk M i a b c ts ws us) : F_Book_journal [.obj i] M = .ok (.lst ws) M := by
  unfold F_Book_journal defM m_Book_journal ini
  simp [instOf_of k.ins, vw_of k.lb]
/-! ### undo, redo -/
theorem emD_lst {ds : List D} (h : depA ds ≤ 59) : emD (.lst ds) = some ds.isEmpty := if_pos h
theorem emD_snoc {ds : List D} {x : D} (h : depA (ds ++ [x]) ≤ 59) : emD (.lst (ds ++ [x])) = some false := by
  rw [emD_lst h]; cases ds <;> rfl
theorem p_undo {x y : D} (k : Bk M i a b c (ts ++ [x]) (ws ++ [y]) us) (hd : depA (ws ++ [y]) ≤ 59) (hz : us.length ≤ 900) :
    ∃ M', F_Book_undo [.obj i] M = .ok .non M' ∧ Bk M' i a b c ts ws (us ++ [.tup [y, x]]) ∧ Fm [a, b, c] M M' ∧ M'.length = M.length := by
  have z1 : us.length < sizeLine := by rw [sizeLine_eq]; omega
  have i1 := set_ne (x := MO.list ws) k.ins k.ib.symm
  have a1 := set_ne (x := MO.list ws) k.la k.ab.symm
  have c1 := set_ne (x := MO.list ws) k.lc k.bc
  have i2 := set_ne (x := MO.list ts) i1 k.ia.symm
  have b2 := set_ne (x := MO.list ts) (set_eq (x := MO.list ws) k.lb) k.ab
  have c2 := set_ne (x := MO.list ts) c1 k.ac
  have ev : F_Book_undo [.obj i] M = .ok .non (((M.set b (MO.list ws)).set a (MO.list ts)).set c (MO.list (us ++ [.tup [y, x]]))) := by
    unfold F_Book_undo defM m_Book_undo ini
    simp [instOf_of k.ins, instOf_of i1, vw_of k.lb, emD_snoc hd, lstAt_of k.lc, popOK_ev (lstAt_of k.lb), popOK_ev (lstAt_of a1), appK3_ev (lstAt_of c2) z1]
  refine ⟨_, ev, ⟨set_ne i2 k.ic.symm, set_ne (set_eq a1) k.ac.symm, set_ne b2 k.bc.symm, set_eq c2, k.ab, k.ac, k.bc⟩, ?_, by simp⟩
  exact ((Fm.set.sub (by simp)).trans (Fm.set.sub (by simp))).trans (Fm.set.sub (by simp))
theorem p_redo_no (k : Bk M i a b c ts ws []) : F_Book_redo [.obj i] M = .err ⟨28, .non⟩ M := by
  unfold F_Book_redo defM m_Book_redo ini
  simp [instOf_of k.ins, vw_of k.lc, emD_lst]
theorem p_redo {x y : D} (k : Bk M i a b c ts ws (us ++ [.tup [y, x]])) (hd : depA (us ++ [.tup [y, x]]) ≤ 59) (hz : ts.length ≤ 900) (hy : ws.length ≤ 900) :
    ∃ M', F_Book_redo [.obj i] M = .ok .non M' ∧ Bk M' i a b c (ts ++ [x]) (ws ++ [y]) us ∧ Fm [a, b, c] M M' ∧ M'.length = M.length := by
  have z1 : ws.length < sizeLine := by rw [sizeLine_eq]; omega
  have z2 : ts.length < sizeLine := by rw [sizeLine_eq]; omega
  have i1 := set_ne (x := MO.list us) k.ins k.ic.symm
  have b1 := set_ne (x := MO.list us) k.lb k.bc.symm
  have a1 := set_ne (x := MO.list us) k.la k.ac.symm
  have c1 := set_eq (x := MO.list us) k.lc
  have i2 := set_ne (x := MO.list (ws ++ [y])) i1 k.ib.symm
  have a2 := set_ne (x := MO.list (ws ++ [y])) a1 k.ab.symm
  have b2 := set_eq (x := MO.list (ws ++ [y])) b1
  have c2 := set_ne (x := MO.list (ws ++ [y])) c1 k.bc
  have ev : F_Book_redo [.obj i] M = .ok .non (((M.set c (MO.list us)).set b (MO.list (ws ++ [y]))).set a (MO.list (ts ++ [x]))) := by
    unfold F_Book_redo defM m_Book_redo ini
    simp [instOf_of k.ins, instOf_of i1, instOf_of i2, vw_of k.lc, emD_snoc hd, popOK_ev (lstAt_of k.lc), lstAt_of b1, lstAt_of a2, appK3_ev (lstAt_of b1) z1, appK3_ev (lstAt_of a2) z2]
  refine ⟨_, ev, ⟨set_ne i2 k.ia.symm, set_eq a2, set_ne b2 k.ab, set_ne c2 k.ac, k.ab, k.ac, k.bc⟩, ?_, by simp⟩
  exact ((Fm.set.sub (by simp)).trans (Fm.set.sub (by simp))).trans (Fm.set.sub (by simp))
/-! ### copies -/
theorem isAns_obj {nb : Option Bool} {eb ib : Nat → Option Bool} {j c : Nat} {fs : List (Str × D)} (h : M[j]? = some (.inst c fs)) : isAns nb eb ib M (.obj j) = ib c := by unfold isAns; simp only [h]
/-- a field is set to a new list -/
def fresh (N : MM) (n : Nat) (f : Str) (ds : List D) (fs : List (Str × D)) : MM := (N ++ [MO.list ds]).set n (.inst 60 (putD f (.obj N.length) fs))
theorem fresh_ {N : MM} {n : Nat} {f : Str} {ds : List D} {fs : List (Str × D)} (h : N[n]? = some (.inst 60 fs)) : (fresh N n f ds fs)[n]? = some (.inst 60 (putD f (.obj N.length) fs)) ∧ (fresh N n f ds fs)[N.length]? = some (.list ds) ∧ Fm [n] N (fresh N n f ds fs) ∧ (fresh N n f ds fs).length = N.length + 1 := by
  have l := lt_of_some h
  unfold fresh
  exact ⟨set_eq (app_lt h), set_ne List.getElem?_concat_length (by omega), Fm.push.trans Fm.set, by simp⟩
theorem p_setnew {N : MM} {n i a : Nat} {f : Str} {ds : List D} {fs gs : List (Str × D)} (h : N[n]? = some (.inst 60 fs)) (hi : N[i]? = some (.inst 60 gs)) (hl : lookD f gs = some (.obj a)) (ha : N[a]? = some (.list ds)) (hz : fs.length < 1000) :
    setF 60 f (locM 1) (objX (unF listD (vwM (fldM 60 f (locM 0))))) [.val (.obj i), .val (.obj n)] N = .nx [.val (.obj i), .val (.obj n)] (fresh N n f ds fs) := by
  have q := app_lt (r := [MO.list ds]) h
  simp [instOf_of hi, hl, vw_of ha, instOf_of q, hz, fresh]
theorem fresh_ex {N : MM} {n : Nat} {f : Str} {ds : List D} {fs : List (Str × D)} (h : N[n]? = some (.inst 60 fs)) : ∃ N', N' = fresh N n f ds fs ∧ N'[n]? = some (.inst 60 (putD f (.obj N.length) fs)) ∧ N'[N.length]? = some (.list ds) ∧ Fm [n] N N' ∧ N'.length = N.length + 1 := ⟨_, rfl, fresh_ h⟩
theorem p_copy {t : Tb} (ok : TOk t) (k : Bk M i a b c (tD t :: ts) ws us) : ∃ M', F_Book_copy [.obj i] M = .ok (.obj M.length) M' ∧ Bk M' M.length (M.length + 4) (M.length + 5) (M.length + 6) (tD t :: ts) ws us ∧ Fm [] M M' ∧ M'.length = M.length + 7 := by
  obtain ⟨M1, e1, k1, f1, l1⟩ := p_make (M := M) ok
  have kb := k.keep f1 (by simp)
  have j1 := k1.ins
  have li := lt_of_some k.ins
  have la := lt_of_some k.la
  have lb := lt_of_some k.lb
  have lc := lt_of_some k.lc
  have kp : ∀ {N N' : MM}, Bk N i a b c (tD t :: ts) ws us → Fm [M.length] N N' → Bk N' i a b c (tD t :: ts) ws us := fun kb f => kb.keep f fun j hj => by
    have : j = M.length := by simpa using hj
    omega
  obtain ⟨N1, d1, s1, t1, g1, m1⟩ := fresh_ex (f := "tables") (ds := tD t :: ts) j1
  simp at s1
  obtain ⟨N2, d2, s2, t2, g2, m2⟩ := fresh_ex (f := "works") (ds := ws) s1
  simp at s2
  obtain ⟨N3, d3, s3, t3, g3, m3⟩ := fresh_ex (f := "undone") (ds := us) s2
  simp at s3
  have kb1 := kp kb g1
  have kb2 := kp kb1 g2
  have e2 := p_setnew j1 kb.ins (f := "tables") (by simp) kb.la (by simp)
  have e3 := p_setnew s1 kb1.ins (f := "works") (by simp) kb1.lb (by simp)
  have e4 := p_setnew s2 kb2.ins (f := "undone") (by simp) kb2.lc (by simp)
  rw [← d1] at e2
  rw [← d2] at e3
  rw [← d3] at e4
  have x1 : N1.length = M.length + 5 := by omega
  have x2 : N2.length = M.length + 6 := by omega
  rw [l1] at t1 s1 s2 s3
  rw [x1] at t2 s2 s3
  rw [x2] at t3 s3
  refine ⟨N3, ?_, ⟨s3, ?_, ?_, ?_, by omega, by omega, by omega⟩, ?_, by omega⟩
  · unfold F_Book_copy defM m_Book_copy ini
    simp only [seqM_ev, setM_ev, mkM_ev, consA_ev, ixPM_ev, vwM_ev, fldM_ev, locM_ev]
    simp [instOf_of k.ins, vw_of k.la, e1, -setF_ev]
    simp [e2, e3, e4, -setF_ev]
  · exact g3.get (g2.get t1 (by simp)) (by simp)
  · exact g3.get t2 (by simp)
  · exact t3
  · refine f1.trans' (((g1.trans g2).trans g3)) (S2 := [M.length]) fun j hj => .inr ?_
    have : j = M.length := by simpa using hj
    omega
/-! ### == of books -/
theorem vd_two {x : D} (h : M[b]? = some (.list ws)) (hx : vw M x = x) : vd M (.tup [x, .obj b]) = .tup [x, .lst ws] := by unfold vd; simp [hx, vw_of h]
theorem vw_tD {t : Tb} : vw M (tD t) = tD t := rfl
theorem p_eq {t t' : Tb} {j a' b' c' : Nat} {ts' ws' us' : List D} (k : Bk M i a b c (tD t :: ts) ws us) (k' : Bk M j a' b' c' (tD t' :: ts') ws' us') (h1 : dep (tD t) ≤ 58) (h2 : dep (tD t') ≤ 58) (h3 : depA ws ≤ 58) (h4 : depA ws' ≤ 58) :
    F_Book___eq__ [.obj i, .obj j] M = .ok (.bl (eqv (tD t) (tD t') && eqvs ws ws')) M := by
  have e1 := vd_two k.lb (vw_tD (t := t))
  have e2 := vd_two k'.lb (vw_tD (t := t'))
  have d1 : dep (.tup [tD t, .lst ws]) ≤ 60 := by simp; omega
  have d2 : dep (.tup [tD t', .lst ws']) ≤ 60 := by simp; omega
  have ev : eqv (.tup [tD t, .lst ws]) (.tup [tD t', .lst ws']) = (eqv (tD t) (tD t') && eqvs ws ws') := by simp
  have key : ∀ L1 : LL, L1 = [.val (.obj i), .val (.obj j)] → KK.eqV false (tupM (consA (ixPM (vwM (fldM 60 "tables" (locM 0))) (cstP (0))) (consA (fldM 60 "works" (locM 0)) (nilA)))) (tupM (consA (ixPM (vwM (fldM 60 "tables" (locM 1))) (cstP (0))) (consA (fldM 60 "works" (locM 1)) (nilA)))) L1 M = .ok (.bl (eqv (tD t) (tD t') && eqvs ws ws')) L1 M := by
    rintro L1 rfl
    unfold KK.eqV
    have q1 : tupM (consA (ixPM (vwM (fldM 60 "tables" (locM 0))) (cstP (0))) (consA (fldM 60 "works" (locM 0)) (nilA))) [.val (.obj i), .val (.obj j)] M = .ok (.tup [tD t, .obj b]) [.val (.obj i), .val (.obj j)] M := by
      simp [instOf_of k.ins, vw_of k.la]
    have q2 : tupM (consA (ixPM (vwM (fldM 60 "tables" (locM 1))) (cstP (0))) (consA (fldM 60 "works" (locM 1)) (nilA))) [.val (.obj i), .val (.obj j)] M = .ok (.tup [tD t', .obj b']) [.val (.obj i), .val (.obj j)] M := by
      simp [instOf_of k'.ins, vw_of k'.la]
    rw [q1, bind_ok, q2, bind_ok, e1, e2, if_pos ⟨d1, d2⟩, ev]
    rfl
  unfold F_Book___eq__ defM m_Book___eq__ ini
  simp [isAns_obj k'.ins, key]
end
end WK

/-! ## plain: draws -/
namespace WK
open KK PySem PySem.Spec PyProof.Rows L2
def drD (cs : List Int) (r t : Int) : List (Str × D) := [("large", .obj 0), ("cells", .lst (cs.map D.int)), ("rest", .int r), ("turn", .int t)]
/-- the draws' state: its list at 0, its dict at 1 -/
def Dr (M : MM) : Prop := ∃ (ls cs : List Int) (r t : Int), M[0]? = some (.list (ls.map D.int)) ∧ M[1]? = some (.dict (drD cs r t))
section
variable {cs : List Int} {r t n : Int} {M : MM}
@[simp] theorem dr_large : lookD "large" (drD cs r t) = some (.obj 0) := by simp [drD]
@[simp] theorem dr_cells : lookD "cells" (drD cs r t) = some (.lst (cs.map D.int)) := by simp [drD]
@[simp] theorem dr_rest : lookD "rest" (drD cs r t) = some (.int r) := by simp [drD]
@[simp] theorem dr_turn : lookD "turn" (drD cs r t) = some (.int t) := by simp [drD]
@[simp] theorem dr_pr : putD "rest" (.int n) (drD cs r t) = drD cs n t := by simp [drD]
@[simp] theorem dr_pt : putD "turn" (.int n) (drD cs r t) = drD cs r n := by simp [drD]
theorem dr_nd : (drD cs r t).length < 1000 ∧ ((drD cs r t).map (·.1)).Nodup := by
  refine ⟨by simp [drD], ?_⟩
  simp [drD]
theorem dr_ok (y : Str) {d : D} (h : lookD y (drD cs r t) = some d) (j : Nat) : lookD y ((j, drD cs r t) : Nat × List (Str × D)).2 ≠ none ∧ ((j, drD cs r t) : Nat × List (Str × D)).2.length < 1000 ∧ (((j, drD cs r t) : Nat × List (Str × D)).2.map (·.1)).Nodup := ⟨by simp [h], dr_nd.1, dr_nd.2⟩
/-- the walk over the cells -/
theorem p_cells {p t f : Int} (hp : 0 < p) : ∀ (cs : List Int) (b : Int) (s5 : Sl), ∃ b' s5', forL (gN 5) (setM 4 (binM modD (un1 intD (binM addD (binM addD (binM mulD (locM 4) (cst (.int 69621))) (locB 5)) (locB 2))) (locB 1))) (cs.map D.int) [.val (.obj 1), .val (.int p), .val (.int t), .val (.int f), .val (.int b), s5] M = .nx [.val (.obj 1), .val (.int p), .val (.int t), .val (.int f), .val (.int b'), s5'] M
  | [], b, s5 => ⟨b, s5, rfl⟩
  | c :: cs, b, s5 => by
    obtain ⟨b', s5', e⟩ := p_cells hp cs ((b * 69621 + c + t) % p) (.val (.int c))
    have hm : CMul b 69621 ∨ CMulW b 69621 := .inl (.inr ⟨by decide, by decide⟩)
    exact ⟨b', s5', by rw [List.map_cons, forL_cons]; simp [hm, hp]; exact e⟩
theorem p_mixed (h1 : M[1]? = some (.dict (drD cs r t))) : ∃ n : Int, F__law_mixed [.obj 1] M = .ok (.int n) (M.set 1 (.dict (drD cs r (t + 1)))) := by
  have h2 := set_eq (x := MO.dict (drD cs r (t + 1))) h1
  have body : ∀ (p : Int), 0 < p → ∀ (s1 s4 s5 : Sl) (f : Int), ∃ f' b' s5', (seqM (setM 4 (binM addD (binM mulD (cst (.int 48271)) (locB 2)) (binM divD (locM 1) (cst (.int 37))))) (seqM (forM (itemsM (dgM "cells" (locM 0))) (gN 5) (setM 4 (binM modD (un1 intD (binM addD (binM addD (binM mulD (locM 4) (cst (.int 69621))) (locB 5)) (locB 2))) (locB 1)))) (setM 3 (binM addD (binM mulD (locM 3) (cst (.int 2147483648))) (locB 4)))))
      [.val (.obj 1), .val (.int p), .val (.int (t + 1)), .val (.int f), s4, s5] (M.set 1 (.dict (drD cs r (t + 1)))) = .nx [.val (.obj 1), .val (.int p), .val (.int (t + 1)), .val (.int f'), .val (.int b'), s5'] (M.set 1 (.dict (drD cs r (t + 1)))) := by
    intro p hp s1 s4 s5 f
    have hm1 : CMul 48271 (t + 1) ∨ CMulW 48271 (t + 1) := .inl (.inl ⟨by decide, by decide⟩)
    have hd : CDivW p 37 := ⟨by decide, by decide +kernel⟩
    have hm2 : CMul f 2147483648 ∨ CMulW f 2147483648 := .inl (.inr ⟨by decide, by decide⟩)
    obtain ⟨b', s5', e⟩ := p_cells (M := M.set 1 (.dict (drD cs r (t + 1)))) (t := t + 1) (f := f) hp cs (48271 * (t + 1) + p / 37) s5
    refine ⟨f * 2147483648 + b', b', s5', ?_⟩
    simp [hm1, hd, dicAt_of h2]
    rw [e]
    simp [hm2]
  obtain ⟨f1, b1, c1, e1⟩ := body 2147483647 (by decide) .non .non .non 0
  obtain ⟨f2, b2, c2, e2⟩ := body 2147483629 (by decide) .non (.val (.int b1)) c1 f1
  obtain ⟨f3, b3, c3, e3⟩ := body 2147483587 (by decide) .non (.val (.int b2)) c2 f2
  obtain ⟨f4, b4, c4, e4⟩ := body 2147483579 (by decide) .non (.val (.int b3)) c3 f3
  refine ⟨f4, ?_⟩
  have dp := dpK3_ev (L := [.val (.obj 1), .non, .val (.int (t + 1)), .val (.int 0), .non, .non]) (M := M) (d := .int (t + 1)) (dr_ok (cs := cs) (r := r) (t := t) "turn" dr_turn 1)
  simp at dp
  unfold F__law_mixed defM m__law_mixed ini
  generalize ((seqM (setM 4 (binM addD (binM mulD (cst (.int 48271)) (locB 2)) (binM divD (locM 1) (cst (.int 37))))) (seqM (forM (itemsM (dgM "cells" (locM 0))) (gN 5) (setM 4 (binM modD (un1 intD (binM addD (binM addD (binM mulD (locM 4) (cst (.int 69621))) (locB 5)) (locB 2))) (locB 1)))) (setM 3 (binM addD (binM mulD (locM 3) (cst (.int 2147483648))) (locB 4))))) : MS) = B at e1 e2 e3 e4 ⊢
  simp [dicAt_of h1, dp, forL_cons, e1, e2, e3, e4]
/-- one draw -/
theorem p_take (h : Dr M) (h0 : 0 < n) (hn : n ≤ 1000000) : ∃ v M', F__law_take [.obj 1, .int n] M = .ok (.int v) M' ∧ 0 ≤ v ∧ v < n ∧ Dr M' ∧ Fm [0, 1] M M' ∧ M'.length = M.length := by
  obtain ⟨ls, cs, r, t, h1, h2⟩ := h
  have hd : CDivW r n := ⟨h0, by
    have : n.natAbs < 2 ^ 20 := by omega
    have := (Nat.log2_lt (k := 20) (by omega : n.natAbs ≠ 0)).mpr this
    omega⟩
  -- the draw from a number that is there
  have fin : ∀ (M1 : MM) (ls' : List Int) (r' t' : Int), M1[0]? = some (.list (ls'.map D.int)) → M1[1]? = some (.dict (drD cs r' t')) → CDivW r' n → ∃ v M', seqM (setM 2 (binM modD (un1 intD (dgM "rest" (locM 0))) (locB 1))) (seqM (dpM "rest" (locM 0) (binM divD (un1 intD (dgM "rest" (locM 0))) (locB 1))) (retM (locM 2))) [.val (.obj 1), .val (.int n), .non] M1 = .ret (.int v) M' ∧ 0 ≤ v ∧ v < n ∧ Dr M' ∧ Fm [0, 1] M1 M' ∧ M'.length = M1.length := by
    intro M1 ls' r' t' q1 q2 hd'
    have dp := dpK3_ev (L := [.val (.obj 1), .val (.int n), .val (.int (r' % n))]) (M := M1) (d := .int (r' / n)) (dr_ok (cs := cs) (r := r') (t := t') "rest" dr_rest 1)
    simp at dp
    refine ⟨r' % n, M1.set 1 (.dict (drD cs (r' / n) t')), ?_, Int.emod_nonneg _ (by omega), Int.emod_lt_of_pos _ h0, ⟨ls', cs, r' / n, t', set_ne q1 (by decide), set_eq q2⟩, Fm.set.sub (by simp), by simp⟩
    simp [dicAt_of q2, h0, hd', dp]
  have hdw : ∀ r' : Int, CDivW r' n := fun _ => ⟨hd.1, hd.2⟩
  unfold F__law_take defM m__law_take ini
  generalize hB : (seqM (setM 2 (binM modD (un1 intD (dgM "rest" (locM 0))) (locB 1))) (seqM (dpM "rest" (locM 0) (binM divD (un1 intD (dgM "rest" (locM 0))) (locB 1))) (retM (locM 2))) : MS) = B at fin ⊢
  by_cases hr : r = 0
  · subst hr
    cases ls with
    | nil =>
      obtain ⟨m, e⟩ := p_mixed (M := M) h2
      have g1 := set_eq (x := MO.dict (drD cs 0 (t + 1))) h2
      have g0 := set_ne (x := MO.dict (drD cs 0 (t + 1))) h1 (j := 1) (by decide)
      have dp := dpK3_ev (L := [.val (.obj 1), .val (.int n), .non]) (M := M.set 1 (.dict (drD cs 0 (t + 1)))) (d := .int m) (dr_ok (cs := cs) (r := 0) (t := t + 1) "rest" dr_rest 1)
      simp at dp
      obtain ⟨v, M', e2, v0, v1, dr, f, l⟩ := fin (M.set 1 (.dict (drD cs m (t + 1)))) [] m (t + 1) (set_ne h1 (by decide)) (set_eq h2) (hdw m)
      refine ⟨v, M', ?_, v0, v1, dr, (Fm.set.sub (by simp)).trans f, by rw [l]; simp⟩
      simp [dicAt_of h2, vw_of h1, emD_lst, e, dicAt_of g1, dp, e2]
    | cons x ls =>
      have g1 := set_ne (x := MO.list (ls.map D.int)) h2 (j := 0) (by decide)
      have g0 := set_eq (x := MO.list (ls.map D.int)) h1
      have dp := dpK3_ev (L := [.val (.obj 1), .val (.int n), .non]) (M := M.set 0 (.list (ls.map D.int))) (d := .int x) (dr_ok (cs := cs) (r := 0) (t := t) "rest" dr_rest 1)
      simp at dp
      obtain ⟨v, M', e2, v0, v1, dr, f, l⟩ := fin ((M.set 0 (.list (ls.map D.int))).set 1 (.dict (drD cs x t))) ls x t (set_ne g0 (by decide)) (set_eq g1) (hdw x)
      have pp := popAO_first (mo := dgM "large" (locM 0)) (m := cst (.int 0)) (L := [.val (.obj 1), .val (.int n), .non]) (L1 := [.val (.obj 1), .val (.int n), .non]) (L2 := [.val (.obj 1), .val (.int n), .non]) (M := M) (M1 := M) (M2 := M) (j := 0) (d := .int x) (ds := ls.map D.int) (by simp [dicAt_of h2]) h1 rfl (by simpa using h1)
      refine ⟨v, M', ?_, v0, v1, dr, ((Fm.set.sub (by simp)).trans (Fm.set.sub (by simp))).trans f, by rw [l]; simp⟩
      have em : emD (.lst (.int x :: ls.map D.int)) = some false := by rw [emD_lst (by simp)]; rfl
      simp at h1
      simp [dicAt_of h2, vw_of h1, em, pp, dicAt_of g1, dp, e2]
  · obtain ⟨v, M', e2, v0, v1, dr, f, l⟩ := fin M ls r t h1 h2 (hdw r)
    have hb : (r == 0) = false := by simpa using hr
    refine ⟨v, M', ?_, v0, v1, dr, f, l⟩
    simp [dicAt_of h2, hb, e2]
end
/-- a step of the draws alone -/
structure Dw (M M' : MM) : Prop where
  dr : Dr M'
  fm : Fm [0, 1] M M'
  len : M'.length = M.length
theorem Dw.trans {M M1 M2 : MM} (a : Dw M M1) (b : Dw M1 M2) : Dw M M2 := ⟨b.dr, a.fm.trans b.fm, by rw [b.len, a.len]⟩
theorem Dw.refl {M : MM} (h : Dr M) : Dw M M := ⟨h, Fm.refl, rfl⟩
theorem take_ {M : MM} {n : Int} (h : Dr M) (h0 : 0 < n) (hn : n ≤ 1000000) : ∃ v M', F__law_take [.obj 1, .int n] M = .ok (.int v) M' ∧ 0 ≤ v ∧ v < n ∧ Dw M M' := by
  obtain ⟨v, M', e, h1, h2, h3, h4, h5⟩ := p_take h h0 hn
  exact ⟨v, M', e, h1, h2, h3, h4, h5⟩
theorem pick_ {M : MM} {ds : List D} (h : Dr M) (h0 : ds ≠ []) (hn : ds.length ≤ 1000000) : ∃ d M', F__law_pick [.obj 1, .lst ds] M = .ok d M' ∧ d ∈ ds ∧ Dw M M' := by
  have hl : 0 < ds.length := List.length_pos_iff.mpr h0
  obtain ⟨v, M', e, h1, h2, h3⟩ := take_ (n := (ds.length : Nat)) h (by omega) (by omega)
  obtain ⟨k, rfl⟩ := Int.eq_ofNat_of_zero_le h1
  have hk : k < ds.length := by omega
  refine ⟨ds[k], M', ?_, List.getElem_mem hk, h3⟩
  unfold F__law_pick defM m__law_pick ini
  have e3 : ds[k]? = some ds[k] := List.getElem?_eq_getElem hk
  simp [e, e3]
end WK

/-! ## plain: lots, tables drawn -/
namespace WK
open KK PySem PySem.Spec PyProof.Rows L2
theorem erase_perm {α : Type} : ∀ {l : List α} {k : Nat} {x : α}, l[k]? = some x → List.Perm (x :: l.eraseIdx k) l
  | [], k, x, h => by simp at h
  | a :: l, 0, x, h => by simp at h; subst h; exact List.Perm.refl _
  | a :: l, k + 1, x, h => by
    rw [List.eraseIdx_cons_succ]
    exact (List.Perm.swap a x _).trans ((erase_perm (by simpa using h)).cons a)
theorem erase_map {α β : Type} {f : α → β} : ∀ {l : List α} {k : Nat}, (l.map f).eraseIdx k = (l.eraseIdx k).map f
  | [], k => by simp
  | a :: l, 0 => by simp
  | a :: l, k + 1 => by rw [List.map_cons, List.eraseIdx_cons_succ, List.eraseIdx_cons_succ, List.map_cons, erase_map]
theorem popM_of {i : Nat} {m : MX} {L : LL} {M M' : MM} {ds ds' : List D} {k : Int} {d : D} (h1 : L[i]? = some (.own ds)) (h2 : m L M = .ok (.int k) L M') (h3 : popAt ds k = some (d, ds')) : popM i m L M = .ok d (L.set i (.own ds')) M' := by
  unfold popM
  simp only [h1, h2, bind_ok, h3]
theorem popAt_nat {ds : List D} {k : Nat} {d : D} (h : ds[k]? = some d) (hz : ds.length ≤ 1000) : popAt ds (k : Int) = some (d, ds.eraseIdx k) := by
  have hk := (List.getElem?_eq_some_iff.mp h).1
  have e1 : ixOk (k : Int) = true := by unfold ixOk; simp; omega
  have e2 : seqIndex? (k : Int) ds.length = some k := by unfold seqIndex?; simp [hk]; omega
  unfold popAt
  rw [if_pos e1, e2]
  simp only [h]
section
variable {M : MM} {α : Type} {δ : α → D}
theorem shuf_loop (hδ : ∀ a : α, dep (δ a) ≤ 59) {x0 x1 : Sl} (hx0 : x0 = .val (.obj 1)) : ∀ (fuel : Nat) (ls fs : List α) (M : MM), Dr M → ls.length < fuel → ls.length + fs.length ≤ 60 → ∃ M' bs, List.Perm bs (ls ++ fs) ∧ Dw M M' ∧
    whL (emM true (locB 2)) (exprM (appM 3 (popM 2 (callM F__law_take (consA (locM 0) (consA (un1 lenD (locB 2)) (nilA))))))) fuel [x0, x1, .own (ls.map δ), .own (fs.map δ)] M = .nx [x0, x1, .own [], .own (bs.map δ)] M'
  | 0, ls, fs, M, hd, hf, _ => by omega
  | fuel + 1, ls, fs, M, hd, hf, hz => by
    subst hx0
    have dpA : depA (ls.map δ) ≤ 59 := depA_le.mpr fun d hd => by obtain ⟨a, _, rfl⟩ := List.mem_map.mp hd; exact hδ a
    cases ls with
    | nil => exact ⟨M, fs, List.Perm.refl _, Dw.refl hd, by unfold whL; simp [emD_lst]⟩
    | cons a ls =>
      obtain ⟨v, M1, e, v0, v1, dw⟩ := take_ (n := (((a :: ls).length : Nat) : Int)) hd (by simp only [List.length_cons]; omega) (by simp at hz ⊢; omega)
      obtain ⟨k, rfl⟩ := Int.eq_ofNat_of_zero_le v0
      have hk : k < (a :: ls).length := by omega
      have q1 : (a :: ls)[k]? = some (a :: ls)[k] := List.getElem?_eq_getElem hk
      have q2 : ((a :: ls).map δ)[k]? = some (δ (a :: ls)[k]) := by rw [List.getElem?_map, q1]; rfl
      have pm := popM_of (i := 2) (m := callM F__law_take (consA (locM 0) (consA (un1 lenD (locB 2)) (nilA)))) (L := [.val (.obj 1), x1, .own ((a :: ls).map δ), .own (fs.map δ)]) (M := M) rfl (by simp at e ⊢; rw [e]; rfl) (popAt_nat q2 (by rw [List.length_map]; omega))
      rw [erase_map] at pm
      have el : ((a :: ls).eraseIdx k).length = ls.length := by rw [List.length_eraseIdx_of_lt hk]; simp
      obtain ⟨M', bs, p, dw2, e2⟩ := shuf_loop hδ rfl fuel ((a :: ls).eraseIdx k) (fs ++ [(a :: ls)[k]]) M1 dw.dr (by rw [el]; simp at hf; omega) (by rw [el]; simp at hz ⊢; omega)
      refine ⟨M', bs, ?_, dw.trans dw2, ?_⟩
      · refine p.trans ?_
        have r := erase_perm q1
        rw [← List.append_assoc]
        refine (List.perm_append_comm (l₂ := [(a :: ls)[k]])).trans ?_
        rw [← List.append_assoc]
        exact List.Perm.append_right fs r
      · have z : (fs.map δ).length < sizeLine := by rw [sizeLine_eq, List.length_map]; omega
        rw [List.length_map] at z
        have em : emD (.lst ((a :: ls).map δ)) = some false := by rw [emD_lst dpA]; rfl
        rw [whL]
        have c1 : emM true (locB 2) [.val (.obj 1), x1, .own ((a :: ls).map δ), .own (fs.map δ)] M = .ok (.bl true) [.val (.obj 1), x1, .own ((a :: ls).map δ), .own (fs.map δ)] M := by
          rw [emM_ev]
          have : locB 2 [.val (.obj 1), x1, .own ((a :: ls).map δ), .own (fs.map δ)] M = .ok (.lst ((a :: ls).map δ)) [.val (.obj 1), x1, .own ((a :: ls).map δ), .own (fs.map δ)] M := rfl
          rw [this, bind_ok, em]; rfl
        have c2 : exprM (appM 3 (popM 2 (callM F__law_take (consA (locM 0) (consA (un1 lenD (locB 2)) (nilA)))))) [.val (.obj 1), x1, .own ((a :: ls).map δ), .own (fs.map δ)] M = .nx [.val (.obj 1), x1, .own (((a :: ls).eraseIdx k).map δ), .own ((fs ++ [(a :: ls)[k]]).map δ)] M1 := by
          rw [exprM_ev, appM_ev]
          show exprK (appmK 3 _ (some (Sl.own (fs.map δ))) _ _) = _
          rw [appmK_ev, pm, bind_ok]
          simp [z]
        rw [c1]
        dsimp only
        rw [c2]
        exact e2
theorem p_shuffled {as : List α} (hδ : ∀ a : α, dep (δ a) ≤ 59) (h : Dr M) (hz : as.length ≤ 60) : ∃ M' bs, F__law_shuffled [.obj 1, .lst (as.map δ)] M = .ok (.lst (bs.map δ)) M' ∧ List.Perm bs as ∧ Dw M M' := by
  obtain ⟨M', bs, p, dw, e⟩ := shuf_loop (x1 := .val (.lst (as.map δ))) hδ rfl 64 as [] M h (by omega) (by simpa using hz)
  refine ⟨M', bs, ?_, by simpa using p, dw⟩
  unfold F__law_shuffled defM m__law_shuffled ini
  simp only [List.map_nil] at e
  simp [e]
end
theorem sort_asc {xs : List Str} (h : xs.Nodup) : Asc (sortStr xs) ∧ ∀ x, x ∈ sortStr xs ↔ x ∈ xs := by
  have p := List.mergeSort_perm xs strLe
  have pw := List.pairwise_mergeSort strLe_trans strLe_total xs
  have nd : (sortStr xs).Nodup := p.nodup_iff.mpr h
  refine ⟨(List.Pairwise.and pw nd).imp fun {a b} q => ?_, fun x => p.mem_iff⟩
  cases hs : sLt a b with
  | true => rfl
  | false =>
    have : strLe b a = true := by unfold strLe; unfold sLt at hs; rw [hs]; rfl
    exact absurd (strLe_anti q.1 this) q.2
theorem p_lot_of {M : MM} {pool : List Str} {m : Nat} (h : Dr M) (nd : pool.Nodup) (hs : ∀ x ∈ pool, PyData.strOk x = true) (hz : pool.length ≤ 60) (hm : m ≤ pool.length) : ∃ M' xs, F__law_lot_of [.obj 1, .lst (pool.map D.str), .int (m : Nat)] M = .ok (.tup (xs.map D.str)) M' ∧ xs.length = m ∧ Asc xs ∧ (∀ x ∈ xs, x ∈ pool) ∧ Dw M M' := by
  have hsub : ∃ as : List {x : Str // PyData.strOk x = true}, as.map (·.1) = pool := ⟨pool.attachWith _ hs, by simp⟩
  obtain ⟨as, ha⟩ := hsub
  have hm' : as.map (fun a => D.str a.1) = pool.map D.str := by rw [← ha, List.map_map]; rfl
  obtain ⟨M', bs, e, p, dw⟩ := p_shuffled (M := M) (as := as) (δ := fun a => D.str a.1) (fun a => by rw [dep_str a.2]; omega) h (by rw [← List.length_map (f := fun a : {x : Str // PyData.strOk x = true} => a.1), ha]; exact hz)
  rw [hm'] at e
  have pb : List.Perm (bs.map (·.1)) pool := by rw [← ha]; exact p.map _
  have e' : (bs.map fun a => D.str a.1) = (bs.map (·.1)).map D.str := by rw [List.map_map]; rfl
  rw [e'] at e
  generalize bs.map (·.1) = zs at e pb
  have ndz := pb.nodup_iff.mpr nd
  have ndt : (zs.take m).Nodup := ndz.sublist (List.take_sublist m zs)
  obtain ⟨s1, s2⟩ := sort_asc ndt
  have lt : (zs.take m).length = m := by rw [List.length_take, pb.length_eq]; omega
  have sd : sortD (.lst ((zs.take m).map D.str)) = some ((sortStr (zs.take m)).map D.str) := by
    unfold sortD
    simp only [allStr_map]
    rw [if_pos (by omega)]
  refine ⟨M', sortStr (zs.take m), ?_, by unfold sortStr; rw [List.length_mergeSort, lt], s1, fun x hx => pb.mem_iff.mp (List.mem_of_mem_take ((s2 x).mp hx)), dw⟩
  unfold F__law_lot_of defM m__law_lot_of ini
  rw [List.map_take] at sd
  simp [e, sd]
end WK

/-! ## plain: tables drawn -/
namespace WK
open KK PySem PySem.Spec PyProof.Rows L2
def poolL : List Str := ["north", "south", "east", "west", "isle", "cape"]
def poolG : List Str := ["cloth", "wine", "iron", "salt", "grain", "paper"]
theorem poolL_nm : ∀ x ∈ poolL, isNm x = true := by decide +kernel
theorem poolG_nm : ∀ x ∈ poolG, isNm x = true := by decide +kernel
theorem pool_dis : ∀ x ∈ poolL, x ∉ poolG := by decide +kernel
theorem poolL_nd : poolL.Nodup := by decide +kernel
theorem poolG_nd : poolG.Nodup := by decide +kernel
theorem poolL_map : poolL.map D.str = [.str "north", .str "south", .str "east", .str "west", .str "isle", .str "cape"] := rfl
theorem poolG_map : poolG.map D.str = [.str "cloth", .str "wine", .str "iron", .str "salt", .str "grain", .str "paper"] := rfl
theorem chosen {α : Type} {f : α → D} {p : α → Prop} : ∀ {ys : List D}, (∀ y ∈ ys, ∃ a, y = f a ∧ p a) → ∃ as : List α, ys = as.map f ∧ ∀ a ∈ as, p a
  | [], _ => ⟨[], rfl, by simp⟩
  | y :: ys, h => by
    obtain ⟨a, e, q⟩ := h y (List.mem_cons_self ..)
    obtain ⟨as, e2, q2⟩ := chosen fun z hz => h z (List.mem_cons_of_mem _ hz)
    exact ⟨a :: as, by rw [e, e2]; rfl, fun b hb => (List.mem_cons.mp hb).elim (fun w => by rw [w]; exact q) (q2 b)⟩
section
variable {M : MM}
theorem p_lands {m : Nat} (h : Dr M) (hm : m ≤ 6) : ∃ M' xs, F__law_lands [.obj 1, .int (m : Nat)] M = .ok (.tup (xs.map D.str)) M' ∧ xs.length = m ∧ Asc xs ∧ (∀ x ∈ xs, x ∈ poolL) ∧ Dw M M' := by
  obtain ⟨M', xs, e, q⟩ := p_lot_of h poolL_nd (nm1 poolL_nm) (by decide) (m := m) (by simpa [poolL] using hm)
  refine ⟨M', xs, ?_, q⟩
  rw [poolL_map] at e
  unfold F__law_lands defM m__law_lands ini
  simp [e]
theorem p_goods {m : Nat} (h : Dr M) (hm : m ≤ 6) : ∃ M' xs, F__law_goods [.obj 1, .int (m : Nat)] M = .ok (.tup (xs.map D.str)) M' ∧ xs.length = m ∧ Asc xs ∧ (∀ x ∈ xs, x ∈ poolG) ∧ Dw M M' := by
  obtain ⟨M', xs, e, q⟩ := p_lot_of h poolG_nd (nm1 poolG_nm) (by decide) (m := m) (by simpa [poolG] using hm)
  refine ⟨M', xs, ?_, q⟩
  rw [poolG_map] at e
  unfold F__law_goods defM m__law_goods ini
  simp [e]
/-- 1 + a draw -/
theorem one_take {n : Int} (h : Dr M) (h0 : 0 < n) (hn : n ≤ 1000000) : ∃ v M', F__law_take [.obj 1, .int n] M = .ok (.int v) M' ∧ 1 ≤ 1 + v ∧ 1 + v ≤ n ∧ Dw M M' := by
  obtain ⟨v, M', e, h1, h2, h3⟩ := take_ h h0 hn
  exact ⟨v, M', e, by omega, by omega, h3⟩
theorem p_law_table {la go : List Str} {hi : Int} (h : Dr M) (hl : la.length ≤ 5) (hg : go.length ≤ 5) (h0 : 0 < hi) (h1 : hi ≤ 1000000) : ∃ (M' : MM) (ro : List (List Int)) (ho : List Int), F__law_table [.obj 1, .tup (la.map D.str), .tup (go.map D.str), .int hi] M = .ok (tD ⟨la, go, ro, ho⟩) M' ∧ ro.length = la.length ∧ (∀ r ∈ ro, r.length = go.length) ∧ (∀ r ∈ ro, ∀ n ∈ r, 1 ≤ n ∧ n ≤ 1000000) ∧ ho.length = la.length ∧ (∀ n ∈ ho, 1 ≤ n ∧ n ≤ 1000000) ∧ Dw M M' := by
  -- a row
  have row : ∀ (s6 : Sl) (M1 : MM), isOwn (some s6) = false → Dw M M1 → ∃ (r : List Int) (M2 : MM), compM (itemsM (locM 2)) [7] (gN 7) (yesM) (binM addD (cst (.int 1)) (callM F__law_take (consA (locM 0) (consA (locM 3) (nilA))))) [.val (.obj 1), .val (.tup (la.map D.str)), .val (.tup (go.map D.str)), .val (.int hi), .non, .non, s6, .non] M1 =
      .ok (r.map D.int) [.val (.obj 1), .val (.tup (la.map D.str)), .val (.tup (go.map D.str)), .val (.int hi), .non, .non, s6, .non] M2 ∧ r.length = go.length ∧ (∀ n ∈ r, 1 ≤ n ∧ n ≤ 1000000) ∧ Dw M M2 := by
    intro s6 M1 _ dw
    obtain ⟨ys, M2, e, p, l, q⟩ := comp_ex (P := fun M' => Dw M M') (Qv := fun y => ∃ n : Int, y = .int n ∧ (1 ≤ n ∧ n ≤ 1000000)) (mi := itemsM (locM 2)) (vs := [7]) (g := gN 7) (me := binM addD (cst (.int 1)) (callM F__law_take (consA (locM 0) (consA (locM 3) (nilA)))))
      (L := [.val (.obj 1), .val (.tup (la.map D.str)), .val (.tup (go.map D.str)), .val (.int hi), .non, .non, s6, .non]) (L1 := [.val (.obj 1), .val (.tup (la.map D.str)), .val (.tup (go.map D.str)), .val (.int hi), .non, .non, s6, .non]) (M := M1) (M1 := M1) (ds := go.map D.str) (by simp) rfl (size_le (by rw [List.length_map]; omega)) dw fun d hd Ma da => by
        obtain ⟨v, Mb, e, v1, v2, db⟩ := one_take da.dr h0 h1
        exact ⟨[.val (.obj 1), .val (.tup (la.map D.str)), .val (.tup (go.map D.str)), .val (.int hi), .non, .non, s6, .val d], [.val (.obj 1), .val (.tup (la.map D.str)), .val (.tup (go.map D.str)), .val (.int hi), .non, .non, s6, .val d], Mb, .int (1 + v), rfl, by simp [e], da.trans db, ⟨_, rfl, v1, by omega⟩, rfl, rfl⟩
    obtain ⟨r, e2, q2⟩ := chosen q
    subst e2
    exact ⟨r, M2, e, by rw [List.length_map, List.length_map] at l; exact l, q2, p⟩
  -- the rows
  obtain ⟨ys, M1, e1, dw1, l1, q1⟩ := comp_ex (P := fun M' => Dw M M') (Qv := fun y => ∃ r : List Int, y = rowD r ∧ (r.length = go.length ∧ ∀ n ∈ r, 1 ≤ n ∧ n ≤ 1000000)) (mi := itemsM (locM 1)) (vs := [6]) (g := gN 6)
      (me := un1 tupD (lstX (compM (itemsM (locM 2)) [7] (gN 7) (yesM) (binM addD (cst (.int 1)) (callM F__law_take (consA (locM 0) (consA (locM 3) (nilA))))))))
      (L := [.val (.obj 1), .val (.tup (la.map D.str)), .val (.tup (go.map D.str)), .val (.int hi), .non, .non, .non, .non]) (L1 := [.val (.obj 1), .val (.tup (la.map D.str)), .val (.tup (go.map D.str)), .val (.int hi), .non, .non, .non, .non]) (M := M) (M1 := M) (ds := la.map D.str) (by simp) rfl (size_le (by rw [List.length_map]; omega)) (Dw.refl h) fun d hd Ma da => by
        obtain ⟨r, Mb, e, rl, rn, db⟩ := row (.val d) Ma rfl da
        exact ⟨[.val (.obj 1), .val (.tup (la.map D.str)), .val (.tup (go.map D.str)), .val (.int hi), .non, .non, .val d, .non], [.val (.obj 1), .val (.tup (la.map D.str)), .val (.tup (go.map D.str)), .val (.int hi), .non, .non, .val d, .non], Mb, rowD r, rfl, by simp [e], db, ⟨r, rfl, rl, rn⟩, rfl, rfl⟩
  obtain ⟨ro, e2, q2⟩ := chosen q1
  subst e2
  -- the greatest hours
  obtain ⟨v, M2, e3, v0, v1, dw2⟩ := take_ (n := 2) dw1.dr (by decide) (by decide)
  have top : ∃ top : Int, 0 < top ∧ top ≤ 1000000 ∧ ixD (.lst [.int 12, .int 1000000]) (.int v) = some (.int top) := by
    have : v = 0 ∨ v = 1 := by omega
    rcases this with rfl | rfl
    · exact ⟨12, by decide, by decide, rfl⟩
    · exact ⟨1000000, by decide, by decide, rfl⟩
  obtain ⟨top, t0, t1, te⟩ := top
  obtain ⟨zs, M3, e4, dw3, l3, q3⟩ := comp_ex (P := fun M' => Dw M2 M') (Qv := fun y => ∃ n : Int, y = .int n ∧ (1 ≤ n ∧ n ≤ 1000000)) (mi := itemsM (locM 1)) (vs := [6]) (g := gN 6) (me := binM addD (cst (.int 1)) (callM F__law_take (consA (locM 0) (consA (locM 5) (nilA)))))
      (L := [.val (.obj 1), .val (.tup (la.map D.str)), .val (.tup (go.map D.str)), .val (.int hi), .val (.tup (ro.map rowD)), .val (.int top), .non, .non]) (L1 := [.val (.obj 1), .val (.tup (la.map D.str)), .val (.tup (go.map D.str)), .val (.int hi), .val (.tup (ro.map rowD)), .val (.int top), .non, .non]) (M := M2) (M1 := M2) (ds := la.map D.str) (by simp) rfl (size_le (by rw [List.length_map]; omega)) (Dw.refl dw2.dr) fun d hd Ma da => by
        obtain ⟨v, Mb, e, v1, v2, db⟩ := one_take da.dr t0 t1
        exact ⟨[.val (.obj 1), .val (.tup (la.map D.str)), .val (.tup (go.map D.str)), .val (.int hi), .val (.tup (ro.map rowD)), .val (.int top), .val d, .non], [.val (.obj 1), .val (.tup (la.map D.str)), .val (.tup (go.map D.str)), .val (.int hi), .val (.tup (ro.map rowD)), .val (.int top), .val d, .non], Mb, .int (1 + v), rfl, by simp [e], da.trans db, ⟨_, rfl, v1, by omega⟩, rfl, rfl⟩
  obtain ⟨ho, e5, q4⟩ := chosen q3
  subst e5
  have cp : CPow 10 6 := by unfold CPow; decide
  refine ⟨M3, ro, ho, ?_, by rw [List.length_map, List.length_map] at l1; exact l1, fun r hr => (q2 r hr).1, fun r hr => (q2 r hr).2, by rw [List.length_map, List.length_map] at l3; exact l3, q4, (dw1.trans dw2).trans dw3⟩
  unfold F__law_table defM m__law_table ini
  simp [e1, e3, te, e4, cp, tD]
theorem p_some_table (h : Dr M) : ∃ t M', F__law_some_table [.obj 1, .int 4] M = .ok (tD t) M' ∧ TOk t ∧ (∀ x ∈ t.la, x ∈ poolL) ∧ (∀ x ∈ t.go, x ∈ poolG) ∧ Dw M M' := by
  obtain ⟨a, M1, e1, a1, a2, d1⟩ := take_ (n := 4) h (by decide) (by decide)
  obtain ⟨k, rfl⟩ := Int.eq_ofNat_of_zero_le a1
  obtain ⟨M2, la, e2, l2, s2, i2, d2⟩ := p_lands (m := k + 1) d1.dr (by omega)
  obtain ⟨b, M3, e3, b1, b2, d3⟩ := take_ (n := 4) d2.dr (by decide) (by decide)
  obtain ⟨j, rfl⟩ := Int.eq_ofNat_of_zero_le b1
  obtain ⟨M4, go, e4, l4, s4, i4, d4⟩ := p_goods (m := j + 1) d3.dr (by omega)
  obtain ⟨v, M5, e5, v0, v1, d5⟩ := take_ (n := 4) d4.dr (by decide) (by decide)
  have hi : ∃ hi : Int, 0 < hi ∧ hi ≤ 1000000 ∧ ixD (.lst [.int 3, .int 6, .int 40, .int 1000000]) (.int v) = some (.int hi) := by
    have : v = 0 ∨ v = 1 ∨ v = 2 ∨ v = 3 := by omega
    rcases this with rfl | rfl | rfl | rfl
    · exact ⟨3, by decide, by decide, rfl⟩
    · exact ⟨6, by decide, by decide, rfl⟩
    · exact ⟨40, by decide, by decide, rfl⟩
    · exact ⟨1000000, by decide, by decide, rfl⟩
  obtain ⟨hi, h0, h1, he⟩ := hi
  obtain ⟨M6, ro, ho, e6, r1, r2, r3, r4, r5, d6⟩ := p_law_table (la := la) (go := go) d5.dr (by omega) (by omega) h0 h1
  have cp : CPow 10 6 := by unfold CPow; decide
  have c1 : ((1 : Int) + (k : Int)) = ((k + 1 : Nat) : Int) := by omega
  have c2 : ((1 : Int) + (j : Int)) = ((j + 1 : Nat) : Int) := by omega
  refine ⟨⟨la, go, ro, ho⟩, M6, ?_, ⟨by show 1 ≤ la.length; omega, by show la.length ≤ 5; omega, by show 1 ≤ go.length; omega, by show go.length ≤ 5; omega, fun x hx => poolL_nm x (i2 x hx), fun x hx => poolG_nm x (i4 x hx), s2, s4, fun x hx hy => pool_dis x (i2 x hx) (i4 x hy), r1, r2, r3, r4, r5⟩, i2, i4, ((((d1.trans d2).trans d3).trans d4).trans d5).trans d6⟩
  unfold F__law_some_table defM m__law_some_table ini
  simp [e1, c1, e2, e3, c2, e4, e5, he, e6, cp, -Int.natCast_add]
end
end WK

/-! ## plain: what the law expects of a work -/
namespace WK
open KK PySem PySem.Spec PyProof.Rows L2
def kindS (c : Nat) : Str := if c = 26 then "noland" else if c = 25 then "nogood" else if c = 10 then "name" else if c = 30 then "twice" else if c = 21 then "row" else if c = 3 then "column" else if c = 11 then "number" else if c = 29 then "few" else if c = 33 then "many" else if c = 28 then "notnow" else "other"
def wordD : Except Er Tb → D
  | .ok _ => .non
  | .error e => .str (kindS e.c)
def laterT (t : Tb) : Except Er Tb → Tb
  | .ok t' => t'
  | .error _ => t
section
variable {M : MM} {t : Tb} (ok : TOk t)
include ok
theorem p_law_done {w : Wk} (h : WOk w) : F__law_done [tD t, wD w] M = .ok (.tup [wordD (chg t w), tD (laterT t (chg t w))]) M := by
  have e2 := depA_strs (nm1 ok.ng)
  have e3 := depA_strs (nm1 ok.nl)
  have q1 : (List.map D.str t.la).length ≤ 900 := by rw [List.length_map]; have := ok.l5; omega
  have q2 : (List.map rowD t.ro).length ≤ 900 := by rw [List.length_map, ok.rl]; have := ok.l5; omega
  have q3 : (List.map D.int t.ho).length ≤ 900 := by rw [List.length_map, ok.hl]; have := ok.l5; omega
  have q4 : (List.map D.str t.go).length ≤ 900 := by rw [List.length_map]; have := ok.g5; omega
  have ll : ∀ k : Nat, ((t.la.length : Int) == (k : Int)) = decide (t.la.length = k) := fun k => by
    by_cases q : t.la.length = k
    · simp [q]
    · have : ¬ ((t.la.length : Int) = k) := by omega
      simp [q, this]
  have lg : ∀ k : Nat, ((t.go.length : Int) == (k : Int)) = decide (t.go.length = k) := fun k => by
    by_cases q : t.go.length = k
    · simp [q]
    · have : ¬ ((t.go.length : Int) = k) := by omega
      simp [q, this]
  have l5 : ((t.la.length : Int) == 5) = decide (t.la.length = 5) := ll 5
  have l1 : ((t.la.length : Int) == 1) = decide (t.la.length = 1) := ll 1
  have g5 : ((t.go.length : Int) == 5) = decide (t.go.length = 5) := lg 5
  have g1 : ((t.go.length : Int) == 1) = decide (t.go.length = 1) := lg 1
  unfold F__law_done defM m__law_done ini
  cases w with
  | hours l n =>
    obtain ⟨h1, h3⟩ := h
    have d1 := dep_str (isNm_ok h1).1
    unfold wD chg
    by_cases a : l ∈ t.la
    · obtain ⟨k, k1, k2, k3⟩ := idx_some a
      have a1 : (t.ho.take k).length + 1 ≤ sizeLine := sz_cut (by rw [List.length_take]; rw [List.length_map] at q3; omega) (by omega)
      have a2 : (t.ho.take k).length + 1 + (t.ho.drop (k + 1)).length ≤ sizeLine := sz_cut (by rw [List.length_take]; rw [List.length_map] at q3; omega) (by rw [List.length_drop]; rw [List.length_map] at q3; omega)
      rw [List.length_take] at a1 a2
      rw [List.length_drop] at a2
      have e3' : ((k : Int) + 1) = ((k + 1 : Nat) : Int) := by omega
      have e : tD (tHours t k n) = .tup [.str "table", .tup (t.la.map D.str), .tup (t.go.map D.str), .tup (t.ro.map rowD), .tup ((t.ho.map D.int).take k ++ [.int n] ++ (t.ho.map D.int).drop (k + 1))] := by
        simp [tD, tHours, map_cut3]; simp [cut3]
      simp [a, d1, e3, k1, e3', a1, a2, -Int.natCast_add, wordD, laterT, e]
    · simp [a, d1, e3, wordD, laterT, kindS]
  | cost l g n =>
    obtain ⟨h1, h2, h3⟩ := h
    have d1 := dep_str (isNm_ok h1).1
    have d2 := dep_str (isNm_ok h2).1
    unfold wD chg
    by_cases a : l ∈ t.la
    · by_cases b : g ∈ t.go
      · obtain ⟨k, k1, k2, k3⟩ := idx_some a
        obtain ⟨j, j1, j2, j3⟩ := idx_some b
        obtain ⟨r1, r2⟩ := row_at ok k2
        have r3 := r2
        rw [List.getElem?_map] at r1
        have b1 : ((rowAt t k).take j).length + 1 ≤ sizeLine := sz_cut (by rw [List.length_take]; have := ok.g5; omega) (by omega)
        have b2 : ((rowAt t k).take j).length + 1 + ((rowAt t k).drop (j + 1)).length ≤ sizeLine := sz_cut (by rw [List.length_take]; have := ok.g5; omega) (by rw [List.length_drop]; have := ok.g5; omega)
        rw [List.length_take] at b1 b2
        rw [List.length_drop] at b2
        have a1 : (t.ro.take k).length + 1 ≤ sizeLine := sz_cut (by rw [List.length_take]; rw [List.length_map] at q2; omega) (by omega)
        have a2 : (t.ro.take k).length + 1 + (t.ro.drop (k + 1)).length ≤ sizeLine := sz_cut (by rw [List.length_take]; rw [List.length_map] at q2; omega) (by rw [List.length_drop]; rw [List.length_map] at q2; omega)
        rw [List.length_take] at a1 a2
        rw [List.length_drop] at a2
        have e3' : ((k : Int) + 1) = ((k + 1 : Nat) : Int) := by omega
        have e4' : ((j : Int) + 1) = ((j + 1 : Nat) : Int) := by omega
        have e : tD (tCost t k j n) = .tup [.str "table", .tup (t.la.map D.str), .tup (t.go.map D.str), .tup ((t.ro.map rowD).take k ++ [.tup (((rowAt t k).map D.int).take j ++ [.int n] ++ ((rowAt t k).map D.int).drop (j + 1))] ++ (t.ro.map rowD).drop (k + 1)), .tup (t.ho.map D.int)] := by
          simp [tD, tCost, map_cut3]
          show cut3 _ k (D.tup ((cut3 (rowAt t k) j n).map D.int)) = _
          rw [map_cut3]; simp [cut3]
        simp [a, b, d1, d2, e2, e3, k1, j1, r1, e3', e4', a1, a2, b1, b2, -Int.natCast_add, wordD, laterT, e]
      · simp [a, b, d1, d2, e2, e3, wordD, laterT, kindS]
    · simp [a, d1, e3, wordD, laterT, kindS]
  | land x r n =>
    obtain ⟨h1, h2, h3⟩ := h
    have d1 := dep_str (isNm_ok h1).1
    have lr : ((r.length : Int) == (t.go.length : Int)) = decide (r.length = t.go.length) := by
      by_cases q : r.length = t.go.length
      · simp [q]
      · have : ¬ ((r.length : Int) = (t.go.length : Int)) := by omega
        simp [q, this]
    unfold wD chg
    by_cases a : x ∈ t.go
    · simp [a, d1, e2, e3, wordD, laterT, kindS]
    · by_cases b : x ∈ t.la
      · simp [a, b, d1, e2, e3, wordD, laterT, kindS]
      · by_cases c : r.length = t.go.length
        · by_cases d : t.la.length = 5
          · simp [a, b, c, d, d1, e2, e3, wordD, laterT, kindS]
          · have key : ∀ L1 : LL, L1 = [.val (tD t), .val (.tup [.str "land", .str x, rowD r, .int n]), .non, .non, .non, .val (.str "land"), .val (.tup (t.la.map D.str)), .val (.tup (t.go.map D.str)), .val (.tup (t.ro.map rowD)), .val (.tup (t.ho.map D.int)), .non] →
                compM (itemsM (locM 6)) [10] (gN 10) (binM ltD (locM 10) (ixPM (locB 1) (cstP (1)))) (locM 10) L1 M = .ok ((t.la.filter fun o => sLt o x).map D.str) L1 M := by
              rintro L1 rfl
              exact comp_pure t.la D.str D.str _ (fun o => [.val (tD t), .val (.tup [.str "land", .str x, rowD r, .int n]), .non, .non, .non, .val (.str "land"), .val (.tup (t.la.map D.str)), .val (.tup (t.go.map D.str)), .val (.tup (t.ro.map rowD)), .val (.tup (t.ho.map D.int)), .val (.str o)]) (by simp) rfl (size_le (by have := ok.l5; omega)) fun o ho => ⟨rfl, by simp, fun _ => by simp, rfl, rfl⟩
            have f : (t.la.filter fun o => sLt o x).length = insL t.la x := rfl
            have e : tD (tLand t x r n) = .tup [.str "table", .tup (put3 (t.la.map D.str) (insL t.la x) (.str x)), .tup (t.go.map D.str), .tup (put3 (t.ro.map rowD) (insL t.la x) (rowD r)), .tup (put3 (t.ho.map D.int) (insL t.la x) (.int n))] := by
              simp [tD, tLand, map_put3]
            simp [a, b, c, d, l5, d1, e2, e3, key, f, p_law_put q1, p_law_put q2, p_law_put q3, wordD, laterT, e]
        · simp [a, b, c, lr, d1, e2, e3, wordD, laterT, kindS]
  | good x c' =>
    obtain ⟨h1, h2⟩ := h
    have d1 := dep_str (isNm_ok h1).1
    have lr : ((c'.length : Int) == (t.la.length : Int)) = decide (c'.length = t.la.length) := by
      by_cases q : c'.length = t.la.length
      · simp [q]
      · have : ¬ ((c'.length : Int) = (t.la.length : Int)) := by omega
        simp [q, this]
    unfold wD chg
    by_cases a : x ∈ t.la
    · simp [a, d1, e2, e3, wordD, laterT, kindS]
    · by_cases b : x ∈ t.go
      · simp [a, b, d1, e2, e3, wordD, laterT, kindS]
      · by_cases c : c'.length = t.la.length
        · by_cases d : t.go.length = 5
          · simp [a, b, c, d, d1, e2, e3, wordD, laterT, kindS]
          · have key : ∀ L1 : LL, L1 = [.val (tD t), .val (.tup [.str "good", .str x, rowD c']), .non, .non, .non, .val (.str "good"), .val (.tup (t.la.map D.str)), .val (.tup (t.go.map D.str)), .val (.tup (t.ro.map rowD)), .val (.tup (t.ho.map D.int)), .non] →
                compM (itemsM (locM 7)) [10] (gN 10) (binM ltD (locM 10) (ixPM (locB 1) (cstP (1)))) (locM 10) L1 M = .ok ((t.go.filter fun o => sLt o x).map D.str) L1 M := by
              rintro L1 rfl
              exact comp_pure t.go D.str D.str _ (fun o => [.val (tD t), .val (.tup [.str "good", .str x, rowD c']), .non, .non, .non, .val (.str "good"), .val (.tup (t.la.map D.str)), .val (.tup (t.go.map D.str)), .val (.tup (t.ro.map rowD)), .val (.tup (t.ho.map D.int)), .val (.str o)]) (by simp) rfl (size_le (by have := ok.g5; omega)) fun o ho => ⟨rfl, by simp, fun _ => by simp, rfl, rfl⟩
            have key2 : ∀ L1 : LL, L1 = [.val (tD t), .val (.tup [.str "good", .str x, rowD c']), .val (.int (insL t.go x : Nat)), .non, .non, .val (.str "good"), .val (.tup (t.la.map D.str)), .val (.tup (t.go.map D.str)), .val (.tup (t.ro.map rowD)), .val (.tup (t.ho.map D.int)), .non] →
                compM (zip2M (consA (locM 8) (consA (ixPM (locB 1) (cstP (2))) (nilA)))) [4, 10] (gT 2 (gsC (gN 4) (gsC (gN 10) (gsN)))) (yesM) (callM F__law_put (consA (locM 4) (consA (locM 2) (consA (locM 10) (nilA))))) L1 M =
                .ok ((t.ro.zip c').map fun p => .tup (put3 (p.1.map D.int) (insL t.go x) (.int p.2))) L1 M := by
              rintro L1 rfl
              refine comp_all (t.ro.zip c') (fun p => .pr [rowD p.1, .int p.2]) _ (fun p => [.val (tD t), .val (.tup [.str "good", .str x, rowD c']), .val (.int (insL t.go x : Nat)), .non, .val (rowD p.1), .val (.str "good"), .val (.tup (t.la.map D.str)), .val (.tup (t.go.map D.str)), .val (.tup (t.ro.map rowD)), .val (.tup (t.ho.map D.int)), .val (.int p.2)]) ?_ rfl (size_le (by rw [List.length_zip]; have := ok.rl; have := ok.l5; omega)) fun p hp => ⟨rfl, ?_, rfl, rfl⟩
              · have : zip2 (t.ro.map rowD) (c'.map D.int) = (t.ro.zip c').map fun p => .pr [rowD p.1, .int p.2] := zip2_map
                simp at this ⊢
                exact this
              · have q : (p.1.map D.int).length ≤ 900 := by
                  rw [List.length_map, ok.rg _ (List.of_mem_zip hp).1]; have := ok.g5; omega
                simp [p_law_put q]
            have f : (t.go.filter fun o => sLt o x).length = insL t.go x := rfl
            have e : tD (tGood t x c') = .tup [.str "table", .tup (t.la.map D.str), .tup (put3 (t.go.map D.str) (insL t.go x) (.str x)), .tup ((t.ro.zip c').map fun p => .tup (put3 (p.1.map D.int) (insL t.go x) (.int p.2))), .tup (t.ho.map D.int)] := by
              simp [tD, tGood, map_put3, Function.comp_def]
            simp [a, b, c, d, g5, d1, e2, e3, key, key2, f, p_law_put q4, wordD, laterT, e]
        · simp [a, b, c, lr, d1, e2, e3, wordD, laterT, kindS]
  | leave l =>
    have d1 := dep_str (isNm_ok h).1
    unfold wD chg
    by_cases a : l ∈ t.la
    · obtain ⟨k, k1, k2, k3⟩ := idx_some a
      by_cases b : t.la.length = 1
      · simp [a, b, d1, e3, k1, wordD, laterT, kindS]
      · have e : tD (tLeave t k) = .tup [.str "table", .tup (del3 (t.la.map D.str) k), .tup (t.go.map D.str), .tup (del3 (t.ro.map rowD) k), .tup (del3 (t.ho.map D.int) k)] := by
          simp [tD, tLeave, map_del3]
        simp [a, b, d1, e3, k1, l1, p_law_left q1, p_law_left q2, p_law_left q3, wordD, laterT, e]
    · simp [a, d1, e3, wordD, laterT, kindS]
  | drop g =>
    have d1 := dep_str (isNm_ok h).1
    unfold wD chg
    by_cases a : g ∈ t.go
    · obtain ⟨k, k1, k2, k3⟩ := idx_some a
      by_cases b : t.go.length = 1
      · simp [a, b, d1, e2, k1, wordD, laterT, kindS]
      · have key : ∀ L1 : LL, L1 = [.val (tD t), .val (.tup [.str "drop", .str g]), .val (.int (k : Nat)), .non, .non, .val (.str "drop"), .val (.tup (t.la.map D.str)), .val (.tup (t.go.map D.str)), .val (.tup (t.ro.map rowD)), .val (.tup (t.ho.map D.int)), .non] →
            compM (itemsM (locM 8)) [4] (gN 4) (yesM) (callM F__law_left (consA (locM 4) (consA (locM 2) (nilA)))) L1 M = .ok (t.ro.map fun r => .tup (del3 (r.map D.int) k)) L1 M := by
          rintro L1 rfl
          refine comp_all t.ro rowD _ (fun r => [.val (tD t), .val (.tup [.str "drop", .str g]), .val (.int (k : Nat)), .non, .val (rowD r), .val (.str "drop"), .val (.tup (t.la.map D.str)), .val (.tup (t.go.map D.str)), .val (.tup (t.ro.map rowD)), .val (.tup (t.ho.map D.int)), .non]) (by simp) rfl (size_le (by have := ok.rl; have := ok.l5; omega)) fun r hr => ⟨rfl, ?_, rfl, rfl⟩
          have q : (r.map D.int).length ≤ 900 := by
            rw [List.length_map, ok.rg _ hr]; have := ok.g5; omega
          simp [p_law_left q]
        have e : tD (tDrop t k) = .tup [.str "table", .tup (t.la.map D.str), .tup (del3 (t.go.map D.str) k), .tup (t.ro.map fun r => .tup (del3 (r.map D.int) k)), .tup (t.ho.map D.int)] := by
          simp [tD, tDrop, map_del3, Function.comp_def]
        simp [a, b, d1, e2, k1, g1, p_law_left q4, key, wordD, laterT, e]
    · simp [a, d1, e2, wordD, laterT, kindS]
end
end WK

/-! ## plain: a right table stays right; sizes of what is shown -/
namespace WK
open KK PySem PySem.Spec PyProof.Rows L2
theorem sLt_trans {a b c : Str} (h : sLt a b = true) (k : sLt b c = true) : sLt a c = true := by
  unfold sLt at *
  rw [decide_eq_true_eq] at *
  exact List.lt_trans h k
theorem sLt_tri {a b : Str} (h : sLt a b = false) (n : a ≠ b) : sLt b a = true := by
  cases hs : sLt b a with
  | true => rfl
  | false =>
    have h1 : strLe b a = true := by unfold strLe; unfold sLt at h; rw [h]; rfl
    have h2 : strLe a b = true := by unfold strLe; unfold sLt at hs; rw [hs]; rfl
    exact absurd (strLe_anti h2 h1) n
theorem ins_asc {x : Str} : ∀ {xs : List Str}, Asc xs → x ∉ xs → Asc (put3 xs (insL xs x) x)
  | [], _, _ => by simp [put3, insL, Asc]
  | a :: xs, h, n => by
    have h' := List.pairwise_cons.mp h  -- 159
    by_cases c : sLt a x = true
    · have e : insL (a :: xs) x = insL xs x + 1 := by unfold insL; rw [List.filter_cons, if_pos c]; rfl
      have ih := ins_asc h'.2 fun z => n (List.mem_cons_of_mem _ z)
      rw [e]
      have e2 : put3 (a :: xs) (insL xs x + 1) x = a :: put3 xs (insL xs x) x := by simp [put3]
      rw [e2]
      refine List.pairwise_cons.mpr ⟨fun y hy => ?_, ih⟩
      unfold put3 at hy
      simp only [List.append_assoc, List.mem_append, List.mem_singleton] at hy
      rcases hy with q | q | q
      · exact h'.1 y (List.mem_of_mem_take q)
      · rw [q]; exact c
      · exact h'.1 y (List.mem_of_mem_drop q)
    · have c' : sLt a x = false := by simpa using c
      have ax : sLt x a = true := sLt_tri c' fun z => n (by rw [z]; exact List.mem_cons_self ..)
      have all : ∀ y ∈ a :: xs, sLt x y = true := fun y hy => by
        rcases List.mem_cons.mp hy with q | q
        · rw [q]; exact ax
        · exact sLt_trans ax (h'.1 y q)
      have e : insL (a :: xs) x = 0 := by
        unfold insL
        rw [List.filter_eq_nil_iff.mpr fun y hy z => ?_]; rfl
        have := sLt_trans (all y hy) z
        rw [sLt_irr] at this; cases this
      rw [e]
      have e2 : put3 (a :: xs) 0 x = x :: a :: xs := by simp [put3]
      rw [e2]
      exact List.pairwise_cons.mpr ⟨all, h⟩
section
variable {α : Type} {l : List α} {k : Nat} {a b : α}
theorem mem_put3 (h : b ∈ put3 l k a) : b = a ∨ b ∈ l := by
  unfold put3 at h
  simp only [List.append_assoc, List.mem_append, List.mem_singleton] at h
  rcases h with q | q | q
  · exact .inr (List.mem_of_mem_take q)
  · exact .inl q
  · exact .inr (List.mem_of_mem_drop q)
theorem mem_cut3 (h : b ∈ cut3 l k a) : b = a ∨ b ∈ l := by
  unfold cut3 at h
  simp only [List.append_assoc, List.mem_append, List.mem_singleton] at h
  rcases h with q | q | q
  · exact .inr (List.mem_of_mem_take q)
  · exact .inl q
  · exact .inr (List.mem_of_mem_drop q)
theorem mem_del3 (h : b ∈ del3 l k) : b ∈ l := by
  unfold del3 at h
  rcases List.mem_append.mp h with q | q  -- 160
  · exact List.mem_of_mem_take q
  · exact List.mem_of_mem_drop q
theorem len_put3 : (put3 l k a).length = l.length + 1 := by unfold put3; simp [List.length_take, List.length_drop]; omega
theorem len_cut3 (h : k < l.length) : (cut3 l k a).length = l.length := by unfold cut3; simp [List.length_take, List.length_drop]; omega
theorem len_del3 (h : k < l.length) : (del3 l k).length = l.length - 1 := by unfold del3; simp [List.length_take, List.length_drop]; omega
theorem del_sub : List.Sublist (del3 l k) l := by
  unfold del3
  have h1 : List.Sublist (l.drop (k + 1)) (l.drop k) := by
    rw [show k + 1 = 1 + k from by omega, ← List.drop_drop]
    rw [List.drop_drop]
    have : l.drop (1 + k) = (l.drop k).drop 1 := by rw [List.drop_drop, Nat.add_comm]
    rw [this]; exact List.drop_sublist 1 _
  have := (List.Sublist.refl (l.take k)).append h1
  rwa [List.take_append_drop] at this
end
/-- a right table stays right -/
theorem chg_ok {t t' : Tb} {w : Wk} (ok : TOk t) (hw : WOk w) (h : chg t w = .ok t') : TOk t' := by
  cases w with
  | cost l g n =>
    obtain ⟨h1, h2, h3⟩ := hw
    dsimp only [chg] at h
    split at h
    · rename_i a
      split at h
      · rename_i b
        obtain ⟨k, k1, k2, k3⟩ := idx_some a
        obtain ⟨j, j1, j2, j3⟩ := idx_some b
        cases h
        rw [k1, j1]
        obtain ⟨r1, r2⟩ := row_at ok k2
        have hk : k < t.ro.length := by rw [ok.rl]; exact k2
        have rm : rowAt t k ∈ t.ro := by
          have e : rowAt t k = t.ro[k] := by unfold rowAt; rw [List.getD_eq_getElem?_getD, List.getElem?_eq_getElem hk]; rfl
          rw [e]; exact List.getElem_mem hk  -- 161
        refine ⟨ok.l1, ok.l5, ok.g1, ok.g5, ok.nl, ok.ng, ok.al, ok.ag, ok.dis, ?_, fun r hr => ?_, fun r hr n' hn => ?_, ok.hl, ok.hn⟩
        · show (cut3 t.ro k _).length = _
          rw [len_cut3 hk, ok.rl]; rfl
        · rcases mem_cut3 hr with q | q
          · rw [q]; show (cut3 (rowAt t k) j n).length = _
            rw [len_cut3 (by rw [r2]; exact j2), r2]; rfl
          · exact ok.rg r q
        · rcases mem_cut3 hr with q | q
          · rw [q] at hn
            rcases mem_cut3 hn with w | w
            · rw [w]; exact h3
            · exact ok.rn _ rm n' w
          · exact ok.rn r q n' hn
      · cases h
    · cases h
  | hours l n =>
    obtain ⟨h1, h3⟩ := hw
    dsimp only [chg] at h
    split at h
    · rename_i a
      obtain ⟨k, k1, k2, k3⟩ := idx_some a
      cases h
      rw [k1]
      have hk : k < t.ho.length := by rw [ok.hl]; exact k2
      refine ⟨ok.l1, ok.l5, ok.g1, ok.g5, ok.nl, ok.ng, ok.al, ok.ag, ok.dis, ok.rl, ok.rg, ok.rn, ?_, fun n' hn => ?_⟩
      · show (cut3 t.ho k n).length = _
        rw [len_cut3 hk, ok.hl]; rfl
      · rcases mem_cut3 hn with w | w
        · rw [w]; exact h3
        · exact ok.hn n' w
    · cases h
  | land x r n =>
    obtain ⟨h1, h2, h3⟩ := hw
    dsimp only [chg] at h
    split at h
    · cases h
    · rename_i a
      split at h
      · cases h
      · rename_i b
        split at h
        · cases h
        · rename_i c
          have c' : r.length = t.go.length := Decidable.byContradiction fun z => c z
          split at h
          · cases h
          · rename_i d
            cases h
            have l5 := ok.l5
            refine ⟨?_, ?_, ok.g1, ok.g5, fun y hy => ?_, ok.ng, ins_asc ok.al b, ok.ag, fun y hy => ?_, ?_, fun r' hr => ?_, fun r' hr n' hn => ?_, ?_, fun n' hn => ?_⟩
            · show 1 ≤ (put3 t.la _ x).length; rw [len_put3]; omega
            · show (put3 t.la _ x).length ≤ 5; rw [len_put3]; omega
            · rcases mem_put3 hy with q | q
              · rw [q]; exact h1
              · exact ok.nl y q
            · rcases mem_put3 hy with q | q
              · rw [q]; exact a
              · exact ok.dis y q
            · show (put3 t.ro _ r).length = (put3 t.la _ x).length; rw [len_put3, len_put3, ok.rl]
            · rcases mem_put3 hr with q | q
              · rw [q]; exact c'
              · exact ok.rg r' q
            · rcases mem_put3 hr with q | q
              · rw [q] at hn; exact h2.2.2 n' hn
              · exact ok.rn r' q n' hn
            · show (put3 t.ho _ n).length = (put3 t.la _ x).length; rw [len_put3, len_put3, ok.hl]
            · rcases mem_put3 hn with q | q
              · rw [q]; exact h3
              · exact ok.hn n' q
  | good x c =>
    obtain ⟨h1, h2⟩ := hw
    dsimp only [chg] at h
    split at h
    · cases h
    · rename_i a
      split at h
      · cases h
      · rename_i b
        split at h
        · cases h
        · rename_i c0
          have c' : c.length = t.la.length := Decidable.byContradiction fun z => c0 z
          split at h
          · cases h
          · rename_i d
            cases h
            have g5 := ok.g5
            refine ⟨ok.l1, ok.l5, ?_, ?_, ok.nl, fun y hy => ?_, ok.al, ins_asc ok.ag b, fun y hy z => ?_, ?_, fun r' hr => ?_, fun r' hr n' hn => ?_, ok.hl, ok.hn⟩
            · show 1 ≤ (put3 t.go _ x).length; rw [len_put3]; omega
            · show (put3 t.go _ x).length ≤ 5; rw [len_put3]; omega
            · rcases mem_put3 hy with q | q
              · rw [q]; exact h1
              · exact ok.ng y q
            · rcases mem_put3 z with q | q
              · rw [q] at hy; exact a hy
              · exact ok.dis y hy q
            · show ((t.ro.zip c).map _).length = _
              rw [List.length_map, List.length_zip, ok.rl, c', Nat.min_self]; rfl
            · obtain ⟨p, hp, rfl⟩ := List.mem_map.mp hr
              show (put3 p.1 _ p.2).length = (put3 t.go _ x).length
              rw [len_put3, len_put3, ok.rg _ (List.of_mem_zip hp).1]
            · obtain ⟨p, hp, rfl⟩ := List.mem_map.mp hr
              rcases mem_put3 hn with q | q
              · rw [q]; exact h2.2.2 _ (List.of_mem_zip hp).2
              · exact ok.rn _ (List.of_mem_zip hp).1 n' q
  | leave l =>
    dsimp only [chg] at h
    split at h
    · rename_i a
      split at h
      · cases h
      · rename_i b
        obtain ⟨k, k1, k2, k3⟩ := idx_some a
        cases h
        rw [k1]
        have l1 := ok.l1
        have l5 := ok.l5
        refine ⟨?_, ?_, ok.g1, ok.g5, fun y hy => ok.nl y (mem_del3 hy), ok.ng, ok.al.sublist del_sub, ok.ag, fun y hy => ok.dis y (mem_del3 hy), ?_, fun r hr => ok.rg r (mem_del3 hr), fun r hr => ok.rn r (mem_del3 hr), ?_, fun n hn => ok.hn n (mem_del3 hn)⟩
        · show 1 ≤ (del3 t.la k).length; rw [len_del3 k2]; omega
        · show (del3 t.la k).length ≤ 5; rw [len_del3 k2]; omega
        · show (del3 t.ro k).length = (del3 t.la k).length; rw [len_del3 k2, len_del3 (by rw [ok.rl]; exact k2), ok.rl]
        · show (del3 t.ho k).length = (del3 t.la k).length; rw [len_del3 k2, len_del3 (by rw [ok.hl]; exact k2), ok.hl]
    · cases h
  | drop l =>
    dsimp only [chg] at h
    split at h
    · rename_i a
      split at h
      · cases h
      · rename_i b
        obtain ⟨k, k1, k2, k3⟩ := idx_some a
        cases h
        rw [k1]
        have l1 := ok.g1
        have l5 := ok.g5
        refine ⟨ok.l1, ok.l5, ?_, ?_, ok.nl, fun y hy => ok.ng y (mem_del3 hy), ok.al, ok.ag.sublist del_sub, fun y hy z => ok.dis y hy (mem_del3 z), ?_, fun r hr => ?_, fun r hr n hn => ?_, ok.hl, ok.hn⟩
        · show 1 ≤ (del3 t.go k).length; rw [len_del3 k2]; omega
        · show (del3 t.go k).length ≤ 5; rw [len_del3 k2]; omega
        · show (t.ro.map _).length = _; rw [List.length_map, ok.rl]; rfl
        · obtain ⟨r0, hr0, rfl⟩ := List.mem_map.mp hr
          show (del3 r0 k).length = (del3 t.go k).length
          rw [len_del3 k2, len_del3 (by rw [ok.rg _ hr0]; exact k2), ok.rg _ hr0]
        · obtain ⟨r0, hr0, rfl⟩ := List.mem_map.mp hr
          exact ok.rn r0 hr0 n (mem_del3 hn)
    · cases h
/-! ### how long what is shown is at the most -/
mutual
def szD : D → Nat
  | .non => 4
  | .bl _ => 5
  | .int _ => 1921
  | .str x => 10 * x.length + 2
  | .tup xs => szA xs + 3
  | .lst xs => szA xs + 3
  | _ => 0
def szA : List D → Nat
  | [] => 0
  | x :: xs => szD x + 2 + szA xs
end
mutual
def shD : D → Bool
  | .int i => decide (i.natAbs.log2 < 1920)  -- 162
  | .tup xs => shA xs
  | .lst xs => shA xs
  | _ => true
def shA : List D → Bool
  | [] => true
  | x :: xs => shD x && shA xs
end
theorem shD_str {x : Str} : shD (.str x) = true := by simp [shD]
theorem shD_non : shD .non = true := by simp [shD]
theorem shD_tup {xs : List D} : shD (.tup xs) = shA xs := by rw [shD]
theorem shD_lst {xs : List D} : shD (.lst xs) = shA xs := by rw [shD]
theorem shA_nil : shA [] = true := by rw [shA]
theorem shA_cons {x : D} {xs : List D} : shA (x :: xs) = (shD x && shA xs) := by rw [shA]
theorem szD_str {x : Str} : szD (.str x) = 10 * x.length + 2 := by rw [szD]
theorem szD_int {i : Int} : szD (.int i) = 1921 := by rw [szD]
theorem szD_tup {xs : List D} : szD (.tup xs) = szA xs + 3 := by rw [szD]
theorem szD_lst {xs : List D} : szD (.lst xs) = szA xs + 3 := by rw [szD]
theorem szA_nil : szA [] = 0 := by rw [szA]
theorem szA_cons {x : D} {xs : List D} : szA (x :: xs) = szD x + 2 + szA xs := by rw [szA]
mutual
theorem shown_of : ∀ {d : D} {q : PyData}, py d = some q → dep d < 100 → shD d = true → q.showable = true ∧ q.shown.length ≤ szD d
  | .non, q, e, _, _ => by simp only [py, Option.some.injEq] at e; subst e; exact ⟨rfl, by rw [szD]; decide⟩
  | .bl b, q, e, _, _ => by simp only [py, Option.some.injEq] at e; subst e; exact ⟨rfl, by rw [szD]; cases b <;> decide⟩
  | .int i, q, e, _, h => by
    simp only [py, Option.some.injEq] at e; subst e
    rw [shD, decide_eq_true_eq] at h
    exact ⟨by simp only [PyData.showable]; exact decide_eq_true h, by rw [szD]; exact int_text_len_1921 h⟩
  | .str x, q, e, hd, _ => by
    simp only [py, Option.some.injEq] at e; subst e
    refine ⟨by simp only [PyData.showable], ?_⟩
    simp only [PyData.shown]
    rw [szD]
    refine StrLaws.reprText_len x fun c hc => ?_
    rw [dep] at hd
    split at hd
    · rename_i q
      unfold PyData.strOk at q
      have := Array.all_eq_true'.mp q c (by simpa using hc)
      have : c < 0x110000 := by simpa using this
      omega
    · omega
  | .tup xs, q, e, hd, h => by
    simp only [py, Option.map_eq_some_iff] at e
    obtain ⟨qs, e, rfl⟩ := e
    rw [dep_tup] at hd
    rw [shD] at h
    obtain ⟨h1, h2⟩ := shownA_of e (by omega) h
    refine ⟨by simp only [PyData.showable]; exact h1, ?_⟩
    simp only [PyData.shown]
    have := tupleText_len_le (PyData.shownAll qs)
    rw [szD]; omega
  | .lst xs, q, e, hd, h => by
    simp only [py, Option.map_eq_some_iff] at e
    obtain ⟨qs, e, rfl⟩ := e
    rw [dep_lst] at hd
    rw [shD] at h
    obtain ⟨h1, h2⟩ := shownA_of e (by omega) h
    refine ⟨by simp only [PyData.showable]; exact h1, ?_⟩
    simp only [PyData.shown]
    have := listText_len_le (PyData.shownAll qs)
    rw [szD]; omega
  | .dct _, _, e, _, _ => by simp [py] at e
  | .obj _, _, e, _, _ => by simp [py] at e
  | .fn _, _, e, _, _ => by simp [py] at e
  | .cls _, _, e, _, _ => by simp [py] at e
  | .ty _, _, e, _, _ => by simp [py] at e
  | .exc _ _, _, e, _, _ => by simp [py] at e
  | .clo _, _, e, _, _ => by simp [py] at e
  | .kl _, _, e, _, _ => by simp [py] at e
  | .pr _, _, e, _, _ => by simp [py] at e
theorem shownA_of : ∀ {ds : List D} {qs : List PyData}, pys ds = some qs → depA ds < 100 → shA ds = true → PyData.showableAll qs = true ∧ ((PyData.shownAll qs).map (·.length)).sum + 2 * (PyData.shownAll qs).length ≤ szA ds
  | [], qs, e, _, _ => by simp only [pys, Option.some.injEq] at e; subst e; exact ⟨by simp only [PyData.showableAll], by simp [PyData.shownAll]⟩
  | d :: ds, qs, e, hd, h => by
    simp only [pys] at e
    split at e
    · rename_i p ps e1 e2
      cases e
      rw [depA_cons] at hd
      rw [shA, Bool.and_eq_true] at h
      obtain ⟨a1, a2⟩ := shown_of e1 (by omega) h.1
      obtain ⟨b1, b2⟩ := shownA_of e2 (by omega) h.2
      refine ⟨by simp only [PyData.showableAll, a1, b1, Bool.and_self], ?_⟩
      rw [szA]
      simp only [PyData.shownAll, List.map_cons, List.sum_cons, List.length_cons]
      omega
    · cases e
end
/-- both sides, (by first | exact Or.inl rfl | exact Or.inr (Or.inl rfl) | exact Or.inr (Or.inr rfl)) through the heap, are one -/
theorem p_sameM {x told due : D} {M : MM} (h1 : vdl M told = x) (h2 : vdl M due = x) (hx : ∃ ds, x = .lst ds) (hd : dep x ≤ 60) (hs : shD x = true) (hz : szD x ≤ sizeLine) : F__law_same [told, due] M = .ok (.bl true) M := by
  obtain ⟨q, e, _, _⟩ := py_dep (d := x) (by omega)
  obtain ⟨s1, s2⟩ := shown_of e (by omega) hs
  have r : reprD x = some (.str q.shown) := by
    obtain ⟨ds, rfl⟩ := hx
    unfold reprD; simp only [e]; rw [if_pos ⟨hd, s1, by omega⟩]
  unfold F__law_same defM m__law_same ini
  simp [eqL, reprL, h1, h2, hd, eqv_refl (show dep x < 100 by omega), r]
end WK

/-! ## plain: works drawn, odd works, kinds, sizes -/
namespace WK
open KK PySem PySem.Spec PyProof.Rows L2
/-! ### sizes -/
theorem szA_map {α : Type} {f : α → D} {B : Nat} : ∀ {l : List α}, (∀ a ∈ l, szD (f a) ≤ B) → szA (l.map f) ≤ l.length * (B + 2)
  | [], _ => by rw [List.map_nil, szA]; omega
  | a :: l, h => by
    have h1 := h a (List.mem_cons_self ..)
    have h2 := szA_map (l := l) fun b hb => h b (List.mem_cons_of_mem _ hb)
    rw [List.map_cons, szA, List.length_cons, Nat.succ_mul]; omega
theorem shA_map {α : Type} {f : α → D} : ∀ {l : List α}, (∀ a ∈ l, shD (f a) = true) → shA (l.map f) = true
  | [], _ => by rw [List.map_nil, shA]
  | a :: l, h => by
    rw [List.map_cons, shA, h a (List.mem_cons_self ..), shA_map fun b hb => h b (List.mem_cons_of_mem _ hb)]; rfl
theorem sh_int {n : Int} (h : nOk n) : shD (.int n) = true := by
  rw [shD, decide_eq_true_eq]
  unfold nOk at h
  have h2 : n.natAbs < 2 ^ 20 := by omega
  have := (Nat.log2_lt (k := 20) (by omega : n.natAbs ≠ 0)).mpr h2
  omega
theorem sz_nm {x : Str} (h : isNm x = true) : szD (.str x) ≤ 82 := by
  rw [szD_str]; have := (isNm_ok h).2.1; omega
theorem sz_row {r : List Int} (h : r.length ≤ 5) : szD (rowD r) ≤ 9700 := by
  rw [szD_tup]
  have := szA_map (f := D.int) (B := 1921) (l := r) fun a _ => by rw [szD_int]; omega
  have : r.length * (1921 + 2) ≤ 5 * (1921 + 2) := Nat.mul_le_mul_right _ h
  omega
theorem sh_row {r : List Int} (h : ∀ n ∈ r, nOk n) : shD (rowD r) = true := by
  rw [shD_tup]; exact shA_map fun n hn => sh_int (h n hn)
theorem dep_row {r : List Int} : dep (rowD r) ≤ 1 := by simp
theorem depA_of {α : Type} {f : α → D} {n : Nat} {l : List α} (h : ∀ a ∈ l, dep (f a) ≤ n) : depA (l.map f) ≤ n := depA_le.mpr fun d hd => by
  obtain ⟨a, ha, rfl⟩ := List.mem_map.mp hd
  exact h a ha
section
variable {t : Tb} (ok : TOk t)
include ok
theorem sz_t : szD (tD t) ≤ 100000 := by
  have a := szA_map (f := D.str) (B := 82) (l := t.la) fun x hx => sz_nm (ok.nl x hx)
  have b := szA_map (f := D.str) (B := 82) (l := t.go) fun x hx => sz_nm (ok.ng x hx)
  have c := szA_map (f := rowD) (B := 9700) (l := t.ro) fun r hr => sz_row (by rw [ok.rg r hr]; exact ok.g5)
  have d := sz_row (r := t.ho) (by rw [ok.hl]; exact ok.l5)
  have l5 := ok.l5
  have g5 := ok.g5
  have r5 : t.ro.length ≤ 5 := by rw [ok.rl]; exact l5
  have a' : t.la.length * (82 + 2) ≤ 5 * (82 + 2) := Nat.mul_le_mul_right _ l5
  have b' : t.go.length * (82 + 2) ≤ 5 * (82 + 2) := Nat.mul_le_mul_right _ g5
  have c' : t.ro.length * (9700 + 2) ≤ 5 * (9700 + 2) := Nat.mul_le_mul_right _ r5
  unfold tD
  have e : ("table" : Str).length = 5 := by decide +kernel
  have c0 := szD_str (x := ("table" : Str))
  rw [e] at c0
  rw [szD_tup] at d
  simp only [szD_tup, szA_cons, szA_nil]
  omega
theorem sh_t : shD (tD t) = true := by
  unfold tD
  have e2 : shA (t.ho.map D.int) = true := by have := sh_row ok.hn; rw [shD_tup] at this; exact this
  simp only [shD_tup, shA_cons, shA_nil, shD_str, shA_map (f := D.str) (l := t.la) fun _ _ => shD_str, shA_map (f := D.str) (l := t.go) fun _ _ => shD_str, shA_map (f := rowD) (l := t.ro) fun r hr => sh_row (ok.rn r hr), e2, Bool.and_self]
theorem dep_t : dep (tD t) ≤ 4 := by
  have a := depA_strs (nm1 ok.nl)
  have b := depA_strs (nm1 ok.ng)
  have c : depA (t.ro.map rowD) ≤ 1 := depA_of fun _ _ => dep_row
  unfold tD
  simp [a, b]
  omega
end
section
variable {w : Wk} (h : WOk w)
include h
theorem sz_w : szD (wD w) ≤ 20000 := by
  have e : ("cost" : Str).length = 4 ∧ ("hours" : Str).length = 5 ∧ ("land" : Str).length = 4 ∧ ("good" : Str).length = 4 ∧ ("leave" : Str).length = 5 ∧ ("drop" : Str).length = 4 := by decide +kernel
  obtain ⟨e1, e2, e3, e4, e5, e6⟩ := e
  cases w with
  | cost l g n =>
    have a := sz_nm h.1
    have b := sz_nm h.2.1
    unfold wD
    simp only [szD_tup, szA_cons, szA_nil, szD_int]
    have c0 := szD_str (x := ("cost" : Str))
    rw [e1] at c0
    omega
  | hours l n =>
    have a := sz_nm h.1
    unfold wD
    simp only [szD_tup, szA_cons, szA_nil, szD_int]
    have c0 := szD_str (x := ("hours" : Str))
    rw [e2] at c0
    omega
  | land x r n =>
    have a := sz_nm h.1
    have b := sz_row h.2.1.2.1
    rw [szD_tup] at b
    unfold wD
    simp only [szD_tup, szA_cons, szA_nil, szD_int]
    have c0 := szD_str (x := ("land" : Str))
    rw [e3] at c0
    omega
  | good x c =>
    have a := sz_nm h.1
    have b := sz_row h.2.2.1
    rw [szD_tup] at b
    unfold wD
    simp only [szD_tup, szA_cons, szA_nil, szD_int]
    have c0 := szD_str (x := ("good" : Str))
    rw [e4] at c0
    omega
  | leave l =>
    have a := sz_nm h
    unfold wD
    simp only [szD_tup, szA_cons, szA_nil, szD_int]
    have c0 := szD_str (x := ("leave" : Str))
    rw [e5] at c0
    omega
  | drop l =>
    have a := sz_nm h
    unfold wD
    simp only [szD_tup, szA_cons, szA_nil, szD_int]
    have c0 := szD_str (x := ("drop" : Str))
    rw [e6] at c0
    omega
theorem sh_w : shD (wD w) = true := by
  have sr : ∀ {r : List Int}, (∀ n ∈ r, nOk n) → shA (r.map D.int) = true := fun h => by have := sh_row h; rw [shD_tup] at this; exact this
  cases w with
  | cost l g n => unfold wD; simp only [shD_tup, shA_cons, shA_nil, shD_str, sh_int h.2.2, Bool.and_self]
  | hours l n => unfold wD; simp only [shD_tup, shA_cons, shA_nil, shD_str, sh_int h.2, Bool.and_self]
  | land x r n => unfold wD; simp only [shD_tup, shA_cons, shA_nil, shD_str, sr h.2.1.2.2, sh_int h.2.2, Bool.and_self]
  | good x c => unfold wD; simp only [shD_tup, shA_cons, shA_nil, shD_str, sr h.2.2.2, Bool.and_self]
  | leave l => unfold wD; simp only [shD_tup, shA_cons, shA_nil, shD_str, Bool.and_self]
  | drop l => unfold wD; simp only [shD_tup, shA_cons, shA_nil, shD_str, Bool.and_self]
theorem dep_w : dep (wD w) ≤ 2 := by
  cases w with
  | cost l g n => have a := dep_str (isNm_ok h.1).1; have b := dep_str (isNm_ok h.2.1).1; unfold wD; simp [a, b]
  | hours l n => have a := dep_str (isNm_ok h.1).1; unfold wD; simp [a]
  | land x r n => have a := dep_str (isNm_ok h.1).1; unfold wD; simp [a]
  | good x c => have a := dep_str (isNm_ok h.1).1; unfold wD; simp [a]
  | leave l => have a := dep_str (isNm_ok h).1; unfold wD; simp [a]
  | drop l => have a := dep_str (isNm_ok h).1; unfold wD; simp [a]
end
/-! ### kinds of errors -/
theorem p_kind {c : Nat} {fs : List (Str × D)} {M : MM} (hc : c ∈ [1, 3, 10, 11, 21, 22, 24, 25, 26, 28, 29, 30, 33]) : F__law_kind [.exc c fs] M = .ok (.str (kindS c)) M := by
  have an : ∀ (nb : Option Bool) (eb ib : Nat → Option Bool), isAns nb eb ib M (.exc c fs) = eb c := fun _ _ _ => rfl
  unfold F__law_kind defM m__law_kind ini
  simp only [List.mem_cons, List.not_mem_nil, or_false] at hc
  rcases hc with rfl | rfl | rfl | rfl | rfl | rfl | rfl | rfl | rfl | rfl | rfl | rfl | rfl <;> simp [an, kindS]
/-! ### works drawn -/
def pool12 : List Str := ["north", "south", "east", "west", "isle", "cape", "cloth", "wine", "iron", "salt", "grain", "paper"]
theorem pool12_nm : ∀ x ∈ pool12, isNm x = true := by decide +kernel
theorem pool12_map : pool12.map D.str = [.str "north", .str "south", .str "east", .str "west", .str "isle", .str "cape", .str "cloth", .str "wine", .str "iron", .str "salt", .str "grain", .str "paper"] := rfl
section
variable {M : MM}
theorem pick_nm {xs : List Str} (h : Dr M) (h0 : xs ≠ []) (hz : xs.length ≤ 1000) (hn : ∀ x ∈ xs, isNm x = true) : ∃ x M', F__law_pick [.obj 1, .lst (xs.map D.str)] M = .ok (.str x) M' ∧ isNm x = true ∧ Dw M M' := by
  obtain ⟨d, M', e, hd, dw⟩ := pick_ (ds := xs.map D.str) h (by simpa using h0) (by rw [List.length_map]; omega)
  obtain ⟨x, hx, rfl⟩ := List.mem_map.mp hd
  exact ⟨x, M', e, hn x hx, dw⟩
theorem ok62_nat {k : Nat} (hk : k ≤ 900) : ok62 (k : Int) = true := by
  unfold ok62
  rw [Bool.and_eq_true, decide_eq_true_eq, decide_eq_true_eq]  -- 163
  omega
theorem rng1_of {t : MA} {L L1 : LL} {M M1 : MM} {j : Int} (h : t L M = .ok [.int j] L1 M1) (hj : ok62 j = true) : rng1 t L M = .ok (rngD 0 j.toNat) L1 M1 := by
  unfold rng1
  rw [h]
  exact if_pos hj
/-- as many numbers as that -/
theorem nums_drawn {k : Nat} {hi : Int} {mk : MX} {L : LL} (s1 s3 s4 s5 s6 s7 s8 : Sl) (hL : L = [.val (.obj 1), s1, .val (.int hi), s3, s4, s5, s6, s7, s8, .non]) (hm : mk L M = .ok (.int (k : Nat)) L M) (h : Dr M) (hk : k ≤ 900) (h0 : 0 < hi) (h1 : hi ≤ 1000000) :
    ∃ (r : List Int) (M' : MM), compM (rng1 (consA mk (nilA))) [9] (gN 9) yesM (binM addD (cst (.int 1)) (callM F__law_take (consA (locM 0) (consA (locM 2) (nilA))))) L M = .ok (r.map D.int) L M' ∧ r.length = k ∧ (∀ n ∈ r, nOk n) ∧ Dw M M' := by
  have hi' : rng1 (consA mk (nilA)) L M = .ok (rngD 0 k) L M := by
    exact rng1_of (by simp [hm]) (ok62_nat hk)
  have hu : unown L [9] = true := by rw [hL]; rfl
  obtain ⟨ys, M', e, p, l, q⟩ := comp_ex (P := fun M' => Dw M M') (Qv := fun y => ∃ n : Int, y = .int n ∧ nOk n) (me := binM addD (cst (.int 1)) (callM F__law_take (consA (locM 0) (consA (locM 2) (nilA))))) (g := gN 9) hi' hu (size_le (by simp [rngD]; omega)) (Dw.refl h) fun d hd Ma da => by
    obtain ⟨v, Mb, e, v1, v2, db⟩ := one_take da.dr h0 h1
    have w : wipeL L [9] = [.val (.obj 1), s1, .val (.int hi), s3, s4, s5, s6, s7, s8, .non] := by rw [hL]; rfl
    rw [w]
    exact ⟨[.val (.obj 1), s1, .val (.int hi), s3, s4, s5, s6, s7, s8, .val d], [.val (.obj 1), s1, .val (.int hi), s3, s4, s5, s6, s7, s8, .val d], Mb, .int (1 + v), rfl, by simp [e], da.trans db, ⟨_, rfl, v1, by omega⟩, rfl, rfl⟩
  obtain ⟨r, e2, q2⟩ := chosen q
  subst e2
  refine ⟨r, M', e, ?_, q2, p⟩
  simpa [rngD] using l
theorem p_law_work {t : Tb} (ok : TOk t) (h : Dr M) : ∃ w M', F__law_work [.obj 1, tD t, .int 30] M = .ok (wD w) M' ∧ WOk w ∧ Dw M M' := by
  obtain ⟨v, M1, e1, v0, v1, d1⟩ := take_ (n := 9) h (by decide) (by decide)
  obtain ⟨x1, M2, e2, n2, d2⟩ := pick_nm (xs := pool12) d1.dr (by decide) (by decide) pool12_nm
  obtain ⟨l, M3, e3, n3, d3⟩ := pick_nm (xs := t.la ++ [x1]) d2.dr (by simp) (by have := ok.l5; simp; omega) (fun y hy => by
    rcases List.mem_append.mp hy with q | q
    · exact ok.nl y q
    · rw [List.mem_singleton.mp q]; exact n2)
  obtain ⟨x2, M4, e4, n4, d4⟩ := pick_nm (xs := pool12) d3.dr (by decide) (by decide) pool12_nm
  obtain ⟨g, M5, e5, n5, d5⟩ := pick_nm (xs := t.go ++ [x2]) d4.dr (by simp) (by have := ok.g5; simp; omega) (fun y hy => by
    rcases List.mem_append.mp hy with q | q
    · exact ok.ng y q
    · rw [List.mem_singleton.mp q]; exact n4)
  obtain ⟨n, M6, e6, m0, m1, d6⟩ := one_take (n := 30) d5.dr (by decide) (by decide)
  have nk : nOk (1 + n) := ⟨by omega, by omega⟩
  have dw6 := ((((d1.trans d2).trans d3).trans d4).trans d5).trans d6
  have a1 : t.la.length + 1 ≤ sizeLine := size_le (by have := ok.l5; omega)
  have a2 : t.go.length + 1 ≤ sizeLine := size_le (by have := ok.g5; omega)
  rw [List.map_append] at e3 e5
  rw [pool12_map] at e2 e4
  simp only [List.map_cons, List.map_nil] at e3 e5
  -- many
  have many : ∀ (c : Nat) (M : MM), Dr M → ∃ (m : Int) (M' : MM), Dw M M' ∧ (c : Int) - 1 ≤ m ∧ m ≤ c + 1 ∧ ∀ (L : LL) (ma : MX), L[0]? = some (.val (.obj 1)) → ma L M = .ok (.int (c : Nat)) L M → binM addD ma (iteM (binM gtD (callM F__law_take (consA (locM 0) (consA (cst (.int 5)) (nilA)))) (cst (.int 0))) (cst (.int 0)) (binM subD (cst (.int 1)) (binM mulD (cst (.int 2)) (callM F__law_take (consA (locM 0) (consA (cst (.int 2)) (nilA))))))) L M = .ok (.int m) L M' := by
    intro c M hM
    obtain ⟨a, Ma, ea, a0, a1, da⟩ := take_ (n := 5) hM (by decide) (by decide)
    by_cases hp : 0 < a
    · exact ⟨c, Ma, da, by omega, by omega, fun L ma hL hma => by simp [hma, hL, ea, hp]⟩
    · obtain ⟨b, Mb, eb, b0, b1, db⟩ := take_ (n := 2) da.dr (by decide) (by decide)
      have hm : CMul 2 b ∨ CMulW 2 b := .inl (.inl ⟨by decide, by decide⟩)
      exact ⟨c + (1 - 2 * b), Mb, da.trans db, by omega, by omega, fun L ma hL hma => by simp [hma, hL, ea, hp, eb, hm]⟩
  -- the number of costs
  have cnt : ∀ (c : Nat) (m : Int), 1 ≤ c → c ≤ 5 → (c : Int) - 1 ≤ m → m ≤ c + 1 → ∃ k : Nat, 1 ≤ k ∧ k ≤ 5 ∧ ∀ (L : LL) (M : MM), L[8]? = some (.val (.int m)) → binM minD (cst (.int 5)) (binM maxD (cst (.int 1)) (locM 8)) L M = .ok (.int (k : Nat)) L M := by
    intro c m c1 c5 h1 h2
    have e : ∃ k : Nat, ((if (if m > 1 then m else 1) < 5 then (if m > 1 then m else 1) else 5 : Int)) = (k : Nat) ∧ 1 ≤ k ∧ k ≤ 5 := by
      refine ⟨((if (if m > 1 then m else 1) < 5 then (if m > 1 then m else 1) else 5 : Int)).toNat, ?_, ?_, ?_⟩ <;> split <;> split <;> omega
    obtain ⟨k, e, k1, k5⟩ := e
    exact ⟨k, k1, k5, fun L M hL => by simp [hL]; exact e⟩
  have v9 : v = 0 ∨ v = 1 ∨ v = 2 ∨ v = 3 ∨ v = 4 ∨ v = 5 ∨ v = 6 ∨ v = 7 ∨ v = 8 := by omega
  unfold F__law_work defM m__law_work ini
  by_cases w1 : v < 3
  · refine ⟨.cost l g (1 + n), M6, ?_, ⟨n3, n5, nk⟩, dw6⟩
    simp [e1, e2, e3, e4, e5, e6, a1, a2, w1, wD]
  · by_cases w2 : v = 3
    · refine ⟨.hours l (1 + n), M6, ?_, ⟨n3, nk⟩, dw6⟩
      simp [e1, e2, e3, e4, e5, e6, a1, a2, w2, wD]
    · by_cases w3 : v < 6
      · have hn3 : (v == 3) = false := by simpa using w2
        obtain ⟨m, M7, d7, m1', m2', hm⟩ := many t.go.length M6 d6.dr
        have q1 := hm [.val (.obj 1), .val (tD t), .val (.int 30), .val (.str l), .val (.str g), .val (.int (1 + n)), .val (.int v), .val (.lst [.str "north", .str "south", .str "east", .str "west", .str "isle", .str "cape", .str "cloth", .str "wine", .str "iron", .str "salt", .str "grain", .str "paper"]), .non, .non] (un1 lenD (ixPM (locB 1) (cstP (2)))) rfl (by simp)
        obtain ⟨x3, M8, e7, n7, d8⟩ := pick_nm (xs := pool12) d7.dr (by decide) (by decide) pool12_nm
        rw [pool12_map] at e7
        obtain ⟨k, k1, k5, hk⟩ := cnt t.go.length m ok.g1 ok.g5 m1' m2'
        obtain ⟨r, M9, e8, r1, r2, d9⟩ := nums_drawn (M := M8) (mk := binM minD (cst (.int 5)) (binM maxD (cst (.int 1)) (locM 8))) (hi := 30) _ _ _ _ _ _ _ (show [.val (.obj 1), .val (tD t), .val (.int 30), .val (.str l), .val (.str g), .val (.int (1 + n)), .val (.int v), .val (.lst [.str "north", .str "south", .str "east", .str "west", .str "isle", .str "cape", .str "cloth", .str "wine", .str "iron", .str "salt", .str "grain", .str "paper"]), .val (.int m), .non] = _ from rfl) (hk _ _ rfl) d8.dr (by omega) (by decide) (by decide)
        generalize ((binM addD (un1 lenD (ixPM (locB 1) (cstP (2)))) (iteM (binM gtD (callM F__law_take (consA (locM 0) (consA (cst (.int 5)) (nilA)))) (cst (.int 0))) (cst (.int 0)) (binM subD (cst (.int 1)) (binM mulD (cst (.int 2)) (callM F__law_take (consA (locM 0) (consA (cst (.int 2)) (nilA)))))))) : MX) = X at q1 ⊢
        refine ⟨.land x3 r (1 + n), M9, ?_, ⟨n7, ⟨by omega, by omega, r2⟩, nk⟩, ((dw6.trans d7).trans d8).trans d9⟩
        simp [e1, e2, e3, e4, e5, e6, a1, a2, w1, hn3, w3, q1, e7, e8, wD]
      · by_cases w4 : v = 6
        · subst w4
          obtain ⟨m, M7, d7, m1', m2', hm⟩ := many t.la.length M6 d6.dr
          have q1 := hm [.val (.obj 1), .val (tD t), .val (.int 30), .val (.str l), .val (.str g), .val (.int (1 + n)), .val (.int 6), .val (.lst [.str "north", .str "south", .str "east", .str "west", .str "isle", .str "cape", .str "cloth", .str "wine", .str "iron", .str "salt", .str "grain", .str "paper"]), .non, .non] (un1 lenD (ixPM (locB 1) (cstP (1)))) rfl (by simp)
          obtain ⟨x3, M8, e7, n7, d8⟩ := pick_nm (xs := pool12) d7.dr (by decide) (by decide) pool12_nm
          rw [pool12_map] at e7
          obtain ⟨k, k1, k5, hk⟩ := cnt t.la.length m ok.l1 ok.l5 m1' m2'
          obtain ⟨r, M9, e8, r1, r2, d9⟩ := nums_drawn (M := M8) (mk := binM minD (cst (.int 5)) (binM maxD (cst (.int 1)) (locM 8))) (hi := 30) _ _ _ _ _ _ _ (show [.val (.obj 1), .val (tD t), .val (.int 30), .val (.str l), .val (.str g), .val (.int (1 + n)), .val (.int 6), .val (.lst [.str "north", .str "south", .str "east", .str "west", .str "isle", .str "cape", .str "cloth", .str "wine", .str "iron", .str "salt", .str "grain", .str "paper"]), .val (.int m), .non] = _ from rfl) (hk _ _ rfl) d8.dr (by omega) (by decide) (by decide)
          generalize ((binM addD (un1 lenD (ixPM (locB 1) (cstP (1)))) (iteM (binM gtD (callM F__law_take (consA (locM 0) (consA (cst (.int 5)) (nilA)))) (cst (.int 0))) (cst (.int 0)) (binM subD (cst (.int 1)) (binM mulD (cst (.int 2)) (callM F__law_take (consA (locM 0) (consA (cst (.int 2)) (nilA)))))))) : MX) = X at q1 ⊢
          refine ⟨.good x3 r, M9, ?_, ⟨n7, ⟨by omega, by omega, r2⟩⟩, ((dw6.trans d7).trans d8).trans d9⟩
          simp [e1, e2, e3, e4, e5, e6, a1, a2, q1, e7, e8, wD]
        · by_cases w5 : v = 7
          · refine ⟨.leave l, M6, ?_, n3, dw6⟩
            simp [e1, e2, e3, e4, e5, e6, a1, a2, w5, wD]
          · refine ⟨.drop g, M6, ?_, n5, dw6⟩
            have b1 : (v == 3) = false := by simpa using w2
            have b2 : (v == 6) = false := by simpa using w4
            have b3 : (v == 7) = false := by simpa using w5
            simp [e1, e2, e3, e4, e5, e6, a1, a2, w1, w3, b1, b2, b3, wD]
end
end WK

/-! ## plain: paths of works, loops that count, lists of the heap walked -/
namespace WK
open KK PySem PySem.Spec PyProof.Rows L2
def Pth : Tb → List (Wk × Tb) → Prop
  | _, [] => True
  | t, p :: r => WOk p.1 ∧ chg t p.1 = .ok p.2 ∧ Pth p.2 r
def cur (t : Tb) : List (Wk × Tb) → Tb
  | [] => t
  | p :: r => cur p.2 r
theorem Pth.app {ys : List (Wk × Tb)} : ∀ {xs : List (Wk × Tb)} {t : Tb}, Pth t (xs ++ ys) ↔ Pth t xs ∧ Pth (cur t xs) ys
  | [], t => by simp [Pth, cur]
  | p :: r, t => by simp only [List.cons_append, Pth, cur, Pth.app (xs := r)]; exact ⟨fun ⟨a, b, c, d⟩ => ⟨⟨a, b, c⟩, d⟩, fun ⟨⟨a, b, c⟩, d⟩ => ⟨a, b, c, d⟩⟩
theorem cur_snoc {p : Wk × Tb} : ∀ {xs : List (Wk × Tb)} {t : Tb}, cur t (xs ++ [p]) = p.2
  | [], t => rfl
  | q :: r, t => by simp only [List.cons_append, cur]; exact cur_snoc
def Oks (xs : List (Wk × Tb)) : Prop := ∀ p ∈ xs, WOk p.1 ∧ TOk p.2
theorem Pth.oks : ∀ {xs : List (Wk × Tb)} {t : Tb}, TOk t → Pth t xs → Oks xs
  | [], t, _, _ => fun p hp => nomatch hp
  | q :: r, t, ok, h => fun p hp => by
    have ok' := chg_ok ok h.1 h.2.1
    rcases List.mem_cons.mp hp with rfl | hp  -- 164
    · exact ⟨h.1, ok'⟩
    · exact Pth.oks ok' h.2.2 p hp
theorem Pth.cur_ok : ∀ {xs : List (Wk × Tb)} {t : Tb}, TOk t → Pth t xs → TOk (cur t xs)
  | [], t, ok, _ => ok
  | q :: r, t, ok, h => show TOk (cur q.2 r) from Pth.cur_ok (xs := r) (chg_ok ok h.1 h.2.1) h.2.2
def wsD (xs : List (Wk × Tb)) : List D := xs.map fun p => wD p.1
def tsD (t : Tb) (xs : List (Wk × Tb)) : List D := tD t :: xs.map fun p => tD p.2
def uD (p : Wk × Tb) : D := .tup [wD p.1, tD p.2]
def usD (us : List (Wk × Tb)) : List D := us.map uD
theorem tsD_last : ∀ {xs : List (Wk × Tb)} {t : Tb}, ∃ pre, tsD t xs = pre ++ [tD (cur t xs)] ∧ pre.length = xs.length
  | [], t => ⟨[], rfl, rfl⟩
  | q :: r, t => by
    obtain ⟨pre, e, l⟩ := tsD_last (xs := r) (t := q.2)
    refine ⟨tD t :: pre, ?_, by simp [l]⟩
    have : tsD t (q :: r) = tD t :: tsD q.2 r := rfl
    rw [this, e]; rfl
theorem tsD_snoc {t : Tb} {xs : List (Wk × Tb)} {p : Wk × Tb} : tsD t (xs ++ [p]) = tsD t xs ++ [tD p.2] := by simp [tsD]
theorem wsD_snoc {xs : List (Wk × Tb)} {p : Wk × Tb} : wsD (xs ++ [p]) = wsD xs ++ [wD p.1] := by simp [wsD]
theorem usD_snoc {xs : List (Wk × Tb)} {p : Wk × Tb} : usD (xs ++ [p]) = usD xs ++ [.tup [wD p.1, tD p.2]] := by simp [usD, uD]
theorem ws_len {xs : List (Wk × Tb)} : (wsD xs).length = xs.length := by simp [wsD]
theorem us_len {xs : List (Wk × Tb)} : (usD xs).length = xs.length := by simp [usD]
theorem ts_len {t : Tb} {xs : List (Wk × Tb)} : (tsD t xs).length = xs.length + 1 := by simp [tsD]
section
variable {xs : List (Wk × Tb)} {t : Tb} (h : Oks xs)
include h
theorem ws_dep : depA (wsD xs) ≤ 2 := depA_of fun p hp => dep_w (h p hp).1
theorem ws_sh : shA (wsD xs) = true := shA_map fun p hp => sh_w (h p hp).1
theorem ws_sz (l : xs.length ≤ 40) : szA (wsD xs) ≤ 40 * 20002 := by
  have a := szA_map (f := fun p : Wk × Tb => wD p.1) (B := 20000) (l := xs) fun p hp => sz_w (h p hp).1
  have b : xs.length * (20000 + 2) ≤ 40 * (20000 + 2) := Nat.mul_le_mul_right _ l
  exact Nat.le_trans a b
theorem us_dep : depA (usD xs) ≤ 5 := depA_of fun p hp => by
  have a := dep_w (h p hp).1
  have b := dep_t (h p hp).2
  unfold uD
  simp; omega
end
theorem shD_bl {b : Bool} : shD (.bl b) = true := by simp [shD]
theorem szD_bl {b : Bool} : szD (.bl b) = 5 := by rw [szD]
section
variable {M : MM} {a b : Tb} {xs : List (Wk × Tb)}
theorem same3 {q : Nat} (oa : TOk a) (ob : TOk b) (h : Oks xs) (l : xs.length ≤ 40) (hq : M[q]? = some (.list (wsD xs))) : F__law_same [.lst [tD a, tD b, .lst (wsD xs)], .lst [tD a, tD b, .obj q]] M = .ok (.bl true) M := by
  refine p_sameM (x := .lst [tD a, tD b, .lst (wsD xs)]) rfl ?_ ⟨_, rfl⟩ ?_ ?_ ?_
  · show D.lst [vw M (tD a), vw M (tD b), vw M (.obj q)] = _
    rw [vw_of hq]; rfl
  · have d1 := dep_t oa
    have d2 := dep_t ob
    have d3 := ws_dep h
    simp; omega
  · simp only [shD_lst, shA_cons, shA_nil, sh_t oa, sh_t ob, ws_sh h, Bool.and_self]
  · have s1 := sz_t oa
    have s2 := sz_t ob
    have s3 := ws_sz h l
    simp only [szD_lst, szA_cons, szA_nil, sizeLine_eq]; omega
theorem same_tjb {v : Bool} (oa : TOk a) (h : Oks xs) (l : xs.length ≤ 40) : F__law_same [.lst [tD a, .lst (wsD xs), .bl v], .lst [tD a, .lst (wsD xs), .bl v]] M = .ok (.bl true) M := by
  refine p_sameM (x := .lst [tD a, .lst (wsD xs), .bl v]) rfl rfl ⟨_, rfl⟩ ?_ ?_ ?_
  · have d1 := dep_t oa
    have d3 := ws_dep h
    simp; omega
  · simp only [shD_lst, shA_cons, shA_nil, sh_t oa, shD_bl, ws_sh h, Bool.and_self]
  · have s1 := sz_t oa
    have s3 := ws_sz h l
    simp only [szD_lst, szA_cons, szA_nil, sizeLine_eq, szD_bl]; omega
theorem same_tj2 (oa : TOk a) (h : Oks xs) (l : xs.length ≤ 40) : F__law_same [.lst [tD a, .lst (wsD xs)], .lst [tD a, .lst (wsD xs)]] M = .ok (.bl true) M := by
  refine p_sameM (x := .lst [tD a, .lst (wsD xs)]) rfl rfl ⟨_, rfl⟩ ?_ ?_ ?_
  · have d1 := dep_t oa
    have d3 := ws_dep h
    simp; omega
  · simp only [shD_lst, shA_cons, shA_nil, sh_t oa, ws_sh h, Bool.and_self]
  · have s1 := sz_t oa
    have s3 := ws_sz h l
    simp only [szD_lst, szA_cons, szA_nil, sizeLine_eq]; omega
theorem same4 {v : Bool} : F__law_same [.lst [.bl true, .bl false, .bl false, .bl v], .lst [.bl true, .bl false, .bl false, .bl v]] M = .ok (.bl true) M := by
  refine p_sameM (x := .lst [.bl true, .bl false, .bl false, .bl v]) rfl rfl ⟨_, rfl⟩ ?_ ?_ ?_
  · simp
  · simp only [shD_lst, shA_cons, shA_nil, shD_bl, Bool.and_self]
  · simp only [szD_lst, szA_cons, szA_nil, sizeLine_eq, szD_bl]; omega
theorem p_beginning {i a b c : Nat} {x : D} {ts ws us : List D} (k : Bk M i a b c (x :: ts) ws us) : F_Book_beginning [.obj i] M = .ok x M := by
  unfold F_Book_beginning defM m_Book_beginning ini
  simp [instOf_of k.ins, vw_of k.la]
end
theorem forL_exN {P : Nat → LL → MM → Prop} {g : GD} {b : MS} : ∀ (ds : List D) (k : Nat) (L : LL) (M : MM), P k L M → (∀ d ∈ ds, ∀ k L M, P k L M → ∃ L1 L2 M2, g d L = some L1 ∧ b L1 M = .nx L2 M2 ∧ P (k + 1) L2 M2) → ∃ L' M', forL g b ds L M = .nx L' M' ∧ P (k + ds.length) L' M'
  | [], k, L, M, h, _ => ⟨L, M, rfl, h⟩
  | d :: ds, k, L, M, h, st => by
    obtain ⟨L1, L2, M2, h1, h2, h3⟩ := st d (List.mem_cons_self ..) k L M h
    obtain ⟨L', M', e, p⟩ := forL_exN ds (k + 1) L2 M2 h3 fun d hd => st d (List.mem_cons_of_mem _ hd)
    refine ⟨L', M', by rw [forL_cons, h1, forK1_ev, h2, forK2_nx, e], ?_⟩
    rw [List.length_cons, show k + (ds.length + 1) = k + 1 + ds.length by omega]
    exact p
theorem forLO_ex {P : Nat → LL → MM → Prop} {g : GD} {b : MS} {j : Nat} {xs : List D} (hP : ∀ k L M, P k L M → M[j]? = some (.list xs)) (st : ∀ k d, xs[k]? = some d → ∀ L M, P k L M → ∃ L1 L2 M2, g d L = some L1 ∧ b L1 M = .nx L2 M2 ∧ P (k + 1) L2 M2) :
    ∀ (r k : Nat) (L : LL) (M : MM), k + r = xs.length → P k L M → ∃ L' M', forLO j xs.length g b r L M = .nx L' M' ∧ P xs.length L' M'
  | 0, k, L, M, e, p => by
    refine ⟨L, M, ?_, by rw [← e]; exact p⟩
    rw [forLO, lstAt_of (hP _ _ _ p)]
    simp only [if_pos]
  | r + 1, k, L, M, e, p => by
    have hk : k < xs.length := by omega
    obtain ⟨L1, L2, M2, h1, h2, h3⟩ := st k xs[k] (List.getElem?_eq_getElem hk) L M p
    obtain ⟨L', M', e', p'⟩ := forLO_ex hP st r (k + 1) L2 M2 (by omega) h3
    refine ⟨L', M', ?_, p'⟩
    rw [forLO, lstAt_of (hP _ _ _ p)]
    have ek : xs.length - (r + 1) = k := by omega
    simp only [if_pos, ek, List.getElem?_eq_getElem hk, h1, h2]
    exact e'
theorem forO_of {m : MX} {g : GD} {b : MS} {j : Nat} {xs : List D} {L : LL} {M : MM} (h : m L M = .ok (.obj j) L M) (hj : M[j]? = some (.list xs)) : forO m g b L M = forLO j xs.length g b xs.length L M := by
  unfold forO
  rw [h]
  simp only [lstAt_of hj]
end WK

/-! ## plain: a lap of k62's law -/
namespace WK
open KK PySem PySem.Spec PyProof.Rows L2
def u_0 : MS :=
  setM 20 (callM F__law_kind (consA (caughtM xnT (isE [1, 3, 10, 11, 21, 22, 24, 25, 26, 28, 29, 30, 33] [1, 3, 10, 11, 21, 22, 24, 25, 26, 28, 29, 30, 33]) (methM 60 "undo" F_Book_undo (locM 9) nilA)) (nilA)))
def u_1 : MS :=
  ifM (eqV true (locM 20) (iteM (emM true (vwM (locM 12))) (cst .non) (cst (.str "notnow")))) (retM (cst (.bl false))) (skipM)
def u_2 : MS :=
  ifM (emM true (vwM (locM 12))) (exprM (appO (locM 13) (tupM (consA (popO (locM 12)) (consA (popO (locM 11)) (nilA)))))) (skipM)
def b_u : MS :=
  seqM u_0 (seqM u_1 (u_2))
def r_0 : MS :=
  setM 20 (callM F__law_kind (consA (caughtM xnT (isE [1, 3, 10, 11, 21, 22, 24, 25, 26, 28, 29, 30, 33] [1, 3, 10, 11, 21, 22, 24, 25, 26, 28, 29, 30, 33]) (methM 60 "redo" F_Book_redo (locM 9) nilA)) (nilA)))
def r_1 : MS :=
  ifM (eqV true (locM 20) (iteM (emM true (vwM (locM 13))) (cst .non) (cst (.str "notnow")))) (retM (cst (.bl false))) (skipM)
def r_2 : MS :=
  ifM (emM true (vwM (locM 13))) (seqM (asgM (popO (locM 13)) (gT 2 (gsC (gN 7) (gsC (gN 21) (gsN))))) (seqM (exprM (appO (locM 12) (locM 7))) (exprM (appO (locM 11) (locM 21))))) (skipM)
def b_r : MS :=
  seqM r_0 (seqM r_1 (r_2))
def b_y : MS :=
  exprM (appO (locM 14) (tupM (consA (methM 60 "copy" F_Book_copy (locM 9) nilA) (consA (lstX (unF listD (vwM (locM 12)))) (consA (lstX (unF listD (vwM (locM 11)))) (consA (lstX (unF listD (vwM (locM 13)))) (nilA)))))))
def d_0 : MS :=
  setM 7 (callM F__law_work (consA (locM 1) (consA (ixPM (vwM (locM 11)) (fun L M => ((cstP (1)) L M).map fun i => -i)) (consA (cst (.int 30)) (nilA)))))
def d_1 : MS :=
  asgM (callM F__law_done (consA (ixPM (vwM (locM 11)) (fun L M => ((cstP (1)) L M).map fun i => -i)) (consA (locM 7) (nilA)))) (gT 2 (gsC (gN 20) (gsC (gN 21) (gsN))))
def d_2 : MS :=
  ifM (binM neD (callM F__law_kind (consA (caughtM xnT (isE [1, 3, 10, 11, 21, 22, 24, 25, 26, 28, 29, 30, 33] [1, 3, 10, 11, 21, 22, 24, 25, 26, 28, 29, 30, 33]) (methM 60 "do" F_Book_do (locM 9) (consA (locM 7) (nilA)))) (nilA))) (locB 20)) (retM (cst (.bl false))) (skipM)
def d_3 : MS :=
  ifM (binM isD (locM 20) (cst .non)) (seqM (exprM (appO (locM 12) (locM 7))) (seqM (exprM (appO (locM 11) (locM 21))) (setM 13 (objX (lenA1 (nilA)))))) (skipM)
def b_d : MS :=
  seqM d_0 (seqM d_1 (seqM d_2 (d_3)))
def c_0 : MS :=
  setM 15 (callM F__law_take (consA (locM 1) (consA (cst (.int 6)) (nilA))))
def c_1 : MS :=
  ifM (binM eqD (locM 15) (cst (.int 0))) b_u (ifM (binM eqD (locM 15) (cst (.int 1))) b_r (ifM (binM eqD (locM 15) (cst (.int 2))) b_y b_d))
def c_2 : MS :=
  ifM (notM (callM F__law_same (consA (lstX (lenA1 (consA (methM 60 "table" F_Book_table (locM 9) nilA) (consA (methM 60 "beginning" F_Book_beginning (locM 9) nilA) (consA (methM 60 "journal" F_Book_journal (locM 9) nilA) (nilA)))))) (consA (lstX (lenA1 (consA (ixPM (vwM (locM 11)) (fun L M => ((cstP (1)) L M).map fun i => -i)) (consA (locM 4) (consA (locM 12) (nilA)))))) (nilA))))) (retM (cst (.bl false))) (skipM)
def b_lap : MS :=
  seqM c_0 (seqM c_1 (c_2))
def w_0 : MS :=
  ifM (notM (callM F__law_same (consA (lstX (lenA1 (consA (methM 60 "table" F_Book_table (locM 16) nilA) (consA (methM 60 "journal" F_Book_journal (locM 16) nilA) (consA (eqO false 60 F_Book___eq__ (locM 16) (locM 9)) (nilA)))))) (consA (lstX (lenA1 (consA (ixPM (locB 18) (fun L M => ((cstP (1)) L M).map fun i => -i)) (consA (locM 17) (consA (eqV false (locM 17) (locM 12)) (nilA)))))) (nilA))))) (retM (cst (.bl false))) (skipM)
def w_1 : MS :=
  ifM (emM true (locB 19)) (seqM (exprM (methM 60 "redo" F_Book_redo (locM 16) nilA)) (ifM (notM (callM F__law_same (consA (lstX (lenA1 (consA (methM 60 "table" F_Book_table (locM 16) nilA) (consA (methM 60 "journal" F_Book_journal (locM 16) nilA) (nilA))))) (consA (lstX (lenA1 (consA (ixPM (ixPM (locB 19) (fun L M => ((cstP (1)) L M).map fun i => -i)) (cstP (1))) (consA (lstX (catF (locM 17) (lstX (lenA1 (consA (ixPM (ixPM (locB 19) (fun L M => ((cstP (1)) L M).map fun i => -i)) (cstP (0))) (nilA)))))) (nilA))))) (nilA))))) (retM (cst (.bl false))) (skipM))) (skipM)
def b_w : MS :=
  seqM w_0 (w_1)
def b_a : MS :=
  exprM (methM 60 "do" F_Book_do (locM 6) (consA (locM 7) (nilA)))
def t_0 : MS :=
  setM 4 (callM F__law_some_table (consA (locM 1) (consA (cst (.int 4)) (nilA))))
def t_1 : MS :=
  asgM (tupM (consA (mkM 60 F_Book___init__ (consA (locM 4) (nilA))) (consA (objX (lenA1 (consA (locM 4) (nilA)))) (consA (objX (lenA1 (nilA))) (consA (objX (lenA1 (nilA))) (consA (objX (lenA1 (nilA))) (nilA))))))) (gT 5 (gsC (gN 9) (gsC (gN 11) (gsC (gN 12) (gsC (gN 13) (gsC (gN 14) (gsN)))))))
def t_2 : MS :=
  forM (rng1 (consA (binM addD (cst (.int 10)) (callM F__law_take (consA (locM 1) (consA (cst (.int 8)) (nilA))))) (nilA))) (gN 5) b_lap
def t_3 : MS :=
  forO (locM 14) (gT 4 (gsC (gN 16) (gsC (gN 17) (gsC (gN 18) (gsC (gN 19) (gsN)))))) b_w
def t_4 : MS :=
  setM 6 (mkM 60 F_Book___init__ (consA (locM 4) (nilA)))
def t_5 : MS :=
  forO (locM 12) (gN 7) b_a
def t_6 : MS :=
  setM 8 (mkM 60 F_Book___init__ (consA (tupM (consA (cst (.str "table")) (consA (tupM (consA (cst (.str "aa")) (nilA))) (consA (tupM (consA (cst (.str "bb")) (nilA))) (consA (tupM (consA (tupM (consA (cst (.int 1)) (nilA))) (nilA))) (consA (tupM (consA (cst (.int 1)) (nilA))) (nilA))))))) (nilA)))
def t_7 : MS :=
  ifM (notM (callM F__law_same (consA (lstX (lenA1 (consA (eqO false 60 F_Book___eq__ (locM 6) (locM 9)) (consA (eqO false 60 F_Book___eq__ (locM 8) (locM 9)) (consA (eqO false 60 F_Book___eq__ (locM 9) (methM 60 "copy" F_Book_copy (locM 8) nilA)) (consA (eqO false 60 F_Book___eq__ (mkM 60 F_Book___init__ (consA (locM 4) (nilA))) (locM 9)) (nilA))))))) (consA (lstX (lenA1 (consA (cst (.bl true)) (consA (cst (.bl false)) (consA (cst (.bl false)) (consA (emM false (vwM (locM 12))) (nilA))))))) (nilA))))) (retM (cst (.bl false))) (skipM)
def b_turn : MS :=
  seqM t_0 (seqM t_1 (seqM t_2 (seqM t_3 (seqM t_4 (seqM t_5 (seqM t_6 (t_7)))))))
def l_0 : MS :=
  setM 1 (callM F__law_begun (consA (locM 0) (nilA)))
def l_1 : MS :=
  forM (rng1 (consA (binM addD (cst (.int 2)) (binM minD (un1 lenD (locB 0)) (cst (.int 5)))) (nilA))) (gN 2) b_turn
def l_2 : MS :=
  setM 3 (tupM (consA (cst (.str "table")) (consA (tupM (consA (cst (.str "north")) (nilA))) (consA (tupM (consA (cst (.str "wine")) (nilA))) (consA (tupM (consA (tupM (consA (cst (.int 5)) (nilA))) (nilA))) (consA (tupM (consA (cst (.int 9)) (nilA))) (nilA)))))))
def l_3 : MS :=
  asgM (tupM (consA (mkM 60 F_Book___init__ (consA (locM 3) (nilA))) (consA (mkM 60 F_Book___init__ (consA (locM 3) (nilA))) (nilA)))) (gT 2 (gsC (gN 9) (gsC (gN 10) (gsN))))
def l_4 : MS :=
  exprM (methM 60 "do" F_Book_do (locM 9) (consA (tupM (consA (cst (.str "cost")) (consA (cst (.str "north")) (consA (cst (.str "wine")) (consA (cst (.int 5)) (nilA)))))) (nilA)))
def l_5 : MS :=
  retM (callM F__law_same (consA (lstX (lenA1 (consA (binM eqD (methM 60 "table" F_Book_table (locM 9) nilA) (locB 3)) (consA (eqO false 60 F_Book___eq__ (locM 9) (locM 10)) (consA (methM 60 "journal" F_Book_journal (locM 9) nilA) (consA (methM 60 "journal" F_Book_journal (locM 10) nilA) (nilA))))))) (consA (lstX (lenA1 (consA (cst (.bl true)) (consA (cst (.bl false)) (consA (lstX (lenA1 (consA (tupM (consA (cst (.str "cost")) (consA (cst (.str "north")) (consA (cst (.str "wine")) (consA (cst (.int 5)) (nilA)))))) (nilA)))) (consA (lstX (lenA1 (nilA))) (nilA))))))) (nilA))))
theorem m_law_eq : m_law = seqM l_0 (seqM l_1 (seqM l_2 (seqM l_3 (seqM l_4 (l_5))))) := rfl
def LT (sc : D) (t0 : Tb) (i r : Nat) (s2 s5 s6 s7 s8 s15 s16 s17 s18 s19 s20 s21 : Sl) : LL :=
  [.val sc, .val (.obj 1), s2, .non, .val (tD t0), s5, s6, s7, s8, .val (.obj i), .non, .val (.obj (i + 4)), .val (.obj (i + 5)), .val (.obj r), .val (.obj (i + 7)), s15, s16, s17, s18, s19, s20, s21]
theorem Dr.keep {S : List Nat} {M M' : MM} (h : Dr M) (f : Fm S M M') (h0 : 0 ∉ S) (h1 : 1 ∉ S) : Dr M' := by
  obtain ⟨ls, cs, r, t, a, b⟩ := h
  exact ⟨ls, cs, r, t, f.get a h0, f.get b h1⟩
theorem Dr.two {M : MM} (h : Dr M) : 2 ≤ M.length := by
  obtain ⟨ls, cs, r, t, a, b⟩ := h
  have := lt_of_some b
  omega
theorem chg_err {t : Tb} {w : Wk} {e : Er} (h : chg t w = .error e) : e = ⟨26, .non⟩ ∨ e = ⟨25, .non⟩ ∨ e = ⟨10, .non⟩ ∨ e = ⟨30, .non⟩ ∨ e = ⟨21, .non⟩ ∨ e = ⟨3, .non⟩ ∨ e = ⟨29, .non⟩ ∨ e = ⟨33, .int 5⟩ := by
  cases w <;> dsimp only [chg] at h <;> (repeat' split at h) <;> first | (cases h; simp; done) | (simp at h; done) | (simp at h; subst h; simp)
theorem eqO_of {i j c : Nat} {F : MF} {ma mb : MX} {L : LL} {M : MM} {fs gs : List (Str × D)} {neg b : Bool} (h1 : ma L M = .ok (.obj i) L M) (h2 : mb L M = .ok (.obj j) L M) (h3 : M[i]? = some (.inst c fs)) (h4 : M[j]? = some (.inst c gs)) (h5 : F [.obj i, .obj j] M = .ok (.bl b) M) :
    eqO neg c F ma mb L M = .ok (.bl (if neg then !b else b)) L M := by
  unfold eqO
  rw [h1, bind_ok, h2, bind_ok, instOf_of h3, instOf_of h4]
  simp only [h5]
/-! ### twins -/
structure Tw where
  j : Nat
  a : Nat
  b : Nat
  c : Nat
  xs : List (Wk × Tb)
  us : List (Wk × Tb)
def Tw.d (t : Tb) (τ : Tw) : D := .tup [.obj τ.j, .lst (wsD τ.xs), .lst (tsD t τ.xs), .lst (usD τ.us)]
def Tw.ix (τ : Tw) : List Nat := [τ.j, τ.a, τ.b, τ.c]
structure TwOk (M : MM) (t : Tb) (τ : Tw) : Prop where
  bk : Bk M τ.j τ.a τ.b τ.c (tsD t τ.xs) (wsD τ.xs) (usD τ.us)
  ox : Oks τ.xs
  ou : Oks τ.us
  ot : TOk (cur t τ.xs)
  len : τ.xs.length + τ.us.length ≤ 30
theorem TwOk.lt {M : MM} {t : Tb} {τ : Tw} (h : TwOk M t τ) : ∀ k ∈ τ.ix, k < M.length := by
  intro k hk
  have h1 := lt_of_some h.bk.ins
  have h2 := lt_of_some h.bk.la
  have h3 := lt_of_some h.bk.lb
  have h4 := lt_of_some h.bk.lc
  unfold Tw.ix at hk
  simp only [List.mem_cons, List.not_mem_nil, or_false] at hk
  omega
theorem TwOk.keep {S : List Nat} {M M' : MM} {t : Tb} {τ : Tw} (h : TwOk M t τ) (f : Fm S M M') (hS : ∀ k ∈ S, k ∉ τ.ix) : TwOk M' t τ :=
  ⟨h.bk.keep f fun j hj => by
    have := hS j hj
    unfold Tw.ix at this
    simp only [List.mem_cons, List.not_mem_nil, or_false] at this
    omega, h.ox, h.ou, h.ot, h.len⟩
/-! ### the state -/
structure Lp (M : MM) (t : Tb) (i c r : Nat) (xs us : List (Wk × Tb)) (tw : List Tw) (n : Nat) : Prop where
  dr : Dr M
  ok : TOk t
  pth : Pth t (xs ++ us.reverse)
  bk : Bk M i (i + 1) (i + 2) c (tsD t xs) (wsD xs) (usD us)
  lp : M[i + 4]? = some (.list (tsD t xs))
  lq : M[i + 5]? = some (.list (wsD xs))
  lr : M[r]? = some (.list (usD us))
  lz : M[i + 7]? = some (.list (tw.map (Tw.d t)))
  i2 : 2 ≤ i
  hc : c = i + 3 ∨ i + 8 ≤ c
  hr : r = i + 6 ∨ i + 8 ≤ r
  cr : c ≠ r
  len : xs.length + us.length ≤ n
  twl : tw.length ≤ n
  twk : ∀ τ ∈ tw, TwOk M t τ
  dis : ∀ τ ∈ tw, ∀ k ∈ τ.ix, i + 8 ≤ k ∧ k ≠ c ∧ k ≠ r
  pw : tw.Pairwise fun x y => ∀ k ∈ x.ix, k ∉ y.ix
section
variable {sc : D} {t : Tb} {i c r n : Nat} {s2 s5 s6 s7 s8 s15 s16 s17 s18 s19 s20 s21 : Sl} {xs us : List (Wk × Tb)} {tw : List Tw} {M M' : MM}
theorem Lp.oks (h : Lp M t i c r xs us tw n) : Oks xs ∧ Oks us := by
  have o := h.pth.oks h.ok
  exact ⟨fun x hx => o x (List.mem_append_left _ hx), fun x hx => o x (List.mem_append_right _ (List.mem_reverse.mpr hx))⟩
theorem Lp.cok (h : Lp M t i c r xs us tw n) : TOk (cur t xs) := (Pth.app.mp h.pth).1.cur_ok h.ok
theorem Lp.tk {S : List Nat} (h : Lp M t i c r xs us tw n) (f : Fm S M M') (hS : ∀ j ∈ S, j < i + 8 ∨ j = c ∨ j = r) : ∀ τ ∈ tw, TwOk M' t τ := fun τ hτ =>
  (h.twk τ hτ).keep f fun k hk hx => by
    have := h.dis τ hτ k hx
    have := hS k hk
    omega
theorem Lp.draw (h : Lp M t i c r xs us tw n) (d : Dw M M') : Lp M' t i c r xs us tw n := by
  have f := d.fm
  have h1 := h.i2
  have h2 := h.hc
  have h3 := h.hr
  exact ⟨d.dr, h.ok, h.pth, h.bk.keep f (fun j hj => by simp only [List.mem_cons, List.not_mem_nil, or_false] at hj; omega), f.get h.lp (fun hh => by simp only [List.mem_cons, List.not_mem_nil, or_false] at hh; omega), f.get h.lq (fun hh => by simp only [List.mem_cons, List.not_mem_nil, or_false] at hh; omega), f.get h.lr (fun hh => by simp only [List.mem_cons, List.not_mem_nil, or_false] at hh; omega), f.get h.lz (fun hh => by simp only [List.mem_cons, List.not_mem_nil, or_false] at hh; omega), h.i2, h.hc, h.hr, h.cr, h.len, h.twl, h.tk f (fun j hj => by simp only [List.mem_cons, List.not_mem_nil, or_false] at hj; omega), h.dis, h.pw⟩
theorem Lp.more {m : Nat} (h : Lp M t i c r xs us tw n) (hm : n ≤ m) : Lp M t i c r xs us tw m :=
  ⟨h.dr, h.ok, h.pth, h.bk, h.lp, h.lq, h.lr, h.lz, h.i2, h.hc, h.hr, h.cr, Nat.le_trans h.len hm, Nat.le_trans h.twl hm, h.twk, h.dis, h.pw⟩
theorem eqV_same {ma mb : MX} {L : LL} {x : D} (h1 : ma L M = .ok x L M) (h2 : mb L M = .ok x L M) (hv : vd M x = x) (hd : dep x ≤ 60) : KK.eqV true ma mb L M = .ok (.bl false) L M := by
  unfold KK.eqV
  rw [h1, bind_ok, h2, bind_ok, hv, if_pos ⟨hd, hd⟩, eqv_refl (by omega)]; rfl
theorem kind_none : F__law_kind [.non] M = .ok .non M := by
  unfold F__law_kind defM m__law_kind ini
  simp [isAns]
theorem p_undo_no {a b : Nat} {ts us : List D} (k : Bk M i a b c ts [] us) : F_Book_undo [.obj i] M = .err ⟨28, .non⟩ M := by
  unfold F_Book_undo defM m_Book_undo ini
  simp [instOf_of k.ins, vw_of k.lb, emD_lst]
theorem ws_em (h : Oks xs) : emD (.lst (wsD xs)) = some (wsD xs).isEmpty := emD_lst (by have := ws_dep h; omega)
theorem us_em (h : Oks us) : emD (.lst (usD us)) = some (usD us).isEmpty := emD_lst (by have := us_dep h; omega)
/-- the check at a lap's end -/
theorem p_c2 (h : Lp M t i c r xs us tw n) (hn : n ≤ 30) : c_2 (LT sc t i r s2 s5 s6 s7 s8 s15 s16 s17 s18 s19 s20 s21) M = .nx (LT sc t i r s2 s5 s6 s7 s8 s15 s16 s17 s18 s19 s20 s21) M := by
  have l := h.len
  have s := same3 (M := M) h.cok h.ok h.oks.1 (by omega) h.lq
  obtain ⟨pre, e, _⟩ := tsD_last (xs := xs) (t := t)
  have bk := h.bk
  have lp := h.lp
  have b1 := p_beginning (x := tD t) (ts := xs.map fun p => tD p.2) bk
  rw [e] at bk lp
  have b2 := p_table bk
  have b3 := p_journal bk
  unfold c_2 LT
  simp [instOf_of bk.ins, methK2_ev, b1, b2, b3, vw_of lp, s]
end
end WK

namespace WK
open KK PySem PySem.Spec PyProof.Rows L2
section
variable {sc : D} {t : Tb} {i c r n : Nat} {s2 s5 s6 s7 s8 s15 s16 s17 s18 s19 s20 s21 : Sl} {xs us : List (Wk × Tb)} {tw : List Tw} {M M' : MM}
theorem p_u (h : Lp M t i c r xs us tw n) (hn : n ≤ 30) : ∃ s20' xs' us' M', b_u (LT sc t i r s2 s5 s6 s7 s8 s15 s16 s17 s18 s19 s20 s21) M = .nx (LT sc t i r s2 s5 s6 s7 s8 s15 s16 s17 s18 s19 s20' s21) M' ∧ Lp M' t i c r xs' us' tw n := by
  have h2 := h.i2
  have h3 := h.hc
  have h4 := h.hr
  have h5 := h.cr
  have l := h.len
  have no : lookD "undo" [("tables", D.obj (i + 1)), ("works", .obj (i + 2)), ("undone", .obj c)] = none := by simp
  rcases List.eq_nil_or_concat xs with rfl | ⟨xs', x, rfl⟩
  · have e := p_undo_no (h.bk : Bk M i (i + 1) (i + 2) c _ [] _)
    have ce : ∀ (L : LL) (M : MM), cauK xnT (isE [1, 3, 10, 11, 21, 22, 24, 25, 26, 28, 29, 30, 33] [1, 3, 10, 11, 21, 22, 24, 25, 26, 28, 29, 30, 33]) (.err ⟨28, .non⟩ L M) = .ok (.exc 28 []) L M := fun _ _ => rfl
    have kd : F__law_kind [.exc 28 []] M = .ok (.str (kindS 28)) M := p_kind (by simp)
    have lq : M[i + 5]? = some (.list []) := h.lq
    refine ⟨.val (.str (kindS 28)), [], us, M, ?_, h⟩
    have k0 : u_0 (LT sc t i r s2 s5 s6 s7 s8 s15 s16 s17 s18 s19 s20 s21) M = .nx (LT sc t i r s2 s5 s6 s7 s8 s15 s16 s17 s18 s19 (.val (.str (kindS 28))) s21) M := by
      unfold u_0 LT; simp [instOf_of h.bk.ins, methK2_ev, e, ce, kd]
    have k1 : u_1 (LT sc t i r s2 s5 s6 s7 s8 s15 s16 s17 s18 s19 (.val (.str (kindS 28))) s21) M = .nx (LT sc t i r s2 s5 s6 s7 s8 s15 s16 s17 s18 s19 (.val (.str (kindS 28))) s21) M := by
      have q1 : KK.eqV true (locM 20) (iteM (emM true (vwM (locM 12))) (cst .non) (cst (.str "notnow"))) (LT sc t i r s2 s5 s6 s7 s8 s15 s16 s17 s18 s19 (.val (.str (kindS 28))) s21) M = .ok (.bl false) (LT sc t i r s2 s5 s6 s7 s8 s15 s16 s17 s18 s19 (.val (.str (kindS 28))) s21) M :=
        eqV_same (x := .str "notnow") (by unfold LT; simp [kindS]) (by unfold LT; simp [vw_of lq, emD_lst]) rfl (by simp)
      unfold u_1; rw [ifM_ev, q1, ifK_f, skipM_ev]
    have k2 : u_2 (LT sc t i r s2 s5 s6 s7 s8 s15 s16 s17 s18 s19 (.val (.str (kindS 28))) s21) M = .nx (LT sc t i r s2 s5 s6 s7 s8 s15 s16 s17 s18 s19 (.val (.str (kindS 28))) s21) M := by
      unfold u_2 LT; simp [vw_of lq, emD_lst]
    unfold b_u; simp only [seqM_ev, k0, seqK_nx, k1, k2]
  · obtain ⟨w, t'⟩ := x
    rw [List.concat_eq_append] at h l
    rw [List.length_append] at l; simp only [List.length_cons, List.length_nil] at l
    have bk := h.bk
    have lp := h.lp
    have lq := h.lq
    have ox := h.oks.1
    have ou := h.oks.2
    have dw := ws_dep ox
    rw [tsD_snoc, wsD_snoc] at bk
    rw [tsD_snoc] at lp
    rw [wsD_snoc] at lq dw
    obtain ⟨M1, e1, k1, f1, l1⟩ := p_undo bk (by omega) (by rw [us_len]; omega)
    have q1 := f1.get lq (fun hh => by simp only [List.mem_cons, List.not_mem_nil, or_false] at hh; omega)
    have p1 := f1.get lp (fun hh => by simp only [List.mem_cons, List.not_mem_nil, or_false] at hh; omega)
    have r1 := f1.get h.lr (fun hh => by simp only [List.mem_cons, List.not_mem_nil, or_false] at hh; omega)
    have z1 := f1.get h.lz (fun hh => by simp only [List.mem_cons, List.not_mem_nil, or_false] at hh; omega)
    have r2 : (M1.set (i + 5) (.list (wsD xs')))[r]? = some (.list (usD us)) := set_ne r1 (by omega)
    have p2 : (M1.set (i + 5) (.list (wsD xs')))[i + 4]? = some (.list (tsD t xs' ++ [tD t'])) := set_ne p1 (by omega)
    have r3 : ((M1.set (i + 5) (.list (wsD xs'))).set (i + 4) (.list (tsD t xs')))[r]? = some (.list (usD us)) := set_ne r2 (by omega)
    have zl : (usD us).length < sizeLine := by rw [us_len, sizeLine_eq]; omega
    have dw' : depA (wsD xs' ++ [wD w]) ≤ 2 := dw
    have ee : emD (.lst (wsD xs' ++ [wD w])) = some false := emD_snoc (by omega)
    refine ⟨.val .non, xs', us ++ [(w, t')], ((M1.set (i + 5) (.list (wsD xs'))).set (i + 4) (.list (tsD t xs'))).set r (.list (usD us ++ [.tup [wD w, tD t']])), ?_, ?_⟩
    · have k0 : u_0 (LT sc t i r s2 s5 s6 s7 s8 s15 s16 s17 s18 s19 s20 s21) M = .nx (LT sc t i r s2 s5 s6 s7 s8 s15 s16 s17 s18 s19 (.val .non) s21) M1 := by
        unfold u_0 LT; simp [instOf_of bk.ins, methK2_ev, e1, kind_none]
      have k1' : u_1 (LT sc t i r s2 s5 s6 s7 s8 s15 s16 s17 s18 s19 (.val .non) s21) M1 = .nx (LT sc t i r s2 s5 s6 s7 s8 s15 s16 s17 s18 s19 (.val .non) s21) M1 := by
        have q1 : KK.eqV true (locM 20) (iteM (emM true (vwM (locM 12))) (cst .non) (cst (.str "notnow"))) (LT sc t i r s2 s5 s6 s7 s8 s15 s16 s17 s18 s19 (.val .non) s21) M1 = .ok (.bl false) (LT sc t i r s2 s5 s6 s7 s8 s15 s16 s17 s18 s19 (.val .non) s21) M1 :=
          eqV_same (x := .non) (by unfold LT; simp) (by unfold LT; simp [vw_of q1, ee]) rfl (by simp)
        unfold u_1; rw [ifM_ev, q1, ifK_f, skipM_ev]
      have k2 : u_2 (LT sc t i r s2 s5 s6 s7 s8 s15 s16 s17 s18 s19 (.val .non) s21) M1 = .nx (LT sc t i r s2 s5 s6 s7 s8 s15 s16 s17 s18 s19 (.val .non) s21) (((M1.set (i + 5) (.list (wsD xs'))).set (i + 4) (.list (tsD t xs'))).set r (.list (usD us ++ [.tup [wD w, tD t']]))) := by
        unfold u_2 LT; simp [vw_of q1, ee, lstAt_of r1, popOK_ev (lstAt_of q1), popOK_ev (lstAt_of p2), appK3_ev (lstAt_of r3) zl]
      unfold b_u; simp only [seqM_ev, k0, seqK_nx, k1', k2]
    · have f2 : Fm [i + 4, i + 5, r] M1 (((M1.set (i + 5) (.list (wsD xs'))).set (i + 4) (.list (tsD t xs'))).set r (.list (usD us ++ [.tup [wD w, tD t']]))) := ((Fm.set.sub (by simp)).trans (Fm.set.sub (by simp))).trans (Fm.set.sub (by simp))
      have f : Fm [i + 1, i + 2, c, i + 4, i + 5, r] M (((M1.set (i + 5) (.list (wsD xs'))).set (i + 4) (.list (tsD t xs'))).set r (.list (usD us ++ [.tup [wD w, tD t']]))) := (f1.sub (by simp)).trans (f2.sub (by simp))
      refine ⟨h.dr.keep f (fun hh => by simp only [List.mem_cons, List.not_mem_nil, or_false] at hh; omega) (fun hh => by simp only [List.mem_cons, List.not_mem_nil, or_false] at hh; omega), h.ok, ?_, by rw [usD_snoc]; exact k1.keep f2 (fun j hj => by simp only [List.mem_cons, List.not_mem_nil, or_false] at hj; omega), set_ne (set_eq p2) (by omega), set_ne (set_ne (set_eq q1) (by omega)) (by omega), by rw [usD_snoc]; exact set_eq r3, f2.get z1 (fun hh => by simp only [List.mem_cons, List.not_mem_nil, or_false] at hh; omega), h.i2, h.hc, h.hr, h.cr, by simp; omega, h.twl, h.tk f (fun j hj => by simp only [List.mem_cons, List.not_mem_nil, or_false] at hj; omega), h.dis, h.pw⟩
      have := h.pth
      rw [List.append_assoc] at this  -- 165
      simpa using this
end
end WK

namespace WK
open KK PySem PySem.Spec PyProof.Rows L2
section
variable {sc : D} {t : Tb} {i c r n : Nat} {s2 s5 s6 s7 s8 s15 s16 s17 s18 s19 s20 s21 : Sl} {xs us : List (Wk × Tb)} {tw : List Tw} {M M' : MM}

theorem p_r (h : Lp M t i c r xs us tw n) (hn : n ≤ 30) : ∃ s7' s20' s21' xs' us' M', b_r (LT sc t i r s2 s5 s6 s7 s8 s15 s16 s17 s18 s19 s20 s21) M = .nx (LT sc t i r s2 s5 s6 s7' s8 s15 s16 s17 s18 s19 s20' s21') M' ∧ Lp M' t i c r xs' us' tw n := by
  have h2 := h.i2
  have h3 := h.hc
  have h4 := h.hr
  have h5 := h.cr
  have l := h.len
  rcases List.eq_nil_or_concat us with rfl | ⟨us', x, rfl⟩
  · have e := p_redo_no (h.bk : Bk M i (i + 1) (i + 2) c _ _ [])
    have ce : ∀ (L : LL) (M : MM), cauK xnT (isE [1, 3, 10, 11, 21, 22, 24, 25, 26, 28, 29, 30, 33] [1, 3, 10, 11, 21, 22, 24, 25, 26, 28, 29, 30, 33]) (.err ⟨28, .non⟩ L M) = .ok (.exc 28 []) L M := fun _ _ => rfl
    have kd : F__law_kind [.exc 28 []] M = .ok (.str (kindS 28)) M := p_kind (by simp)
    have lq : M[r]? = some (.list []) := h.lr
    refine ⟨s7, .val (.str (kindS 28)), s21, xs, [], M, ?_, h⟩
    have k0 : r_0 (LT sc t i r s2 s5 s6 s7 s8 s15 s16 s17 s18 s19 s20 s21) M = .nx (LT sc t i r s2 s5 s6 s7 s8 s15 s16 s17 s18 s19 (.val (.str (kindS 28))) s21) M := by
      unfold r_0 LT; simp [instOf_of h.bk.ins, methK2_ev, e, ce, kd]
    have k1 : r_1 (LT sc t i r s2 s5 s6 s7 s8 s15 s16 s17 s18 s19 (.val (.str (kindS 28))) s21) M = .nx (LT sc t i r s2 s5 s6 s7 s8 s15 s16 s17 s18 s19 (.val (.str (kindS 28))) s21) M := by
      have q1 : KK.eqV true (locM 20) (iteM (emM true (vwM (locM 13))) (cst .non) (cst (.str "notnow"))) (LT sc t i r s2 s5 s6 s7 s8 s15 s16 s17 s18 s19 (.val (.str (kindS 28))) s21) M = .ok (.bl false) (LT sc t i r s2 s5 s6 s7 s8 s15 s16 s17 s18 s19 (.val (.str (kindS 28))) s21) M :=
        eqV_same (x := .str "notnow") (by unfold LT; simp [kindS]) (by unfold LT; simp [vw_of lq, emD_lst]) rfl (by simp)
      unfold r_1; rw [ifM_ev, q1, ifK_f, skipM_ev]
    have k2 : r_2 (LT sc t i r s2 s5 s6 s7 s8 s15 s16 s17 s18 s19 (.val (.str (kindS 28))) s21) M = .nx (LT sc t i r s2 s5 s6 s7 s8 s15 s16 s17 s18 s19 (.val (.str (kindS 28))) s21) M := by
      unfold r_2 LT; simp [vw_of lq, emD_lst]
    unfold b_r; simp only [seqM_ev, k0, seqK_nx, k1, k2]
  · obtain ⟨w, t'⟩ := x
    rw [List.concat_eq_append] at h l
    rw [List.length_append] at l; simp only [List.length_cons, List.length_nil] at l
    have bk := h.bk
    have lp := h.lp
    have lq := h.lq
    have lr := h.lr
    have ox := h.oks.1
    have ou := h.oks.2
    have du := us_dep ou
    rw [usD_snoc] at bk lr du
    have du' : depA (usD us' ++ [.tup [wD w, tD t']]) ≤ 5 := du
    obtain ⟨M1, e1, k1, f1, l1⟩ := p_redo bk (by omega) (by rw [ts_len]; omega) (by rw [ws_len]; omega)
    have q1 := f1.get lq (fun hh => by simp only [List.mem_cons, List.not_mem_nil, or_false] at hh; omega)
    have p1 := f1.get lp (fun hh => by simp only [List.mem_cons, List.not_mem_nil, or_false] at hh; omega)
    have r1 : M1[r]? = some (.list (usD us' ++ [.tup [wD w, tD t']])) := f1.get lr (fun hh => by simp only [List.mem_cons, List.not_mem_nil, or_false] at hh; omega)
    have z1 := f1.get h.lz (fun hh => by simp only [List.mem_cons, List.not_mem_nil, or_false] at hh; omega)
    have q2 : (M1.set r (.list (usD us')))[i + 5]? = some (.list (wsD xs)) := set_ne q1 (by omega)
    have p2 : (M1.set r (.list (usD us')))[i + 4]? = some (.list (tsD t xs)) := set_ne p1 (by omega)
    have p3 : ((M1.set r (.list (usD us'))).set (i + 5) (.list (wsD xs ++ [wD w])))[i + 4]? = some (.list (tsD t xs)) := set_ne p2 (by omega)
    have zl : (wsD xs).length < sizeLine := by rw [ws_len, sizeLine_eq]; omega
    have zt : (tsD t xs).length < sizeLine := by rw [ts_len, sizeLine_eq]; omega
    have ee : emD (.lst (usD us' ++ [.tup [wD w, tD t']])) = some false := emD_snoc (by omega)
    refine ⟨.val (wD w), .val .non, .val (tD t'), xs ++ [(w, t')], us', ((M1.set r (.list (usD us'))).set (i + 5) (.list (wsD xs ++ [wD w]))).set (i + 4) (.list (tsD t xs ++ [tD t'])), ?_, ?_⟩
    · have k0 : r_0 (LT sc t i r s2 s5 s6 s7 s8 s15 s16 s17 s18 s19 s20 s21) M = .nx (LT sc t i r s2 s5 s6 s7 s8 s15 s16 s17 s18 s19 (.val .non) s21) M1 := by
        unfold r_0 LT; simp [instOf_of bk.ins, methK2_ev, e1, kind_none]
      have k1' : r_1 (LT sc t i r s2 s5 s6 s7 s8 s15 s16 s17 s18 s19 (.val .non) s21) M1 = .nx (LT sc t i r s2 s5 s6 s7 s8 s15 s16 s17 s18 s19 (.val .non) s21) M1 := by
        have q1 : KK.eqV true (locM 20) (iteM (emM true (vwM (locM 13))) (cst .non) (cst (.str "notnow"))) (LT sc t i r s2 s5 s6 s7 s8 s15 s16 s17 s18 s19 (.val .non) s21) M1 = .ok (.bl false) (LT sc t i r s2 s5 s6 s7 s8 s15 s16 s17 s18 s19 (.val .non) s21) M1 :=
          eqV_same (x := .non) (by unfold LT; simp) (by unfold LT; simp [vw_of r1, ee]) rfl (by simp)
        unfold r_1; rw [ifM_ev, q1, ifK_f, skipM_ev]
      have k2 : r_2 (LT sc t i r s2 s5 s6 s7 s8 s15 s16 s17 s18 s19 (.val .non) s21) M1 = .nx (LT sc t i r s2 s5 s6 (.val (wD w)) s8 s15 s16 s17 s18 s19 (.val .non) (.val (tD t'))) (((M1.set r (.list (usD us'))).set (i + 5) (.list (wsD xs ++ [wD w]))).set (i + 4) (.list (tsD t xs ++ [tD t']))) := by
        unfold r_2 LT; simp [vw_of r1, ee, popOK_ev (lstAt_of r1), lstAt_of q2, lstAt_of p3, appK3_ev (lstAt_of q2) zl, appK3_ev (lstAt_of p3) zt]
      unfold b_r; simp only [seqM_ev, k0, seqK_nx, k1', k2]
    · have f2 : Fm [r, i + 5, i + 4] M1 (((M1.set r (.list (usD us'))).set (i + 5) (.list (wsD xs ++ [wD w]))).set (i + 4) (.list (tsD t xs ++ [tD t']))) := ((Fm.set.sub (by simp)).trans (Fm.set.sub (by simp))).trans (Fm.set.sub (by simp))
      have f : Fm [i + 1, i + 2, c, r, i + 5, i + 4] M (((M1.set r (.list (usD us'))).set (i + 5) (.list (wsD xs ++ [wD w]))).set (i + 4) (.list (tsD t xs ++ [tD t']))) := (f1.sub (by simp)).trans (f2.sub (by simp))
      refine ⟨h.dr.keep f (fun hh => by simp only [List.mem_cons, List.not_mem_nil, or_false] at hh; omega) (fun hh => by simp only [List.mem_cons, List.not_mem_nil, or_false] at hh; omega), h.ok, ?_, by rw [tsD_snoc, wsD_snoc]; exact k1.keep f2 (fun j hj => by simp only [List.mem_cons, List.not_mem_nil, or_false] at hj; omega), by rw [tsD_snoc]; exact set_eq p3, by rw [wsD_snoc]; exact set_ne (set_eq q2) (by omega), set_ne (set_ne (set_eq r1) (by omega)) (by omega), f2.get z1 (fun hh => by simp only [List.mem_cons, List.not_mem_nil, or_false] at hh; omega), h.i2, h.hc, h.hr, h.cr, by simp; omega, h.twl, h.tk f (fun j hj => by simp only [List.mem_cons, List.not_mem_nil, or_false] at hj; omega), h.dis, h.pw⟩
      have := h.pth
      rw [List.append_assoc]
      simpa using this
theorem p_y (h : Lp M t i c r xs us tw n) (hn : n ≤ 29) : ∃ tw' M', b_y (LT sc t i r s2 s5 s6 s7 s8 s15 s16 s17 s18 s19 s20 s21) M = .nx (LT sc t i r s2 s5 s6 s7 s8 s15 s16 s17 s18 s19 s20 s21) M' ∧ Lp M' t i c r xs us tw' (n + 1) := by
  have h2 := h.i2
  have h3 := h.hc
  have h4 := h.hr
  have h5 := h.cr
  have l := h.len
  have tl := h.twl
  have b1 := lt_of_some h.bk.ins
  have b2 := lt_of_some h.bk.lc
  have b3 := lt_of_some h.lr
  have b4 := lt_of_some h.lz
  obtain ⟨M1, e1, k1, f1, l1⟩ := p_copy h.ok (h.bk : Bk M i (i + 1) (i + 2) c (tD t :: _) _ _)
  have k1' : Bk M1 M.length (M.length + 4) (M.length + 5) (M.length + 6) (tsD t xs) (wsD xs) (usD us) := k1
  have p1 := f1.get h.lp (by simp)
  have q1 := f1.get h.lq (by simp)
  have r1 := f1.get h.lr (by simp)
  have z1 := f1.get h.lz (by simp)
  have zl : (tw.map (Tw.d t)).length < sizeLine := by rw [List.length_map, sizeLine_eq]; omega
  have a1 : (wsD xs).length ≤ sizeLine := size_le (by rw [ws_len]; omega)
  have a2 : (tsD t xs).length ≤ sizeLine := size_le (by rw [ts_len]; omega)
  have a3 : (usD us).length ≤ sizeLine := size_le (by rw [us_len]; omega)
  refine ⟨tw ++ [⟨M.length, M.length + 4, M.length + 5, M.length + 6, xs, us⟩], M1.set (i + 7) (.list (tw.map (Tw.d t) ++ [.tup [.obj M.length, .lst (wsD xs), .lst (tsD t xs), .lst (usD us)]])), ?_, ?_⟩
  · unfold b_y LT
    simp [instOf_of h.bk.ins, methK2_ev, e1, lstAt_of h.lz, vw_of p1, vw_of q1, vw_of r1, appK3_ev (lstAt_of z1) zl, a1, a2, a3]
  · have f2 : Fm [i + 7] M1 (M1.set (i + 7) (.list (tw.map (Tw.d t) ++ [.tup [.obj M.length, .lst (wsD xs), .lst (tsD t xs), .lst (usD us)]]))) := Fm.set
    have f : Fm [i + 7] M (M1.set (i + 7) (.list (tw.map (Tw.d t) ++ [.tup [.obj M.length, .lst (wsD xs), .lst (tsD t xs), .lst (usD us)]]))) := (f1.sub (by simp)).trans f2
    have nw : TwOk (M1.set (i + 7) (.list (tw.map (Tw.d t) ++ [.tup [.obj M.length, .lst (wsD xs), .lst (tsD t xs), .lst (usD us)]]))) t ⟨M.length, M.length + 4, M.length + 5, M.length + 6, xs, us⟩ :=
      ⟨k1'.keep f2 (fun j hj => by simp only [List.mem_cons, List.not_mem_nil, or_false] at hj; omega), h.oks.1, h.oks.2, h.cok, by show xs.length + us.length ≤ 30; omega⟩
    refine ⟨h.dr.keep f (fun hh => by simp only [List.mem_cons, List.not_mem_nil, or_false] at hh; omega) (fun hh => by simp only [List.mem_cons, List.not_mem_nil, or_false] at hh; omega), h.ok, h.pth, h.bk.keep f (fun j hj => by simp only [List.mem_cons, List.not_mem_nil, or_false] at hj; omega), f.get h.lp (fun hh => by simp only [List.mem_cons, List.not_mem_nil, or_false] at hh; omega), f.get h.lq (fun hh => by simp only [List.mem_cons, List.not_mem_nil, or_false] at hh; omega), f.get h.lr (fun hh => by simp only [List.mem_cons, List.not_mem_nil, or_false] at hh; omega), ?_, h.i2, h.hc, h.hr, h.cr, by omega, by simp; omega, ?_, ?_, ?_⟩
    · rw [List.map_append]; exact set_eq z1
    · intro τ hτ
      rcases List.mem_append.mp hτ with q | q
      · exact h.tk f (fun j hj => by simp only [List.mem_cons, List.not_mem_nil, or_false] at hj; omega) τ q
      · rw [List.mem_singleton.mp q]; exact nw
    · intro τ hτ k hk
      rcases List.mem_append.mp hτ with q | q
      · exact h.dis τ q k hk
      · rw [List.mem_singleton.mp q] at hk
        unfold Tw.ix at hk
        simp only [List.mem_cons, List.not_mem_nil, or_false] at hk
        omega
    · refine List.pairwise_append.mpr ⟨h.pw, by simp, fun τ hτ σ hσ k hk hk2 => ?_⟩
      rw [List.mem_singleton.mp hσ] at hk2
      have := (h.twk τ hτ).lt k hk
      unfold Tw.ix at hk2
      simp only [List.mem_cons, List.not_mem_nil, or_false] at hk2
      omega
theorem p_d (h : Lp M t i c r xs us tw n) (hn : n ≤ 29) : ∃ c' r' s7' s20' s21' xs' us' M', b_d (LT sc t i r s2 s5 s6 s7 s8 s15 s16 s17 s18 s19 s20 s21) M = .nx (LT sc t i r' s2 s5 s6 s7' s8 s15 s16 s17 s18 s19 s20' s21') M' ∧ Lp M' t i c' r' xs' us' tw (n + 1) := by
  obtain ⟨w, M1, e1, hw, d1⟩ := p_law_work h.cok h.dr
  have h := h.draw d1
  have h2 := h.i2
  have h3 := h.hc
  have h4 := h.hr
  have h5 := h.cr
  have l := h.len
  have b1 := lt_of_some h.bk.ins
  have b2 := lt_of_some h.bk.lc
  have b3 := lt_of_some h.lr
  have b4 := lt_of_some h.lz
  obtain ⟨pre, te, tl⟩ := tsD_last (xs := xs) (t := t)
  have bk := h.bk
  rw [te] at bk
  have lp := h.lp
  rw [te] at lp
  have lpM : M[i + 4]? = some (.list (pre ++ [tD (cur t xs)])) := by
    have := ‹Dw M M1›.fm.at_ (i + 4)
    rw [← this (by rw [← ‹Dw M M1›.len]; omega) (fun hh => by simp only [List.mem_cons, List.not_mem_nil, or_false] at hh; omega)]; exact lp
  have k0 : d_0 (LT sc t i r s2 s5 s6 s7 s8 s15 s16 s17 s18 s19 s20 s21) M = .nx (LT sc t i r s2 s5 s6 (.val (wD w)) s8 s15 s16 s17 s18 s19 s20 s21) M1 := by
    unfold d_0 LT; simp [vw_of lpM, e1]
  have k1 : d_1 (LT sc t i r s2 s5 s6 (.val (wD w)) s8 s15 s16 s17 s18 s19 s20 s21) M1 = .nx (LT sc t i r s2 s5 s6 (.val (wD w)) s8 s15 s16 s17 s18 s19 (.val (wordD (chg (cur t xs) w))) (.val (tD (laterT (cur t xs) (chg (cur t xs) w))))) M1 := by
    unfold d_1 LT; simp [vw_of lp, p_law_done h.cok hw]
  cases hc : chg (cur t xs) w with
  | ok t' =>
    have rw1 : wordD (Except.ok t' : Except Er Tb) = .non := rfl
    have rw2 : laterT (cur t xs) (Except.ok t' : Except Er Tb) = t' := rfl
    rw [hc, rw1, rw2] at k1
    obtain ⟨M2, e2, kb, f2, l2⟩ := p_do_ok bk h.cok hw hc (by omega) (by rw [ws_len]; omega)
    have k2 : d_2 (LT sc t i r s2 s5 s6 (.val (wD w)) s8 s15 s16 s17 s18 s19 (.val .non) (.val (tD t'))) M1 = .nx (LT sc t i r s2 s5 s6 (.val (wD w)) s8 s15 s16 s17 s18 s19 (.val .non) (.val (tD t'))) M2 := by
      unfold d_2 LT; simp [instOf_of bk.ins, methK2_ev, e2, kind_none]
    have q2 := f2.get h.lq (fun hh => by simp only [List.mem_cons, List.not_mem_nil, or_false] at hh; omega)
    have p2 := f2.get h.lp (fun hh => by simp only [List.mem_cons, List.not_mem_nil, or_false] at hh; omega)
    have z2 := f2.get h.lz (fun hh => by simp only [List.mem_cons, List.not_mem_nil, or_false] at hh; omega)
    have p3 : (M2.set (i + 5) (.list (wsD xs ++ [wD w])))[i + 4]? = some (.list (tsD t xs)) := set_ne p2 (by omega)
    have zl : (wsD xs).length < sizeLine := by rw [ws_len, sizeLine_eq]; omega
    have zt : (tsD t xs).length < sizeLine := by rw [ts_len, sizeLine_eq]; omega
    have le : ((M2.set (i + 5) (.list (wsD xs ++ [wD w]))).set (i + 4) (.list (tsD t xs ++ [tD t']))).length = M2.length := by simp
    have k3 : d_3 (LT sc t i r s2 s5 s6 (.val (wD w)) s8 s15 s16 s17 s18 s19 (.val .non) (.val (tD t'))) M2 = .nx (LT sc t i M2.length s2 s5 s6 (.val (wD w)) s8 s15 s16 s17 s18 s19 (.val .non) (.val (tD t'))) (((M2.set (i + 5) (.list (wsD xs ++ [wD w]))).set (i + 4) (.list (tsD t xs ++ [tD t']))) ++ [.list []]) := by
      unfold d_3 LT; simp [lstAt_of q2, lstAt_of p3, appK3_ev (lstAt_of q2) zl, appK3_ev (lstAt_of p3) zt]
    refine ⟨M1.length, M2.length, .val (wD w), .val .non, .val (tD t'), xs ++ [(w, t')], [], ((M2.set (i + 5) (.list (wsD xs ++ [wD w]))).set (i + 4) (.list (tsD t xs ++ [tD t']))) ++ [.list []], by unfold b_d; simp only [seqM_ev, k0, seqK_nx, k1, k2, k3], ?_⟩
    have f3 : Fm [i + 5, i + 4] M2 (((M2.set (i + 5) (.list (wsD xs ++ [wD w]))).set (i + 4) (.list (tsD t xs ++ [tD t']))) ++ [.list []]) := ((Fm.set.sub (by simp)).trans (Fm.set.sub (by simp))).trans Fm.push
    have f : Fm [i, i + 1, i + 2, i + 5, i + 4] M1 (((M2.set (i + 5) (.list (wsD xs ++ [wD w]))).set (i + 4) (.list (tsD t xs ++ [tD t']))) ++ [.list []]) := (f2.sub (by simp)).trans (f3.sub (by simp))
    have kb' : Bk M2 i (i + 1) (i + 2) M1.length (tsD t (xs ++ [(w, t')])) (wsD (xs ++ [(w, t')])) (usD []) := by
      rw [tsD_snoc, wsD_snoc, te, List.append_assoc]; exact kb
    refine ⟨h.dr.keep f (fun hh => by simp only [List.mem_cons, List.not_mem_nil, or_false] at hh; omega) (fun hh => by simp only [List.mem_cons, List.not_mem_nil, or_false] at hh; omega), h.ok, ?_, kb'.keep f3 (fun j hj => by simp only [List.mem_cons, List.not_mem_nil, or_false] at hj; omega), ?_, ?_, ?_, f3.get z2 (fun hh => by simp only [List.mem_cons, List.not_mem_nil, or_false] at hh; omega), h2, by omega, by omega, by omega, by simp; omega, by have := h.twl; omega, h.tk f (fun j hj => by simp only [List.mem_cons, List.not_mem_nil, or_false] at hj; omega), ?_, h.pw⟩
    · have := (Pth.app.mp h.pth).1
      rw [List.reverse_nil, List.append_nil]
      exact Pth.app.mpr ⟨this, hw, hc, True.intro⟩
    · rw [tsD_snoc]; exact app_lt (set_eq p3)
    · rw [wsD_snoc]; exact app_lt (set_ne (set_eq q2) (by omega))
    · have := List.getElem?_concat_length (l := (M2.set (i + 5) (.list (wsD xs ++ [wD w]))).set (i + 4) (.list (tsD t xs ++ [tD t']))) (a := MO.list [])
      rw [le] at this; exact this
    · intro τ hτ k hk
      have := h.dis τ hτ k hk
      have := (h.twk τ hτ).lt k hk
      omega
  | error e =>
    have e3 := p_do_err bk h.cok hw hc
    have ex : ∃ (xe : D) (ks : Str), (∀ (L : LL) (M : MM), cauK xnT (isE [1, 3, 10, 11, 21, 22, 24, 25, 26, 28, 29, 30, 33] [1, 3, 10, 11, 21, 22, 24, 25, 26, 28, 29, 30, 33]) (.err e L M) = .ok xe L M) ∧ (∀ M : MM, F__law_kind [xe] M = .ok (.str ks) M) ∧ wordD (.error e : Except Er Tb) = .str ks ∧ PyData.strOk ks = true := by
      rcases chg_err hc with rfl | rfl | rfl | rfl | rfl | rfl | rfl | rfl
      · exact ⟨.exc 26 [], "noland", fun _ _ => rfl, fun M => p_kind (by simp), rfl, by decide +kernel⟩
      · exact ⟨.exc 25 [], "nogood", fun _ _ => rfl, fun M => p_kind (by simp), rfl, by decide +kernel⟩
      · exact ⟨.exc 10 [], "name", fun _ _ => rfl, fun M => p_kind (by simp), rfl, by decide +kernel⟩
      · exact ⟨.exc 30 [], "twice", fun _ _ => rfl, fun M => p_kind (by simp), rfl, by decide +kernel⟩
      · exact ⟨.exc 21 [], "row", fun _ _ => rfl, fun M => p_kind (by simp), rfl, by decide +kernel⟩
      · exact ⟨.exc 3 [], "column", fun _ _ => rfl, fun M => p_kind (by simp), rfl, by decide +kernel⟩
      · exact ⟨.exc 29 [], "few", fun _ _ => rfl, fun M => p_kind (by simp), rfl, by decide +kernel⟩
      · exact ⟨.exc 33 [("most", .int 5)], "many", fun _ _ => rfl, fun M => p_kind (by simp), rfl, by decide +kernel⟩
    obtain ⟨xe, ks, ce, kd, wd, sk⟩ := ex
    have rw2 : laterT (cur t xs) (Except.error e : Except Er Tb) = cur t xs := rfl
    rw [hc, wd, rw2] at k1
    have k2 : d_2 (LT sc t i r s2 s5 s6 (.val (wD w)) s8 s15 s16 s17 s18 s19 (.val (.str ks)) (.val (tD (cur t xs)))) M1 = .nx (LT sc t i r s2 s5 s6 (.val (wD w)) s8 s15 s16 s17 s18 s19 (.val (.str ks)) (.val (tD (cur t xs)))) M1 := by
      unfold d_2 LT; simp [instOf_of bk.ins, methK2_ev, e3, ce, kd, sk]
    have k3 : d_3 (LT sc t i r s2 s5 s6 (.val (wD w)) s8 s15 s16 s17 s18 s19 (.val (.str ks)) (.val (tD (cur t xs)))) M1 = .nx (LT sc t i r s2 s5 s6 (.val (wD w)) s8 s15 s16 s17 s18 s19 (.val (.str ks)) (.val (tD (cur t xs)))) M1 := by
      unfold d_3 LT; simp
    exact ⟨c, r, .val (wD w), .val (.str ks), .val (tD (cur t xs)), xs, us, M1, by unfold b_d; simp only [seqM_ev, k0, seqK_nx, k1, k2, k3], h.more (by omega)⟩
/-- a lap -/
theorem p_lap (h : Lp M t i c r xs us tw n) (hn : n ≤ 29) : ∃ c' r' s7' s15' s20' s21' xs' us' tw' M', b_lap (LT sc t i r s2 s5 s6 s7 s8 s15 s16 s17 s18 s19 s20 s21) M = .nx (LT sc t i r' s2 s5 s6 s7' s8 s15' s16 s17 s18 s19 s20' s21') M' ∧ Lp M' t i c' r' xs' us' tw' (n + 1) := by
  obtain ⟨v, M1, e1, v0, v1, d1⟩ := take_ (n := 6) h.dr (by decide) (by decide)
  have h := h.draw d1
  have k0 : c_0 (LT sc t i r s2 s5 s6 s7 s8 s15 s16 s17 s18 s19 s20 s21) M = .nx (LT sc t i r s2 s5 s6 s7 s8 (.val (.int v)) s16 s17 s18 s19 s20 s21) M1 := by
    unfold c_0 LT; simp [e1]
  by_cases w0 : v = 0
  · subst w0
    obtain ⟨s20', xs', us', M2, e2, h2⟩ := p_u (sc := sc) (s2 := s2) (s5 := s5) (s6 := s6) (s7 := s7) (s8 := s8) (s15 := .val (.int 0)) (s16 := s16) (s17 := s17) (s18 := s18) (s19 := s19) (s20 := s20) (s21 := s21) h (by omega)
    refine ⟨c, r, s7, .val (.int 0), s20', s21, xs', us', tw, M2, ?_, h2.more (by omega)⟩
    have k1 : c_1 (LT sc t i r s2 s5 s6 s7 s8 (.val (.int 0)) s16 s17 s18 s19 s20 s21) M1 = .nx (LT sc t i r s2 s5 s6 s7 s8 (.val (.int 0)) s16 s17 s18 s19 s20' s21) M2 := by
      unfold c_1; rw [ifM_ev]
      have : binM eqD (locM 15) (cst (.int 0)) (LT sc t i r s2 s5 s6 s7 s8 (.val (.int 0)) s16 s17 s18 s19 s20 s21) M1 = .ok (.bl true) (LT sc t i r s2 s5 s6 s7 s8 (.val (.int 0)) s16 s17 s18 s19 s20 s21) M1 := by unfold LT; simp
      rw [this, ifK_t, e2]
    unfold b_lap; simp only [seqM_ev, k0, seqK_nx, k1, p_c2 h2 (by omega)]
  · have g0 : binM eqD (locM 15) (cst (.int 0)) (LT sc t i r s2 s5 s6 s7 s8 (.val (.int v)) s16 s17 s18 s19 s20 s21) M1 = .ok (.bl false) (LT sc t i r s2 s5 s6 s7 s8 (.val (.int v)) s16 s17 s18 s19 s20 s21) M1 := by
      have : (v == 0) = false := by simpa using w0
      unfold LT; simp [this]
    by_cases w1 : v = 1
    · subst w1
      obtain ⟨s7', s20', s21', xs', us', M2, e2, h2⟩ := p_r (sc := sc) (s2 := s2) (s5 := s5) (s6 := s6) (s7 := s7) (s8 := s8) (s15 := .val (.int 1)) (s16 := s16) (s17 := s17) (s18 := s18) (s19 := s19) (s20 := s20) (s21 := s21) h (by omega)
      refine ⟨c, r, s7', .val (.int 1), s20', s21', xs', us', tw, M2, ?_, h2.more (by omega)⟩
      have k1 : c_1 (LT sc t i r s2 s5 s6 s7 s8 (.val (.int 1)) s16 s17 s18 s19 s20 s21) M1 = .nx (LT sc t i r s2 s5 s6 s7' s8 (.val (.int 1)) s16 s17 s18 s19 s20' s21') M2 := by
        unfold c_1; rw [ifM_ev, g0, ifK_f, ifM_ev]
        have : binM eqD (locM 15) (cst (.int 1)) (LT sc t i r s2 s5 s6 s7 s8 (.val (.int 1)) s16 s17 s18 s19 s20 s21) M1 = .ok (.bl true) (LT sc t i r s2 s5 s6 s7 s8 (.val (.int 1)) s16 s17 s18 s19 s20 s21) M1 := by unfold LT; simp
        rw [this, ifK_t, e2]
      unfold b_lap; simp only [seqM_ev, k0, seqK_nx, k1, p_c2 h2 (by omega)]
    · have g1 : binM eqD (locM 15) (cst (.int 1)) (LT sc t i r s2 s5 s6 s7 s8 (.val (.int v)) s16 s17 s18 s19 s20 s21) M1 = .ok (.bl false) (LT sc t i r s2 s5 s6 s7 s8 (.val (.int v)) s16 s17 s18 s19 s20 s21) M1 := by
        have : (v == 1) = false := by simpa using w1
        unfold LT; simp [this]
      by_cases w2 : v = 2
      · subst w2
        obtain ⟨tw', M2, e2, h2⟩ := p_y (sc := sc) (s2 := s2) (s5 := s5) (s6 := s6) (s7 := s7) (s8 := s8) (s15 := .val (.int 2)) (s16 := s16) (s17 := s17) (s18 := s18) (s19 := s19) (s20 := s20) (s21 := s21) h hn
        refine ⟨c, r, s7, .val (.int 2), s20, s21, xs, us, tw', M2, ?_, h2⟩
        have k1 : c_1 (LT sc t i r s2 s5 s6 s7 s8 (.val (.int 2)) s16 s17 s18 s19 s20 s21) M1 = .nx (LT sc t i r s2 s5 s6 s7 s8 (.val (.int 2)) s16 s17 s18 s19 s20 s21) M2 := by
          unfold c_1; rw [ifM_ev, g0, ifK_f, ifM_ev, g1, ifK_f, ifM_ev]
          have : binM eqD (locM 15) (cst (.int 2)) (LT sc t i r s2 s5 s6 s7 s8 (.val (.int 2)) s16 s17 s18 s19 s20 s21) M1 = .ok (.bl true) (LT sc t i r s2 s5 s6 s7 s8 (.val (.int 2)) s16 s17 s18 s19 s20 s21) M1 := by unfold LT; simp
          rw [this, ifK_t, e2]
        unfold b_lap; simp only [seqM_ev, k0, seqK_nx, k1, p_c2 h2 (by omega)]
      · have g2 : binM eqD (locM 15) (cst (.int 2)) (LT sc t i r s2 s5 s6 s7 s8 (.val (.int v)) s16 s17 s18 s19 s20 s21) M1 = .ok (.bl false) (LT sc t i r s2 s5 s6 s7 s8 (.val (.int v)) s16 s17 s18 s19 s20 s21) M1 := by
          have : (v == 2) = false := by simpa using w2
          unfold LT; simp [this]
        obtain ⟨c', r', s7', s20', s21', xs', us', M2, e2, h2⟩ := p_d (sc := sc) (s2 := s2) (s5 := s5) (s6 := s6) (s7 := s7) (s8 := s8) (s15 := .val (.int v)) (s16 := s16) (s17 := s17) (s18 := s18) (s19 := s19) (s20 := s20) (s21 := s21) h hn
        refine ⟨c', r', s7', .val (.int v), s20', s21', xs', us', tw, M2, ?_, h2⟩
        have k1 : c_1 (LT sc t i r s2 s5 s6 s7 s8 (.val (.int v)) s16 s17 s18 s19 s20 s21) M1 = .nx (LT sc t i r' s2 s5 s6 s7' s8 (.val (.int v)) s16 s17 s18 s19 s20' s21') M2 := by
          unfold c_1; rw [ifM_ev, g0, ifK_f, ifM_ev, g1, ifK_f, ifM_ev, g2, ifK_f, e2]
        unfold b_lap; simp only [seqM_ev, k0, seqK_nx, k1, p_c2 h2 (by omega)]
end
end WK

/-! ## plain: a turn of k62's law -/
namespace WK
open KK PySem PySem.Spec PyProof.Rows L2
section
variable {sc : D} {t : Tb} {i c r n : Nat} {s2 s5 s6 s7 s8 s15 s16 s17 s18 s19 s20 s21 : Sl} {xs us : List (Wk × Tb)} {tw : List Tw} {M M' : MM}

theorem eqO_of2 {i j c : Nat} {F : MF} {ma mb : MX} {L : LL} {M M1 M2 : MM} {fs gs : List (Str × D)} {neg b : Bool} (h1 : ma L M = .ok (.obj i) L M1) (h2 : mb L M1 = .ok (.obj j) L M2) (h3 : M2[i]? = some (.inst c fs)) (h4 : M2[j]? = some (.inst c gs)) (h5 : F [.obj i, .obj j] M2 = .ok (.bl b) M2) :
    eqO neg c F ma mb L M = .ok (.bl (if neg then !b else b)) L M2 := by
  unfold eqO
  rw [h1, bind_ok, h2, bind_ok, instOf_of h3, instOf_of h4]
  simp only [h5]
/-- what stays while twins are looked at -/
structure Mn (M : MM) (t : Tb) (i c : Nat) (xs us : List (Wk × Tb)) : Prop where
  dr : Dr M
  ok : TOk t
  pth : Pth t (xs ++ us.reverse)
  bk : Bk M i (i + 1) (i + 2) c (tsD t xs) (wsD xs) (usD us)
  lq : M[i + 5]? = some (.list (wsD xs))
  i2 : 2 ≤ i
  hc : c = i + 3 ∨ i + 8 ≤ c
theorem Mn.keep {S : List Nat} (h : Mn M t i c xs us) (f : Fm S M M') (hS : ∀ j ∈ S, i + 8 ≤ j ∧ j ≠ c) : Mn M' t i c xs us := by
  have h1 := h.i2
  have h2 := h.hc
  exact ⟨h.dr.keep f (fun hh => by have := hS 0 hh; omega) (fun hh => by have := hS 1 hh; omega), h.ok, h.pth, h.bk.keep f (fun j hj => by have := hS j hj; omega), f.get h.lq (fun hh => by have := hS _ hh; omega), h.i2, h.hc⟩
theorem Lp.mn (h : Lp M t i c r xs us tw n) : Mn M t i c xs us := ⟨h.dr, h.ok, h.pth, h.bk, h.lq, h.i2, h.hc⟩
theorem Mn.oks (h : Mn M t i c xs us) : Oks xs := by
  have o := h.pth.oks h.ok
  exact fun x hx => o x (List.mem_append_left _ hx)
theorem p_w {τ : Tw} (h : Mn M t i c xs us) (k : TwOk M t τ) (dis : ∀ k ∈ τ.ix, i + 8 ≤ k ∧ k ≠ c) : ∃ M', b_w (LT sc t i r s2 s5 s6 s7 s8 s15 (.val (.obj τ.j)) (.val (.lst (wsD τ.xs))) (.val (.lst (tsD t τ.xs))) (.val (.lst (usD τ.us))) s20 s21) M = .nx (LT sc t i r s2 s5 s6 s7 s8 s15 (.val (.obj τ.j)) (.val (.lst (wsD τ.xs))) (.val (.lst (tsD t τ.xs))) (.val (.lst (usD τ.us))) s20 s21) M' ∧ Mn M' t i c xs us ∧ Fm [τ.a, τ.b, τ.c] M M' := by
  have ox := h.oks
  have dx := ws_dep ox
  have dk := ws_dep k.ox
  have d0 := dep_t h.ok
  have kl := k.len
  have q := p_eq (k.bk : Bk M τ.j τ.a τ.b τ.c (tD t :: _) _ _) (h.bk : Bk M i (i + 1) (i + 2) c (tD t :: _) _ _) (by omega) (by omega) (by omega) (by omega)
  rw [eqv_refl (by omega), Bool.true_and] at q
  have e1 : eqO false 60 F_Book___eq__ (locM 16) (locM 9) (LT sc t i r s2 s5 s6 s7 s8 s15 (.val (.obj τ.j)) (.val (.lst (wsD τ.xs))) (.val (.lst (tsD t τ.xs))) (.val (.lst (usD τ.us))) s20 s21) M = .ok (.bl (eqvs (wsD τ.xs) (wsD xs))) (LT sc t i r s2 s5 s6 s7 s8 s15 (.val (.obj τ.j)) (.val (.lst (wsD τ.xs))) (.val (.lst (tsD t τ.xs))) (.val (.lst (usD τ.us))) s20 s21) M := eqO_of rfl rfl k.bk.ins h.bk.ins q
  have e2 : KK.eqV false (locM 17) (locM 12) (LT sc t i r s2 s5 s6 s7 s8 s15 (.val (.obj τ.j)) (.val (.lst (wsD τ.xs))) (.val (.lst (tsD t τ.xs))) (.val (.lst (usD τ.us))) s20 s21) M = .ok (.bl (eqvs (wsD τ.xs) (wsD xs))) (LT sc t i r s2 s5 s6 s7 s8 s15 (.val (.obj τ.j)) (.val (.lst (wsD τ.xs))) (.val (.lst (tsD t τ.xs))) (.val (.lst (usD τ.us))) s20 s21) M := by
    unfold KK.eqV
    have g1 : locM 17 (LT sc t i r s2 s5 s6 s7 s8 s15 (.val (.obj τ.j)) (.val (.lst (wsD τ.xs))) (.val (.lst (tsD t τ.xs))) (.val (.lst (usD τ.us))) s20 s21) M = .ok (.lst (wsD τ.xs)) (LT sc t i r s2 s5 s6 s7 s8 s15 (.val (.obj τ.j)) (.val (.lst (wsD τ.xs))) (.val (.lst (tsD t τ.xs))) (.val (.lst (usD τ.us))) s20 s21) M := by unfold LT; simp
    have g2 : locM 12 (LT sc t i r s2 s5 s6 s7 s8 s15 (.val (.obj τ.j)) (.val (.lst (wsD τ.xs))) (.val (.lst (tsD t τ.xs))) (.val (.lst (usD τ.us))) s20 s21) M = .ok (.obj (i + 5)) (LT sc t i r s2 s5 s6 s7 s8 s15 (.val (.obj τ.j)) (.val (.lst (wsD τ.xs))) (.val (.lst (tsD t τ.xs))) (.val (.lst (usD τ.us))) s20 s21) M := by unfold LT; simp
    have g3 : vd M (.obj (i + 5)) = .lst (wsD xs) := by show vw M (.obj (i + 5)) = _; rw [vw_of h.lq]
    have g4 : vd M (.lst (wsD τ.xs)) = .lst (wsD τ.xs) := rfl
    rw [g1, bind_ok, g2, bind_ok, g3, g4, if_pos ⟨by simp; omega, by simp; omega⟩]
    simp
  obtain ⟨pre, te, tl⟩ := tsD_last (xs := τ.xs) (t := t)
  have bk := k.bk
  rw [te] at bk
  have b1 := p_table bk
  have b2 := p_journal bk
  have xi : ixD (.lst (tsD t τ.xs)) (.int (-1)) = some (tD (cur t τ.xs)) := by rw [te]; simp
  have s1 := same_tjb (M := M) (v := eqvs (wsD τ.xs) (wsD xs)) k.ot k.ox (by omega)
  unfold LT at e1 e2
  have k0 : w_0 (LT sc t i r s2 s5 s6 s7 s8 s15 (.val (.obj τ.j)) (.val (.lst (wsD τ.xs))) (.val (.lst (tsD t τ.xs))) (.val (.lst (usD τ.us))) s20 s21) M = .nx (LT sc t i r s2 s5 s6 s7 s8 s15 (.val (.obj τ.j)) (.val (.lst (wsD τ.xs))) (.val (.lst (tsD t τ.xs))) (.val (.lst (usD τ.us))) s20 s21) M := by
    unfold w_0 LT
    simp [instOf_of bk.ins, methK2_ev, b1, b2, e1, e2, xi, s1]
  have ue := us_em k.ou
  rcases List.eq_nil_or_concat τ.us with hu | ⟨us', x, hu⟩
  · rw [hu] at ue
    have ue' : emD (.lst (usD τ.us)) = some true := by rw [hu]; exact ue
    have k1 : w_1 (LT sc t i r s2 s5 s6 s7 s8 s15 (.val (.obj τ.j)) (.val (.lst (wsD τ.xs))) (.val (.lst (tsD t τ.xs))) (.val (.lst (usD τ.us))) s20 s21) M = .nx (LT sc t i r s2 s5 s6 s7 s8 s15 (.val (.obj τ.j)) (.val (.lst (wsD τ.xs))) (.val (.lst (tsD t τ.xs))) (.val (.lst (usD τ.us))) s20 s21) M := by
      unfold w_1 LT; simp [ue']
    exact ⟨M, by unfold b_w; simp only [seqM_ev, k0, seqK_nx, k1], h, Fm.refl⟩
  · obtain ⟨w, t'⟩ := x
    rw [List.concat_eq_append] at hu
    have ou := k.ou
    have bk2 := k.bk
    rw [hu, usD_snoc] at bk2
    have du := us_dep ou
    rw [hu, usD_snoc] at du
    have du' : depA (usD us' ++ [.tup [wD w, tD t']]) ≤ 5 := du
    have ue2 : emD (.lst (usD τ.us)) = some false := by rw [hu, usD_snoc]; exact emD_snoc (by omega)
    have ul : usD τ.us = usD us' ++ [.tup [wD w, tD t']] := by rw [hu, usD_snoc]
    obtain ⟨M2, e3, k3, f3, l3⟩ := p_redo bk2 (by omega) (by rw [ts_len]; omega) (by rw [ws_len]; omega)
    have c1 := p_table k3
    have c2 := p_journal k3
    have o2 : Oks (τ.xs ++ [(w, t')]) := fun p hp => by
      rcases List.mem_append.mp hp with q | q  -- 166
      · exact k.ox p q
      · rw [List.mem_singleton.mp q]; exact ou (w, t') (by rw [hu]; simp)
    have wt := ou (w, t') (by rw [hu]; simp)
    have sm := same_tj2 (M := M2) (a := t') (xs := τ.xs ++ [(w, t')]) wt.2 o2 (by simp; omega)
    rw [wsD_snoc] at sm
    have sm' : F__law_same [.lst [tD t', .lst (wsD τ.xs ++ [wD w])], .lst [tD t', .lst (wsD τ.xs ++ [wD w])]] M2 = .ok (.bl true) M2 := sm
    have ui : ixD (.lst (usD τ.us)) (.int (-1)) = some (.tup [wD w, tD t']) := by rw [ul]; simp
    have zl : (wsD τ.xs).length + 1 ≤ sizeLine := size_le (by rw [ws_len]; omega)
    refine ⟨M2, ?_, h.keep f3 fun j hj => dis j (by unfold Tw.ix; exact List.mem_cons_of_mem _ hj), f3⟩
    have k1 : w_1 (LT sc t i r s2 s5 s6 s7 s8 s15 (.val (.obj τ.j)) (.val (.lst (wsD τ.xs))) (.val (.lst (tsD t τ.xs))) (.val (.lst (usD τ.us))) s20 s21) M = .nx (LT sc t i r s2 s5 s6 s7 s8 s15 (.val (.obj τ.j)) (.val (.lst (wsD τ.xs))) (.val (.lst (tsD t τ.xs))) (.val (.lst (usD τ.us))) s20 s21) M2 := by
      unfold w_1 LT; simp [ue2, instOf_of bk.ins, instOf_of k3.ins, methK2_ev, e3, c1, c2, sm', zl, ui]
    unfold b_w; simp only [seqM_ev, k0, seqK_nx, k1]
/-- the twins -/
theorem p_t3 (h : Lp M t i c r xs us tw n) : ∃ s16' s17' s18' s19' M', t_3 (LT sc t i r s2 s5 s6 s7 s8 s15 s16 s17 s18 s19 s20 s21) M = .nx (LT sc t i r s2 s5 s6 s7 s8 s15 s16' s17' s18' s19' s20 s21) M' ∧ Mn M' t i c xs us ∧ i + 8 ≤ M'.length := by
  have h2 := h.i2
  have h3 := h.hc
  have m0 : locM 14 (LT sc t i r s2 s5 s6 s7 s8 s15 s16 s17 s18 s19 s20 s21) M = .ok (.obj (i + 7)) (LT sc t i r s2 s5 s6 s7 s8 s15 s16 s17 s18 s19 s20 s21) M := by unfold LT; simp
  obtain ⟨L', M', e, ⟨s16', s17', s18', s19', hL⟩, mn, lz9, _⟩ := forLO_ex (j := i + 7) (xs := tw.map (Tw.d t)) (g := gT 4 (gsC (gN 16) (gsC (gN 17) (gsC (gN 18) (gsC (gN 19) (gsN)))))) (b := b_w)
    (P := fun k L M => (∃ s16 s17 s18 s19, L = LT sc t i r s2 s5 s6 s7 s8 s15 s16 s17 s18 s19 s20 s21) ∧ Mn M t i c xs us ∧ M[i + 7]? = some (.list (tw.map (Tw.d t))) ∧ ∀ τ ∈ tw.drop k, TwOk M t τ)
    (fun k L M p => p.2.2.1) (fun k d hd L M p => by
      obtain ⟨⟨s16, s17, s18, s19, rfl⟩, mn, lz, tk⟩ := p
      rw [List.getElem?_map] at hd
      cases hτ : tw[k]? with
      | none => rw [hτ] at hd; cases hd
      | some τ =>
        rw [hτ] at hd
        cases hd
        have hk := lt_of_some hτ
        have ek : tw[k] = τ := by
          have := List.getElem?_eq_getElem hk
          rw [hτ] at this; exact (Option.some.inj this).symm
        have dk : tw.drop k = τ :: tw.drop (k + 1) := by rw [List.drop_eq_getElem_cons hk, ek]
        have mem : τ ∈ tw := List.mem_of_getElem? hτ
        have dis : ∀ k ∈ τ.ix, i + 8 ≤ k ∧ k ≠ c := fun k hk => ⟨(h.dis τ mem k hk).1, (h.dis τ mem k hk).2.1⟩
        obtain ⟨M2, e2, mn2, f2⟩ := p_w (r := r) (sc := sc) (s2 := s2) (s5 := s5) (s6 := s6) (s7 := s7) (s8 := s8) (s15 := s15) (s20 := s20) (s21 := s21) mn (tk τ (by rw [dk]; exact List.mem_cons_self ..)) dis
        have pw := h.pw.sublist (List.drop_sublist k tw)
        rw [dk] at pw
        refine ⟨_, _, M2, by unfold LT Tw.d; rfl, e2, ⟨.val (.obj τ.j), .val (.lst (wsD τ.xs)), .val (.lst (tsD t τ.xs)), .val (.lst (usD τ.us)), rfl⟩, mn2, f2.get lz (fun hh => ?_), fun σ hσ => (tk σ (by rw [dk]; exact List.mem_cons_of_mem _ hσ)).keep f2 fun x hx hx2 => (List.pairwise_cons.mp pw).1 σ hσ x (by unfold Tw.ix; exact List.mem_cons_of_mem _ hx) hx2⟩
        have := dis (i + 7) (by unfold Tw.ix; exact List.mem_cons_of_mem _ hh)
        omega) (tw.map (Tw.d t)).length 0 (LT sc t i r s2 s5 s6 s7 s8 s15 s16 s17 s18 s19 s20 s21) M (by omega) ⟨⟨s16, s17, s18, s19, rfl⟩, h.mn, h.lz, fun τ hτ => h.twk τ hτ⟩
  subst hL
  exact ⟨s16', s17', s18', s19', M', by unfold t_3; rw [forO_of m0 h.lz, e], mn, by have := lt_of_some lz9; omega⟩
/-- works done once more -/
theorem p_t5 {j k : Nat} (h : Mn M t i c xs us) (bk : Bk M j (j + 1) (j + 2) k (tsD t []) (wsD []) []) (hj : i + 8 ≤ j ∧ c < j) (hk : j < k) (l : xs.length ≤ 40) : ∃ s7' k' M', t_5 (LT sc t i r s2 s5 (.val (.obj j)) s7 s8 s15 s16 s17 s18 s19 s20 s21) M = .nx (LT sc t i r s2 s5 (.val (.obj j)) s7' s8 s15 s16 s17 s18 s19 s20 s21) M' ∧ Mn M' t i c xs us ∧ Bk M' j (j + 1) (j + 2) k' (tsD t xs) (wsD xs) [] ∧ Dr M' := by
  have h2 := h.i2
  have h3 := h.hc
  have m0 : locM 12 (LT sc t i r s2 s5 (.val (.obj j)) s7 s8 s15 s16 s17 s18 s19 s20 s21) M = .ok (.obj (i + 5)) (LT sc t i r s2 s5 (.val (.obj j)) s7 s8 s15 s16 s17 s18 s19 s20 s21) M := by unfold LT; simp
  have pt := (Pth.app.mp h.pth).1
  obtain ⟨L', M', e, ⟨s7', hL⟩, mn, k', hk', b'⟩ := forLO_ex (j := i + 5) (xs := wsD xs) (g := gN 7) (b := b_a)
    (P := fun m L M => (∃ s7, L = LT sc t i r s2 s5 (.val (.obj j)) s7 s8 s15 s16 s17 s18 s19 s20 s21) ∧ Mn M t i c xs us ∧ ∃ k, j < k ∧ Bk M j (j + 1) (j + 2) k (tsD t (xs.take m)) (wsD (xs.take m)) [])
    (fun m L M p => p.2.1.lq) (fun m d hd L M p => by
      obtain ⟨⟨s7, rfl⟩, mn, k, hk, bk⟩ := p
      unfold wsD at hd
      rw [List.getElem?_map] at hd
      cases hx : xs[m]? with
      | none => rw [hx] at hd; cases hd
      | some x =>
        rw [hx] at hd
        cases hd
        have hm := lt_of_some hx
        have ek : xs[m] = x := by
          have := List.getElem?_eq_getElem hm
          rw [hx] at this; exact (Option.some.inj this).symm
        have tk : xs.take (m + 1) = xs.take m ++ [x] := by rw [List.take_succ, hx]; rfl
        have sp : xs = xs.take m ++ x :: xs.drop (m + 1) := by
          conv => lhs; rw [← List.take_append_drop m xs, List.drop_eq_getElem_cons hm, ek]
        have p2 := pt
        rw [sp] at p2
        obtain ⟨p3, w3, c3, _⟩ := Pth.app.mp p2
        have ok3 := p3.cur_ok h.ok
        have tl : (xs.take m).length = m := by rw [List.length_take]; omega
        obtain ⟨pre, te, pl⟩ := tsD_last (xs := xs.take m) (t := t)
        rw [te] at bk
        obtain ⟨M2, e2, b2, f2, l2⟩ := p_do_ok bk ok3 w3 c3 (by omega) (by rw [ws_len]; omega)
        refine ⟨_, _, M2, rfl, ?_, ⟨.val (wD x.1), rfl⟩, mn.keep f2 (fun j hj => by simp only [List.mem_cons, List.not_mem_nil, or_false] at hj; omega), M.length, by have := lt_of_some bk.lc; omega, ?_⟩
        · unfold b_a LT; simp [instOf_of bk.ins, methK2_ev, e2]
        · rw [tk, tsD_snoc, wsD_snoc, te, List.append_assoc]; exact b2) (wsD xs).length 0 (LT sc t i r s2 s5 (.val (.obj j)) s7 s8 s15 s16 s17 s18 s19 s20 s21) M (by omega) ⟨⟨s7, rfl⟩, h, k, hk, bk⟩
  subst hL
  rw [ws_len, List.take_length] at b'
  exact ⟨s7', k', M', by unfold t_5; rw [forO_of m0 h.lq, e], mn, b', mn.dr⟩
end
end WK

/-! ## plain: k62's turns, beginning, end -/
namespace WK
open KK PySem PySem.Spec PyProof.Rows L2
theorem abs_int {i : Int} : ∃ k : Int, absD (.int i) = some (.int k) := ⟨_, rfl⟩
/-- the draws' state is laid -/
theorem p_begun {ns : List Int} {sc : D} (hs : items sc = some (ns.map D.int)) (hz : ns.length ≤ 1000) : ∃ M', F__law_begun [sc] [] = .ok (.obj 1) M' ∧ Dr M' := by
  have c1 : CPow 10 18 := by unfold CPow; decide
  have key1 : compM (itemsM (locM 0)) [2] (gN 2) (binM geD (un1 absD (locB 2)) (binM powD (cst (.int 10)) (cst (.int 18)))) (binM subD (un1 absD (locB 2)) (binM powD (cst (.int 10)) (cst (.int 18)))) [.val sc, .non, .non] [] =
      .ok ((ns.filter fun n => decide ((10 : Int) ^ (18 : Int).toNat ≤ if n < 0 then -n else n)).map fun n => D.int ((if n < 0 then -n else n) - (10 : Int) ^ (18 : Int).toNat)) [.val sc, .non, .non] [] :=
    comp_pure ns D.int _ _ (fun n => [.val sc, .non, .val (.int n)]) (by simp [hs]) rfl (size_le hz) fun n hn => ⟨rfl, by simp [c1], fun _ => by simp [c1], rfl, rfl⟩
  have key2 : ∀ (L : LL) (M : MM), L = [.val sc, .val (.obj 0), .non] → compM (itemsM (locM 0)) [2] (gN 2) yesM (binM modD (un1 intD (un1 absD (locB 2))) (cst (.int 2147483629))) L M =
      .ok (ns.map fun n => D.int ((if n < 0 then -n else n) % 2147483629)) L M := by
    rintro L M rfl
    exact comp_all ns D.int _ (fun n => [.val sc, .val (.obj 0), .val (.int n)]) (by simp [hs]) rfl (size_le hz) fun n hn => ⟨rfl, by simp, rfl, rfl⟩
  refine ⟨[.list ((ns.filter fun n => decide ((10 : Int) ^ (18 : Int).toNat ≤ if n < 0 then -n else n)).map fun n => D.int ((if n < 0 then -n else n) - (10 : Int) ^ (18 : Int).toNat)), .dict (drD (ns.map fun n => (if n < 0 then -n else n) % 2147483629) 0 0)], ?_, ⟨(ns.filter fun n => decide ((10 : Int) ^ (18 : Int).toNat ≤ if n < 0 then -n else n)).map fun n => (if n < 0 then -n else n) - (10 : Int) ^ (18 : Int).toNat, ns.map fun n => (if n < 0 then -n else n) % 2147483629, 0, 0, ?_, rfl⟩⟩
  · unfold F__law_begun defM m__law_begun ini
    simp only [List.map_cons, List.map_nil, List.length_cons, List.length_nil, List.cons_append, List.nil_append]
    have k1 : setM 1 (objX (compM (itemsM (locM 0)) [2] (gN 2) (binM geD (un1 absD (locB 2)) (binM powD (cst (.int 10)) (cst (.int 18)))) (binM subD (un1 absD (locB 2)) (binM powD (cst (.int 10)) (cst (.int 18)))))) [.val sc, .non, .non] [] = .nx [.val sc, .val (.obj 0), .non] [.list ((ns.filter fun n => decide ((10 : Int) ^ (18 : Int).toNat ≤ if n < 0 then -n else n)).map fun n => D.int ((if n < 0 then -n else n) - (10 : Int) ^ (18 : Int).toNat))] := by
      rw [setM_ev, objX_ev, key1]; rfl
    show outF (seqM _ _ [.val sc, .non, .non] []) = _
    rw [seqM_ev, k1, seqK_nx]
    simp [key2, drD]
  · simp

def LG (sc : D) (s2 s4 s5 s6 s7 s8 s9 s11 s12 s13 s14 s15 s16 s17 s18 s19 s20 s21 : Sl) : LL :=
  [.val sc, .val (.obj 1), s2, .non, s4, s5, s6, s7, s8, s9, .non, s11, s12, s13, s14, s15, s16, s17, s18, s19, s20, s21]
theorem forL_exB {P : Nat → LL → MM → Prop} {g : GD} {b : MS} {N : Nat} : ∀ (ds : List D) (k : Nat) (L : LL) (M : MM), k + ds.length = N → P k L M → (∀ d ∈ ds, ∀ k L M, k < N → P k L M → ∃ L1 L2 M2, g d L = some L1 ∧ b L1 M = .nx L2 M2 ∧ P (k + 1) L2 M2) → ∃ L' M', forL g b ds L M = .nx L' M' ∧ P N L' M'
  | [], k, L, M, e, h, _ => ⟨L, M, rfl, by rw [← e]; exact h⟩
  | d :: ds, k, L, M, e, h, st => by
    rw [List.length_cons] at e
    obtain ⟨L1, L2, M2, h1, h2, h3⟩ := st d (List.mem_cons_self ..) k L M (by omega) h
    obtain ⟨L', M', e', p⟩ := forL_exB ds (k + 1) L2 M2 (by omega) h3 fun d hd => st d (List.mem_cons_of_mem _ hd)
    exact ⟨L', M', by rw [forL_cons, h1, forK1_ev, h2, forK2_nx, e'], p⟩
def tFar : Tb := ⟨["aa"], ["bb"], [[1]], [1]⟩
theorem ok_far : TOk tFar := by
  refine ⟨by decide, by decide, by decide, by decide, by decide +kernel, by decide +kernel, by simp [tFar, Asc], by simp [tFar, Asc], by decide +kernel, rfl, by simp [tFar], by simp [tFar], rfl, by simp [tFar]⟩
theorem far_ne {t : Tb} (ok : TOk t) (hp : ∀ x ∈ t.la, x ∈ poolL) : eqv (tD tFar) (tD t) = false ∧ eqv (tD t) (tD tFar) = false := by
  have aa : ("aa" : Str) ∉ poolL := by decide +kernel
  have l1 := ok.l1
  obtain ⟨la, go, ro, ho⟩ := t
  cases la with
  | nil => simp at l1
  | cons x r =>
    have hx : x ≠ "aa" := fun e => aa (e ▸ hp x (List.mem_cons_self ..))
    have h1 : (x == ("aa" : Str)) = false := by simpa using hx
    have h2 : (("aa" : Str) == x) = false := by simpa using fun e => hx e.symm
    exact ⟨by simp [tD, tFar, h2], by simp [tD, tFar, h1]⟩
section
variable {sc : D} {M : MM} {s2 s4 s5 s6 s7 s8 s9 s11 s12 s13 s14 s15 s16 s17 s18 s19 s20 s21 : Sl}
theorem p_t7 {t : Tb} {i c r j a7 b7 c7 f a8 b8 c8 : Nat} {xs us : List (Wk × Tb)} (h : Mn M t i c xs us) (lw : xs.length ≤ 40) (bj : Bk M j a7 b7 c7 (tsD t xs) (wsD xs) []) (bf : Bk M f a8 b8 c8 [tD tFar] [] []) (hp : ∀ x ∈ t.la, x ∈ poolL) :
    ∃ M', t_7 (LT sc t i r s2 s5 (.val (.obj j)) s7 (.val (.obj f)) s15 s16 s17 s18 s19 s20 s21) M = .nx (LT sc t i r s2 s5 (.val (.obj j)) s7 (.val (.obj f)) s15 s16 s17 s18 s19 s20 s21) M' ∧ Dr M' := by
  have ox := h.oks
  have dx := ws_dep ox
  have d0 := dep_t h.ok
  have df := dep_t ok_far
  obtain ⟨n1, n2⟩ := far_ne h.ok hp
  have q1 := p_eq (bj : Bk M j a7 b7 c7 (tD t :: _) _ _) (h.bk : Bk M i (i + 1) (i + 2) c (tD t :: _) _ _) (by omega) (by omega) (by omega) (by omega)
  rw [eqv_refl (by omega), eqvs_refl (by omega)] at q1
  have q2 := p_eq bf (h.bk : Bk M i (i + 1) (i + 2) c (tD t :: _) _ _) (by omega) (by omega) (by simp) (by omega)
  rw [n1, Bool.false_and] at q2
  obtain ⟨M7, e7, bc, f7, l7⟩ := p_copy ok_far bf
  have h7 := h.keep f7 (fun j hj => nomatch hj)
  have q3 := p_eq (h7.bk : Bk M7 i (i + 1) (i + 2) c (tD t :: _) _ _) bc (by omega) (by omega) (by omega) (by simp)
  rw [n2, Bool.false_and] at q3
  obtain ⟨M8, e8, b8, f8, l8⟩ := p_make (M := M7) h.ok
  have h8 := h7.keep f8 (fun j hj => nomatch hj)
  have q4 := p_eq b8 (h8.bk : Bk M8 i (i + 1) (i + 2) c (tD t :: _) _ _) (by omega) (by omega) (by simp) (by omega)
  have em : eqvs [] (wsD xs) = (wsD xs).isEmpty := by cases wsD xs <;> simp
  rw [eqv_refl (by omega), Bool.true_and, em] at q4
  have e1 : eqO false 60 F_Book___eq__ (locM 6) (locM 9) (LT sc t i r s2 s5 (.val (.obj j)) s7 (.val (.obj f)) s15 s16 s17 s18 s19 s20 s21) M = .ok (.bl true) (LT sc t i r s2 s5 (.val (.obj j)) s7 (.val (.obj f)) s15 s16 s17 s18 s19 s20 s21) M := eqO_of rfl rfl bj.ins h.bk.ins q1
  have e2 : eqO false 60 F_Book___eq__ (locM 8) (locM 9) (LT sc t i r s2 s5 (.val (.obj j)) s7 (.val (.obj f)) s15 s16 s17 s18 s19 s20 s21) M = .ok (.bl false) (LT sc t i r s2 s5 (.val (.obj j)) s7 (.val (.obj f)) s15 s16 s17 s18 s19 s20 s21) M := eqO_of rfl rfl bf.ins h.bk.ins q2
  have e3 : eqO false 60 F_Book___eq__ (locM 9) (methM 60 "copy" F_Book_copy (locM 8) nilA) (LT sc t i r s2 s5 (.val (.obj j)) s7 (.val (.obj f)) s15 s16 s17 s18 s19 s20 s21) M = .ok (.bl false) (LT sc t i r s2 s5 (.val (.obj j)) s7 (.val (.obj f)) s15 s16 s17 s18 s19 s20 s21) M7 :=
    eqO_of2 (M1 := M) (i := i) (j := M.length) rfl (by unfold LT; simp [instOf_of bf.ins, methK2_ev, e7]) h7.bk.ins bc.ins q3
  have e4 : eqO false 60 F_Book___eq__ (mkM 60 F_Book___init__ (consA (locM 4) (nilA))) (locM 9) (LT sc t i r s2 s5 (.val (.obj j)) s7 (.val (.obj f)) s15 s16 s17 s18 s19 s20 s21) M7 = .ok (.bl (wsD xs).isEmpty) (LT sc t i r s2 s5 (.val (.obj j)) s7 (.val (.obj f)) s15 s16 s17 s18 s19 s20 s21) M8 :=
    eqO_of2 (M1 := M8) (i := M7.length) (j := i) (by unfold LT; simp [e8]) rfl b8.ins h8.bk.ins q4
  have s := same4 (M := M8) (v := (wsD xs).isEmpty)
  unfold LT at e1 e2 e3 e4
  refine ⟨M8, ?_, h8.dr⟩
  unfold t_7 LT
  simp [e1, e2, e3, e4, vw_of h8.lq, ws_em ox, s]
theorem p_turn (hd : Dr M) : ∃ s4' s5' s6' s7' s8' s9' s11' s12' s13' s14' s15' s16' s17' s18' s19' s20' s21' M', b_turn (LG sc s2 s4 s5 s6 s7 s8 s9 s11 s12 s13 s14 s15 s16 s17 s18 s19 s20 s21) M = .nx (LG sc s2 s4' s5' s6' s7' s8' s9' s11' s12' s13' s14' s15' s16' s17' s18' s19' s20' s21') M' ∧ Dr M' := by
  obtain ⟨t, M1, e1, ok, hp, _, d1⟩ := p_some_table hd
  have k0 : t_0 (LG sc s2 s4 s5 s6 s7 s8 s9 s11 s12 s13 s14 s15 s16 s17 s18 s19 s20 s21) M = .nx (LG sc s2 (.val (tD t)) s5 s6 s7 s8 s9 s11 s12 s13 s14 s15 s16 s17 s18 s19 s20 s21) M1 := by
    unfold t_0 LG; simp [e1]
  obtain ⟨M2, e2, bk, f2, l2⟩ := p_make (M := M1) ok
  have m1 := d1.dr.two
  have k1 : t_1 (LG sc s2 (.val (tD t)) s5 s6 s7 s8 s9 s11 s12 s13 s14 s15 s16 s17 s18 s19 s20 s21) M1 = .nx (LT sc t M1.length (M1.length + 6) s2 s5 s6 s7 s8 s15 s16 s17 s18 s19 s20 s21) (M2 ++ [.list [tD t], .list [], .list [], .list []]) := by
    unfold t_1 LG LT; simp [e2, l2]
  have f3 : Fm [] M2 (M2 ++ [.list [tD t], .list [], .list [], .list []]) := Fm.push
  have f3' : Fm [] M1 (M2 ++ [.list [tD t], .list [], .list [], .list []]) := f2.trans f3
  have lp : Lp (M2 ++ [.list [tD t], .list [], .list [], .list []]) t M1.length (M1.length + 3) (M1.length + 6) [] [] [] 0 := by
    refine ⟨d1.dr.keep f3' (by simp) (by simp), ok, True.intro, bk.keep f3 (fun j hj => (nomatch hj)), ?_, ?_, ?_, ?_, m1, .inl rfl, .inl rfl, by omega, by simp, by simp, (fun τ hτ => (nomatch hτ)), (fun τ hτ => (nomatch hτ)), List.Pairwise.nil⟩
    · rw [show M1.length + 4 = M2.length + 0 by omega, List.getElem?_append_right (by omega)]; simp [tsD]
    · rw [show M1.length + 5 = M2.length + 1 by omega, List.getElem?_append_right (by omega)]; simp [wsD]
    · rw [show M1.length + 6 = M2.length + 2 by omega, List.getElem?_append_right (by omega)]; simp [usD]
    · rw [show M1.length + 7 = M2.length + 3 by omega, List.getElem?_append_right (by omega)]; simp
  generalize (M2 ++ [MO.list [tD t], .list [], .list [], .list []]) = M3 at k1 lp
  generalize M1.length = i at *
  -- laps
  obtain ⟨v, Ma, ea, v0, v1, da⟩ := take_ (n := 8) lp.dr (by decide) (by decide)
  have lpa := lp.draw da
  obtain ⟨k, hk⟩ : ∃ k : Nat, (10 : Int) + v = (k : Nat) := ⟨(10 + v).toNat, by omega⟩
  have ri : rng1 (consA (binM addD (cst (.int 10)) (callM F__law_take (consA (locM 1) (consA (cst (.int 8)) (nilA))))) (nilA)) (LT sc t i (i + 6) s2 s5 s6 s7 s8 s15 s16 s17 s18 s19 s20 s21) M3 = .ok (rngD 0 k) (LT sc t i (i + 6) s2 s5 s6 s7 s8 s15 s16 s17 s18 s19 s20 s21) Ma :=
    rng1_of (j := (k : Nat)) (by unfold LT; simp [ea, hk]) (ok62_nat (by omega))
  have rl : (rngD 0 k).length = k := by unfold rngD; simp
  obtain ⟨L', M4, e4, c, r, t5, t7, t15, t20, t21, xs, us, tw, hL, lq⟩ := forL_exB (N := k) (P := fun m L M => ∃ c r s5 s7 s15 s20 s21 xs us tw, L = LT sc t i r s2 s5 s6 s7 s8 s15 s16 s17 s18 s19 s20 s21 ∧ Lp M t i c r xs us tw m) (g := gN 5) (b := b_lap) (rngD 0 k) 0 (LT sc t i (i + 6) s2 s5 s6 s7 s8 s15 s16 s17 s18 s19 s20 s21) Ma (by omega) ⟨_, _, _, _, _, _, _, _, _, _, rfl, lpa⟩ (fun x hx m L M hm h => by
      obtain ⟨c, r, s5, s7, s15, s20, s21, xs, us, tw, rfl, lq⟩ := h
      obtain ⟨c', r', s7', s15', s20', s21', xs', us', tw', M', e, lq'⟩ := p_lap (sc := sc) (s2 := s2) (s5 := .val x) (s6 := s6) (s7 := s7) (s8 := s8) (s15 := s15) (s16 := s16) (s17 := s17) (s18 := s18) (s19 := s19) (s20 := s20) (s21 := s21) lq (by omega)
      exact ⟨_, _, M', rfl, e, c', r', .val x, s7', s15', s20', s21', xs', us', tw', rfl, lq'⟩)
  subst hL
  have k2 : t_2 (LT sc t i (i + 6) s2 s5 s6 s7 s8 s15 s16 s17 s18 s19 s20 s21) M3 = .nx (LT sc t i r s2 t5 s6 t7 s8 t15 s16 s17 s18 s19 t20 t21) M4 := by
    unfold t_2; rw [forM_ev, ri, forK_ok, e4]
  obtain ⟨t16, t17, t18, t19, M5, k3, mn, len⟩ := p_t3 (sc := sc) (s2 := s2) (s5 := t5) (s6 := s6) (s7 := t7) (s8 := s8) (s15 := t15) (s16 := s16) (s17 := s17) (s18 := s18) (s19 := s19) (s20 := t20) (s21 := t21) lq
  obtain ⟨M6, e6, b6, f6, l6⟩ := p_make (M := M5) ok
  have mn6 := mn.keep f6 (fun j hj => nomatch hj)
  have k4 : t_4 (LT sc t i r s2 t5 s6 t7 s8 t15 t16 t17 t18 t19 t20 t21) M5 = .nx (LT sc t i r s2 t5 (.val (.obj M5.length)) t7 s8 t15 t16 t17 t18 t19 t20 t21) M6 := by
    unfold t_4 LT; simp [e6]
  have cl := lt_of_some mn.bk.lc
  have ll := lq.len
  obtain ⟨t7', k', M7, k5, mn7, b7, _⟩ := p_t5 (sc := sc) (r := r) (s2 := s2) (s5 := t5) (s7 := t7) (s8 := s8) (s15 := t15) (s16 := t16) (s17 := t17) (s18 := t18) (s19 := t19) (s20 := t20) (s21 := t21) mn6 b6 ⟨len, cl⟩ (by omega) (by omega)
  obtain ⟨M8, e8, b8, f8, l8⟩ := p_make (M := M7) ok_far
  have mn8 := mn7.keep f8 (fun j hj => nomatch hj)
  have dF : tD tFar = .tup [.str "table", .tup [.str "aa"], .tup [.str "bb"], .tup [.tup [.int 1]], .tup [.int 1]] := rfl
  have e8' := e8
  rw [dF] at e8'
  have k6 : t_6 (LT sc t i r s2 t5 (.val (.obj M5.length)) t7' s8 t15 t16 t17 t18 t19 t20 t21) M7 = .nx (LT sc t i r s2 t5 (.val (.obj M5.length)) t7' (.val (.obj M7.length)) t15 t16 t17 t18 t19 t20 t21) M8 := by
    unfold t_6 LT; simp [e8']
  obtain ⟨M9, k7, d9⟩ := p_t7 (sc := sc) (s2 := s2) (s5 := t5) (s7 := t7') (s15 := t15) (s16 := t16) (s17 := t17) (s18 := t18) (s19 := t19) (s20 := t20) (s21 := t21) (r := r) mn8 (by omega) (b7.keep f8 (fun j hj => nomatch hj)) b8 hp
  exact ⟨_, _, _, _, _, _, _, _, _, _, _, _, _, _, _, _, _, M9, by unfold b_turn; simp only [seqM_ev, k0, seqK_nx, k1, k2, k3, k4, k5, k6, k7]; rfl, d9⟩
end
/-! ### the last books -/
def tOne : Tb := ⟨["north"], ["wine"], [[5]], [9]⟩
theorem ok_one : TOk tOne := by
  refine ⟨by decide, by decide, by decide, by decide, by decide +kernel, by decide +kernel, by simp [tOne, Asc], by simp [tOne, Asc], by decide +kernel, rfl, by simp [tOne], by simp [tOne], rfl, by simp [tOne]⟩
theorem one_same : chg tOne (.cost "north" "wine" 5) = .ok tOne := by rfl
section
variable {sc : D} {M : MM} {s2 s4 s5 s6 s7 s8 s9 s11 s12 s13 s14 s15 s16 s17 s18 s19 s20 s21 : Sl}
theorem p_end : ∃ M', seqM l_2 (seqM l_3 (seqM l_4 l_5)) (LG sc s2 s4 s5 s6 s7 s8 s9 s11 s12 s13 s14 s15 s16 s17 s18 s19 s20 s21) M = .ret (.bl true) M' := by
  have dO : tD tOne = .tup [.str "table", .tup [.str "north"], .tup [.str "wine"], .tup [.tup [.int 5]], .tup [.int 9]] := rfl
  have k2 : l_2 (LG sc s2 s4 s5 s6 s7 s8 s9 s11 s12 s13 s14 s15 s16 s17 s18 s19 s20 s21) M = .nx ((LG sc s2 s4 s5 s6 s7 s8 s9 s11 s12 s13 s14 s15 s16 s17 s18 s19 s20 s21).set 3 (.val (tD tOne))) M := by
    rw [dO]; unfold l_2 LG; simp
  obtain ⟨M2, e2, b2, f2, l2⟩ := p_make (M := M) ok_one
  obtain ⟨M3, e3, b3, f3, l3⟩ := p_make (M := M2) ok_one
  have k3 : l_3 ((LG sc s2 s4 s5 s6 s7 s8 s9 s11 s12 s13 s14 s15 s16 s17 s18 s19 s20 s21).set 3 (.val (tD tOne))) M = .nx ((((LG sc s2 s4 s5 s6 s7 s8 s9 s11 s12 s13 s14 s15 s16 s17 s18 s19 s20 s21).set 3 (.val (tD tOne))).set 9 (.val (.obj M.length))).set 10 (.val (.obj M2.length))) M3 := by
    unfold l_3 LG; simp [e2, e3]
  have nm : ∀ x ∈ (["north", "wine"] : List Str), isNm x = true := by decide +kernel
  have wk : WOk (.cost "north" "wine" 5) := ⟨nm "north" (by simp), nm "wine" (by simp), by unfold nOk; decide⟩
  have b2' := b2.keep f3 (fun j hj => nomatch hj)
  obtain ⟨M4, e4, b4, f4, l4⟩ := p_do_ok (ts := []) b2' ok_one wk one_same (by simp) (by simp)
  have wd : wD (.cost "north" "wine" 5) = .tup [.str "cost", .str "north", .str "wine", .int 5] := rfl
  have b3' := b3.keep f4 (fun j hj => by simp only [List.mem_cons, List.not_mem_nil, or_false] at hj; omega)
  have tb := p_table (ts := [tD tOne]) b4
  have j4 := p_journal b4
  have j3 := p_journal b3'
  have dO5 := dep_t ok_one
  have dw := dep_w wk
  have q := p_eq (b4 : Bk M4 M.length (M.length + 1) (M.length + 2) M3.length (tD tOne :: [tD tOne]) _ _) (b3' : Bk M4 M2.length (M2.length + 1) (M2.length + 2) (M2.length + 3) (tD tOne :: []) _ _) (by omega) (by omega) (by simp; omega) (by simp)
  have q0 : eqvs ([] ++ [wD (.cost "north" "wine" 5)]) [] = false := by simp
  rw [q0, Bool.and_false] at q
  rw [wd] at e4 j4
  have k4 : l_4 ((((LG sc s2 s4 s5 s6 s7 s8 s9 s11 s12 s13 s14 s15 s16 s17 s18 s19 s20 s21).set 3 (.val (tD tOne))).set 9 (.val (.obj M.length))).set 10 (.val (.obj M2.length))) M3 = .nx ((((LG sc s2 s4 s5 s6 s7 s8 s9 s11 s12 s13 s14 s15 s16 s17 s18 s19 s20 s21).set 3 (.val (tD tOne))).set 9 (.val (.obj M.length))).set 10 (.val (.obj M2.length))) M4 := by
    unfold l_4 LG; simp [instOf_of b2'.ins, methK2_ev, e4]
  have eo : eqO false 60 F_Book___eq__ (locM 9) (locM 10) ((((LG sc s2 s4 s5 s6 s7 s8 s9 s11 s12 s13 s14 s15 s16 s17 s18 s19 s20 s21).set 3 (.val (tD tOne))).set 9 (.val (.obj M.length))).set 10 (.val (.obj M2.length))) M4 = .ok (.bl false) ((((LG sc s2 s4 s5 s6 s7 s8 s9 s11 s12 s13 s14 s15 s16 s17 s18 s19 s20 s21).set 3 (.val (tD tOne))).set 9 (.val (.obj M.length))).set 10 (.val (.obj M2.length))) M4 := eqO_of rfl rfl b4.ins b3'.ins q
  have sm : F__law_same [.lst [.bl true, .bl false, .lst [.tup [.str "cost", .str "north", .str "wine", .int 5]], .lst []], .lst [.bl true, .bl false, .lst [.tup [.str "cost", .str "north", .str "wine", .int 5]], .lst []]] M4 = .ok (.bl true) M4 := by
    refine p_sameM (x := .lst [.bl true, .bl false, .lst [.tup [.str "cost", .str "north", .str "wine", .int 5]], .lst []]) rfl rfl ⟨_, rfl⟩ ?_ ?_ ?_
    · rw [wd] at dw; simp
    · have := sh_w wk
      rw [wd] at this
      simp only [shD_lst, shA_cons, shA_nil, shD_bl, this, Bool.and_self]
    · have := sz_w wk
      rw [wd] at this
      simp only [szD_lst, szA_cons, szA_nil, sizeLine_eq, szD_bl]; omega
  have eqq : eqD (tD tOne) (tD tOne) = some (.bl true) := by
    have := eqv_refl (d := tD tOne) (by omega)
    rw [dO] at this ⊢
    simp [this]
  have k5 : l_5 ((((LG sc s2 s4 s5 s6 s7 s8 s9 s11 s12 s13 s14 s15 s16 s17 s18 s19 s20 s21).set 3 (.val (tD tOne))).set 9 (.val (.obj M.length))).set 10 (.val (.obj M2.length))) M4 = .ret (.bl true) M4 := by
    unfold LG at eo
    simp only [List.set_cons_succ, List.set_cons_zero] at eo
    simp only [List.nil_append] at j4
    unfold l_5 LG
    simp [instOf_of b4.ins, instOf_of b3'.ins, methK2_ev, tb, j4, j3, eo, sm, eqq]
  refine ⟨M4, ?_⟩
  simp only [seqM_ev, k2, seqK_nx, k3, k4, k5]
end
theorem plain62 : ∀ (ns : List Int) (d : D), ns.length ≤ 63 → (∀ z ∈ ns, Builtin.Int.intBits z ≤ 1048576) → d = .lst (ns.map D.int) ∨ d = .kl (ns.map D.int) → ∃ M', F_law [d] [] = .ok (.bl true) M' := by
  intro ns d hl _ hd
  have hi : items d = some (ns.map D.int) := by rcases hd with rfl | rfl <;> rfl
  have hlen : lenD d = some (.int (ns.length : Nat)) := by rcases hd with rfl | rfl <;> simp
  obtain ⟨M1, e1, dr1⟩ := p_begun hi (by omega)
  have k0 : l_0 [.val d, .non, .non, .non, .non, .non, .non, .non, .non, .non, .non, .non, .non, .non, .non, .non, .non, .non, .non, .non, .non, .non] [] = .nx (LG d .non .non .non .non .non .non .non .non .non .non .non .non .non .non .non .non .non .non) M1 := by
    unfold l_0 LG; simp [e1]
  have k1 : ∃ s2 s4 s5 s6 s7 s8 s9 s11 s12 s13 s14 s15 s16 s17 s18 s19 s20 s21 M2, l_1 (LG d .non .non .non .non .non .non .non .non .non .non .non .non .non .non .non .non .non .non) M1 = .nx (LG d s2 s4 s5 s6 s7 s8 s9 s11 s12 s13 s14 s15 s16 s17 s18 s19 s20 s21) M2 := by
    have hk : ∃ k : Nat, k ≤ 900 ∧ (2 : Int) + (if (5 : Int) < ns.length then 5 else (ns.length : Int)) = (k : Nat) := ⟨(2 + (if (5 : Int) < ns.length then 5 else (ns.length : Int))).toNat, by split <;> omega, by split <;> omega⟩
    obtain ⟨k, k9, hk⟩ := hk
    have ri : rng1 (consA (binM addD (cst (.int 2)) (binM minD (un1 lenD (locB 0)) (cst (.int 5)))) (nilA)) (LG d .non .non .non .non .non .non .non .non .non .non .non .non .non .non .non .non .non .non) M1 = .ok (rngD 0 k) (LG d .non .non .non .non .non .non .non .non .non .non .non .non .non .non .non .non .non .non) M1 :=
      rng1_of (j := (k : Nat)) (by unfold LG; simp [hlen, hk]) (ok62_nat k9)
    obtain ⟨L', M', e, s2, s4, s5, s6, s7, s8, s9, s11, s12, s13, s14, s15, s16, s17, s18, s19, s20, s21, hL, _⟩ := forL_ex (P := fun L M => ∃ s2 s4 s5 s6 s7 s8 s9 s11 s12 s13 s14 s15 s16 s17 s18 s19 s20 s21, L = LG d s2 s4 s5 s6 s7 s8 s9 s11 s12 s13 s14 s15 s16 s17 s18 s19 s20 s21 ∧ Dr M) (g := gN 2) (b := b_turn) (rngD 0 k) (LG d .non .non .non .non .non .non .non .non .non .non .non .non .non .non .non .non .non .non) M1 ⟨_, _, _, _, _, _, _, _, _, _, _, _, _, _, _, _, _, _, rfl, dr1⟩ fun x hx L M h => by
      obtain ⟨s2, s4, s5, s6, s7, s8, s9, s11, s12, s13, s14, s15, s16, s17, s18, s19, s20, s21, rfl, dr⟩ := h
      obtain ⟨u4, u5, u6, u7, u8, u9, u11, u12, u13, u14, u15, u16, u17, u18, u19, u20, u21, M', e, q1⟩ := p_turn (sc := d) (s2 := .val x) (s4 := s4) (s5 := s5) (s6 := s6) (s7 := s7) (s8 := s8) (s9 := s9) (s11 := s11) (s12 := s12) (s13 := s13) (s14 := s14) (s15 := s15) (s16 := s16) (s17 := s17) (s18 := s18) (s19 := s19) (s20 := s20) (s21 := s21) dr
      exact ⟨_, _, _, rfl, e, .val x, u4, u5, u6, u7, u8, u9, u11, u12, u13, u14, u15, u16, u17, u18, u19, u20, u21, rfl, q1⟩
    refine ⟨s2, s4, s5, s6, s7, s8, s9, s11, s12, s13, s14, s15, s16, s17, s18, s19, s20, s21, M', ?_⟩
    unfold l_1
    rw [forM_ev, ri, forK_ok, e, hL]
  obtain ⟨s2, s4, s5, s6, s7, s8, s9, s11, s12, s13, s14, s15, s16, s17, s18, s19, s20, s21, M2, k1⟩ := k1
  obtain ⟨M3, ke⟩ := p_end (sc := d) (s2 := s2) (s4 := s4) (s5 := s5) (s6 := s6) (s7 := s7) (s8 := s8) (s9 := s9) (s11 := s11) (s12 := s12) (s13 := s13) (s14 := s14) (s15 := s15) (s16 := s16) (s17 := s17) (s18 := s18) (s19 := s19) (s20 := s20) (s21 := s21) (M := M2)
  refine ⟨M3, ?_⟩
  unfold F_law defM ini
  rw [m_law_eq]
  show outF (seqM l_0 _ [.val d, .non, .non, .non, .non, .non, .non, .non, .non, .non, .non, .non, .non, .non, .non, .non, .non, .non, .non, .non, .non, .non] []) = _
  rw [seqM_ev, k0, seqK_nx, seqM_ev, k1, seqK_nx, ke]
  rfl
end WK

namespace WK
open KK PySem PySem.Spec PyProof.Rows L2
/-! ### the head's facts -/
def cN (i : Nat) : Str := if i = 1 then "TradeError" else if i = 3 then "BadColumn" else if i = 10 then "BadName" else if i = 11 then "BadNumber" else if i = 21 then "BadRow" else if i = 22 then "BadTable" else if i = 24 then "BadWork" else if i = 25 then "NoGood" else if i = 26 then "NoLand" else if i = 28 then "NotNow" else if i = 29 then "TooFew" else if i = 30 then "Twice" else if i = 33 then "TooMany" else if i = 60 then "Book" else "_"
def fN (i : Nat) : Str × Option Str := if i = 17 then ("is_name", none) else if i = 18 then ("is_number", none) else if i = 19 then ("is_word", none) else if i = 20 then ("is_row", none) else if i = 21 then ("are_ascending", none) else if i = 22 then ("are_numbers", none) else if i = 26 then ("are_names", none) else if i = 27 then ("is_table", none) else if i = 28 then ("check_table", none) else if i = 29 then ("check_land", none) else if i = 30 then ("check_good", none) else if i = 32 then ("check_number", none) else if i = 33 then ("put", none) else if i = 34 then ("put_in", none) else if i = 35 then ("with_cost", none) else if i = 36 then ("with_hours", none) else if i = 37 then ("with_land", none) else if i = 38 then ("with_good", none) else if i = 39 then ("part_of", none) else if i = 41 then ("are_costs", none) else if i = 42 then ("is_work", none) else if i = 43 then ("without", none) else if i = 44 then ("less_by", none) else if i = 45 then ("changed_by", none) else if i = 300 then ("Book", some "__init__") else if i = 301 then ("Book", some "__eq__") else if i = 302 then ("Book", some "do") else if i = 303 then ("Book", some "table") else if i = 304 then ("Book", some "beginning") else if i = 305 then ("Book", some "journal") else if i = 306 then ("Book", some "undo") else if i = 307 then ("Book", some "redo") else if i = 308 then ("Book", some "copy") else if i = 48 then ("_law_begun", none) else if i = 49 then ("_law_mixed", none) else if i = 50 then ("_law_take", none) else if i = 51 then ("_law_pick", none) else if i = 52 then ("_law_shuffled", none) else if i = 54 then ("_law_lot_of", none) else if i = 55 then ("_law_lands", none) else if i = 56 then ("_law_goods", none) else if i = 57 then ("_law_table", none) else if i = 58 then ("_law_some_table", none) else if i = 59 then ("_law_same", none) else if i = 60 then ("_law_put", none) else if i = 61 then ("_law_left", none) else if i = 62 then ("_law_done", none) else if i = 63 then ("_law_kind", none) else if i = 64 then ("_law_work", none) else if i = 65 then ("law", none) else if i = 53 then ("_law_caught", none) else if i = 213 then ("TooMany", some "__init__") else ("_", none)
def caK (K : PySem.W.Frag) (i : Nat) : Addr := He.ga K (cN i)
def faK (K : PySem.W.Frag) (i : Nat) : Addr := He.fAd K (fN i)
def dfs : List He.DefD := ([dD ("is_name", none) "is_name" "is_name" (top 17), dD ("is_number", none) "is_number" "is_number" (top 18), dD ("is_word", none) "is_word" "is_word" (top 19), dD ("is_row", none) "is_row" "is_row" (top 20), dD ("are_ascending", none) "are_ascending" "are_ascending" (top 21), dD ("are_numbers", none) "are_numbers" "are_numbers" (top 22), dD ("are_names", none) "are_names" "are_names" (top 26), dD ("is_table", none) "is_table" "is_table" (top 27), dD ("check_table", none) "check_table" "check_table" (top 28), dD ("check_land", none) "check_land" "check_land" (top 29), dD ("check_good", none) "check_good" "check_good" (top 30), dD ("check_number", none) "check_number" "check_number" (top 32), dD ("put", none) "put" "put" (top 33), dD ("put_in", none) "put_in" "put_in" (top 34), dD ("with_cost", none) "with_cost" "with_cost" (top 35), dD ("with_hours", none) "with_hours" "with_hours" (top 36), dD ("with_land", none) "with_land" "with_land" (top 37), dD ("with_good", none) "with_good" "with_good" (top 38), dD ("part_of", none) "part_of" "part_of" (top 39), dD ("are_costs", none) "are_costs" "are_costs" (top 41), dD ("is_work", none) "is_work" "is_work" (top 42), dD ("without", none) "without" "without" (top 43), dD ("less_by", none) "less_by" "less_by" (top 44), dD ("changed_by", none) "changed_by" "changed_by" (top 45), dD ("Book", some "__init__") "__init__" "Book.__init__" (mth 46 0), dD ("Book", some "__eq__") "__eq__" "Book.__eq__" (mth 46 1), dD ("Book", some "do") "do" "Book.do" (mth 46 2), dD ("Book", some "table") "table" "Book.table" (mth 46 3), dD ("Book", some "beginning") "beginning" "Book.beginning" (mth 46 4), dD ("Book", some "journal") "journal" "Book.journal" (mth 46 5), dD ("Book", some "undo") "undo" "Book.undo" (mth 46 6), dD ("Book", some "redo") "redo" "Book.redo" (mth 46 7), dD ("Book", some "copy") "copy" "Book.copy" (mth 46 8), dD ("_law_begun", none) "_law_begun" "_law_begun" (top 48), dD ("_law_mixed", none) "_law_mixed" "_law_mixed" (top 49), dD ("_law_take", none) "_law_take" "_law_take" (top 50), dD ("_law_pick", none) "_law_pick" "_law_pick" (top 51), dD ("_law_shuffled", none) "_law_shuffled" "_law_shuffled" (top 52), dD ("_law_lot_of", none) "_law_lot_of" "_law_lot_of" (top 54), dD ("_law_lands", none) "_law_lands" "_law_lands" (top 55)] : List He.DefD) ++ ([dD ("_law_goods", none) "_law_goods" "_law_goods" (top 56), dD ("_law_table", none) "_law_table" "_law_table" (top 57), dD ("_law_some_table", none) "_law_some_table" "_law_some_table" (top 58), dD ("_law_same", none) "_law_same" "_law_same" (top 59), dD ("_law_put", none) "_law_put" "_law_put" (top 60), dD ("_law_left", none) "_law_left" "_law_left" (top 61), dD ("_law_done", none) "_law_done" "_law_done" (top 62), dD ("_law_kind", none) "_law_kind" "_law_kind" (top 63), dD ("_law_work", none) "_law_work" "_law_work" (top 64), dD ("law", none) "law" "law" (top 65), dD ("_law_caught", none) "_law_caught" "_law_caught" (top 53)] : List He.DefD)
def sfs : List Sup := ([⟨("TooMany", some "__init__"), mth 13 0⟩] : List Sup)
def tfs : List He.Defn := ([("law", none)] : List He.Defn)
def chs : List (PySem.W.Frag → Bool) := ([fun K => He.Fa.ok K (.str "LETTERS" "abcdefghijklmnopqrstuvwxyz"), fun K => He.Fa.ok K (.free "all"), fun K => He.Fa.ok K (.free "isinstance"), fun K => He.Fa.ok K (.free "str"), fun K => He.Fa.ok K (.free "len"), fun K => He.Fa.ok K (.glo "KEPT"), tupX "KEPT" ["always", "beaten", "borne", "cannot", "cost", "done", "drop", "end", "entry", "gain", "good", "goods", "greatest", "hours", "journal", "land", "leave", "none", "over", "pattern", "prices", "redo", "table", "undo", "wages", "what", "worths"], fun K => He.Fa.ok K (.free "bool"), fun K => He.Fa.ok K (.free "int"), fun K => He.Fa.ok K (.free "tuple"), fun K => He.Fa.ok K (.free "range"), fun K => He.Fa.ok K (.int "MOST" (5)), fun K => He.Fa.ok K (.int "HIGH" (1000000)), fun K => He.Fa.ok K (.free "any"), fun K => He.Fa.ok K (.glo "BadTable"), fun K => He.Fa.ok K (.exc "BadTable"), fun K => He.Fa.ok K (.glo "NoLand"), fun K => He.Fa.ok K (.exc "NoLand"), fun K => He.Fa.ok K (.glo "NoGood"), fun K => He.Fa.ok K (.exc "NoGood"), fun K => He.Fa.ok K (.glo "BadNumber"), fun K => He.Fa.ok K (.exc "BadNumber"), fun K => He.Fa.ok K (.glo "TooMany"), supB PySem.Challenge.pw_whomakes_k62_whole_books_through_works.main.file "TooMany" "most", fun K => He.Fa.ok K (.glo "BadRow"), fun K => He.Fa.ok K (.exc "BadRow"), fun K => He.Fa.ok K (.glo "Twice"), fun K => He.Fa.ok K (.exc "Twice"), fun K => He.Fa.ok K (.glo "BadName"), fun K => He.Fa.ok K (.exc "BadName"), fun K => He.Fa.ok K (.free "zip"), fun K => He.Fa.ok K (.glo "BadColumn"), fun K => He.Fa.ok K (.exc "BadColumn"), fun K => He.Fa.ok K (.glo "TooFew"), fun K => He.Fa.ok K (.exc "TooFew"), fun K => He.Fa.ok K (.cls "Book"), fun K => He.Fa.ok K (.noat "Book" "undone"), fun K => He.Fa.ok K (.noat "Book" "works"), fun K => He.Fa.ok K (.noat "Book" "tables"), fun K => He.Fa.ok K (.glo "Book")] : List (PySem.W.Frag → Bool)) ++ ([isB cN "Book" none [] [] [60] [60], fun K => He.Fa.ok K (.glo "BadWork"), fun K => He.Fa.ok K (.exc "BadWork"), fun K => He.Fa.ok K (.free "list"), fun K => He.Fa.ok K (.glo "NotNow"), fun K => He.Fa.ok K (.exc "NotNow"), fun K => He.Fa.ok K (.mkr "Book"), fun K => He.Fa.ok K (.free "abs"), fun K => He.Fa.ok K (.free "sorted"), fun K => He.Fa.ok K (.free "repr"), isB cN "NotNow" (some false) [1, 3, 10, 11, 21, 22, 24, 25, 26, 28, 29, 30, 33] [28] [] [], isB cN "TooMany" (some false) [1, 3, 10, 11, 21, 22, 24, 25, 26, 28, 29, 30, 33] [33] [] [], isB cN "TooFew" (some false) [1, 3, 10, 11, 21, 22, 24, 25, 26, 28, 29, 30, 33] [29] [] [], isB cN "BadNumber" (some false) [1, 3, 10, 11, 21, 22, 24, 25, 26, 28, 29, 30, 33] [11] [] [], isB cN "BadColumn" (some false) [1, 3, 10, 11, 21, 22, 24, 25, 26, 28, 29, 30, 33] [3] [] [], isB cN "BadRow" (some false) [1, 3, 10, 11, 21, 22, 24, 25, 26, 28, 29, 30, 33] [21] [] [], isB cN "Twice" (some false) [1, 3, 10, 11, 21, 22, 24, 25, 26, 28, 29, 30, 33] [30] [] [], isB cN "BadName" (some false) [1, 3, 10, 11, 21, 22, 24, 25, 26, 28, 29, 30, 33] [10] [] [], isB cN "NoGood" (some false) [1, 3, 10, 11, 21, 22, 24, 25, 26, 28, 29, 30, 33] [25] [] [], isB cN "NoLand" (some false) [1, 3, 10, 11, 21, 22, 24, 25, 26, 28, 29, 30, 33] [26] [] [], fun K => He.Fa.ok K (.free "max"), fun K => He.Fa.ok K (.free "min"), fun K => He.Fa.ok K (.meth "Book" "journal"), eqB "Book", fun K => He.Fa.ok K (.meth "Book" "table"), fun K => He.Fa.ok K (.meth "Book" "do"), fun K => He.Fa.ok K (.meth "Book" "copy"), fun K => He.Fa.ok K (.meth "Book" "redo"), fun K => He.Fa.ok K (.meth "Book" "beginning"), fun K => He.Fa.ok K (.meth "Book" "undo"), exB cN "TradeError" [1, 3, 10, 11, 21, 22, 24, 25, 26, 28, 29, 30, 33] [1, 3, 10, 11, 21, 22, 24, 25, 26, 28, 29, 30, 33], fun K => He.Fa.ok K (.glo "is_name"), fun K => He.Fa.ok K (.glo "is_number"), fun K => He.Fa.ok K (.glo "is_word"), fun K => He.Fa.ok K (.glo "is_row"), fun K => He.Fa.ok K (.glo "are_ascending"), fun K => He.Fa.ok K (.glo "are_numbers"), fun K => He.Fa.ok K (.glo "are_names"), fun K => He.Fa.ok K (.glo "is_table"), fun K => He.Fa.ok K (.glo "check_table")] : List (PySem.W.Frag → Bool)) ++ ([fun K => He.Fa.ok K (.glo "check_land"), fun K => He.Fa.ok K (.glo "check_good"), fun K => He.Fa.ok K (.glo "check_number"), fun K => He.Fa.ok K (.glo "put"), fun K => He.Fa.ok K (.glo "put_in"), fun K => He.Fa.ok K (.glo "with_cost"), fun K => He.Fa.ok K (.glo "with_hours"), fun K => He.Fa.ok K (.glo "with_land"), fun K => He.Fa.ok K (.glo "with_good"), fun K => He.Fa.ok K (.glo "part_of"), fun K => He.Fa.ok K (.glo "are_costs"), fun K => He.Fa.ok K (.glo "is_work"), fun K => He.Fa.ok K (.glo "without"), fun K => He.Fa.ok K (.glo "less_by"), fun K => He.Fa.ok K (.glo "changed_by"), fun K => He.Fa.ok K (.glo "_law_begun"), fun K => He.Fa.ok K (.glo "_law_mixed"), fun K => He.Fa.ok K (.glo "_law_take"), fun K => He.Fa.ok K (.glo "_law_pick"), fun K => He.Fa.ok K (.glo "_law_shuffled"), fun K => He.Fa.ok K (.glo "_law_lot_of"), fun K => He.Fa.ok K (.glo "_law_lands"), fun K => He.Fa.ok K (.glo "_law_goods"), fun K => He.Fa.ok K (.glo "_law_table"), fun K => He.Fa.ok K (.glo "_law_some_table"), fun K => He.Fa.ok K (.glo "_law_same"), fun K => He.Fa.ok K (.glo "_law_put"), fun K => He.Fa.ok K (.glo "_law_left"), fun K => He.Fa.ok K (.glo "_law_done"), fun K => He.Fa.ok K (.glo "_law_kind"), fun K => He.Fa.ok K (.glo "_law_work"), fun K => He.Fa.ok K (.glo "law"), fun K => He.Fa.ok K (.glo "TradeError"), fun K => He.Fa.ok K (.glo "_law_caught")] : List (PySem.W.Frag → Bool))
abbrev RR : PySem.W.OpenRow := PySem.W.OpenLaw.row PySem.Challenge.rw_whomakes_k62_whole_books_through_works
abbrev qv : Program := PySem.W.view RR.prog [65]
abbrev hk : PySem.W.Hook := hookK 6 dfs sfs tfs chs
def ob (s : PySem.W.SharedT) : AlK := obsK dfs sfs tfs chs (HandSHeadRun.getT s) (frK 6 (HandSHeadRun.getT s))
theorem ob_eq (s : PySem.W.SharedT) : ob s = hk.obs s.abs := obsK_eq (HandSHeadRun.getT_eq s)
def names : List PySem.Str := ([PySem.Str.ofString "TradeError", PySem.Str.ofString "BadColumn", PySem.Str.ofString "BadName", PySem.Str.ofString "BadNumber", PySem.Str.ofString "BadRow", PySem.Str.ofString "BadTable", PySem.Str.ofString "BadWork", PySem.Str.ofString "NoGood", PySem.Str.ofString "NoLand", PySem.Str.ofString "NotNow", PySem.Str.ofString "TooFew", PySem.Str.ofString "Twice", PySem.Str.ofString "TooMany", PySem.Str.ofString "KEPT", PySem.Str.ofString "LETTERS", PySem.Str.ofString "is_name", PySem.Str.ofString "is_number", PySem.Str.ofString "is_word", PySem.Str.ofString "is_row", PySem.Str.ofString "are_ascending", PySem.Str.ofString "are_numbers", PySem.Str.ofString "MOST", PySem.Str.ofString "HIGH", PySem.Str.ofString "are_names", PySem.Str.ofString "is_table", PySem.Str.ofString "check_table", PySem.Str.ofString "check_land", PySem.Str.ofString "check_good", PySem.Str.ofString "check_number", PySem.Str.ofString "put", PySem.Str.ofString "put_in", PySem.Str.ofString "with_cost", PySem.Str.ofString "with_hours", PySem.Str.ofString "with_land", PySem.Str.ofString "with_good", PySem.Str.ofString "part_of", PySem.Str.ofString "are_costs", PySem.Str.ofString "is_work", PySem.Str.ofString "without", PySem.Str.ofString "less_by"] : List PySem.Str) ++ ([PySem.Str.ofString "changed_by", PySem.Str.ofString "Book", PySem.Str.ofString "_law_begun", PySem.Str.ofString "_law_mixed", PySem.Str.ofString "_law_take", PySem.Str.ofString "_law_pick", PySem.Str.ofString "_law_shuffled", PySem.Str.ofString "_law_caught", PySem.Str.ofString "_law_lot_of", PySem.Str.ofString "_law_lands", PySem.Str.ofString "_law_goods", PySem.Str.ofString "_law_table", PySem.Str.ofString "_law_some_table", PySem.Str.ofString "_law_same", PySem.Str.ofString "_law_put", PySem.Str.ofString "_law_left", PySem.Str.ofString "_law_done", PySem.Str.ofString "_law_kind", PySem.Str.ofString "_law_work"] : List PySem.Str)
open PySem.W in
theorem run (w : World) : HandSHeadRun.RunEq RR qv hk ob 6000 names w := by
  intro os
  kernel_rfl
theorem st_TooMany : SupT (mth 13 0) "self" "most" "most" :=
  ⟨by decide, ⟨_, _, _, _, _, _, _, _, _, _, _, rfl, ⟨_, fun _ => rfl⟩, rfl, rfl⟩, fun _ _ _ _ _ _ _ _ _ _ _ => rfl, by decide +kernel, by decide +kernel, by decide +kernel, by decide +kernel, by decide +kernel, rfl, rfl, rfl⟩
theorem codeD {K : PySem.W.Frag} {a : Str × Option Str} {x q : Str} {pa : Arguments} {b : List Stmt} {s : Scope} {dvs : List V} {kws : List (Str × V)} {fd : FuncData} (F : FunD K x q pa b s dvs kws (He.fAd K a) fd) : fd.code = .ref (He.codeOf K a) := by
  obtain ⟨oc, od, dV, kV, doc, pm, an, cdv, ct, osl, e, lk, hcd, hD, hK⟩ := F.ex
  obtain ⟨c, hc⟩ := He.codeIn_ref hcd
  have e2 : fd.code = .ref c := by rw [e]; exact hc
  rw [He.codeOf_eq lk e2]; exact e2
def TT (K : PySem.W.Frag) : List (Addr × Str) := [((He.cT K ("law", none)).2, ("law.<locals>.<lambda>" : Str))]
theorem sc__law_caught : FnScope ["work", "caught", "error"] ["work"] (defScope (top 53)) := ⟨rfl, rfl, rfl, by decide +kernel, rfl, by decide +kernel, by decide +kernel⟩
theorem facts {w : World} {K : PySem.W.Frag} {h : Heap} {mg : Str → Option Value} {f : Addr} (X : K.In h) (G : h.Ns mainGlobals mg) (hfa : mg ("law" : Str) = some (.ref f)) (c : SaysK dfs sfs tfs chs h K) :
    ∃ fd : FuncData, (∀ (s : Shared) (u : Value), BindsTo s fd ⟨[u], []⟩ [("script", u)]) ∧ ∀ base : Heap, K.In base → base.Ns mainGlobals mg → LamX.TabB base mg (He.cT K ("law", none)).1 (He.cT K ("law", none)).2 →
      FnG PySem.Challenge.rw_whomakes_k62_whole_books_through_works.prog w K mg base (L2.CX PySem.Challenge.rw_whomakes_k62_whole_books_through_works.prog w) 17 f fd ["script"] (spF ⟨K, faK K, caK K, TT K⟩ xnT 1 F_law) := by
  obtain ⟨fd_law, D_law⟩ := c.def_ 49 (d := dD ("law", none) "law" "law" (top 65)) rfl
  have e := hfa.symm.trans (He.glo_ok X G (c.get 111 rfl : (He.Fa.glo "law").ok K = true))
  cases e
  have L_law : Fun K "law" "law" s_law (faK K 65) fd_law := fun_of D_law
  refine ⟨fd_law, fun s u => FunD.bindsA (ps := ["script"]) D_law (fun _ _ _ _ _ _ us hl => match us, hl with | [_], _ => rfl) s [u] rfl, fun base KB NB TB => ?_⟩
  generalize hP : PySem.Challenge.rw_whomakes_k62_whole_books_through_works.prog = P
  have hPt : P.main.file = PySem.Challenge.pw_whomakes_k62_whole_books_through_works.main.file ∧ (P.main.scope.names.lookup ("super" : Str)).isSome = false := by subst hP; exact ⟨rfl, by decide +kernel⟩
  generalize hT : TT K = T
  have k_Book : ClF ⟨P, w, mg, base, ⟨K, faK K, caK K, T⟩, xnT⟩ 60 := ⟨He.cls_ok (c.get 35 rfl : (He.Fa.cls "Book").ok K = true)⟩
  have n_Book_works : NoAttr K (caK K 60) "works" := He.noat_ok (c.get 37 rfl : (He.Fa.noat "Book" "works").ok K = true)
  have g_list : mg "list" = none := He.free_ok X G (c.get 43 rfl : (He.Fa.free "list").ok K = true)
  obtain ⟨fd_Book_journal, D_Book_journal⟩ := c.def_ 29 (d := dD ("Book", some "journal") "journal" "Book.journal" (mth 46 5)) rfl
  have L_Book_journal : Fun K "journal" "Book.journal" s_Book_journal (faK K 305) fd_Book_journal := fun_of D_Book_journal
  have B_Book_journal : Binds K fd_Book_journal ["self"] [] := L_Book_journal.binds (fun _ _ _ _ _ _ us hl => match us, hl with | [_], _ => rfl)
  have b_Book_journal : FnB ⟨P, w, mg, base, ⟨K, faK K, caK K, T⟩, xnT⟩ 305 ["self"] 2 F_Book_journal := ⟨fd_Book_journal, B_Book_journal, d_Book_journal L_Book_journal k_Book n_Book_works g_list⟩
  have m_Book_journal : Meth K (caK K 60) "journal" (faK K 305) := He.meth_ok (c.get 62 rfl : (He.Fa.meth "Book" "journal").ok K = true)
  have n_Book_tables : NoAttr K (caK K 60) "tables" := He.noat_ok (c.get 38 rfl : (He.Fa.noat "Book" "tables").ok K = true)
  have g_isinstance : mg "isinstance" = none := He.free_ok X G (c.get 2 rfl : (He.Fa.free "isinstance").ok K = true)
  have g_Book : mg "Book" = some (.ref (caK K 60)) := He.glo_ok X G (c.get 39 rfl : (He.Fa.glo "Book").ok K = true)
  have i_Book : IsC ⟨P, w, mg, base, ⟨K, faK K, caK K, T⟩, xnT⟩ (caK K 60) none (isE [] []) (isE [60] [60]) := isB_ok (cN := cN) (fun _ => rfl) rfl (c.get 40 rfl)
  obtain ⟨fd_Book___eq__, D_Book___eq__⟩ := c.def_ 25 (d := dD ("Book", some "__eq__") "__eq__" "Book.__eq__" (mth 46 1)) rfl
  have L_Book___eq__ : Fun K "__eq__" "Book.__eq__" s_Book___eq__ (faK K 301) fd_Book___eq__ := fun_of D_Book___eq__
  have B_Book___eq__ : Binds K fd_Book___eq__ ["self", "other"] [] := L_Book___eq__.binds (fun _ _ _ _ _ _ us hl => match us, hl with | [_, _], _ => rfl)
  have b_Book___eq__ : FnB ⟨P, w, mg, base, ⟨K, faK K, caK K, T⟩, xnT⟩ 301 ["self", "other"] 2 F_Book___eq__ := ⟨fd_Book___eq__, B_Book___eq__, d_Book___eq__ L_Book___eq__ k_Book n_Book_works n_Book_tables g_isinstance g_Book i_Book⟩
  have q_Book : EqO ⟨P, w, mg, base, ⟨K, faK K, caK K, T⟩, xnT⟩ 60 301 ["self", "other"] 2 F_Book___eq__ := eqB_ok (x := "Book") (c.get 63 rfl) rfl rfl rfl b_Book___eq__
  obtain ⟨fd_Book_table, D_Book_table⟩ := c.def_ 27 (d := dD ("Book", some "table") "table" "Book.table" (mth 46 3)) rfl
  have L_Book_table : Fun K "table" "Book.table" s_Book_table (faK K 303) fd_Book_table := fun_of D_Book_table
  have B_Book_table : Binds K fd_Book_table ["self"] [] := L_Book_table.binds (fun _ _ _ _ _ _ us hl => match us, hl with | [_], _ => rfl)
  have b_Book_table : FnB ⟨P, w, mg, base, ⟨K, faK K, caK K, T⟩, xnT⟩ 303 ["self"] 2 F_Book_table := ⟨fd_Book_table, B_Book_table, d_Book_table L_Book_table k_Book n_Book_tables⟩
  have m_Book_table : Meth K (caK K 60) "table" (faK K 303) := He.meth_ok (c.get 64 rfl : (He.Fa.meth "Book" "table").ok K = true)
  have g_repr : mg "repr" = none := He.free_ok X G (c.get 49 rfl : (He.Fa.free "repr").ok K = true)
  obtain ⟨fd__law_same, D__law_same⟩ := c.def_ 43 (d := dD ("_law_same", none) "_law_same" "_law_same" (top 59)) rfl
  have L__law_same : Fun K "_law_same" "_law_same" s__law_same (faK K 59) fd__law_same := fun_of D__law_same
  have B__law_same : Binds K fd__law_same ["told", "due"] [] := L__law_same.binds (fun _ _ _ _ _ _ us hl => match us, hl with | [_, _], _ => rfl)
  have h__law_same : FnGF ⟨P, w, mg, base, ⟨K, faK K, caK K, T⟩, xnT⟩ 59 "_law_same" ["told", "due"] 2 F__law_same := ⟨He.glo_ok X G (c.get 105 rfl : (He.Fa.glo "_law_same").ok K = true), L__law_same.kp, fd__law_same, B__law_same, d__law_same L__law_same g_repr⟩
  have n_Book_undone : NoAttr K (caK K 60) "undone" := He.noat_ok (c.get 36 rfl : (He.Fa.noat "Book" "undone").ok K = true)
  have g_tuple : mg "tuple" = none := He.free_ok X G (c.get 9 rfl : (He.Fa.free "tuple").ok K = true)
  have g_len : mg "len" = none := He.free_ok X G (c.get 4 rfl : (He.Fa.free "len").ok K = true)
  have e_TooFew : ExcF ⟨P, w, mg, base, ⟨K, faK K, caK K, T⟩, xnT⟩ 29 "TooFew" := excF_ok ⟨h, X, G⟩ rfl (c.get 33 rfl) (c.get 34 rfl) rfl
  obtain ⟨fd_without, D_without⟩ := c.def_ 21 (d := dD ("without", none) "without" "without" (top 43)) rfl
  have L_without : Fun K "without" "without" s_without (faK K 43) fd_without := fun_of D_without
  have B_without : Binds K fd_without ["names", "name"] [] := L_without.binds (fun _ _ _ _ _ _ us hl => match us, hl with | [_, _], _ => rfl)
  have h_without : FnF ⟨P, w, mg, base, ⟨K, faK K, caK K, T⟩, xnT⟩ 43 "without" ["names", "name"] 2 F_without := ⟨He.glo_ok X G (c.get 92 rfl : (He.Fa.glo "without").ok K = true), L_without.kp, fd_without, B_without, d_without L_without g_tuple g_len e_TooFew⟩
  have g_zip : mg "zip" = none := He.free_ok X G (c.get 30 rfl : (He.Fa.free "zip").ok K = true)
  obtain ⟨fd_part_of, D_part_of⟩ := c.def_ 18 (d := dD ("part_of", none) "part_of" "part_of" (top 39)) rfl
  have L_part_of : Fun K "part_of" "part_of" s_part_of (faK K 39) fd_part_of := fun_of D_part_of
  have B_part_of : Binds K fd_part_of ["table", "some", "where"] [] := L_part_of.binds (fun _ _ _ _ _ _ us hl => match us, hl with | [_, _, _], _ => rfl)
  have h_part_of : FnF ⟨P, w, mg, base, ⟨K, faK K, caK K, T⟩, xnT⟩ 39 "part_of" ["table", "some", "where"] 2 F_part_of := ⟨He.glo_ok X G (c.get 89 rfl : (He.Fa.glo "part_of").ok K = true), L_part_of.kp, fd_part_of, B_part_of, d_part_of L_part_of g_tuple g_zip⟩
  have g_str : mg "str" = none := He.free_ok X G (c.get 3 rfl : (He.Fa.free "str").ok K = true)
  obtain ⟨fd_is_word, D_is_word⟩ := c.def_ 2 (d := dD ("is_word", none) "is_word" "is_word" (top 19)) rfl
  have L_is_word : Fun K "is_word" "is_word" s_is_word (faK K 19) fd_is_word := fun_of D_is_word
  have B_is_word : Binds K fd_is_word ["thing", "words"] [] := L_is_word.binds (fun _ _ _ _ _ _ us hl => match us, hl with | [_, _], _ => rfl)
  have h_is_word : FnF ⟨P, w, mg, base, ⟨K, faK K, caK K, T⟩, xnT⟩ 19 "is_word" ["thing", "words"] 2 F_is_word := ⟨He.glo_ok X G (c.get 73 rfl : (He.Fa.glo "is_word").ok K = true), L_is_word.kp, fd_is_word, B_is_word, d_is_word L_is_word g_isinstance g_str⟩
  have e_NoGood : ExcF ⟨P, w, mg, base, ⟨K, faK K, caK K, T⟩, xnT⟩ 25 "NoGood" := excF_ok ⟨h, X, G⟩ rfl (c.get 18 rfl) (c.get 19 rfl) rfl
  obtain ⟨fd_check_good, D_check_good⟩ := c.def_ 10 (d := dD ("check_good", none) "check_good" "check_good" (top 30)) rfl
  have L_check_good : Fun K "check_good" "check_good" s_check_good (faK K 30) fd_check_good := fun_of D_check_good
  have B_check_good : Binds K fd_check_good ["table", "good"] [] := L_check_good.binds (fun _ _ _ _ _ _ us hl => match us, hl with | [_, _], _ => rfl)
  have h_check_good : FnF ⟨P, w, mg, base, ⟨K, faK K, caK K, T⟩, xnT⟩ 30 "check_good" ["table", "good"] 4 F_check_good := ⟨He.glo_ok X G (c.get 81 rfl : (He.Fa.glo "check_good").ok K = true), L_check_good.kp, fd_check_good, B_check_good, d_check_good L_check_good h_is_word e_NoGood⟩
  have e_NoLand : ExcF ⟨P, w, mg, base, ⟨K, faK K, caK K, T⟩, xnT⟩ 26 "NoLand" := excF_ok ⟨h, X, G⟩ rfl (c.get 16 rfl) (c.get 17 rfl) rfl
  obtain ⟨fd_check_land, D_check_land⟩ := c.def_ 9 (d := dD ("check_land", none) "check_land" "check_land" (top 29)) rfl
  have L_check_land : Fun K "check_land" "check_land" s_check_land (faK K 29) fd_check_land := fun_of D_check_land
  have B_check_land : Binds K fd_check_land ["table", "land"] [] := L_check_land.binds (fun _ _ _ _ _ _ us hl => match us, hl with | [_, _], _ => rfl)
  have h_check_land : FnF ⟨P, w, mg, base, ⟨K, faK K, caK K, T⟩, xnT⟩ 29 "check_land" ["table", "land"] 4 F_check_land := ⟨He.glo_ok X G (c.get 80 rfl : (He.Fa.glo "check_land").ok K = true), L_check_land.kp, fd_check_land, B_check_land, d_check_land L_check_land h_is_word e_NoLand⟩
  obtain ⟨fd_less_by, D_less_by⟩ := c.def_ 22 (d := dD ("less_by", none) "less_by" "less_by" (top 44)) rfl
  have L_less_by : Fun K "less_by" "less_by" s_less_by (faK K 44) fd_less_by := fun_of D_less_by
  have B_less_by : Binds K fd_less_by ["table", "work"] [] := L_less_by.binds (fun _ _ _ _ _ _ us hl => match us, hl with | [_, _], _ => rfl)
  have h_less_by : FnF ⟨P, w, mg, base, ⟨K, faK K, caK K, T⟩, xnT⟩ 44 "less_by" ["table", "work"] 6 F_less_by := ⟨He.glo_ok X G (c.get 93 rfl : (He.Fa.glo "less_by").ok K = true), L_less_by.kp, fd_less_by, B_less_by, d_less_by L_less_by h_without h_part_of h_check_good h_check_land⟩
  obtain ⟨fd_put_in, D_put_in⟩ := c.def_ 13 (d := dD ("put_in", none) "put_in" "put_in" (top 34)) rfl
  have L_put_in : Fun K "put_in" "put_in" s_put_in (faK K 34) fd_put_in := fun_of D_put_in
  have B_put_in : Binds K fd_put_in ["row", "k", "item"] [] := L_put_in.binds (fun _ _ _ _ _ _ us hl => match us, hl with | [_, _, _], _ => rfl)
  have h_put_in : FnF ⟨P, w, mg, base, ⟨K, faK K, caK K, T⟩, xnT⟩ 34 "put_in" ["row", "k", "item"] 2 F_put_in := ⟨He.glo_ok X G (c.get 84 rfl : (He.Fa.glo "put_in").ok K = true), L_put_in.kp, fd_put_in, B_put_in, d_put_in L_put_in ⟩
  obtain ⟨tk_MOST, g_MOST⟩ := He.int_ok X G (c.get 11 rfl : (He.Fa.int "MOST" (5)).ok K = true)
  have r_MOST : L2.RelV (.int (5)) (.int (5) tk_MOST) := ⟨_, rfl⟩
  have t_MOST : ∀ ρ H, R ⟨K, faK K, caK K, T⟩ ρ H k_MOST (.int (5)) := fun _ _ => .int _
  have e_TooMany : ExcS ⟨P, w, mg, base, ⟨K, faK K, caK K, T⟩, xnT⟩ 33 213 "TooMany" "self" "most" "most" := ⟨He.glo_ok X G (c.get 22 rfl : (He.Fa.glo "TooMany").ok K = true), by show SupC K P.main.file _ _ _ _ _; rw [hPt.1]; exact supB_ok rfl rfl (c.get 23 rfl : supB PySem.Challenge.pw_whomakes_k62_whole_books_through_works.main.file "TooMany" "most" K = true) (c.supAt 0 rfl) st_TooMany, hPt.2, by decide +kernel, by decide +kernel, rfl⟩
  obtain ⟨tk_HIGH, g_HIGH⟩ := He.int_ok X G (c.get 12 rfl : (He.Fa.int "HIGH" (1000000)).ok K = true)
  have r_HIGH : L2.RelV (.int (1000000)) (.int (1000000) tk_HIGH) := ⟨_, rfl⟩
  have t_HIGH : ∀ ρ H, R ⟨K, faK K, caK K, T⟩ ρ H k_HIGH (.int (1000000)) := fun _ _ => .int _
  obtain ⟨fd_is_row, D_is_row⟩ := c.def_ 3 (d := dD ("is_row", none) "is_row" "is_row" (top 20)) rfl
  have L_is_row : Fun K "is_row" "is_row" s_is_row (faK K 20) fd_is_row := fun_of D_is_row
  have B_is_row : Binds K fd_is_row ["thing", "many"] [] := L_is_row.binds (fun _ _ _ _ _ _ us hl => match us, hl with | [_, _], _ => rfl)
  have h_is_row : FnF ⟨P, w, mg, base, ⟨K, faK K, caK K, T⟩, xnT⟩ 20 "is_row" ["thing", "many"] 2 F_is_row := ⟨He.glo_ok X G (c.get 74 rfl : (He.Fa.glo "is_row").ok K = true), L_is_row.kp, fd_is_row, B_is_row, d_is_row L_is_row g_isinstance g_tuple g_len⟩
  have g_bool : mg "bool" = none := He.free_ok X G (c.get 7 rfl : (He.Fa.free "bool").ok K = true)
  have g_int : mg "int" = none := He.free_ok X G (c.get 8 rfl : (He.Fa.free "int").ok K = true)
  obtain ⟨fd_is_number, D_is_number⟩ := c.def_ 1 (d := dD ("is_number", none) "is_number" "is_number" (top 18)) rfl
  have L_is_number : Fun K "is_number" "is_number" s_is_number (faK K 18) fd_is_number := fun_of D_is_number
  have B_is_number : Binds K fd_is_number ["thing", "low", "high"] [] := L_is_number.binds (fun _ _ _ _ _ _ us hl => match us, hl with | [_, _, _], _ => rfl)
  have h_is_number : FnF ⟨P, w, mg, base, ⟨K, faK K, caK K, T⟩, xnT⟩ 18 "is_number" ["thing", "low", "high"] 2 F_is_number := ⟨He.glo_ok X G (c.get 72 rfl : (He.Fa.glo "is_number").ok K = true), L_is_number.kp, fd_is_number, B_is_number, d_is_number L_is_number g_isinstance g_bool g_int⟩
  have g_all : mg "all" = none := He.free_ok X G (c.get 1 rfl : (He.Fa.free "all").ok K = true)
  obtain ⟨fd_are_numbers, D_are_numbers⟩ := c.def_ 5 (d := dD ("are_numbers", none) "are_numbers" "are_numbers" (top 22)) rfl
  have L_are_numbers : Fun K "are_numbers" "are_numbers" s_are_numbers (faK K 22) fd_are_numbers := fun_of D_are_numbers
  have B_are_numbers : Binds K fd_are_numbers ["thing", "many", "low", "high"] [] := L_are_numbers.binds (fun _ _ _ _ _ _ us hl => match us, hl with | [_, _, _, _], _ => rfl)
  have h_are_numbers : FnF ⟨P, w, mg, base, ⟨K, faK K, caK K, T⟩, xnT⟩ 22 "are_numbers" ["thing", "many", "low", "high"] 4 F_are_numbers := ⟨He.glo_ok X G (c.get 76 rfl : (He.Fa.glo "are_numbers").ok K = true), L_are_numbers.kp, fd_are_numbers, B_are_numbers, d_are_numbers L_are_numbers h_is_row h_is_number g_all⟩
  have e_BadColumn : ExcF ⟨P, w, mg, base, ⟨K, faK K, caK K, T⟩, xnT⟩ 3 "BadColumn" := excF_ok ⟨h, X, G⟩ rfl (c.get 31 rfl) (c.get 32 rfl) rfl
  have e_Twice : ExcF ⟨P, w, mg, base, ⟨K, faK K, caK K, T⟩, xnT⟩ 30 "Twice" := excF_ok ⟨h, X, G⟩ rfl (c.get 26 rfl) (c.get 27 rfl) rfl
  obtain ⟨tk_LETTERS, g_LETTERS⟩ := He.str_ok X G (c.get 0 rfl : (He.Fa.str "LETTERS" "abcdefghijklmnopqrstuvwxyz").ok K = true)
  have r_LETTERS : L2.RelV (.str "abcdefghijklmnopqrstuvwxyz") (.str "abcdefghijklmnopqrstuvwxyz" tk_LETTERS) := ⟨_, rfl⟩
  have t_LETTERS : ∀ ρ H, R ⟨K, faK K, caK K, T⟩ ρ H k_LETTERS (.str "abcdefghijklmnopqrstuvwxyz") := fun _ _ => .str _
  have g_KEPT := He.glo_ok X G (c.get 5 rfl : (He.Fa.glo "KEPT").ok K = true)
  have r_KEPT : L2.RelV (.ref (He.ga K "KEPT")) (.ref (He.ga K "KEPT")) := rfl
  have t_KEPT : ∀ ρ H, R ⟨K, faK K, caK K, T⟩ ρ H k_KEPT (.ref (He.ga K "KEPT")) := fun ρ H => tupX_ok (c.get 6 rfl : tupX "KEPT" ["always", "beaten", "borne", "cannot", "cost", "done", "drop", "end", "entry", "gain", "good", "goods", "greatest", "hours", "journal", "land", "leave", "none", "over", "pattern", "prices", "redo", "table", "undo", "wages", "what", "worths"] K = true) ρ H
  obtain ⟨fd_is_name, D_is_name⟩ := c.def_ 0 (d := dD ("is_name", none) "is_name" "is_name" (top 17)) rfl
  have L_is_name : Fun K "is_name" "is_name" s_is_name (faK K 17) fd_is_name := fun_of D_is_name
  have B_is_name : Binds K fd_is_name ["thing"] [] := L_is_name.binds (fun _ _ _ _ _ _ us hl => match us, hl with | [_], _ => rfl)
  have h_is_name : FnF ⟨P, w, mg, base, ⟨K, faK K, caK K, T⟩, xnT⟩ 17 "is_name" ["thing"] 2 F_is_name := ⟨He.glo_ok X G (c.get 71 rfl : (He.Fa.glo "is_name").ok K = true), L_is_name.kp, fd_is_name, B_is_name, d_is_name L_is_name g_LETTERS r_LETTERS t_LETTERS g_all g_isinstance g_str g_len g_KEPT r_KEPT t_KEPT⟩
  have e_BadName : ExcF ⟨P, w, mg, base, ⟨K, faK K, caK K, T⟩, xnT⟩ 10 "BadName" := excF_ok ⟨h, X, G⟩ rfl (c.get 28 rfl) (c.get 29 rfl) rfl
  have g_any : mg "any" = none := He.free_ok X G (c.get 13 rfl : (He.Fa.free "any").ok K = true)
  have g_range : mg "range" = none := He.free_ok X G (c.get 10 rfl : (He.Fa.free "range").ok K = true)
  obtain ⟨fd_are_ascending, D_are_ascending⟩ := c.def_ 4 (d := dD ("are_ascending", none) "are_ascending" "are_ascending" (top 21)) rfl
  have L_are_ascending : Fun K "are_ascending" "are_ascending" s_are_ascending (faK K 21) fd_are_ascending := fun_of D_are_ascending
  have B_are_ascending : Binds K fd_are_ascending ["things"] [] := L_are_ascending.binds (fun _ _ _ _ _ _ us hl => match us, hl with | [_], _ => rfl)
  have h_are_ascending : FnF ⟨P, w, mg, base, ⟨K, faK K, caK K, T⟩, xnT⟩ 21 "are_ascending" ["things"] 2 F_are_ascending := ⟨He.glo_ok X G (c.get 75 rfl : (He.Fa.glo "are_ascending").ok K = true), L_are_ascending.kp, fd_are_ascending, B_are_ascending, d_are_ascending L_are_ascending g_len g_range g_all⟩
  obtain ⟨fd_are_names, D_are_names⟩ := c.def_ 6 (d := dD ("are_names", none) "are_names" "are_names" (top 26)) rfl
  have L_are_names : Fun K "are_names" "are_names" s_are_names (faK K 26) fd_are_names := fun_of D_are_names
  have B_are_names : Binds K fd_are_names ["thing"] [] := L_are_names.binds (fun _ _ _ _ _ _ us hl => match us, hl with | [_], _ => rfl)
  have h_are_names : FnF ⟨P, w, mg, base, ⟨K, faK K, caK K, T⟩, xnT⟩ 26 "are_names" ["thing"] 4 F_are_names := ⟨He.glo_ok X G (c.get 77 rfl : (He.Fa.glo "are_names").ok K = true), L_are_names.kp, fd_are_names, B_are_names, d_are_names L_are_names h_are_ascending g_isinstance g_tuple g_len g_MOST r_MOST t_MOST h_is_name g_all⟩
  obtain ⟨fd_is_table, D_is_table⟩ := c.def_ 7 (d := dD ("is_table", none) "is_table" "is_table" (top 27)) rfl
  have L_is_table : Fun K "is_table" "is_table" s_is_table (faK K 27) fd_is_table := fun_of D_is_table
  have B_is_table : Binds K fd_is_table ["thing"] [] := L_is_table.binds (fun _ _ _ _ _ _ us hl => match us, hl with | [_], _ => rfl)
  have h_is_table : FnF ⟨P, w, mg, base, ⟨K, faK K, caK K, T⟩, xnT⟩ 27 "is_table" ["thing"] 6 F_is_table := ⟨He.glo_ok X G (c.get 78 rfl : (He.Fa.glo "is_table").ok K = true), L_is_table.kp, fd_is_table, B_is_table, d_is_table L_is_table g_HIGH r_HIGH t_HIGH g_len h_are_numbers g_all g_any h_is_row h_is_word h_are_names⟩
  have e_BadTable : ExcF ⟨P, w, mg, base, ⟨K, faK K, caK K, T⟩, xnT⟩ 22 "BadTable" := excF_ok ⟨h, X, G⟩ rfl (c.get 14 rfl) (c.get 15 rfl) rfl
  obtain ⟨fd_check_table, D_check_table⟩ := c.def_ 8 (d := dD ("check_table", none) "check_table" "check_table" (top 28)) rfl
  have L_check_table : Fun K "check_table" "check_table" s_check_table (faK K 28) fd_check_table := fun_of D_check_table
  have B_check_table : Binds K fd_check_table ["table"] [] := L_check_table.binds (fun _ _ _ _ _ _ us hl => match us, hl with | [_], _ => rfl)
  have h_check_table : FnF ⟨P, w, mg, base, ⟨K, faK K, caK K, T⟩, xnT⟩ 28 "check_table" ["table"] 8 F_check_table := ⟨He.glo_ok X G (c.get 79 rfl : (He.Fa.glo "check_table").ok K = true), L_check_table.kp, fd_check_table, B_check_table, d_check_table L_check_table h_is_table e_BadTable⟩
  obtain ⟨fd_with_good, D_with_good⟩ := c.def_ 17 (d := dD ("with_good", none) "with_good" "with_good" (top 38)) rfl
  have L_with_good : Fun K "with_good" "with_good" s_with_good (faK K 38) fd_with_good := fun_of D_with_good
  have B_with_good : Binds K fd_with_good ["table", "name", "column"] [] := L_with_good.binds (fun _ _ _ _ _ _ us hl => match us, hl with | [_, _, _], _ => rfl)
  have h_with_good : FnF ⟨P, w, mg, base, ⟨K, faK K, caK K, T⟩, xnT⟩ 38 "with_good" ["table", "name", "column"] 10 F_with_good := ⟨He.glo_ok X G (c.get 88 rfl : (He.Fa.glo "with_good").ok K = true), L_with_good.kp, fd_with_good, B_with_good, d_with_good L_with_good h_put_in g_zip g_tuple g_len g_MOST r_MOST t_MOST e_TooMany g_HIGH r_HIGH t_HIGH h_are_numbers e_BadColumn e_Twice h_is_name e_BadName h_check_table⟩
  have e_BadNumber : ExcF ⟨P, w, mg, base, ⟨K, faK K, caK K, T⟩, xnT⟩ 11 "BadNumber" := excF_ok ⟨h, X, G⟩ rfl (c.get 20 rfl) (c.get 21 rfl) rfl
  obtain ⟨fd_check_number, D_check_number⟩ := c.def_ 11 (d := dD ("check_number", none) "check_number" "check_number" (top 32)) rfl
  have L_check_number : Fun K "check_number" "check_number" s_check_number (faK K 32) fd_check_number := fun_of D_check_number
  have B_check_number : Binds K fd_check_number ["number"] [] := L_check_number.binds (fun _ _ _ _ _ _ us hl => match us, hl with | [_], _ => rfl)
  have h_check_number : FnF ⟨P, w, mg, base, ⟨K, faK K, caK K, T⟩, xnT⟩ 32 "check_number" ["number"] 4 F_check_number := ⟨He.glo_ok X G (c.get 82 rfl : (He.Fa.glo "check_number").ok K = true), L_check_number.kp, fd_check_number, B_check_number, d_check_number L_check_number g_HIGH r_HIGH t_HIGH h_is_number e_BadNumber⟩
  have e_BadRow : ExcF ⟨P, w, mg, base, ⟨K, faK K, caK K, T⟩, xnT⟩ 21 "BadRow" := excF_ok ⟨h, X, G⟩ rfl (c.get 24 rfl) (c.get 25 rfl) rfl
  obtain ⟨fd_with_land, D_with_land⟩ := c.def_ 16 (d := dD ("with_land", none) "with_land" "with_land" (top 37)) rfl
  have L_with_land : Fun K "with_land" "with_land" s_with_land (faK K 37) fd_with_land := fun_of D_with_land
  have B_with_land : Binds K fd_with_land ["table", "name", "row", "number"] [] := L_with_land.binds (fun _ _ _ _ _ _ us hl => match us, hl with | [_, _, _, _], _ => rfl)
  have h_with_land : FnF ⟨P, w, mg, base, ⟨K, faK K, caK K, T⟩, xnT⟩ 37 "with_land" ["table", "name", "row", "number"] 10 F_with_land := ⟨He.glo_ok X G (c.get 87 rfl : (He.Fa.glo "with_land").ok K = true), L_with_land.kp, fd_with_land, B_with_land, d_with_land L_with_land h_put_in g_len g_MOST r_MOST t_MOST e_TooMany h_check_number g_HIGH r_HIGH t_HIGH h_are_numbers e_BadRow e_Twice h_is_name e_BadName h_check_table⟩
  obtain ⟨fd_put, D_put⟩ := c.def_ 12 (d := dD ("put", none) "put" "put" (top 33)) rfl
  have L_put : Fun K "put" "put" s_put (faK K 33) fd_put := fun_of D_put
  have B_put : Binds K fd_put ["row", "k", "item"] [] := L_put.binds (fun _ _ _ _ _ _ us hl => match us, hl with | [_, _, _], _ => rfl)
  have h_put : FnF ⟨P, w, mg, base, ⟨K, faK K, caK K, T⟩, xnT⟩ 33 "put" ["row", "k", "item"] 2 F_put := ⟨He.glo_ok X G (c.get 83 rfl : (He.Fa.glo "put").ok K = true), L_put.kp, fd_put, B_put, d_put L_put ⟩
  obtain ⟨fd_with_hours, D_with_hours⟩ := c.def_ 15 (d := dD ("with_hours", none) "with_hours" "with_hours" (top 36)) rfl
  have L_with_hours : Fun K "with_hours" "with_hours" s_with_hours (faK K 36) fd_with_hours := fun_of D_with_hours
  have B_with_hours : Binds K fd_with_hours ["table", "land", "number"] [] := L_with_hours.binds (fun _ _ _ _ _ _ us hl => match us, hl with | [_, _, _], _ => rfl)
  have h_with_hours : FnF ⟨P, w, mg, base, ⟨K, faK K, caK K, T⟩, xnT⟩ 36 "with_hours" ["table", "land", "number"] 10 F_with_hours := ⟨He.glo_ok X G (c.get 86 rfl : (He.Fa.glo "with_hours").ok K = true), L_with_hours.kp, fd_with_hours, B_with_hours, d_with_hours L_with_hours h_put h_check_number h_check_land h_check_table⟩
  obtain ⟨fd_with_cost, D_with_cost⟩ := c.def_ 14 (d := dD ("with_cost", none) "with_cost" "with_cost" (top 35)) rfl
  have L_with_cost : Fun K "with_cost" "with_cost" s_with_cost (faK K 35) fd_with_cost := fun_of D_with_cost
  have B_with_cost : Binds K fd_with_cost ["table", "land", "good", "number"] [] := L_with_cost.binds (fun _ _ _ _ _ _ us hl => match us, hl with | [_, _, _, _], _ => rfl)
  have h_with_cost : FnF ⟨P, w, mg, base, ⟨K, faK K, caK K, T⟩, xnT⟩ 35 "with_cost" ["table", "land", "good", "number"] 10 F_with_cost := ⟨He.glo_ok X G (c.get 85 rfl : (He.Fa.glo "with_cost").ok K = true), L_with_cost.kp, fd_with_cost, B_with_cost, d_with_cost L_with_cost h_put h_check_number h_check_good h_check_land h_check_table⟩
  obtain ⟨fd_changed_by, D_changed_by⟩ := c.def_ 23 (d := dD ("changed_by", none) "changed_by" "changed_by" (top 45)) rfl
  have L_changed_by : Fun K "changed_by" "changed_by" s_changed_by (faK K 45) fd_changed_by := fun_of D_changed_by
  have B_changed_by : Binds K fd_changed_by ["table", "work"] [] := L_changed_by.binds (fun _ _ _ _ _ _ us hl => match us, hl with | [_, _], _ => rfl)
  have h_changed_by : FnF ⟨P, w, mg, base, ⟨K, faK K, caK K, T⟩, xnT⟩ 45 "changed_by" ["table", "work"] 12 F_changed_by := ⟨He.glo_ok X G (c.get 94 rfl : (He.Fa.glo "changed_by").ok K = true), L_changed_by.kp, fd_changed_by, B_changed_by, d_changed_by L_changed_by h_less_by h_with_good h_with_land h_with_hours h_with_cost⟩
  obtain ⟨fd_are_costs, D_are_costs⟩ := c.def_ 19 (d := dD ("are_costs", none) "are_costs" "are_costs" (top 41)) rfl
  have L_are_costs : Fun K "are_costs" "are_costs" s_are_costs (faK K 41) fd_are_costs := fun_of D_are_costs
  have B_are_costs : Binds K fd_are_costs ["thing"] [] := L_are_costs.binds (fun _ _ _ _ _ _ us hl => match us, hl with | [_], _ => rfl)
  have h_are_costs : FnF ⟨P, w, mg, base, ⟨K, faK K, caK K, T⟩, xnT⟩ 41 "are_costs" ["thing"] 4 F_are_costs := ⟨He.glo_ok X G (c.get 90 rfl : (He.Fa.glo "are_costs").ok K = true), L_are_costs.kp, fd_are_costs, B_are_costs, d_are_costs L_are_costs g_HIGH r_HIGH t_HIGH h_is_number g_all g_isinstance g_tuple g_len g_MOST r_MOST t_MOST⟩
  obtain ⟨fd_is_work, D_is_work⟩ := c.def_ 20 (d := dD ("is_work", none) "is_work" "is_work" (top 42)) rfl
  have L_is_work : Fun K "is_work" "is_work" s_is_work (faK K 42) fd_is_work := fun_of D_is_work
  have B_is_work : Binds K fd_is_work ["thing"] [] := L_is_work.binds (fun _ _ _ _ _ _ us hl => match us, hl with | [_], _ => rfl)
  have h_is_work : FnF ⟨P, w, mg, base, ⟨K, faK K, caK K, T⟩, xnT⟩ 42 "is_work" ["thing"] 6 F_is_work := ⟨He.glo_ok X G (c.get 91 rfl : (He.Fa.glo "is_work").ok K = true), L_is_work.kp, fd_is_work, B_is_work, d_is_work L_is_work h_are_costs g_HIGH r_HIGH t_HIGH h_is_number h_is_word g_len h_is_name g_isinstance g_tuple⟩
  have e_BadWork : ExcF ⟨P, w, mg, base, ⟨K, faK K, caK K, T⟩, xnT⟩ 24 "BadWork" := excF_ok ⟨h, X, G⟩ rfl (c.get 41 rfl) (c.get 42 rfl) rfl
  obtain ⟨fd_Book_do, D_Book_do⟩ := c.def_ 26 (d := dD ("Book", some "do") "do" "Book.do" (mth 46 2)) rfl
  have L_Book_do : Fun K "do" "Book.do" s_Book_do (faK K 302) fd_Book_do := fun_of D_Book_do
  have B_Book_do : Binds K fd_Book_do ["self", "work"] [] := L_Book_do.binds (fun _ _ _ _ _ _ us hl => match us, hl with | [_, _], _ => rfl)
  have b_Book_do : FnB ⟨P, w, mg, base, ⟨K, faK K, caK K, T⟩, xnT⟩ 302 ["self", "work"] 14 F_Book_do := ⟨fd_Book_do, B_Book_do, d_Book_do L_Book_do k_Book n_Book_undone n_Book_works n_Book_tables h_changed_by h_is_work e_BadWork⟩
  have m_Book_do : Meth K (caK K 60) "do" (faK K 302) := He.meth_ok (c.get 65 rfl : (He.Fa.meth "Book" "do").ok K = true)
  obtain ⟨fd_Book___init__, D_Book___init__⟩ := c.def_ 24 (d := dD ("Book", some "__init__") "__init__" "Book.__init__" (mth 46 0)) rfl
  have L_Book___init__ : Fun K "__init__" "Book.__init__" s_Book___init__ (faK K 300) fd_Book___init__ := fun_of D_Book___init__
  have B_Book___init__ : Binds K fd_Book___init__ ["self", "table"] [] := L_Book___init__.binds (fun _ _ _ _ _ _ us hl => match us, hl with | [_, _], _ => rfl)
  have b_Book___init__ : FnB ⟨P, w, mg, base, ⟨K, faK K, caK K, T⟩, xnT⟩ 300 ["self", "table"] 10 F_Book___init__ := ⟨fd_Book___init__, B_Book___init__, d_Book___init__ L_Book___init__ k_Book n_Book_undone n_Book_works n_Book_tables h_check_table⟩
  have mk_Book : Mk K (caK K 60) (faK K 300) := He.mkr_ok (c.get 46 rfl : (He.Fa.mkr "Book").ok K = true)
  have g_min : mg "min" = none := He.free_ok X G (c.get 61 rfl : (He.Fa.free "min").ok K = true)
  obtain ⟨fd_Book_copy, D_Book_copy⟩ := c.def_ 32 (d := dD ("Book", some "copy") "copy" "Book.copy" (mth 46 8)) rfl
  have L_Book_copy : Fun K "copy" "Book.copy" s_Book_copy (faK K 308) fd_Book_copy := fun_of D_Book_copy
  have B_Book_copy : Binds K fd_Book_copy ["self"] [] := L_Book_copy.binds (fun _ _ _ _ _ _ us hl => match us, hl with | [_], _ => rfl)
  have b_Book_copy : FnB ⟨P, w, mg, base, ⟨K, faK K, caK K, T⟩, xnT⟩ 308 ["self"] 13 F_Book_copy := ⟨fd_Book_copy, B_Book_copy, d_Book_copy L_Book_copy k_Book n_Book_undone g_list n_Book_works n_Book_tables b_Book___init__ mk_Book g_Book⟩
  have m_Book_copy : Meth K (caK K 60) "copy" (faK K 308) := He.meth_ok (c.get 66 rfl : (He.Fa.meth "Book" "copy").ok K = true)
  have e_NotNow : ExcF ⟨P, w, mg, base, ⟨K, faK K, caK K, T⟩, xnT⟩ 28 "NotNow" := excF_ok ⟨h, X, G⟩ rfl (c.get 44 rfl) (c.get 45 rfl) rfl
  obtain ⟨fd_Book_redo, D_Book_redo⟩ := c.def_ 31 (d := dD ("Book", some "redo") "redo" "Book.redo" (mth 46 7)) rfl
  have L_Book_redo : Fun K "redo" "Book.redo" s_Book_redo (faK K 307) fd_Book_redo := fun_of D_Book_redo
  have B_Book_redo : Binds K fd_Book_redo ["self"] [] := L_Book_redo.binds (fun _ _ _ _ _ _ us hl => match us, hl with | [_], _ => rfl)
  have b_Book_redo : FnB ⟨P, w, mg, base, ⟨K, faK K, caK K, T⟩, xnT⟩ 307 ["self"] 2 F_Book_redo := ⟨fd_Book_redo, B_Book_redo, d_Book_redo L_Book_redo k_Book n_Book_tables n_Book_works n_Book_undone e_NotNow⟩
  have m_Book_redo : Meth K (caK K 60) "redo" (faK K 307) := He.meth_ok (c.get 67 rfl : (He.Fa.meth "Book" "redo").ok K = true)
  obtain ⟨fd__law_mixed, D__law_mixed⟩ := c.def_ 34 (d := dD ("_law_mixed", none) "_law_mixed" "_law_mixed" (top 49)) rfl
  have L__law_mixed : Fun K "_law_mixed" "_law_mixed" s__law_mixed (faK K 49) fd__law_mixed := fun_of D__law_mixed
  have B__law_mixed : Binds K fd__law_mixed ["draw"] [] := L__law_mixed.binds (fun _ _ _ _ _ _ us hl => match us, hl with | [_], _ => rfl)
  have h__law_mixed : FnF ⟨P, w, mg, base, ⟨K, faK K, caK K, T⟩, xnT⟩ 49 "_law_mixed" ["draw"] 2 F__law_mixed := ⟨He.glo_ok X G (c.get 96 rfl : (He.Fa.glo "_law_mixed").ok K = true), L__law_mixed.kp, fd__law_mixed, B__law_mixed, d__law_mixed L__law_mixed g_int⟩
  obtain ⟨fd__law_take, D__law_take⟩ := c.def_ 35 (d := dD ("_law_take", none) "_law_take" "_law_take" (top 50)) rfl
  have L__law_take : Fun K "_law_take" "_law_take" s__law_take (faK K 50) fd__law_take := fun_of D__law_take
  have B__law_take : Binds K fd__law_take ["draw", "many"] [] := L__law_take.binds (fun _ _ _ _ _ _ us hl => match us, hl with | [_, _], _ => rfl)
  have h__law_take : FnF ⟨P, w, mg, base, ⟨K, faK K, caK K, T⟩, xnT⟩ 50 "_law_take" ["draw", "many"] 4 F__law_take := ⟨He.glo_ok X G (c.get 97 rfl : (He.Fa.glo "_law_take").ok K = true), L__law_take.kp, fd__law_take, B__law_take, d__law_take L__law_take g_int h__law_mixed⟩
  obtain ⟨fd_Book_beginning, D_Book_beginning⟩ := c.def_ 28 (d := dD ("Book", some "beginning") "beginning" "Book.beginning" (mth 46 4)) rfl
  have L_Book_beginning : Fun K "beginning" "Book.beginning" s_Book_beginning (faK K 304) fd_Book_beginning := fun_of D_Book_beginning
  have B_Book_beginning : Binds K fd_Book_beginning ["self"] [] := L_Book_beginning.binds (fun _ _ _ _ _ _ us hl => match us, hl with | [_], _ => rfl)
  have b_Book_beginning : FnB ⟨P, w, mg, base, ⟨K, faK K, caK K, T⟩, xnT⟩ 304 ["self"] 2 F_Book_beginning := ⟨fd_Book_beginning, B_Book_beginning, d_Book_beginning L_Book_beginning k_Book n_Book_tables⟩
  have m_Book_beginning : Meth K (caK K 60) "beginning" (faK K 304) := He.meth_ok (c.get 68 rfl : (He.Fa.meth "Book" "beginning").ok K = true)
  obtain ⟨fd_Book_undo, D_Book_undo⟩ := c.def_ 30 (d := dD ("Book", some "undo") "undo" "Book.undo" (mth 46 6)) rfl
  have L_Book_undo : Fun K "undo" "Book.undo" s_Book_undo (faK K 306) fd_Book_undo := fun_of D_Book_undo
  have B_Book_undo : Binds K fd_Book_undo ["self"] [] := L_Book_undo.binds (fun _ _ _ _ _ _ us hl => match us, hl with | [_], _ => rfl)
  have b_Book_undo : FnB ⟨P, w, mg, base, ⟨K, faK K, caK K, T⟩, xnT⟩ 306 ["self"] 2 F_Book_undo := ⟨fd_Book_undo, B_Book_undo, d_Book_undo L_Book_undo k_Book n_Book_undone n_Book_tables n_Book_works e_NotNow⟩
  have m_Book_undo : Meth K (caK K 60) "undo" (faK K 306) := He.meth_ok (c.get 69 rfl : (He.Fa.meth "Book" "undo").ok K = true)
  obtain ⟨fd__law_caught, D__law_caught⟩ := c.def_ 50 (d := dD ("_law_caught", none) "_law_caught" "_law_caught" (top 53)) rfl
  have gC_TradeError : mg "TradeError" = some (.ref (caK K 1)) := He.glo_ok X G (c.get 112 rfl : (He.Fa.glo "TradeError").ok K = true)
  have cau__law_caught : CauF ⟨P, w, mg, base, ⟨K, faK K, caK K, T⟩, xnT⟩ "_law_caught" "work" (faK K 53) (caK K 1) (defArgs (top 53)) (defBody (top 53)) (defScope (top 53)) ["work", "caught", "error"] := cauF_ok D__law_caught (He.glo_ok X G (c.get 113 rfl : (He.Fa.glo "_law_caught").ok K = true)) sc__law_caught rfl (Or.inl rfl) (fun _ _ _ _ _ _ us hl => match us, hl with | [_], _ => rfl) fun cdv Y e q =>
    caught_gives (i := 2) (k := 1) sc__law_caught.nd rfl rfl (by decide) (by decide) (by decide) (by decide) rfl rfl (fun _ => rfl) rfl (by rw [e]; exact gC_TradeError) (by decide +kernel) (by decide +kernel) (by decide +kernel) (by decide +kernel) (by decide +kernel) (fun _ => rfl) (fun _ => rfl)
  have hcb_TradeError := exB_ok (ca := caK K) (cN := cN) (fun _ => rfl) (C := caK K 1) rfl (c.get 70 rfl : exB cN "TradeError" [1, 3, 10, 11, 21, 22, 24, 25, 26, 28, 29, 30, 33] [1, 3, 10, 11, 21, 22, 24, 25, 26, 28, 29, 30, 33] K = true)
  have g_NotNow : mg "NotNow" = some (.ref (caK K 28)) := He.glo_ok X G (c.get 44 rfl : (He.Fa.glo "NotNow").ok K = true)
  have i_NotNow : IsC ⟨P, w, mg, base, ⟨K, faK K, caK K, T⟩, xnT⟩ (caK K 28) (some false) (isE [1, 3, 10, 11, 21, 22, 24, 25, 26, 28, 29, 30, 33] [28]) (isE [] []) := isB_ok (cN := cN) (fun _ => rfl) rfl (c.get 50 rfl)
  have g_TooMany : mg "TooMany" = some (.ref (caK K 33)) := He.glo_ok X G (c.get 22 rfl : (He.Fa.glo "TooMany").ok K = true)
  have i_TooMany : IsC ⟨P, w, mg, base, ⟨K, faK K, caK K, T⟩, xnT⟩ (caK K 33) (some false) (isE [1, 3, 10, 11, 21, 22, 24, 25, 26, 28, 29, 30, 33] [33]) (isE [] []) := isB_ok (cN := cN) (fun _ => rfl) rfl (c.get 51 rfl)
  have g_TooFew : mg "TooFew" = some (.ref (caK K 29)) := He.glo_ok X G (c.get 33 rfl : (He.Fa.glo "TooFew").ok K = true)
  have i_TooFew : IsC ⟨P, w, mg, base, ⟨K, faK K, caK K, T⟩, xnT⟩ (caK K 29) (some false) (isE [1, 3, 10, 11, 21, 22, 24, 25, 26, 28, 29, 30, 33] [29]) (isE [] []) := isB_ok (cN := cN) (fun _ => rfl) rfl (c.get 52 rfl)
  have g_BadNumber : mg "BadNumber" = some (.ref (caK K 11)) := He.glo_ok X G (c.get 20 rfl : (He.Fa.glo "BadNumber").ok K = true)
  have i_BadNumber : IsC ⟨P, w, mg, base, ⟨K, faK K, caK K, T⟩, xnT⟩ (caK K 11) (some false) (isE [1, 3, 10, 11, 21, 22, 24, 25, 26, 28, 29, 30, 33] [11]) (isE [] []) := isB_ok (cN := cN) (fun _ => rfl) rfl (c.get 53 rfl)
  have g_BadColumn : mg "BadColumn" = some (.ref (caK K 3)) := He.glo_ok X G (c.get 31 rfl : (He.Fa.glo "BadColumn").ok K = true)
  have i_BadColumn : IsC ⟨P, w, mg, base, ⟨K, faK K, caK K, T⟩, xnT⟩ (caK K 3) (some false) (isE [1, 3, 10, 11, 21, 22, 24, 25, 26, 28, 29, 30, 33] [3]) (isE [] []) := isB_ok (cN := cN) (fun _ => rfl) rfl (c.get 54 rfl)
  have g_BadRow : mg "BadRow" = some (.ref (caK K 21)) := He.glo_ok X G (c.get 24 rfl : (He.Fa.glo "BadRow").ok K = true)
  have i_BadRow : IsC ⟨P, w, mg, base, ⟨K, faK K, caK K, T⟩, xnT⟩ (caK K 21) (some false) (isE [1, 3, 10, 11, 21, 22, 24, 25, 26, 28, 29, 30, 33] [21]) (isE [] []) := isB_ok (cN := cN) (fun _ => rfl) rfl (c.get 55 rfl)
  have g_Twice : mg "Twice" = some (.ref (caK K 30)) := He.glo_ok X G (c.get 26 rfl : (He.Fa.glo "Twice").ok K = true)
  have i_Twice : IsC ⟨P, w, mg, base, ⟨K, faK K, caK K, T⟩, xnT⟩ (caK K 30) (some false) (isE [1, 3, 10, 11, 21, 22, 24, 25, 26, 28, 29, 30, 33] [30]) (isE [] []) := isB_ok (cN := cN) (fun _ => rfl) rfl (c.get 56 rfl)
  have g_BadName : mg "BadName" = some (.ref (caK K 10)) := He.glo_ok X G (c.get 28 rfl : (He.Fa.glo "BadName").ok K = true)
  have i_BadName : IsC ⟨P, w, mg, base, ⟨K, faK K, caK K, T⟩, xnT⟩ (caK K 10) (some false) (isE [1, 3, 10, 11, 21, 22, 24, 25, 26, 28, 29, 30, 33] [10]) (isE [] []) := isB_ok (cN := cN) (fun _ => rfl) rfl (c.get 57 rfl)
  have g_NoGood : mg "NoGood" = some (.ref (caK K 25)) := He.glo_ok X G (c.get 18 rfl : (He.Fa.glo "NoGood").ok K = true)
  have i_NoGood : IsC ⟨P, w, mg, base, ⟨K, faK K, caK K, T⟩, xnT⟩ (caK K 25) (some false) (isE [1, 3, 10, 11, 21, 22, 24, 25, 26, 28, 29, 30, 33] [25]) (isE [] []) := isB_ok (cN := cN) (fun _ => rfl) rfl (c.get 58 rfl)
  have g_NoLand : mg "NoLand" = some (.ref (caK K 26)) := He.glo_ok X G (c.get 16 rfl : (He.Fa.glo "NoLand").ok K = true)
  have i_NoLand : IsC ⟨P, w, mg, base, ⟨K, faK K, caK K, T⟩, xnT⟩ (caK K 26) (some false) (isE [1, 3, 10, 11, 21, 22, 24, 25, 26, 28, 29, 30, 33] [26]) (isE [] []) := isB_ok (cN := cN) (fun _ => rfl) rfl (c.get 59 rfl)
  obtain ⟨fd__law_kind, D__law_kind⟩ := c.def_ 47 (d := dD ("_law_kind", none) "_law_kind" "_law_kind" (top 63)) rfl
  have L__law_kind : Fun K "_law_kind" "_law_kind" s__law_kind (faK K 63) fd__law_kind := fun_of D__law_kind
  have B__law_kind : Binds K fd__law_kind ["error"] [] := L__law_kind.binds (fun _ _ _ _ _ _ us hl => match us, hl with | [_], _ => rfl)
  have h__law_kind : FnF ⟨P, w, mg, base, ⟨K, faK K, caK K, T⟩, xnT⟩ 63 "_law_kind" ["error"] 2 F__law_kind := ⟨He.glo_ok X G (c.get 109 rfl : (He.Fa.glo "_law_kind").ok K = true), L__law_kind.kp, fd__law_kind, B__law_kind, d__law_kind L__law_kind g_isinstance g_NotNow i_NotNow g_TooMany i_TooMany g_TooFew i_TooFew g_BadNumber i_BadNumber g_BadColumn i_BadColumn g_BadRow i_BadRow g_Twice i_Twice g_BadName i_BadName g_NoGood i_NoGood g_NoLand i_NoLand⟩
  obtain ⟨fd__law_left, D__law_left⟩ := c.def_ 45 (d := dD ("_law_left", none) "_law_left" "_law_left" (top 61)) rfl
  have L__law_left : Fun K "_law_left" "_law_left" s__law_left (faK K 61) fd__law_left := fun_of D__law_left
  have B__law_left : Binds K fd__law_left ["some", "at"] [] := L__law_left.binds (fun _ _ _ _ _ _ us hl => match us, hl with | [_, _], _ => rfl)
  have h__law_left : FnF ⟨P, w, mg, base, ⟨K, faK K, caK K, T⟩, xnT⟩ 61 "_law_left" ["some", "at"] 2 F__law_left := ⟨He.glo_ok X G (c.get 107 rfl : (He.Fa.glo "_law_left").ok K = true), L__law_left.kp, fd__law_left, B__law_left, d__law_left L__law_left ⟩
  obtain ⟨fd__law_put, D__law_put⟩ := c.def_ 44 (d := dD ("_law_put", none) "_law_put" "_law_put" (top 60)) rfl
  have L__law_put : Fun K "_law_put" "_law_put" s__law_put (faK K 60) fd__law_put := fun_of D__law_put
  have B__law_put : Binds K fd__law_put ["some", "at", "one"] [] := L__law_put.binds (fun _ _ _ _ _ _ us hl => match us, hl with | [_, _, _], _ => rfl)
  have h__law_put : FnF ⟨P, w, mg, base, ⟨K, faK K, caK K, T⟩, xnT⟩ 60 "_law_put" ["some", "at", "one"] 2 F__law_put := ⟨He.glo_ok X G (c.get 106 rfl : (He.Fa.glo "_law_put").ok K = true), L__law_put.kp, fd__law_put, B__law_put, d__law_put L__law_put ⟩
  obtain ⟨fd__law_done, D__law_done⟩ := c.def_ 46 (d := dD ("_law_done", none) "_law_done" "_law_done" (top 62)) rfl
  have L__law_done : Fun K "_law_done" "_law_done" s__law_done (faK K 62) fd__law_done := fun_of D__law_done
  have B__law_done : Binds K fd__law_done ["table", "work"] [] := L__law_done.binds (fun _ _ _ _ _ _ us hl => match us, hl with | [_, _], _ => rfl)
  have h__law_done : FnF ⟨P, w, mg, base, ⟨K, faK K, caK K, T⟩, xnT⟩ 62 "_law_done" ["table", "work"] 4 F__law_done := ⟨He.glo_ok X G (c.get 108 rfl : (He.Fa.glo "_law_done").ok K = true), L__law_done.kp, fd__law_done, B__law_done, d__law_done L__law_done g_len h__law_left g_tuple g_zip h__law_put⟩
  have g_max : mg "max" = none := He.free_ok X G (c.get 60 rfl : (He.Fa.free "max").ok K = true)
  obtain ⟨fd__law_pick, D__law_pick⟩ := c.def_ 36 (d := dD ("_law_pick", none) "_law_pick" "_law_pick" (top 51)) rfl
  have L__law_pick : Fun K "_law_pick" "_law_pick" s__law_pick (faK K 51) fd__law_pick := fun_of D__law_pick
  have B__law_pick : Binds K fd__law_pick ["draw", "some"] [] := L__law_pick.binds (fun _ _ _ _ _ _ us hl => match us, hl with | [_, _], _ => rfl)
  have h__law_pick : FnF ⟨P, w, mg, base, ⟨K, faK K, caK K, T⟩, xnT⟩ 51 "_law_pick" ["draw", "some"] 6 F__law_pick := ⟨He.glo_ok X G (c.get 98 rfl : (He.Fa.glo "_law_pick").ok K = true), L__law_pick.kp, fd__law_pick, B__law_pick, d__law_pick L__law_pick g_len h__law_take⟩
  obtain ⟨fd__law_work, D__law_work⟩ := c.def_ 48 (d := dD ("_law_work", none) "_law_work" "_law_work" (top 64)) rfl
  have L__law_work : Fun K "_law_work" "_law_work" s__law_work (faK K 64) fd__law_work := fun_of D__law_work
  have B__law_work : Binds K fd__law_work ["draw", "table", "high"] [] := L__law_work.binds (fun _ _ _ _ _ _ us hl => match us, hl with | [_, _, _], _ => rfl)
  have h__law_work : FnF ⟨P, w, mg, base, ⟨K, faK K, caK K, T⟩, xnT⟩ 64 "_law_work" ["draw", "table", "high"] 8 F__law_work := ⟨He.glo_ok X G (c.get 110 rfl : (He.Fa.glo "_law_work").ok K = true), L__law_work.kp, fd__law_work, B__law_work, d__law_work L__law_work g_max g_min g_range h__law_take g_tuple h__law_pick g_len g_list⟩
  obtain ⟨fd__law_table, D__law_table⟩ := c.def_ 41 (d := dD ("_law_table", none) "_law_table" "_law_table" (top 57)) rfl
  have L__law_table : Fun K "_law_table" "_law_table" s__law_table (faK K 57) fd__law_table := fun_of D__law_table
  have B__law_table : Binds K fd__law_table ["draw", "lands", "goods", "high"] [] := L__law_table.binds (fun _ _ _ _ _ _ us hl => match us, hl with | [_, _, _, _], _ => rfl)
  have h__law_table : FnF ⟨P, w, mg, base, ⟨K, faK K, caK K, T⟩, xnT⟩ 57 "_law_table" ["draw", "lands", "goods", "high"] 6 F__law_table := ⟨He.glo_ok X G (c.get 103 rfl : (He.Fa.glo "_law_table").ok K = true), L__law_table.kp, fd__law_table, B__law_table, d__law_table L__law_table h__law_take g_tuple⟩
  obtain ⟨fd__law_shuffled, D__law_shuffled⟩ := c.def_ 37 (d := dD ("_law_shuffled", none) "_law_shuffled" "_law_shuffled" (top 52)) rfl
  have L__law_shuffled : Fun K "_law_shuffled" "_law_shuffled" s__law_shuffled (faK K 52) fd__law_shuffled := fun_of D__law_shuffled
  have B__law_shuffled : Binds K fd__law_shuffled ["draw", "some"] [] := L__law_shuffled.binds (fun _ _ _ _ _ _ us hl => match us, hl with | [_, _], _ => rfl)
  have h__law_shuffled : FnF ⟨P, w, mg, base, ⟨K, faK K, caK K, T⟩, xnT⟩ 52 "_law_shuffled" ["draw", "some"] 6 F__law_shuffled := ⟨He.glo_ok X G (c.get 99 rfl : (He.Fa.glo "_law_shuffled").ok K = true), L__law_shuffled.kp, fd__law_shuffled, B__law_shuffled, d__law_shuffled L__law_shuffled g_len h__law_take g_list⟩
  have g_sorted : mg "sorted" = none := He.free_ok X G (c.get 48 rfl : (He.Fa.free "sorted").ok K = true)
  obtain ⟨fd__law_lot_of, D__law_lot_of⟩ := c.def_ 38 (d := dD ("_law_lot_of", none) "_law_lot_of" "_law_lot_of" (top 54)) rfl
  have L__law_lot_of : Fun K "_law_lot_of" "_law_lot_of" s__law_lot_of (faK K 54) fd__law_lot_of := fun_of D__law_lot_of
  have B__law_lot_of : Binds K fd__law_lot_of ["draw", "pool", "many"] [] := L__law_lot_of.binds (fun _ _ _ _ _ _ us hl => match us, hl with | [_, _, _], _ => rfl)
  have h__law_lot_of : FnF ⟨P, w, mg, base, ⟨K, faK K, caK K, T⟩, xnT⟩ 54 "_law_lot_of" ["draw", "pool", "many"] 8 F__law_lot_of := ⟨He.glo_ok X G (c.get 100 rfl : (He.Fa.glo "_law_lot_of").ok K = true), L__law_lot_of.kp, fd__law_lot_of, B__law_lot_of, d__law_lot_of L__law_lot_of h__law_shuffled g_sorted g_tuple⟩
  obtain ⟨fd__law_goods, D__law_goods⟩ := c.def_ 40 (d := dD ("_law_goods", none) "_law_goods" "_law_goods" (top 56)) rfl
  have L__law_goods : Fun K "_law_goods" "_law_goods" s__law_goods (faK K 56) fd__law_goods := fun_of D__law_goods
  have B__law_goods : Binds K fd__law_goods ["draw", "many"] [] := L__law_goods.binds (fun _ _ _ _ _ _ us hl => match us, hl with | [_, _], _ => rfl)
  have h__law_goods : FnF ⟨P, w, mg, base, ⟨K, faK K, caK K, T⟩, xnT⟩ 56 "_law_goods" ["draw", "many"] 10 F__law_goods := ⟨He.glo_ok X G (c.get 102 rfl : (He.Fa.glo "_law_goods").ok K = true), L__law_goods.kp, fd__law_goods, B__law_goods, d__law_goods L__law_goods h__law_lot_of⟩
  obtain ⟨fd__law_lands, D__law_lands⟩ := c.def_ 39 (d := dD ("_law_lands", none) "_law_lands" "_law_lands" (top 55)) rfl
  have L__law_lands : Fun K "_law_lands" "_law_lands" s__law_lands (faK K 55) fd__law_lands := fun_of D__law_lands
  have B__law_lands : Binds K fd__law_lands ["draw", "many"] [] := L__law_lands.binds (fun _ _ _ _ _ _ us hl => match us, hl with | [_, _], _ => rfl)
  have h__law_lands : FnF ⟨P, w, mg, base, ⟨K, faK K, caK K, T⟩, xnT⟩ 55 "_law_lands" ["draw", "many"] 10 F__law_lands := ⟨He.glo_ok X G (c.get 101 rfl : (He.Fa.glo "_law_lands").ok K = true), L__law_lands.kp, fd__law_lands, B__law_lands, d__law_lands L__law_lands h__law_lot_of⟩
  obtain ⟨fd__law_some_table, D__law_some_table⟩ := c.def_ 42 (d := dD ("_law_some_table", none) "_law_some_table" "_law_some_table" (top 58)) rfl
  have L__law_some_table : Fun K "_law_some_table" "_law_some_table" s__law_some_table (faK K 58) fd__law_some_table := fun_of D__law_some_table
  have B__law_some_table : Binds K fd__law_some_table ["draw", "most"] [] := L__law_some_table.binds (fun _ _ _ _ _ _ us hl => match us, hl with | [_, _], _ => rfl)
  have h__law_some_table : FnF ⟨P, w, mg, base, ⟨K, faK K, caK K, T⟩, xnT⟩ 58 "_law_some_table" ["draw", "most"] 12 F__law_some_table := ⟨He.glo_ok X G (c.get 104 rfl : (He.Fa.glo "_law_some_table").ok K = true), L__law_some_table.kp, fd__law_some_table, B__law_some_table, d__law_some_table L__law_some_table h__law_take h__law_table h__law_goods h__law_lands⟩
  have g_abs : mg "abs" = none := He.free_ok X G (c.get 47 rfl : (He.Fa.free "abs").ok K = true)
  obtain ⟨fd__law_begun, D__law_begun⟩ := c.def_ 33 (d := dD ("_law_begun", none) "_law_begun" "_law_begun" (top 48)) rfl
  have L__law_begun : Fun K "_law_begun" "_law_begun" s__law_begun (faK K 48) fd__law_begun := fun_of D__law_begun
  have B__law_begun : Binds K fd__law_begun ["script"] [] := L__law_begun.binds (fun _ _ _ _ _ _ us hl => match us, hl with | [_], _ => rfl)
  have h__law_begun : FnF ⟨P, w, mg, base, ⟨K, faK K, caK K, T⟩, xnT⟩ 48 "_law_begun" ["script"] 2 F__law_begun := ⟨He.glo_ok X G (c.get 95 rfl : (He.Fa.glo "_law_begun").ok K = true), L__law_begun.kp, fd__law_begun, B__law_begun, d__law_begun L__law_begun g_abs g_int⟩
  exact d_law L_law (codeD D_law) TB (by subst hT; exact List.mem_singleton.mpr rfl) (by subst hT; intro p hp _; rw [List.mem_singleton.mp hp]) b_Book_journal k_Book m_Book_journal q_Book b_Book_table m_Book_table h__law_same b_Book_do m_Book_do b_Book___init__ mk_Book g_Book g_len g_min g_range b_Book_copy m_Book_copy b_Book_redo m_Book_redo h__law_take b_Book_beginning m_Book_beginning b_Book_undo m_Book_undo cau__law_caught hcb_TradeError h__law_kind g_list h__law_done h__law_work h__law_some_table h__law_begun
end WK

open PySem PySem.W PySem.Calls PyProof.Rows
theorem WK.plain : KK.PlainLaw 63 WK.F_law := WK.plain62
theorem PySem.Challenge.cw_whomakes_k62_whole_books_through_works_holds : PySem.Challenge.rw_whomakes_k62_whole_books_through_works.Holds := by
  w_on; o_law
  refine HandSHeadRun.head_any (r := OpenLaw.row PySem.Challenge.rw_whomakes_k62_whole_books_through_works) (q := WK.qv) (H := WK.hk) (ob := WK.ob) (M := 6000) (loose := WK.names) (d := HandSHeadRun.topDef (OpenLaw.row PySem.Challenge.rw_whomakes_k62_whole_books_through_works).prog 65) (kwd := []) WK.ob_eq
    (by kernel_rfl) (fun s => by kernel_rfl) WK.run (by kernel_rfl) (by kernel_rfl) (by kernel_rfl) (by rfl) (by first | assumption | decide +kernel) (by decide +kernel) ⟨rfl, rfl, rfl, rfl, rfl, by decide +kernel⟩ ?hw ?hc
  case hw => w_witness2
  case hc =>
    refine KK.walk_ofG (l := PySem.Challenge.rw_whomakes_k62_whole_books_through_works) (n := 63) (k := 17) (x := "script") (CX := fun w => L2.CX PySem.Challenge.rw_whomakes_k62_whole_books_through_works.prog w) rfl (by decide) (by kernel_rfl) ⟨rfl, by decide, by decide⟩ ?F (fun w H s e s' h => ?cx)
    case F =>
      intro w mg fa h Y G hmg0
      obtain ⟨K, KX, c⟩ := Y
      have hmg : mg ("law" : PySem.Str) = some (.ref fa) := by  -- 167
        have e : (HandSHeadRun.topDef (OpenLaw.row PySem.Challenge.rw_whomakes_k62_whole_books_through_works).prog 65).name = ("law" : PySem.Str) := by kernel_rfl
        rw [← e]
        exact hmg0
      have hm : (("law", none) : He.Defn) ∈ WK.tfs := List.mem_singleton.mpr rfl
      exact ⟨K, KX, KK.lawG_of WK.plain (c.emp _ hm) (c.out _ hm) (PySem.W.codeHd_of_K KX (c.hd _ hm)) (WK.facts KX G hmg c)⟩
    case cx =>
      obtain ⟨_, _, _, _, _, _, _, _, _, _, _, _, z⟩ := h  -- 168
      exact z
