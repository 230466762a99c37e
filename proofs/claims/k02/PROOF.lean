import PyProof.Rows.All
import Wide.All
import OpenK.AllK
import Wide.FinOn
import HandS.ForMost
import HandS.ForExc
import HandS.Flow
import HandS.Wide
import HandS.IsInst
import HandS.StrMore
import HandS.Strs
import HandS.Defaults
import HandS.RaiseOp
import HandS.TupAny
import HandS.CallSlots
import HandS.Flt
import HandS.More
import HandS.Steps
import HandS.ExcIs
import HandS.ExcField
import HandS.ExcInit
import KE.KExcSuper
import KE.KSuper
import PyProof.StrBlock2
import HandS.Nested
import PyProof.Rows.StrJoinMade
import HandS.HeadHook3
import KE.KExcIs
import HandS.HeadEnd
import HandS.Head0
import HandS.Head1
import HandS.Head2
import HandS.HeadHook1
import HandS.HeadHook2
import PySem.Challenge.RW_livestead_k02_any_text
import KE.KStateDown
set_option Elab.async false
set_option linter.all false
set_option maxRecDepth 100000
set_option maxHeartbeats 0
set_option autoImplicit false
namespace Dy
open PySem PySem.Spec PyProof.Rows L2
/-! ### tuples whose object has no dict of its own -/
def GT (K : PySem.W.Frag) (H : Hp) (a : Addr) (xs : List V) : Prop :=
  (∃ o, H a = some (.frz o (.tup xs)) ∧ o.dict = none) ∨
    ∃ (o : Obj) (its : Array Value) (n : Nat), K.lookup a = some o ∧ o.cls = .type "tuple" ∧ o.dict = none ∧ o.data = .seq its n ∧ its.size ≤ sizeLine ∧ Vals xs its.toList
theorem GT.sq {K : PySem.W.Frag} {H : Hp} {a : Addr} {xs : List V} (h : GT K H a xs) : SqT K H a xs := by
  rcases h with ⟨o, h, _⟩ | ⟨o, its, n, h1, h2, _, h3⟩
  · exact .inl (.inr ⟨o, h⟩)
  · exact .inr ⟨o, its, n, h1, h2, h3⟩
def NewT (H : Hp) (xs : List V) (Q : VK) : Prop := ∀ p o, H p = none → o.dict = none → Q (.ref p) (upd H p (.frz o (.tup xs)))
section
variable {X : Cx}
theorem newTup {pins : List (Addr × Obj)} {σ : L2.St} {H : Hp} {s : Shared} {xs : List V} {its : List Value} {Q : VK} (I : Inv X pins σ H s) (r : Vals xs its) (hz : xs.length ≤ sizeLine) (q : NewT H xs Q) :
    EP X pins σ Q (.ref s.heap.objs.size) { s with heap := s.heap.push { cls := .type "tuple", data := .seq its.toArray } } := by
  have hf : H s.heap.objs.size = none := I.hok.fresh (Nat.le_refl _)
  refine ⟨.ref s.heap.objs.size, _, I.laid (t' := s.toks) (o := .frz { cls := .type "tuple", data := .seq its.toArray } (.tup xs)) (fun b u e => Heap.get?_push_of_some _ e) (Nat.le_refl _) ?_, rfl, q _ _ hf rfl⟩
  exact ⟨Heap.get?_push_size _ rfl, hz, its, r, IsTup.new _ _⟩
def tTupF (t : TA) : TE := fun σ H Q => t σ H fun xs H1 => xs.length ≤ sizeLine ∧ NewT H1 xs Q
theorem pe_tupF {es : List Expr} {t : TA} {pos : Pos} {x1 : Nat} (h : PA X es t) : PE X (.Tuple es x1 pos) (tTupF t) := by
  refine ⟨fun pins s σ H Q I hq => ?_⟩
  refine wpAny_Tuple_spliced (thn (h.run pos pins s σ H _ I hq) fun us s1 ⟨xs, H1, I1, r, z, q⟩ => ⟨by rw [← r.length]; exact z, ?_⟩)
  exact newTup I1 r z q
theorem call_tupleF : CallR X (.type "tuple") (fun xs H Q => ∃ p ys, xs = [.ref p] ∧ ((SqL X.K H p ys ∧ NewT H ys Q) ∨ (SqT X.K H p ys ∧ Q (.ref p) H))) := by
  intro pins s σ H xs us Q I r h
  obtain ⟨p, ys, rfl, h⟩ := h
  obtain ⟨u, rfl, rx⟩ := vals1 r
  cases rx
  rcases h with ⟨hq, q⟩ | ⟨hq, q⟩
  · obtain ⟨its, r', pl, hz⟩ := I.list hq
    have hlen := r'.length
    refine call_tuple_list pl.isList (fun h' kp => ?_) (by simp only [List.size_toArray] <;> omega)
    have I1 : Inv X pins σ H { s with heap := h' } := I.kept (t' := s.toks) kp
    exact newTup I1 r' hz q
  · obtain ⟨its, r', pl, hz⟩ := I.tuple hq
    exact call_tuple_same pl ⟨.ref p, H, I, rfl, q⟩
def rSlF (K : PySem.W.Frag) : V → Option Int → Option Int → Hp → VK → Prop := fun x lo hi H Q => ∃ a xs, x = .ref a ∧ SqT K H a xs ∧
  (HT.sIx xs.length 0 lo = 0 ∧ HT.sIx xs.length xs.length hi = xs.length → Q (.ref a) H) ∧ (¬ (HT.sIx xs.length 0 lo = 0 ∧ HT.sIx xs.length xs.length hi = xs.length) → NewT H (cutV xs lo hi) Q)
theorem sl_tupF : SlR X (rSlF X.K) := by
  intro pins s σ H x v vl vu lo hi sl Q I rx hs pl pu h
  obtain ⟨a, xs, rfl, hx, q1, q2⟩ := h
  cases rx
  obtain ⟨its, r, ht, hz⟩ := I.tuple hx
  have hlen : its.toArray.size = xs.length := by rw [List.size_toArray]; exact r.length.symm
  refine ⟨"tuple", _, PyProof.Rows.slot_tuple_getitem.lookup, ht.typeIs, ?_⟩
  by_cases hw : HT.sIx xs.length 0 lo = 0 ∧ HT.sIx xs.length xs.length hi = xs.length
  · exact getItem_tuple_whole ht hs pl pu (by rw [hlen]; exact hw) ⟨.ref a, H, I, rfl, q1 hw⟩
  · refine HT.getItem_tuple_cut ht hs pl pu (by rw [hlen]; exact hw) ?_ (by rw [hlen]; exact hz)
    rw [hlen]
    exact newTup I ((r.drop (HT.sIx xs.length 0 lo)).take (HT.sIx xs.length xs.length hi - HT.sIx xs.length 0 lo)) (Nat.le_trans (cutV_length xs lo hi) hz) (q2 hw)
def rCatF (K : PySem.W.Frag) : R2 := fun x y H Q => ∃ a b xs ys, x = .ref a ∧ y = .ref b ∧ SqT K H a xs ∧ SqT K H b ys ∧ xs.length + ys.length ≤ sizeLine ∧
  (xs = [] → Q (.ref b) H) ∧ (xs ≠ [] → ys = [] → Q (.ref a) H) ∧ (xs ≠ [] → ys ≠ [] → NewT H (xs ++ ys) Q)
theorem op_catF : OpR X (binaryOp .Add) (rCatF X.K) := by
  intro pins s σ H x y v u Q I rx ry h
  obtain ⟨a, b, xs, ys, rfl, rfl, ha, hb, hz, q0, q1, q2⟩ := h
  cases rx
  cases ry
  obtain ⟨its, r1, p1, _⟩ := I.tuple ha
  obtain ⟨its2, r2, p2, _⟩ := I.tuple hb
  by_cases hx : xs = []
  · subst hx
    cases r1
    exact cat_tup0 p1 p2 ⟨.ref b, H, I, rfl, q0 rfl⟩
  · refine HT.cat_tup p1 p2 (fun z => hx (r1.nil_iff.mp z)) (fun z => ⟨.ref a, H, I, rfl, q1 hx (r2.nil_iff.mp z)⟩) (fun z => ?_) (by rw [← r1.length, ← r2.length]; exact hz)
    exact newTup I (r1.append r2) (by rw [List.length_append]; exact hz) (q2 hx fun w => z (r2.nil_iff.mpr w))
/-! ### o.m(..) of a built-in's method, whatever tells the type -/
def TyG (X : Cx) (T : String) (x : V) (H : Hp) : Prop := ∀ (pins : List (Addr × Obj)) (σ : L2.St) (s : Shared) (v : Value), Inv X pins σ H s → RelV x v → s.TypeIs v T ∧ ∀ a, v = .ref a → ∃ ob, s.heap.get? a = some ob ∧ ob.dict = none
theorem TyG.of {T : String} {x : V} {H : Hp} (h : tyV X.K T x H) : TyG X T x H := fun _ _ _ _ I r => tyV_is I r h
theorem TyG.tup {a : Addr} {H : Hp} {xs : List V} (h : GT X.K H a xs) : TyG X "tuple" (.ref a) H := fun pins σ s v I r => by
  cases r
  rcases h with ⟨o, h, hd⟩ | ⟨o, its, n, h1, h2, h3, _⟩
  · obtain ⟨e, hz, its, r, p⟩ := I.hok a _ h
    refine ⟨p.typeIs, fun b e2 => ?_⟩
    cases e2
    exact ⟨o, e, hd⟩
  · refine ⟨⟨o, I.kIn a o h1, h2⟩, fun b e2 => ?_⟩
    cases e2
    exact ⟨o, I.kIn _ o h1, h3⟩
def tBG (X : Cx) (T : String) (r : V → List V → Hp → VK → Prop) (to : TE) (t : TA) : TE := fun σ H Q => to σ H fun x H1 => TyG X T x H1 ∧ t σ H1 fun xs H2 => r x xs H2 Q
theorem pe_bG {o e : Expr} {es : List Expr} {to : TE} {t : TA} {name : Str} {apos cpos : Pos} {T id : String} {r : V → List V → Hp → VK → Prop} (pa : PlainAttrs T) (slot : Slot T name id) (hty : typeOf (.builtin id) = pure (.type "method_descriptor")) (hm : MtR X id r) (ho : PE X o to) (ha : PA X (e :: es) t)
    (hbase : attributeBase o name X.env (eval o X.env) = eval o X.env)
    (hfew : ((backTo cpos (starEach (e :: es) X.env)).all (fun x => !x.1) && (backToKw cpos (keywordEach [] X.env)).all (fun x => x.1.isSome)
      && decide ((e :: es).length + ([] : List Keyword).length + (if ([] : List Keyword).isEmpty then 0 else 1) < 30)) = true)
    (hline : (apos.endLine == cpos.line) = true) (hs : starEach (e :: es) X.env = (false, eval e X.env) :: starEach es X.env) (hplain : (backTo cpos (starEach es X.env)).any (·.1) = false) :
    PE X (.Call (.Attribute o name apos) (e :: es) [] cpos) (tBG X T r to t) := by
  refine ⟨fun pins s σ H Q I h => ?_⟩
  refine wpAny_Call_method_late hbase hfew hline rfl (thn (ho.run pins s σ H _ I h) fun v s1 ⟨x, H1, I1, r1, ty, q1⟩ => ?_)
  obtain ⟨h1, h2⟩ := ty pins σ s1 v I1 r1
  refine ⟨T, id, pa, slot, hty, h1, h2, ?_⟩
  have hA := ha.run cpos pins s1 σ H1 _ I1 q1
  rw [hs] at hA ⊢
  refine Calls.callWith_builtin (by show (false || (backTo cpos (starEach es X.env)).any (·.1)) = false; rw [hplain] <;> rfl) (Calls.evalArgs_plain ?_)
  exact thn hA fun us s2 ⟨vs, H2, I2, r2, q2⟩ => hm pins s2 σ H2 x vs v us Q I2 r1 r2 q2
/-! ### calls, what is raised wished for at the caller's slots -/
theorem pe_callSD0 {CX : CXT} {k : Nat} {f : Addr} {fd : FuncData} {ps : List Str} {sp : Sp} {dvs : List V} {ds : List Value} {E : L2.St → XK} {x : Str} {p pos : Pos} (F : FnOk X.prog X.w X.K X.mg X.base CX k f fd ps sp) (hr : Room k X.A) (hg : Gl X x) (hm : X.mg x = some (.ref f)) (hk : PySem.W.keepIn X.K (.ref f) = true) (hb : Binds X.K fd ps ds) (hd : Vals dvs ds) (hx : ∀ σ, PassesAt CX X σ (E σ))
    (hdb : (x == ("__debug__" : Str)) = false) : PE X (.Call (.Name x p) [] [] pos) (tCallSD sp dvs E tNil) := by
  refine ⟨fun pins s σ H Q I h => ?_⟩
  refine wpAny_Call_Name_kw (ld_glob I hg hm ?_ hdb)
  exact PySem.W.callWith_K0 I.kIn hk (run_fnSD (us := []) (vs := []) F hr hb hd (hx σ) I .nil h)
end
/-! ### o.m(..), C(..), what is raised wished for at the caller's slots -/
theorem call_tree {env : Env} {o : Expr} {m : Str} {apos pos : Pos} {args : List Expr} (hbase : attributeBase o m env (eval o env) = eval o env)
    (hfew : ((backTo pos (starEach args env)).all (fun x => !x.1) && (backToKw pos (keywordEach [] env)).all (fun x => x.1.isSome)
      && decide (args.length + ([] : List Keyword).length + (if ([] : List Keyword).isEmpty then 0 else 1) < 30)) = true)
    (hline : (apos.endLine == pos.line) = true) : ∃ pl : Sem Bool, eval (.Call (.Attribute o m apos) args [] pos) env = (do
      let ov ← eval o env
      standAt apos.atName
      let (f, first) ← holding [ov] (getMethod ov m pl)
      callWith pos f first (backTo pos (starEach args env)) (backToKw pos (keywordEach [] env))) := by
  have hform : methodCallForm (args.length + ([] : List Keyword).length) (backTo pos (starEach args env)) (backToKw pos (keywordEach [] env)) = true := hfew
  have hpos : methodCallPos true o env apos pos = pure pos := by unfold methodCallPos; simp [hline]
  refine ⟨(do return (← importBound o env).getD true), ?_⟩
  rw [arm_eval_Call, hbase]
  unfold methodCall calleeOf
  rw [hform, hpos]
  simp only [pure_bind, if_true]
section
variable {X : Cx} {CX : CXT} {k : Nat} {f C : Addr} {fd : FuncData} {ps : List Str} {sp : Sp} {dvs : List V} {ds : List Value} {E : L2.St → XK} {x m : Str} {p pos apos : Pos} {e o : Expr} {es : List Expr} {ta : TE} {t : TA}
def tMethSD (C : Addr) (m : Str) (sp : Sp) (dvs : List V) (E : L2.St → XK) (ta : TE) (t : TA) : TE := fun σ H Q => ta σ H fun x H1 => ∃ a dx fs, x = .ref a ∧ H1 a = some (.ins C dx fs) ∧ fs.lookup m = none ∧
  t σ H1 fun vs H2 => sp (x :: (vs ++ dvs)) H2 Q (E σ)
theorem pe_methSD (he : PE X o ta) (c : Cls X.K C) (hm : Meth X.K C m f) (F : FnOk X.prog X.w X.K X.mg X.base CX k f fd ps sp) (hr : Room k X.A) (hb : Binds X.K fd ps ds) (hd : Vals dvs ds) (hx : ∀ σ, PassesAt CX X σ (E σ)) (ha : PA X (e :: es) t)
    (hst : starEach (e :: es) X.env = (false, eval e X.env) :: starEach es X.env) (hpl : (backTo pos (starEach es X.env)).any (·.1) = false)
    (hbase : attributeBase o m X.env (eval o X.env) = eval o X.env)
    (hfew : ((backTo pos (starEach (e :: es) X.env)).all (fun x => !x.1) && (backToKw pos (keywordEach [] X.env)).all (fun x => x.1.isSome)
      && decide ((e :: es).length + ([] : List Keyword).length + (if ([] : List Keyword).isEmpty then 0 else 1) < 30)) = true)
    (hline : (apos.endLine == pos.line) = true) :
    PE X (.Call (.Attribute o m apos) (e :: es) [] pos) (tMethSD C m sp dvs E ta t) := by
  obtain ⟨pl, ht⟩ := call_tree hbase hfew hline
  refine ⟨fun pins s σ H Q I h => ?_⟩
  refine PySem.W.methodCall_KW (pl := pl) (thn (he.run pins s σ H _ I h) fun u s1 ⟨x, H1, I1, rx, a, dx, fs, ex, ea, l, q⟩ => ?_) ht
  subst ex
  obtain rfl : u = Value.ref a := rx
  refine getmeth_ok I1 ea c hm l ?_
  refine PySem.W.callWith_K (first := [.ref a]) (h₀ := X.base) I.ok.mod.kin hm.kp (thn (ha.run pos pins s1 σ H1 _ I1 q) fun us s2 ⟨vs, H2, I2, r, q2⟩ => ⟨I2.kIn, ?_⟩) hst hpl
  exact run_fnSD (us := .ref a :: us) (vs := .ref a :: vs) F hr hb hd (hx σ) I2 (.cons rfl r) q2
theorem pe_methSD0 (he : PE X o ta) (c : Cls X.K C) (hm : Meth X.K C m f) (F : FnOk X.prog X.w X.K X.mg X.base CX k f fd ps sp) (hr : Room k X.A) (hb : Binds X.K fd ps ds) (hd : Vals dvs ds) (hx : ∀ σ, PassesAt CX X σ (E σ))
    (hbase : attributeBase o m X.env (eval o X.env) = eval o X.env) (hline : (apos.endLine == pos.line) = true) :
    PE X (.Call (.Attribute o m apos) [] [] pos) (tMethSD C m sp dvs E ta tNil) := by
  obtain ⟨pl, ht⟩ := call_tree (args := []) hbase rfl hline
  refine ⟨fun pins s σ H Q I h => ?_⟩
  refine PySem.W.methodCall_KW (pl := pl) (thn (he.run pins s σ H _ I h) fun u s1 ⟨x, H1, I1, rx, a, dx, fs, ex, ea, l, q⟩ => ?_) ht
  subst ex
  obtain rfl : u = Value.ref a := rx
  refine getmeth_ok I1 ea c hm l ?_
  exact PySem.W.callWith_K0 (first := [.ref a]) I1.kIn hm.kp (run_fnSD (us := [.ref a]) (vs := [.ref a]) F hr hb hd (hx σ) I1 (.cons rfl .nil) q)
def tMakeSD (C : Addr) (sp : Sp) (dvs : List V) (E : L2.St → XK) (t : TA) : TE := fun σ H Q => t σ H fun vs H1 => ∀ x dx, H1 x = none → H1 dx = none → dx ≠ x →
  sp (.ref x :: (vs ++ dvs)) (upd (upd H1 dx (.own x)) x (.ins C dx [])) (fun v H2 => v = .non ∧ Q (.ref x) H2) (E σ)
theorem run_makeSD {pins : List (Addr × Obj)} {σ : L2.St} {H : Hp} {s : Shared} {Q : VK} {us : List Value} {vs : List V} (M : Mk X.K C f) (F : FnOk X.prog X.w X.K X.mg X.base CX k f fd ps sp) (hr : Room (k + 1) X.A) (hb : Binds X.K fd ps ds) (hd : Vals dvs ds)
    (hx : PassesAt CX X σ (E σ)) (I : Inv X pins σ H s) (r : Vals vs us)
    (h : ∀ x dx, H x = none → H dx = none → dx ≠ x → sp (.ref x :: (vs ++ dvs)) (upd (upd H dx (.own x)) x (.ins C dx [])) (fun v H2 => v = .non ∧ Q (.ref x) H2) (E σ)) :
    wpAny (model X.prog X.w) X.A (call (.ref C) us) (EP X pins σ Q) X.xe s := by
  have hq := h (s.heap.objs.size + 1) s.heap.objs.size (I.hok.fresh (Nat.le_succ _)) (I.hok.fresh (Nat.le_refl _)) (Nat.ne_of_lt (Nat.lt_succ_self _))
  have I2 := Inv.made (C := C) I
  have r2 : Vals (V.ref (s.heap.objs.size + 1) :: (vs ++ dvs)) (Value.ref (s.heap.objs.size + 1) :: (us ++ ds)) := .cons rfl (r.append hd)
  have hl : (Value.ref (s.heap.objs.size + 1) :: us ++ ds).length = ps.length := by
    have e := r2.length
    rw [F.len _ _ _ _ hq] at e
    exact e.symm
  refine wpAny_call (make_map (f := f) I.kIn M.makes M.init (beq_iff_eq.mp M.fn) (codeAny_mono (F.run _ X.stack _ _ ⟨Value.ref (s.heap.objs.size + 1) :: us, []⟩ (Value.ref (s.heap.objs.size + 1) :: (us ++ ds)) _ _ (E σ) (hr.make C us [])
    (I2.env0.make C us []) (hb _ (Value.ref (s.heap.objs.size + 1) :: us) I2.kIn hl) r2 hq) fun r s' hq' => ?_))
  cases r with
  | error e => exact hx pins _ _ e s' I2 hq'
  | ok fl =>
    cases fl with
    | ret u =>
      obtain ⟨v, H', I3, rv, ev, q3⟩ := I2.after hq'
      subst ev
      exact ⟨rv, ⟨V.ref (s.heap.objs.size + 1), H', I3, rfl, q3⟩⟩
    | next => exact False.elim hq'
    | brk => exact False.elim hq'
    | cont => exact False.elim hq'
theorem pe_makeSD (M : Mk X.K C f) (F : FnOk X.prog X.w X.K X.mg X.base CX k f fd ps sp) (hr : Room (k + 1) X.A) (hg : Gl X x) (hm : X.mg x = some (.ref C)) (hb : Binds X.K fd ps ds) (hd : Vals dvs ds) (hx : ∀ σ, PassesAt CX X σ (E σ))
    (ha : PA X (e :: es) t) (hdb : (x == ("__debug__" : Str)) = false) (he : starEach (e :: es) X.env = (false, eval e X.env) :: starEach es X.env) (hpl : (backTo pos (starEach es X.env)).any (·.1) = false) :
    PE X (.Call (.Name x p) (e :: es) [] pos) (tMakeSD C sp dvs E t) := by
  refine ⟨fun pins s σ H Q I h => ?_⟩
  refine wpAny_Call_Name_kw (ld_glob I hg hm ?_ hdb)
  refine PySem.W.callWith_K (h₀ := X.base) I.ok.mod.kin M.kp (thn (ha.run pos pins s σ H _ I h) fun us s1 ⟨vs, H1, I1, r, q⟩ => ⟨I1.kIn, ?_⟩) he hpl
  exact run_makeSD M F hr hb hd (hx σ) I1 r q
theorem pe_makeSD0 (M : Mk X.K C f) (F : FnOk X.prog X.w X.K X.mg X.base CX k f fd ps sp) (hr : Room (k + 1) X.A) (hg : Gl X x) (hm : X.mg x = some (.ref C)) (hb : Binds X.K fd ps ds) (hd : Vals dvs ds) (hx : ∀ σ, PassesAt CX X σ (E σ))
    (hdb : (x == ("__debug__" : Str)) = false) : PE X (.Call (.Name x p) [] [] pos) (tMakeSD C sp dvs E tNil) := by
  refine ⟨fun pins s σ H Q I h => ?_⟩
  refine wpAny_Call_Name_kw (ld_glob I hg hm ?_ hdb)
  exact PySem.W.callWith_K0 I.kIn M.kp (run_makeSD (us := []) M F hr hb hd (hx σ) I .nil h)
/-- o.f = .. as a target -/
def gFld (K : PySem.W.Frag) (f : Str) (to : TE) : TG := fun v σ H Q => to σ H fun x H1 => ∃ a C dx fs, x = .ref a ∧ H1 a = some (.ins C dx fs) ∧ Cls K C ∧ NoAttr K C f ∧ fs.length < 1000 ∧ Q σ (upd H1 a (.ins C dx (putF f v fs)))
theorem pg_fld {f : Str} (ho : PE X o ta) : PG X (.Attribute o f pos) (gFld X.K f ta) := by
  refine ⟨fun pins s σ H v u Q I r h => ?_⟩
  rw [assign_Attribute]
  refine wpAny_bind (wpAny_holding (thn (ho.run pins s σ H _ I h) fun ov s1 ⟨x, H1, I1, r1, a, C, dx, fs, ex, ea, c, n, l, q1⟩ => ?_))
  subst ex
  obtain rfl : ov = Value.ref a := r1
  refine wpAny_bind (wpAny_standAt (wpAny_bind (wpAny_holding ?_)))
  exact setattr_ok I1 ea c n l r fun s2 I2 => wpAny_release ⟨σ, _, I2, q1⟩
end
end Dy

namespace Dy
open PySem PySem.Spec PyProof.Rows L2 NdefX
/-! ### an own exception class whose __init__ says super().__init__(m) and self.f = f -/
theorem call_tree2 {env : Env} {o : Expr} {m : Str} {apos pos : Pos} {args : List Expr}
    (hfew : ((backTo pos (starEach args env)).all (fun x => !x.1) && (backToKw pos (keywordEach [] env)).all (fun x => x.1.isSome)
      && decide (args.length + ([] : List Keyword).length + (if ([] : List Keyword).isEmpty then 0 else 1) < 30)) = true)
    (hline : (apos.endLine == pos.line) = true) : ∃ pl : Sem Bool, eval (.Call (.Attribute o m apos) args [] pos) env = (do
      let ov ← attributeBase o m env (eval o env)
      standAt apos.atName
      let (f, first) ← holding [ov] (getMethod ov m pl)
      callWith pos f first (backTo pos (starEach args env)) []) := by
  have hform : methodCallForm (args.length + ([] : List Keyword).length) (backTo pos (starEach args env)) (backToKw pos (keywordEach [] env)) = true := hfew
  have hpos : methodCallPos true o env apos pos = pure pos := by unfold methodCallPos; simp [hline]
  refine ⟨(do return (← importBound o env).getD true), ?_⟩
  rw [arm_eval_Call]
  unfold methodCall calleeOf
  rw [hform, hpos]
  simp only [pure_bind, if_true]
  rfl
/-- super().__init__(..)'s wrapper called: nothing of it is told -/
theorem obound_ok {X : Cx} {pins : List (Addr × Obj)} {σ : L2.St} {H : Hp} {s : Shared} {a C u : Addr} {us : List Value} {A : Around} {E : Value → Shared → Prop} {Q : Value → Shared → Prop} (T : OexC X.K C) (I : Inv X pins σ H s) (e : H a = some (exo a C none)) (hu : s.heap.get? u = some (PySem.W.kxs_mw "ValueError.__init__" a)) (hl : us.length ≤ sizeLine) (h : ∀ s', Inv X pins σ H s' → Q .none s') :
    wpAny (model X.prog X.w) A (call (.ref u) us) Q E s := by
  obtain ⟨nm, q, N, bs, bm, sn, sub, ab, col, dd, k0, k1, k2, k3, k5, hC, hbm⟩ := T.cls
  obtain ⟨t1, ho⟩ := exo_at I.hok e
  obtain ⟨hp, g, d, t, os⟩ := s
  refine wpAny_call (codeAny_of_tree ?_)
  show wpAny _ A.in1 (callAny (.ref u) ⟨us, []⟩) _ _ _
  simp only [callAny]
  refine wpAny_bind (wpAny_load hu ?_)
  simp only [PySem.W.kxs_mw, show (Value.type "method-wrapper" == Value.type "method" || Value.type "method-wrapper" == Value.type "builtin_function_or_method" || Value.type "method-wrapper" == Value.type "method-wrapper") = true by decide, if_true]
  refine PySem.W.KFB.if_so (by decide) ?_
  refine wpAny_bind (PySem.W.check_bound_init F.excBase_ValueError.toExcCallFacts (I.kIn _ _ hC) ho rfl ?_)
  refine wpAny_bind (wpAny_pure (wpAny_pure ?_))
  have fin : ∀ h', (∀ b o, b ≠ a → hp.get? b = some o → h'.get? b = some o) → (∃ t2, h'.get? a = some (PySem.HandSPX.excO C t2)) → Q .none ⟨h', g, d, t, os⟩ := fun h' k ⟨t2, hx⟩ => by
    have J := I.write (t' := t) (x := a) (e := a) (o := exo a C none) (by rw [e]; exact True.intro) (.inl rfl) k ⟨_, hx⟩ (exo_ok hx)
    have eu : upd H a (exo a C none) = H := by
      funext b
      by_cases hb : b = a
      · rw [hb, upd_same, e]
      · rw [upd_ne hb]
    rw [eu] at J
    exact h _ J
  have ho' : hp.get? a = some (PySem.HandSPX.excO C t1) := ho
  refine ⟨plainId_quiet F.excBase_ValueError.init.plain _, codeAny_builtin F.excBase_ValueError.initEntry ?_⟩
  rw [Around.under_plainId F.excBase_ValueError.init.plain _]
  wp_walk
  refine fin _ (fun b o hb hbo => ?_) ⟨hp.objs.size, ?_⟩
  · rw [Heap.get?_update_other _ _ (Ne.symm hb)]
    exact Heap.get?_push_of_some _ hbo
  · rw [Heap.get?_update_self _ (Heap.get?_push_of_some _ ho') rfl]
    rfl

/-- the body of such an __init__ -/
def iniBody (fl : Str) (m : Expr) (p0 p1 p2 p3 p4 q0 q1 q2 q3 : Pos) : List Stmt := [.Expr (.Call (.Attribute (.Call (.Name "super" p0) [] [] p1) "__init__" p2) [m] [] p3) p4, .Assign [.Attribute (.Name "self" q0) fl q1] (.Name fl q2) q3]
def iniN (fl : Str) : List Str := ["self", fl, "__class__"]
def iniP (fl : Str) : List Str := ["self", fl]
def isStar0 : Expr → Bool
  | .Starred _ _ => true
  | _ => false
/-- what must be known of the class and its __init__ -/
structure IniT (prog : Program) (K : PySem.W.Frag) (mg : Str → Option Value) (C fI : Addr) (fl : Str) (m : Expr) (gs : List Str) : Prop where
  ox : OexC K C
  clx : ∃ cd, PySem.W.clsIn K C = some cd ∧ PySem.W.mroIn K C (.ref C) = some true ∧ PySem.W.alongIn K "__init__" ((cd.mro.dropWhile (· != .ref C)).drop 1) = some (some (.builtin "ValueError.__init__"))
  sub : PySem.W.subIn K (.ref C) (.type "ValueError") = some true
  ini : PySem.W.findIn K (.ref C) "__init__" = some (some (.ref fI))
  tI : PySem.W.typeIn K (.ref fI) = some (.type "function")
  noat : PySem.W.findIn K (.ref C) fl = some none
  opq : PySem.W.nsIn K cStatics "thirdparty.any" = some none
  sup : mg "super" = none
  top : (prog.main.scope.names.lookup ("super" : Str)).isSome = false
  star : isStar0 m = false
  nodbg : (fl == ("__debug__" : Str)) = false ∧ (fl == ("__classdict__" : Str)) = false
  flne : fl ≠ "self"
  fn : ∃ (oc : Value) (od : Option Addr) (osl : Array (Option Value)) (name qual : Str) (params : Arguments) (scope : Scope) (p0 p1 p2 p3 p4 q0 q1 q2 q3 : Pos) (dV kV doc pm : Value) (an : Option Addr) (ct : Value) (cc cda : Addr) (cl : Value) (cld : Option Addr) (csl : Array (Option Value)) (ccl : Value) (cdd : Option Addr) (vs : Array Value) (ccs : Array (Option Value)) (file : Str) (tf : Tok) (ar : Arg),
    K.lookup fI = some ⟨oc, od, .func (PySem.W.fnX name qual params (iniBody fl m p0 p1 p2 p3 p4 q0 q1 q2 q3) scope [("__class__", cc)] dV kV doc pm an (.ref cda) ct), osl⟩ ∧
    PySem.W.codeIn K (.ref cda) qual = true ∧ K.lookup cc = some ⟨cl, cld, .cell (some (.ref C)), csl⟩ ∧ K.lookup cda = some ⟨ccl, cdd, .fields vs, ccs⟩ ∧ vs[2]? = some (.str file tf) ∧ ((prog.main.file : Str) == file) = true ∧
    NScope (iniN fl) (iniP fl) ["__class__"] scope ∧ (∀ x ∈ gs, scope.names.lookup x = some .globalImplicit) ∧ scope.names.lookup ("super" : Str) = some .globalImplicit ∧ (params.posonlyargs ++ params.args).head? = some ar ∧ ar.arg = "self" ∧ (p2.endLine == p3.line) = true ∧
    ∀ us : List Value, us.length = 2 → bindArgs (PySem.W.fnX name qual params (iniBody fl m p0 p1 p2 p3 p4 q0 q1 q2 q3) scope [("__class__", cc)] dV kV doc pm an (.ref cda) ct) ⟨us, []⟩ = pure ((iniP fl).zip us)
/-- the promise: the fields -/
def spI (C : Addr) (fl : Str) (ok : V → Prop) : Sp := fun vs H Q _ => ∃ (a : Addr) (y : V), vs = [.ref a, y] ∧ ok y ∧ H a = some (exo a C none) ∧ ∀ d, H d = none → d ≠ a → Q .non (upd (upd H d (exd d [(fl, y)])) a (exo a C (some d)))
/-- the text that is handed up -/
def MsgOk (P : Program) (w : World) (K : PySem.W.Frag) (mg : Str → Option Value) (fl : Str) (m : Expr) (gs : List Str) (ok : V → Prop) : Prop := ∀ (X : Cx), X.prog = P → X.w = w → X.K = K → X.mg = mg → X.N = iniN fl → Vis X.env.scope fl → X.calm = true → (∀ x ∈ gs, Gl X x) →
  ∃ t : TA, PA X [m] t ∧ ∀ (σ : L2.St) (H : Hp) (y : V) (Q : List V → Hp → Prop), σ[1]? = some (some y) → ok y → (∀ z, Q [.str z] H) → t σ H Q
theorem ini_fnok {P : Program} {w : World} {K : PySem.W.Frag} {mg : Str → Option Value} {base : Heap} {CX : CXT} {C fI : Addr} {fl : Str} {m : Expr} {ok : V → Prop} {k : Nat} {gs : List Str} (T : IniT P K mg C fI fl m gs) (hm : MsgOk P w K mg fl m gs ok) :
    ∃ (fd : FuncData), FnOk P w K mg base CX (k + 1) fI fd (iniP fl) (spI C fl ok) ∧ Binds K fd (iniP fl) [] := by
  obtain ⟨oc, od, osl, name, qual, params, scope, p0, p1, p2, p3, p4, q0, q1, q2, q3, dV, kV, doc, pm, an, ct, cc, cda, cl, cld, csl, ccl, cdd, vsC, ccs, file, tf, ar, lk, hcd, hcc, hcda, hvs, hfile, S, hgs, hks, har, harn, hline, hbind⟩ := T.fn
  refine ⟨_, ⟨fun vs H Q E h => ?_, fun A outer s H args us vs Q E hr e0 hb r hsp => ?_⟩, .all hbind⟩
  · obtain ⟨a, y, rfl, _⟩ := h
    rfl
  obtain ⟨a, y, rfl, hok, ha, q⟩ := hsp
  have KX : K.In s.heap := e0.mod.kin.keeps fun b o e => (e0.bs b o e).1
  have lim : s.heap.NoLimit := e0.mod.nolimit.keeps fun b o e => (e0.bs b o e).1
  let F : NF := ⟨name, qual, params, iniBody fl m p0 p1 p2 p3 p4 q0 q1 q2 q3, scope, [("__class__", cc)], cda⟩
  have CA : CellsAt F.cl ["__class__"] [none] s.heap H := {
    len := rfl
    all := fun z c hz => by
      have ec : cc = c := by
        have hz' : (match z == ("__class__" : Str) with
          | true => some cc
          | false => none) = some c := hz
        cases q : z == ("__class__" : Str) with
        | true => rw [q] at hz'; exact Option.some.inj hz'
        | false => rw [q] at hz'; cases hz'
      subst ec
      exact ⟨(e0.bs _ _ (e0.mod.kin _ _ hcc)).2, _, _, KX _ _ hcc, rfl⟩
    inj := fun x z c h1 h2 => by
      have key : ∀ x, F.cl.lookup x = some c → x = "__class__" := fun x h => by
        by_cases e : x = "__class__"
        · exact e
        · have : (x == ("__class__" : Str)) = false := by simpa using e
          have h' : (match x == ("__class__" : Str) with
            | true => some cc
            | false => none) = some c := h
          rw [this] at h'
          cases h'
      rw [key x h1, key z h2]
    has := fun i z hz => by
      cases i with
      | zero =>
        simp at hz
        subst hz
        exact ⟨cc, by simp [List.lookup, F], fun v hv => by simp at hv⟩
      | succ i => simp at hz }
  refine ks_codeAny_call_defAt (fd := PySem.W.fnX name qual params (iniBody fl m p0 p1 p2 p3 p4 q0 q1 q2 q3) scope [("__class__", cc)] dV kV doc pm an (.ref cda) ct) hr.depth (KX _ _ lk) rfl lim (PySem.W.codeRec_of KX hcd) rfl hb (fun x hx => S.nocell x hx) (fun z hz => S.par z.1 (List.of_mem_zip hz).1) (fun h₀ hns kp => ?_) S.co S.gen S.kind
  have I : Inv (ncx CX P w K mg base (iniN fl) F fI A outer s H E) [] (startF (iniN fl) [.ref a, y] [none]) H { s with heap := h₀, toks := s.toks + ((iniP fl).zip us).length } := inv_startN S hr.hd e0 rfl r CA hns kp
  obtain ⟨cdC, hclx, hsubC, halong⟩ := T.clx
  obtain ⟨t1, hoa⟩ := exo_at I.hok ha
  -- the slots
  have st0 : (startF (iniN fl) [.ref a, y] [none])[0]? = some (some (V.ref a)) := rfl
  have st1 : (startF (iniN fl) [.ref a, y] [none])[1]? = some (some y) := rfl
  have Kh : K.In h₀ := KX.keeps kp
  obtain ⟨oD, hD1, hD2⟩ : ∃ oD, h₀.get? C = some oD ∧ oD.data = .cls cdC := by
    unfold PySem.W.clsIn at hclx
    split at hclx
    · rename_i c d cd' sl ho
      cases hclx
      exact ⟨_, Kh _ _ ho, rfl⟩
    · cases hclx
  have visfl : Vis scope fl := .inl (S.par fl (by simp [iniP]))
  have visself : Vis scope "self" := .inl (S.par "self" (by simp [iniP]))
  -- the end
  have fin : ∀ {σ' : L2.St} {H' : Hp} {s' : Shared}, Inv (ncx CX P w K mg base (iniN fl) F fI A outer s H E) [] σ' H' s' → Q .non H' → CE outer P w H s Q .none s' := fun {σ' H' s'} J q => ⟨.non, H', J.os, J.bare, J.base, J.hok, rfl, q⟩
  -- self.f = f
  have second : ∀ s', Inv (ncx CX P w K mg base (iniN fl) F fI A outer s H E) [] (startF (iniN fl) [.ref a, y] [none]) H s' → wpAny (model P w) (A.deeper (envF F fI s.heap.objs.size)) (execs [.Assign [.Attribute (.Name "self" q0) fl q1] (.Name fl q2) q3] (envF F fI s.heap.objs.size)) (fun f s' => CR CX outer P w H s Q E (.ok (.ret (match f with | .ret v => v | _ => .none))) s') (fun e s' => wpAny (model P w) (A.deeper (envF F fI s.heap.objs.size)) (leaving (envF F fI s.heap.objs.size) e) (fun _ s'' => CR CX outer P w H s Q E (.error e) s'') (fun e' s'' => CR CX outer P w H s Q E (.error e') s'') s') s' := fun s' J => by
    have hps : PSs (ncx CX P w K mg base (iniN fl) F fI A outer s H E) [.Assign [.Attribute (.Name "self" q0) fl q1] (.Name fl q2) q3] _ := pss_one (ps_ost (pe_var (i := 0) (x := "self") rfl visself (by decide) (by decide)) (pe_var (i := 1) (x := fl) rfl visfl T.nodbg.1 T.nodbg.2) rfl)
    refine wpAny_mono (hps.run [] s' _ H { nx := fun _ H' => Q .non H', rt := fun v H' => v = .non ∧ Q .non H' } J ?_) (fun fl' s2 hs => ?_) fun e s2 he => he
    · refine ⟨y, st1, .ref a, st0, a, C, rfl, T.ox, T.noat, .inl ⟨ha, fun dx hd hne => ?_⟩⟩
      exact q dx hd hne
    · cases fl' with
      | ret u =>
        obtain ⟨v, σ', H', J2, rv, e1, q2⟩ := hs
        subst e1
        obtain rfl : u = Value.none := rv
        exact fin J2 q2
      | next =>
        obtain ⟨σ', H', J2, q2⟩ := hs
        exact fin J2 q2
      | brk =>
        obtain ⟨_, _, _, q2⟩ := hs
        exact False.elim q2
      | cont =>
        obtain ⟨_, _, _, q2⟩ := hs
        exact False.elim q2
  have hfewm : ((backTo p3 (starEach [m] (envF F fI s.heap.objs.size))).all (fun x => !x.1) && (backToKw p3 (keywordEach [] (envF F fI s.heap.objs.size))).all (fun x => x.1.isSome)
      && decide (([m] : List Expr).length + ([] : List Keyword).length + (if ([] : List Keyword).isEmpty then 0 else 1) < 30)) = true := by
    have hs := T.star
    cases m <;> first | rfl | cases hs
  have hstm : starEach [m] (envF F fI s.heap.objs.size) = (false, eval m (envF F fI s.heap.objs.size)) :: starEach [] (envF F fI s.heap.objs.size) := by
    have hs := T.star
    cases m <;> first | rfl | cases hs
  obtain ⟨pl, htree⟩ := call_tree2 (env := envF F fI s.heap.objs.size) (o := .Call (.Name "super" p0) [] [] p1) (m := "__init__") (apos := p2) (pos := p3) (args := [m]) hfewm hline
  show _root_.PySem.wpAt (model P w) (A.deeper (envF F fI s.heap.objs.size)) (.func (iniBody fl m p0 p1 p2 p3 p4 q0 q1 q2 q3) (envF F fI s.heap.objs.size)) (execs (iniBody fl m p0 p1 p2 p3 p4 q0 q1 q2 q3) (envF F fI s.heap.objs.size)) _ _ _
  refine ks_wpAt_execs_cons (ks_wpAt_Expr_any (ks_wpAt_MethodCall (pl := pl) ?_ htree) (by simp [interactive, F, S.kind]) rfl)
  refine ks_wpAt_super_base (env := envF F fI s.heap.objs.size) hks (S.frk "__class__" (by simp)) (by decide) rfl (Kh _ _ lk) rfl har rfl (Kh _ _ hcda) rfl hvs hfile T.top ?_
  rw [harn]
  obtain ⟨mb, hmb1, hmb2⟩ := e0.mod.blt
  have keepB : ∀ b o, base.get? b = some o → h₀.get? b = some o := fun b o e => kp _ _ ((e0.bs b o e).1)
  refine PySem.W.ks_loadName_global S.kind hks (Calls.loadGlobal_builtin (env := envF F fI s.heap.objs.size) (e0.mod.glob.keeps keepB) T.sup (hmb1.keeps keepB) ((hmb2 _ (by decide)).trans (by decide +kernel : bootBuiltins "super" = some (.type "super"))) ⟨rfl, ?_⟩)
  refine wpAny_loadName_free (c := cc) (v := .ref C) S.kind (S.frk "__class__" (by simp)) rfl ⟨_, Kh _ _ hcc, rfl⟩ ?_
  cases r with
  | @cons _ u0 _ ur ra rr =>
  cases rr with
  | @cons _ u1 _ ur2 ry rr2 =>
  cases rr2
  obtain rfl : u0 = Value.ref a := ra
  have hself : ((iniP fl).zip [Value.ref a, u1]).reverse.lookup ("self" : Str) = some (Value.ref a) := by
    have hne : (("self" : Str) == fl) = false := by
      cases q : (("self" : Str) == fl) with
      | false => rfl
      | true => exact absurd (beq_iff_eq.mp q).symm T.flne
    show ([(fl, u1), (("self" : Str), Value.ref a)] : List (Str × Value)).lookup ("self" : Str) = _
    rw [List.lookup_cons, hne]
    rfl
  refine wpAny_loadName_local (v := .ref a) S.kind (S.par "self" (by simp [iniP])) hns hself ?_
  refine ks_wpAny_isType_cls hD1 hD2 ⟨rfl, ?_⟩
  refine ks_wpAny_call_super hD1 hD2 hoa rfl (fun c e => by cases e) (PySem.W.looks_mroIn Kh hsubC) (fun h' e k => ?_)
  have Kh' : K.In h' := Kh.keeps k
  have hoa' := k _ _ hoa
  have hne : a ≠ C := fun z => by
    rw [z, hD1] at hoa
    have z2 := Option.some.inj hoa
    rw [z2] at hD2
    cases hD2
  have hIs : PySem.W.Looks (model P w) h' (isInstance (.ref a) (.type "ValueError")) true :=
    PySem.W.Looks.andThen (fun A Q E s k q => wpAny_typeOf_ref (k _ _ hoa') q) (PySem.W.looks_subIn Kh' T.sub)
  refine PySem.W.kxs_getMethod PySem.W.kxs_ValueError e (PySem.W.looks_opaque Kh' T.opq) (l₀ := cdC.mro) (fun A Q E s k q => wpAny_bind ((PySem.W.looks_clsIn Kh' hclx) A _ E s k (wpAny_pure q))) rfl Kh' halong hIs hne (by decide) ?_
  -- the wrapper is pinned
  have J0 := I.kept (h' := h'.push (PySem.W.kxs_mw "ValueError.__init__" a)) (t' := s.toks + ((iniP fl).zip [Value.ref a, u1]).length + 1) (fun b o z => Heap.get?_push_of_some _ (k _ _ z))
  have hu : (h'.push (PySem.W.kxs_mw "ValueError.__init__" a)).get? h'.objs.size = some (PySem.W.kxs_mw "ValueError.__init__" a) := Heap.get?_push_size _ rfl
  have J1' := I.kept (h' := h') (t' := 0) k
  have hun : H h'.objs.size = none := J1'.hok.fresh (Nat.le_refl _)
  have J1 : Inv (ncx CX P w K mg base (iniN fl) F fI A outer s H E) [(h'.objs.size, PySem.W.kxs_mw "ValueError.__init__" a)] (startF (iniN fl) [.ref a, y] [none]) H ⟨h'.push (PySem.W.kxs_mw "ValueError.__init__" a), s.gens, s.drawn, s.toks + ((iniP fl).zip [Value.ref a, u1]).length + 1, s.os⟩ :=
    J0.pins_of fun p hp => by
      · rcases List.mem_singleton.mp hp with rfl
        exact ⟨hu, hun, fun z => absurd J1'.lt (by show ¬ s.heap.objs.size < _; rw [← (show h'.objs.size = s.heap.objs.size from z)]; exact Nat.lt_irrefl _), J1'.nofs (Nat.le_refl _), fun v z => by cases z⟩
  obtain ⟨tm, hpm, hqm⟩ := hm (ncx CX P w K mg base (iniN fl) F fI A outer s H E) rfl rfl rfl rfl rfl visfl rfl (fun x hx => hgs x hx)
  refine PySem.W.kxs_callWith (i := "ValueError.__init__") (x := a) (by rw [hstm]; rfl) ?_
  rw [hstm]
  refine Calls.evalArgs_plain ?_
  have hrun := hpm.run p3 _ _ _ H (fun vs H' => (∃ z, vs = [V.str z]) ∧ H' = H) J1 (hqm _ H y _ st1 hok fun z => ⟨⟨z, rfl⟩, rfl⟩)
  change wpAny _ _ (spliced (backTo p3 (starEach [m] (envF F fI s.heap.objs.size)))) _ _ _ at hrun
  rw [hstm] at hrun
  refine thn hrun fun us2 s3 ⟨vs2, H2, J2, rv2, ⟨z, ez⟩, eH⟩ => ?_
  subst ez
  subst eH
  refine ⟨(J2.pin _ (List.mem_append_right _ (List.mem_singleton.mpr rfl))).1, ?_⟩
  refine obound_ok T.ox J2 ha (J2.pin _ (List.mem_append_right _ (List.mem_singleton.mpr rfl))).1 (by simp only [List.nil_append]; rw [← Paired.length rv2]; show 1 ≤ sizeLine; rw [sizeLine_eq]; omega) fun s4 J4 => ?_
  exact wpAt_of_wpAny (second s4 (J4.pins_of fun p hp => absurd (show p ∈ ([] : List (Addr × Obj)) ++ [] from hp) (by simp)))
end Dy

namespace Dy
open PySem PySem.Spec PyProof.Rows L2 NdefX
/-! ### such a class, looked at -/
def ba4 {a b : Bool} (h : (a && b) = true) : a = true ∧ b = true := Bool.and_eq_true_iff.mp h
def oexB (K : PySem.W.Frag) (C : Addr) : Bool := (match K.lookup C with
  | some ⟨.type t, dd, .cls cd, sl⟩ => decide (t = "type") && (match cd.mro, sl.toList with
    | .ref C' :: bm, [k0, k1, k2, k3, some (.builtin n), k5] => decide (C' = C) && (decide (n = "ValueError.__new__") && (!cd.hasDel && (cd.hasDict && PySem.HandSPX.refsVE bm)))
    | _, _ => false)
  | _ => false) && (decide (PySem.W.findIn K (.ref C) "__setattr__" = some (some (.builtin "object.__setattr__"))) && (decide (PySem.W.subIn K (.ref C) (.type "BaseException") = some true) && (decide (PySem.W.typeIn K (.ref C) = some (.type "type")) && PySem.W.keepIn K (.ref C))))
theorem oexB_ok {K : PySem.W.Frag} {C : Addr} (h : oexB K C = true) : OexC K C := by
  unfold oexB at h
  obtain ⟨h1, h⟩ := ba4 h
  obtain ⟨h2, h⟩ := ba4 h
  obtain ⟨h3, h⟩ := ba4 h
  obtain ⟨h4, h5⟩ := ba4 h
  refine ⟨?_, of_decide_eq_true h2, of_decide_eq_true h3, of_decide_eq_true h4, h5⟩
  split at h1
  · rename_i t dd cd sl ho
    obtain ⟨g1, g2⟩ := ba4 h1
    have g1 := of_decide_eq_true g1
    subst g1
    split at g2
    · rename_i C' bm k0 k1 k2 k3 n k5 hm hs
      obtain ⟨e1, g2⟩ := ba4 g2
      obtain ⟨e2, g2⟩ := ba4 g2
      obtain ⟨e3, g2⟩ := ba4 g2
      obtain ⟨e4, e5⟩ := ba4 g2
      have e1 := of_decide_eq_true e1
      have e2 := of_decide_eq_true e2
      subst e1
      subst e2
      obtain ⟨nm, bs, mro, ns, qn, hd, sn, sub, ab, col, del⟩ := cd
      dsimp only at hm e3 e4 ho
      subst hm
      subst e4
      have e3 : del = false := by simpa using e3
      subst e3
      have hsl : sl = #[k0, k1, k2, k3, some (.builtin "ValueError.__new__"), k5] := by
        obtain ⟨l⟩ := sl
        simp only at hs
        rw [hs]
      subst hsl
      exact ⟨nm, qn, ns, bs, bm, sn, sub, ab, col, dd, k0, k1, k2, k3, k5, ho, e5⟩
    · cases g2
  · cases h1
def clxB (K : PySem.W.Frag) (C : Addr) : Bool := match PySem.W.clsIn K C with
  | some cd => decide (PySem.W.mroIn K C (.ref C) = some true) && decide (PySem.W.alongIn K "__init__" ((cd.mro.dropWhile (· != .ref C)).drop 1) = some (some (.builtin "ValueError.__init__")))
  | none => false
/-- its __init__ as it stands -/
abbrev FnI : Type := Option (Str × Str × Arguments × FuncBody × Scope × Addr × Addr)
def fnI (K : PySem.W.Frag) (x : Str) : FnI := match K.lookup (He.ma K (He.ga K x) "__init__") with
  | some ⟨_, _, .func fd, _⟩ => some (fd.name, fd.qualname, fd.params, fd.body, fd.scope, fd.globals, fd.builtins)
  | _ => none
/-- its class cell, its code -/
def celB (K : PySem.W.Frag) (file : Str) (x : Str) : Bool := match K.lookup (He.ma K (He.ga K x) "__init__") with
  | some ⟨_, _, .func fd, _⟩ => (match fd.closure, fd.code with
    | [(n, cc)], .ref cda => decide (n = "__class__") && ((match K.lookup cc with
      | some ⟨_, _, .cell (some (.ref D)), _⟩ => decide (D = He.ga K x)
      | _ => false) && ((match K.lookup cda with
      | some ⟨_, _, .fields vs, _⟩ => (match (vs[2]? : Option Value) with
        | some (.str f _) => decide (f = file)
        | _ => false)
      | _ => false) && (PySem.W.codeIn K (.ref cda) fd.qualname && (match fd.defaults with
      | .none => true
      | _ => false))))
    | _, _ => false)
  | _ => false
def excB (K : PySem.W.Frag) (file x fl : Str) : Bool :=
  oexB K (He.ga K x) && (clxB K (He.ga K x) && (decide (PySem.W.subIn K (.ref (He.ga K x)) (.type "ValueError") = some true) && (decide (PySem.W.findIn K (.ref (He.ga K x)) "__init__" = some (some (.ref (He.ma K (He.ga K x) "__init__")))) &&
  (decide (PySem.W.typeIn K (.ref (He.ma K (He.ga K x) "__init__")) = some (.type "function")) && (decide (PySem.W.findIn K (.ref (He.ga K x)) fl = some none) && (decide (PySem.W.nsIn K cStatics "thirdparty.any" = some none) && celB K file x))))))
/-- what the text must say of the __init__ -/
structure IniRow (fl : Str) (m : Expr) (gs : List Str) (nm qu : Str) (params : Arguments) (body : List Stmt) (scope : Scope) : Prop where
  shape : ∃ p0 p1 p2 p3 p4 q0 q1 q2 q3, body = iniBody fl m p0 p1 p2 p3 p4 q0 q1 q2 q3 ∧ (p2.endLine == p3.line) = true
  star : isStar0 m = false
  nodbg : (fl == ("__debug__" : Str)) = false ∧ (fl == ("__classdict__" : Str)) = false
  flne : fl ≠ "self"
  sc : nscB (iniN fl) (iniP fl) ["__class__"] scope = true
  gs : ∀ x ∈ gs, scope.names.lookup x = some .globalImplicit
  sup : scope.names.lookup ("super" : Str) = some .globalImplicit
  par : ∃ ar, (params.posonlyargs ++ params.args).head? = some ar ∧ ar.arg = "self"
  bind : ∀ (kV doc pm : Value) (an : Option Addr) (cdv ct : Value) (cl : List (Str × Addr)) (us : List Value), us.length = 2 → bindArgs (PySem.W.fnX nm qu params body scope cl .none kV doc pm an cdv ct) ⟨us, []⟩ = pure ((iniP fl).zip us)
theorem iniT_of {P : Program} {K : PySem.W.Frag} {mg : Str → Option Value} {x fl file : Str} {m : Expr} {gs : List Str} {nm qu : Str} {params : Arguments} {body : List Stmt} {scope : Scope} (hB : excB K file x fl = true) (hF : fnI K x = some (nm, qu, params, .stmts body, scope, mainGlobals, builtinsNs)) (R : IniRow fl m gs nm qu params body scope) (hs : mg "super" = none) (ht : (P.main.scope.names.lookup ("super" : Str)).isSome = false) (hf : P.main.file = file) :
    IniT P K mg (He.ga K x) (He.ma K (He.ga K x) "__init__") fl m gs := by
  unfold excB at hB
  obtain ⟨h1, hB⟩ := ba4 hB
  obtain ⟨h2, hB⟩ := ba4 hB
  obtain ⟨h3, hB⟩ := ba4 hB
  obtain ⟨h4, hB⟩ := ba4 hB
  obtain ⟨h5, hB⟩ := ba4 hB
  obtain ⟨h6, hB⟩ := ba4 hB
  obtain ⟨h7, h8⟩ := ba4 hB
  refine ⟨oexB_ok h1, ?_, of_decide_eq_true h3, of_decide_eq_true h4, of_decide_eq_true h5, of_decide_eq_true h6, of_decide_eq_true h7, hs, ht, R.star, R.nodbg, R.flne, ?_⟩
  · unfold clxB at h2
    cases q : PySem.W.clsIn K (He.ga K x) with
    | none => rw [q] at h2; cases h2
    | some cd =>
      rw [q] at h2
      obtain ⟨g1, g2⟩ := ba4 h2
      exact ⟨cd, rfl, of_decide_eq_true g1, of_decide_eq_true g2⟩
  · unfold celB at h8
    unfold fnI at hF
    cases q : K.lookup (He.ma K (He.ga K x) "__init__") with
    | none => rw [q] at h8; cases h8
    | some o =>
      obtain ⟨oc, od, dt, osl⟩ := o
      rw [q] at h8 hF
      cases dt with
      | func fd =>
        obtain ⟨n1, n2, n3, n4, n5, n6, n7, n8, n9, n10, n11, n12, n13, n14, n15⟩ := fd
        have e2 : (some (n1, n2, n3, n4, n5, n6, n15) : FnI) = some (nm, qu, params, .stmts body, scope, mainGlobals, builtinsNs) := hF
        simp only [Option.some.injEq, Prod.mk.injEq] at e2
        obtain ⟨a1, a2, a3, a4, a5, a6, a7⟩ := e2
        subst a1 a2 a3 a4 a5 a6 a7
        dsimp only at h8
        split at h8
        · rename_i _d1 _d2 n cc cda
          obtain ⟨b1, h8⟩ := ba4 h8
          obtain ⟨b2, h8⟩ := ba4 h8
          obtain ⟨b3, b4⟩ := ba4 h8
          obtain ⟨b4c, b5⟩ := ba4 b4
          have b6 : n8 = .none := by
            cases n8 <;> first | rfl | cases b5
          subst b6
          have b1 := of_decide_eq_true b1
          subst b1
          split at b2
          · rename_i cl cld D csl hcc
            have b2 := of_decide_eq_true b2
            subst b2
            split at b3
            · rename_i ccl cdd vs ccs hcda
              split at b3
              · rename_i f tf hvs
                have b3 := of_decide_eq_true b3
                subst b3
                obtain ⟨p0, p1, p2, p3, p4, q0, q1, q2, q3, rfl, hl⟩ := R.shape
                obtain ⟨ar, har, harn⟩ := R.par
                exact ⟨oc, od, osl, n1, n2, n3, n5, p0, p1, p2, p3, p4, q0, q1, q2, q3, .none, n9, n10, n11, n12, n14, cc, cda, cl, cld, csl, ccl, cdd, vs, ccs, f, tf, ar, rfl, b4c, hcc, hcda, hvs, by rw [hf]; exact beq_self_eq_true f, nscope_by R.sc, R.gs, R.sup, har, harn, hl, fun us hu => R.bind n9 n10 n11 n12 (.ref cda) n14 [("__class__", cc)] us hu⟩
              · cases b3
            · cases b3
          · cases b2
        · cases h8
      | _ => cases h8
/-! ### the texts handed up -/
def okI : V → Prop := fun v => ∃ i, v = .int i ∧ i.natAbs < 1152921504606846976
def okS : V → Prop := fun v => ∃ z, v = .str z ∧ z.length ≤ 1000000
theorem repr_small (i : Int) (h : i.natAbs < 1152921504606846976) : (Str.ofString (toString i)).length ≤ 100 := by
  cases i with
  | ofNat n =>
    have h2 : (Int.ofNat n) < 10 ^ 19 := by
      have : n < 1152921504606846976 := h
      omega
    exact Nat.le_trans (PyProof.Rows.toString_length_le (v := Int.ofNat n) (Int.natCast_nonneg n) (by decide) h2) (by decide)
  | negSucc n =>
    have h2 : ((n + 1 : Nat) : Int) < 10 ^ 19 := by
      have : n + 1 < 1152921504606846976 := h
      omega
    have e1 := PyProof.Rows.toString_length_le (v := ((n + 1 : Nat) : Int)) (Int.natCast_nonneg _) (k := 19) (by decide) h2
    have e2 : toString (Int.negSucc n) = "-" ++ toString ((n + 1 : Nat) : Int) := rfl
    rw [e2]
    rw [PyProof.Rows.ofString_length] at e1 ⊢
    rw [String.toList_append, List.length_append]
    have e3 : ("-" : String).toList.length = 1 := rfl
    rw [e3]
    omega
theorem msg_int {P : Program} {w : World} {K : PySem.W.Frag} {mg : Str → Option Value} {fl lit : Str} {kk : Nat} {p1 p2 p3 p4 p5 : Pos} (hs : mg "str" = none) (hfl : (fl == ("__debug__" : Str)) = false ∧ (fl == ("__classdict__" : Str)) = false) (hl : lit.length ≤ 1000) :
    MsgOk P w K mg fl (.BinOp (.Constant (.str lit) kk p1) .Add (.Call (.Name "str" p2) [.Name fl p3] [] p4) p5) ["str"] okI := by
  intro X e1 e2 e3 e4 e5 hv hc hg
  subst e4
  refine ⟨_, pa_cons (pe_op op_add_str pe_str (pe_callTy call_str_int (hg "str" (by simp)) hs (by decide +kernel) (pa_cons (pe_var (i := 1) (x := fl) (by rw [e5]; rfl) hv hfl.1 hfl.2) pa_nil rfl) (by decide) (by decide) rfl rfl)) pa_nil rfl, fun σ H y Q h1 ⟨i, hy, hi⟩ q => ?_⟩
  subst hy
  refine ⟨.int i, h1, i, rfl, ?_, lit, _, rfl, rfl, ?_, q _⟩
  · by_cases h0 : i.natAbs = 0
    · rw [h0]; decide
    · exact Nat.lt_trans ((Nat.log2_lt h0).mpr (show i.natAbs < 2 ^ 61 by omega)) (by decide)
  · have := repr_small i hi
    rw [sizeLine_eq]
    omega
theorem msg_str {P : Program} {w : World} {K : PySem.W.Frag} {mg : Str → Option Value} {fl lit : Str} {kk : Nat} {p1 p2 p3 : Pos} (hfl : (fl == ("__debug__" : Str)) = false ∧ (fl == ("__classdict__" : Str)) = false) (hl : lit.length ≤ 1000) :
    MsgOk P w K mg fl (.BinOp (.Constant (.str lit) kk p1) .Add (.Name fl p2) p3) [] okS := by
  intro X e1 e2 e3 e4 e5 hv hc hg
  refine ⟨_, pa_cons (pe_op op_add_str pe_str (pe_var (i := 1) (x := fl) (by rw [e5]; rfl) hv hfl.1 hfl.2)) pa_nil rfl, fun σ H y Q h1 ⟨z, hy, hz⟩ q => ?_⟩
  subst hy
  refine ⟨.str z, h1, lit, _, rfl, rfl, ?_, q _⟩
  rw [sizeLine_eq]
  omega
end Dy

namespace Dy
open PySem PySem.Spec PyProof.Rows L2
/-! ### values, objects, outcomes -/
inductive D where
  | non | bl (b : Bool) | int (i : Int) | str (x : List Nat) | tup (xs : List D) | ref (n : Nat) | kl (xs : List D)
inductive O where
  | lst (xs : List D) | fro (xs : List D) | ins (c : Str) (fs : List (Str × D)) | dct (kvs : List ((Int ⊕ List Nat) × D))
abbrev Sto := List O
abbrev Lo := List (Option D)
inductive Res (α : Type) where
  | val (a : α) | exc (c : Str) (fs : List (Str × D))
abbrev Out (α : Type) := Option (Res α × Sto)
inductive Fl where
  | nx | rt (d : D) | bk | ct | exc (c : Str) (fs : List (Str × D))
abbrev OutS := Option (Fl × Lo × Sto)
def Out.andThen {α β : Type} (m : Out α) (f : α → Sto → Out β) : Out β := match m with
  | some (.val a, S) => f a S
  | some (.exc c fs, S) => some (.exc c fs, S)
  | none => none
/-! ### the core language -/
mutual
inductive E where
  | lit (d : D) | var (i : Nat) | con (x : Str)
  | bin (op : Operator) (a b : E) | neg (a : E) | cmp (op : CmpOp) (a b : E) | chain (o p : CmpOp) (a b c : E)
  | nt (a : E) | bo (op : BoolOp) (a b : E) | ite (t : T) (a b : E)
  | tup (es : Es) | lst (es : Es) | ix (a i : E) | sl (a : E) (lo hi : Oe)
  | call (f : Str) (es : Es) | bi (f : Str) (es : Es) | bm (m : Str) (o : E) (es : Es) | isi (e : E) (cs : List String)
  | fld (o : E) (f : Str) | meth (m : Str) (o : E) (es : Es) | mk (c : Str) (es : Es)
  | kix (x : Str) (e : E) | kin (n : Bool) (x : Str) (e : E)
  | lc (elt : E) (g : Tg) (it : Ie) (ifs : To) (own : List Nat)
inductive T where
  | of (e : E) | nt (t : T) | bo (op : BoolOp) (t u : T)
inductive To where
  | yes | so (t : T)
inductive Es where
  | nil | cons (e : E) (r : Es)
inductive Oe where
  | no | so (e : E)
inductive Ie where
  | seq (e : E) | rng1 (e : E) | rng2 (a b : E) | enum (e : E)
inductive Tg where
  | nm (i : Nat) | tp (ts : Tgs) | sub (o i : E) | fld (o : E) (f : Str)
inductive Tgs where
  | nil | cons (t : Tg) (r : Tgs)
end
/-! ### relations -/
def stO (x : List Nat) : Str := ⟨x.toArray⟩
def kO : Int ⊕ List Nat → Key
  | .inl i => .inl i
  | .inr x => .inr (stO x)
mutual
inductive RD (K : PySem.W.Frag) (μ : List Addr) (H : Hp) : D → V → Prop
  | non : RD K μ H .non .non
  | bl (b : Bool) : RD K μ H (.bl b) (.bl b)
  | int (i : Int) : RD K μ H (.int i) (.int i)
  | str (x : List Nat) : RD K μ H (.str x) (.str (stO x))
  | tup {a : Addr} {ds : List D} {vs : List V} (h : GT K H a vs) (r : RDs K μ H ds vs) : RD K μ H (.tup ds) (.ref a)
  | ref {n : Nat} {a : Addr} (h : μ[n]? = some a) : RD K μ H (.ref n) (.ref a)
  | kl {a : Addr} {ds : List D} {vs : List V} {o : Obj} {its : Array Value} {n : Nat} (h : K.lookup a = some o) (hc : o.cls = .type "list") (hd : o.dict = none) (ht : o.data = .seq its n) (hz : its.size ≤ sizeLine) (hv : Vals vs its.toList) (r : RDs K μ H ds vs) : RD K μ H (.kl ds) (.ref a)
inductive RDs (K : PySem.W.Frag) (μ : List Addr) (H : Hp) : List D → List V → Prop
  | nil : RDs K μ H [] []
  | cons {d : D} {v : V} {ds : List D} {vs : List V} (h : RD K μ H d v) (r : RDs K μ H ds vs) : RDs K μ H (d :: ds) (v :: vs)
end
/-- what never changes -/
def still : HO → Prop
  | .tup _ => True
  | .frz _ _ => True
  | .xd _ => True
  | _ => False
def Tu (H H' : Hp) : Prop := ∀ b o, H b = some o → still o → H' b = some o
def Pre (μ μ' : List Addr) : Prop := ∀ (n : Nat) (a : Addr), μ[n]? = some a → μ'[n]? = some a
theorem Tu.refl (H : Hp) : Tu H H := fun _ _ h _ => h
theorem Tu.trans {H H1 H2 : Hp} (a : Tu H H1) (b : Tu H1 H2) : Tu H H2 := fun c o h s => b c o (a c o h s) s
theorem Pre.refl (μ : List Addr) : Pre μ μ := fun _ _ h => h
theorem Pre.trans {μ μ1 μ2 : List Addr} (a : Pre μ μ1) (b : Pre μ1 μ2) : Pre μ μ2 := fun n c h => b n c (a n c h)
theorem Tu.sqT {K : PySem.W.Frag} {H H' : Hp} {a : Addr} {xs : List V} (t : Tu H H') (h : SqT K H a xs) : SqT K H' a xs := by
  rcases h with (h | ⟨o, h⟩) | h
  · exact .inl (.inl (t _ _ h trivial))
  · exact .inl (.inr ⟨o, t _ _ h trivial⟩)
  · exact .inr h
theorem Tu.gt {K : PySem.W.Frag} {H H' : Hp} {a : Addr} {xs : List V} (t : Tu H H') (h : GT K H a xs) : GT K H' a xs := by
  rcases h with ⟨o, h, hd⟩ | h
  · exact .inl ⟨o, t _ _ h trivial, hd⟩
  · exact .inr h
mutual
theorem RD.mono {K : PySem.W.Frag} {μ μ' : List Addr} {H H' : Hp} (p : Pre μ μ') (t : Tu H H') : ∀ {d : D} {v : V}, RD K μ H d v → RD K μ' H' d v
  | _, _, .non => .non
  | _, _, .bl b => .bl b
  | _, _, .int i => .int i
  | _, _, .str x => .str x
  | _, _, .tup h r => .tup (t.gt h) (RDs.mono p t r)
  | _, _, .ref h => .ref (p _ _ h)
  | _, _, .kl h hc hd ht hz hv r => .kl h hc hd ht hz hv (RDs.mono p t r)
theorem RDs.mono {K : PySem.W.Frag} {μ μ' : List Addr} {H H' : Hp} (p : Pre μ μ') (t : Tu H H') : ∀ {ds : List D} {vs : List V}, RDs K μ H ds vs → RDs K μ' H' ds vs
  | _, _, .nil => .nil
  | _, _, .cons h r => .cons (RD.mono p t h) (RDs.mono p t r)
end
section
variable {K : PySem.W.Frag} {μ μ' : List Addr} {H H' : Hp}
theorem RDs.length : ∀ {ds : List D} {vs : List V}, RDs K μ H ds vs → ds.length = vs.length
  | _, _, .nil => rfl
  | _, _, .cons _ r => congrArg (· + 1) (RDs.length r)
theorem RDs.get : ∀ {ds : List D} {vs : List V} {i : Nat} {d : D}, RDs K μ H ds vs → ds[i]? = some d → ∃ v, vs[i]? = some v ∧ RD K μ H d v
  | _, _, _, _, .nil, e => by simp at e
  | _, _, 0, _, .cons h _, e => by simp at e; subst e; exact ⟨_, rfl, h⟩
  | _, _, i + 1, d, .cons _ r, e => by
    obtain ⟨v, h1, h2⟩ := RDs.get (i := i) (d := d) r (by simpa using e)
    exact ⟨v, by simpa using h1, h2⟩
theorem RDs.append : ∀ {ds es : List D} {vs ws : List V}, RDs K μ H ds vs → RDs K μ H es ws → RDs K μ H (ds ++ es) (vs ++ ws)
  | _, _, _, _, .nil, s => s
  | _, _, _, _, .cons h r, s => .cons h (RDs.append r s)
theorem RDs.take : ∀ {ds : List D} {vs : List V} (n : Nat), RDs K μ H ds vs → RDs K μ H (ds.take n) (vs.take n)
  | _, _, 0, _ => .nil
  | _, _, _ + 1, .nil => .nil
  | _, _, n + 1, .cons h r => .cons h (RDs.take n r)
theorem RDs.drop : ∀ {ds : List D} {vs : List V} (n : Nat), RDs K μ H ds vs → RDs K μ H (ds.drop n) (vs.drop n)
  | _, _, 0, r => r
  | _, _, _ + 1, .nil => .nil
  | _, _, n + 1, .cons _ r => RDs.drop n r
theorem RDs.set {d : D} {v : V} (h : RD K μ H d v) : ∀ {ds : List D} {vs : List V} (i : Nat), RDs K μ H ds vs → RDs K μ H (ds.set i d) (vs.set i v)
  | _, _, _, .nil => .nil
  | _, _, 0, .cons _ r => .cons h r
  | _, _, i + 1, .cons q r => .cons q (RDs.set h i r)
theorem RDs.rep (k : Nat) {ds : List D} {vs : List V} (h : RDs K μ H ds vs) : RDs K μ H (List.replicate k ds).flatten (List.replicate k vs).flatten := by
  induction k with
  | zero => exact .nil
  | succ k ih =>
    rw [List.replicate_succ, List.replicate_succ, List.flatten_cons, List.flatten_cons]
    exact h.append ih
/-- fields, entries -/
inductive RF (K : PySem.W.Frag) (μ : List Addr) (H : Hp) : List (Str × D) → List (Str × V) → Prop
  | nil : RF K μ H [] []
  | cons {f : Str} {d : D} {v : V} {fs : List (Str × D)} {gs : List (Str × V)} (h : RD K μ H d v) (r : RF K μ H fs gs) : RF K μ H ((f, d) :: fs) ((f, v) :: gs)
inductive RK (K : PySem.W.Frag) (μ : List Addr) (H : Hp) : List ((Int ⊕ List Nat) × D) → List (Key × V) → Prop
  | nil : RK K μ H [] []
  | cons {f : Int ⊕ List Nat} {d : D} {v : V} {fs : List ((Int ⊕ List Nat) × D)} {gs : List (Key × V)} (h : RD K μ H d v) (r : RK K μ H fs gs) : RK K μ H ((f, d) :: fs) ((kO f, v) :: gs)
theorem RF.mono (p : Pre μ μ') (t : Tu H H') : ∀ {fs : List (Str × D)} {gs : List (Str × V)}, RF K μ H fs gs → RF K μ' H' fs gs
  | _, _, .nil => .nil
  | _, _, .cons h r => .cons (h.mono p t) (RF.mono p t r)
theorem RK.mono (p : Pre μ μ') (t : Tu H H') : ∀ {fs : List ((Int ⊕ List Nat) × D)} {gs : List (Key × V)}, RK K μ H fs gs → RK K μ' H' fs gs
  | _, _, .nil => .nil
  | _, _, .cons h r => .cons (h.mono p t) (RK.mono p t r)
theorem RF.look : ∀ {fs : List (Str × D)} {gs : List (Str × V)} {f : Str} {d : D}, RF K μ H fs gs → fs.lookup f = some d → ∃ v, gs.lookup f = some v ∧ RD K μ H d v
  | _, _, _, _, .nil, e => by simp at e
  | _, _, f, d, .cons (f := g) h r, e => by
    rw [List.lookup_cons] at e ⊢
    cases q : (f == g) with
    | true => rw [q] at e; cases e; exact ⟨_, rfl, h⟩
    | false => rw [q] at e; exact RF.look r e
theorem RF.look_none : ∀ {fs : List (Str × D)} {gs : List (Str × V)} {f : Str}, RF K μ H fs gs → fs.lookup f = none → gs.lookup f = none
  | _, _, _, .nil, _ => rfl
  | _, _, f, .cons (f := g) h r, e => by
    rw [List.lookup_cons] at e ⊢
    cases q : (f == g) with
    | true => rw [q] at e; cases e
    | false => rw [q] at e; exact RF.look_none r e
def putD (f : Str) (d : D) : List (Str × D) → List (Str × D)
  | [] => [(f, d)]
  | (g, e) :: r => if g = f then (g, d) :: r else (g, e) :: putD f d r
/-- an object of the store -/
def OR (K : PySem.W.Frag) (mg : Str → Option Value) (μ : List Addr) (H : Hp) (a : Addr) : O → Prop
  | .lst ds => ∃ vs, H a = some (.lst vs) ∧ RDs K μ H ds vs
  | .fro ds => ∃ o vs, H a = some (.frz o (.lst vs)) ∧ RDs K μ H ds vs
  | .ins c fs => ∃ C dx gs, mg c = some (.ref C) ∧ H a = some (.ins C dx gs) ∧ RF K μ H fs gs
  | .dct kvs => ∃ gs, H a = some (.dK gs) ∧ RK K μ H kvs gs
structure SR (K : PySem.W.Frag) (mg : Str → Option Value) (μ : List Addr) (S : Sto) (H : Hp) : Prop where
  len : μ.length = S.length
  inj : ∀ (n m : Nat) (a : Addr), μ[n]? = some a → μ[m]? = some a → n = m
  obj : ∀ (n : Nat) (a : Addr) (o : O), μ[n]? = some a → S[n]? = some o → OR K mg μ H a o
structure SL (K : PySem.W.Frag) (μ : List Addr) (H : Hp) (L : Lo) (σ : L2.St) : Prop where
  len : L.length = σ.length
  get : ∀ (i : Nat) (d : D), L[i]? = some (some d) → ∃ v, σ[i]? = some (some v) ∧ RD K μ H d v
/-- behind a step -/
structure Post (K : PySem.W.Frag) (mg : Str → Option Value) (μ : List Addr) (H : Hp) (μ' : List Addr) (S' : Sto) (H' : Hp) : Prop where
  pre : Pre μ μ'
  sr : SR K mg μ' S' H'
  tu : Tu H H'
variable {mg : Str → Option Value} {S S' : Sto} {L : Lo} {σ : L2.St}
theorem SL.mono (l : SL K μ H L σ) (p : Pre μ μ') (t : Tu H H') : SL K μ' H' L σ := ⟨l.len, fun i d e => let ⟨v, h1, h2⟩ := l.get i d e; ⟨v, h1, h2.mono p t⟩⟩
theorem SL.set (l : SL K μ H L σ) (i : Nat) {d : D} {v : V} (h : RD K μ H d v) : SL K μ H (L.set i (some d)) (σ.set i (some v)) := by
  refine ⟨by simp [l.len], fun j e q => ?_⟩
  by_cases hj : j = i
  · subst hj
    by_cases hlt : j < L.length
    · rw [List.getElem?_set_self hlt] at q
      have hlt' : j < σ.length := by rw [← l.len]; exact hlt
      rw [List.getElem?_set_self hlt']
      cases q
      exact ⟨v, rfl, h⟩
    · rw [List.getElem?_eq_none (by simpa using hlt)] at q; cases q
  · rw [List.getElem?_set_ne (Ne.symm hj)] at q ⊢
    exact l.get j e q
theorem SL.drop (l : SL K μ H L σ) (i : Nat) : SL K μ H (L.set i none) (σ.set i none) := by
  refine ⟨by simp [l.len], fun j e q => ?_⟩
  by_cases hj : j = i
  · subst hj
    by_cases hlt : j < L.length
    · rw [List.getElem?_set_self hlt] at q; cases q
    · rw [List.getElem?_eq_none (by simpa using hlt)] at q; cases q
  · rw [List.getElem?_set_ne (Ne.symm hj)] at q ⊢
    exact l.get j e q
theorem Post.refl (s : SR K mg μ S H) : Post K mg μ H μ S H := ⟨.refl _, s, .refl _⟩
theorem Post.trans {μ1 μ2 : List Addr} {S1 S2 : Sto} {H1 H2 : Hp} (a : Post K mg μ H μ1 S1 H1) (b : Post K mg μ1 H1 μ2 S2 H2) : Post K mg μ H μ2 S2 H2 := ⟨a.pre.trans b.pre, b.sr, a.tu.trans b.tu⟩
theorem OR.mono {a : Addr} {o : O} (h : OR K mg μ H a o) (p : Pre μ μ') (t : Tu H H') (e : H' a = H a) : OR K mg μ' H' a o := by
  cases o with
  | lst ds => obtain ⟨vs, h1, h2⟩ := h; exact ⟨vs, e.trans h1, h2.mono p t⟩
  | fro ds => obtain ⟨o, vs, h1, h2⟩ := h; exact ⟨o, vs, e.trans h1, h2.mono p t⟩
  | ins c fs => obtain ⟨C, dx, gs, h0, h1, h2⟩ := h; exact ⟨C, dx, gs, h0, e.trans h1, h2.mono p t⟩
  | dct kvs => obtain ⟨gs, h1, h2⟩ := h; exact ⟨gs, e.trans h1, h2.mono p t⟩
theorem OR.there {a : Addr} {o : O} (h : OR K mg μ H a o) : H a ≠ none := by
  cases o with
  | lst ds => obtain ⟨vs, h1, h2⟩ := h; rw [h1]; simp
  | fro ds => obtain ⟨o, vs, h1, h2⟩ := h; rw [h1]; simp
  | ins c fs => obtain ⟨C, dx, gs, h0, h1, h2⟩ := h; rw [h1]; simp
  | dct kvs => obtain ⟨gs, h1, h2⟩ := h; rw [h1]; simp
theorem SR.at (s : SR K mg μ S H) {n : Nat} {o : O} (h : S[n]? = some o) : ∃ a, μ[n]? = some a ∧ OR K mg μ H a o := by
  have hl : n < μ.length := by
    rw [s.len]
    exact (List.getElem?_eq_some_iff.mp h).1
  exact ⟨μ[n], List.getElem?_eq_getElem hl, s.obj n _ o (List.getElem?_eq_getElem hl) h⟩
theorem SR.has (s : SR K mg μ S H) {n : Nat} {a : Addr} (h : μ[n]? = some a) : ∃ o, S[n]? = some o := by
  have hl : n < S.length := by
    rw [← s.len]
    exact (List.getElem?_eq_some_iff.mp h).1
  exact ⟨S[n], List.getElem?_eq_getElem hl⟩
theorem SR.fresh (s : SR K mg μ S H) {p : Addr} (hp : H p = none) {n : Nat} (h : μ[n]? = some p) : False := by
  obtain ⟨o, e⟩ := s.has h
  exact (s.obj n p o h e).there hp
theorem Tu.new {p : Addr} {o : HO} (hp : H p = none) : Tu H (upd H p o) := fun b u e _ => by
  rw [upd_ne (ne_of_none e hp)]; exact e
/-- an object that the store does not name -/
theorem Post.side (s : SR K mg μ S H) {p : Addr} {o : HO} (hp : H p = none) : Post K mg μ H μ S (upd H p o) :=
  ⟨.refl _, ⟨s.len, s.inj, fun n a u h1 h2 => (s.obj n a u h1 h2).mono (.refl _) (.new hp) (upd_ne fun z => s.fresh hp (z ▸ h1))⟩, .new hp⟩
theorem Pre.snoc {p : Addr} : Pre μ (μ ++ [p]) := fun n a h => by
  rw [List.getElem?_append_left (List.getElem?_eq_some_iff.mp h).1]; exact h
/-- a new object of the store -/
theorem Post.new (s : SR K mg μ S H) {p : Addr} {o : HO} {u : O} (hp : H p = none) (hu : OR K mg (μ ++ [p]) (upd H p o) p u) : Post K mg μ H (μ ++ [p]) (S ++ [u]) (upd H p o) := by
  refine ⟨.snoc, ⟨by simp [s.len], fun n m a h1 h2 => ?_, fun n a w h1 h2 => ?_⟩, .new hp⟩
  · by_cases hn : n < μ.length
    · by_cases hm : m < μ.length
      · rw [List.getElem?_append_left hn] at h1
        rw [List.getElem?_append_left hm] at h2
        exact s.inj n m a h1 h2
      · rw [List.getElem?_append_left hn] at h1
        rw [List.getElem?_append_right (Nat.le_of_not_lt hm)] at h2
        have e : a = p := by
          have := (List.getElem?_eq_some_iff.mp h2).2
          simpa using this.symm
        exact (s.fresh hp (e ▸ h1)).elim
    · by_cases hm : m < μ.length
      · rw [List.getElem?_append_left hm] at h2
        rw [List.getElem?_append_right (Nat.le_of_not_lt hn)] at h1
        have e : a = p := by
          have := (List.getElem?_eq_some_iff.mp h1).2
          simpa using this.symm
        exact (s.fresh hp (e ▸ h2)).elim
      · have l1 := (List.getElem?_eq_some_iff.mp h1).1
        have l2 := (List.getElem?_eq_some_iff.mp h2).1
        simp at l1 l2
        omega
  · by_cases hn : n < μ.length
    · rw [List.getElem?_append_left hn] at h1
      rw [List.getElem?_append_left (by rw [← s.len]; exact hn)] at h2
      exact (s.obj n a w h1 h2).mono .snoc (.new hp) (upd_ne fun z => s.fresh hp (z ▸ h1))
    · have l1 := (List.getElem?_eq_some_iff.mp h1).1
      simp at l1
      have en : n = μ.length := by omega
      subst en
      simp at h1
      rw [s.len] at h2
      simp at h2
      subst h1 h2
      exact hu
theorem GT.new {p : Addr} {o : Obj} {vs : List V} (hd : o.dict = none) : GT K (upd H p (.frz o (.tup vs))) p vs := .inl ⟨o, upd_same, hd⟩
theorem RD.newRef {p : Addr} (s : SR K mg μ S H) : RD K (μ ++ [p]) H' (.ref S.length) (.ref p) := .ref (by rw [← s.len]; simp)
theorem Tu.write {p : Addr} {o u : HO} (h : H p = some u) (hu : ¬ still u) : Tu H (upd H p o) := fun b w e st => by
  rw [upd_ne (fun z => by subst z; rw [h] at e; cases e; exact hu st)]; exact e
/-- an object of the store changed -/
theorem Post.write (s : SR K mg μ S H) {n : Nat} {p : Addr} {o v : HO} {u : O} (hn : μ[n]? = some p) (hv : H p = some v) (hs : ¬ still v) (hu : OR K mg μ (upd H p o) p u) : Post K mg μ H μ (S.set n u) (upd H p o) := by
  have t : Tu H (upd H p o) := .write hv hs
  refine ⟨.refl _, ⟨by simp [s.len], s.inj, fun m a w h1 h2 => ?_⟩, t⟩
  by_cases hm : m = n
  · subst hm
    rw [hn] at h1; cases h1
    have hl : m < S.length := by
      rw [← s.len]
      exact (List.getElem?_eq_some_iff.mp hn).1
    rw [List.getElem?_set_self hl] at h2
    cases h2
    exact hu
  · rw [List.getElem?_set_ne (Ne.symm hm)] at h2
    exact (s.obj m a w h1 h2).mono (.refl _) t (upd_ne fun z => hm (s.inj m n a h1 (z ▸ hn)))
theorem RF.put {f : Str} {d : D} {v : V} (h : RD K μ H d v) : ∀ {fs : List (Str × D)} {gs : List (Str × V)}, RF K μ H fs gs → RF K μ H (putD f d fs) (putF f v gs)
  | _, _, .nil => .cons h .nil
  | _, _, .cons (f := g) q r => by
    unfold putD putF
    by_cases e : g = f
    · rw [if_pos e, if_pos e]; exact .cons h r
    · rw [if_neg e, if_neg e]; exact .cons q (RF.put h r)
theorem RF.len : ∀ {fs : List (Str × D)} {gs : List (Str × V)}, RF K μ H fs gs → fs.length = gs.length
  | _, _, .nil => rfl
  | _, _, .cons _ r => congrArg (· + 1) (RF.len r)
end
end Dy

namespace Dy
open PySem PySem.Spec PyProof.Rows L2
/-! ### operations on values -/
/-- a list that may be read -/
def seqL (S : Sto) : D → Option (List D)
  | .kl xs => some xs
  | .ref n => match S[n]? with
    | some (.lst xs) => some xs
    | some (.fro xs) => some xs
    | _ => none
  | _ => none
def truD (S : Sto) : D → Option Bool
  | .non => some false
  | .bl b => some b
  | .int i => some (i != 0)
  | .str x => if x.length ≤ sizeLine then some (!x.isEmpty) else none
  | .tup xs => some (!xs.isEmpty)
  | .kl xs => some (!xs.isEmpty)
  | .ref n => match S[n]? with
    | some (.lst xs) => some (!xs.isEmpty)
    | some (.fro xs) => some (!xs.isEmpty)
    | some (.dct kvs) => some (!kvs.isEmpty)
    | _ => none
def tyD (S : Sto) : D → Option String
  | .non => some "NoneType"
  | .bl _ => some "bool"
  | .int _ => some "int"
  | .str _ => some "str"
  | .tup _ => some "tuple"
  | .kl _ => some "list"
  | .ref n => match S[n]? with
    | some (.lst _) => some "list"
    | some (.fro _) => some "list"
    | some (.dct _) => some "dict"
    | _ => none
/-- isinstance by the names of built-in classes -/
def isTy (a b : String) : Bool := a == b || (a == "bool" && b == "int")
def tyNames : List String := ["NoneType", "bool", "int", "str", "tuple", "list", "dict"]
def isD (S : Sto) (d : D) (cs : List String) : Option Bool := match tyD S d with
  | some t => if cs.all (fun c => tyNames.contains c) then some (cs.any (isTy t)) else none
  | none => none
mutual
/-- the data of a value -/
def pyD : Nat → Sto → D → Option PyData
  | 0, _, _ => none
  | n + 1, S, .non => some .none
  | n + 1, S, .bl b => some (.bool b)
  | n + 1, S, .int i => some (.int i)
  | n + 1, S, .str x => some (.str (stO x))
  | n + 1, S, .tup xs => (pyDs n S xs).map .tuple
  | n + 1, S, .kl xs => (pyDs n S xs).map .list
  | n + 1, S, .ref k => match S[k]? with
    | some (.lst xs) => (pyDs n S xs).map .list
    | some (.fro xs) => (pyDs n S xs).map .list
    | _ => none
def pyDs : Nat → Sto → List D → Option (List PyData)
  | 0, _, _ => none
  | n + 1, S, [] => some []
  | n + 1, S, x :: xs => match pyD n S x, pyDs n S xs with
    | some p, some ps => some (p :: ps)
    | _, _ => none
end
def eqS : D → D → Option Bool
  | .non, .non => some true
  | .non, .int _ => some false
  | .int _, .non => some false
  | .non, .bl _ => some false
  | .bl _, .non => some false
  | .non, .str _ => some false
  | .str _, .non => some false
  | .int i, .int j => some (decide (i = j))
  | .bl a, .bl b => some (decide (a = b))
  | .str x, .str y => some (decide (x = y))
  | .int _, .str _ => some false
  | .str _, .int _ => some false
  | .bl _, .str _ => some false
  | .str _, .bl _ => some false
  | _, _ => none
def eqD (S : Sto) (x y : D) : Option Bool := match eqS x y with
  | some b => some b
  | none => match pyD 5000 S x, pyD 5000 S y with
    | some p, some q => if SeqAt.shaped p = true ∧ SeqAt.shaped q = true then some (p.eqv q) else none
    | _, _ => none
/-- flat things, for in -/
def flatD : D → Option V
  | .non => some .non
  | .bl b => some (.bl b)
  | .int i => some (.int i)
  | .str x => some (.str (stO x))
  | _ => none
def flats : List D → Option (List V)
  | [] => some []
  | d :: r => match flatD d, flats r with
    | some v, some vs => some (v :: vs)
    | _, _ => none
def subL (x y : List Nat) : Bool := !(Builtin.Str.occurrences (stO y) (stO x) 0 y.length 1).isEmpty
def keyD : D → Option (Int ⊕ List Nat)
  | .int i => some (.inl i)
  | .str x => some (.inr x)
  | _ => none
def lookK (k : Int ⊕ List Nat) : List ((Int ⊕ List Nat) × D) → Option D
  | [] => none
  | (q, d) :: r => if q = k then some d else lookK k r
def inD (S : Sto) (x y : D) : Option Bool := match y with
  | .str b => match x with
    | .str a => some (subL a b)
    | _ => none
  | .tup ys => match flatD x, flats ys with
    | some v, some vs => some (inV v vs)
    | _, _ => none
  | .kl ys => match flatD x, flats ys with
    | some v, some vs => some (inV v vs)
    | _, _ => none
  | .ref n => match S[n]? with
    | some (.lst ys) => match flatD x, flats ys with
      | some v, some vs => some (inV v vs)
      | _, _ => none
    | some (.fro ys) => match flatD x, flats ys with
      | some v, some vs => some (inV v vs)
      | _, _ => none
    | _ => none
  | _ => none
def ltL (x y : List Nat) : Bool := decide (x < y)
def cmpD (op : CmpOp) (S : Sto) (x y : D) : Option Bool := match op with
  | .Eq => eqD S x y
  | .NotEq => (eqD S x y).map (!·)
  | .In => inD S x y
  | .NotIn => (inD S x y).map (!·)
  | .Is => match y with
    | .non => some (match x with | .non => true | _ => false)
    | _ => none
  | .IsNot => match y with
    | .non => some (match x with | .non => false | _ => true)
    | _ => none
  | .Lt => match x, y with
    | .int i, .int j => some (decide (i < j))
    | .str a, .str b => some (ltL a b)
    | _, _ => none
  | .LtE => match x, y with
    | .int i, .int j => some (decide (i ≤ j))
    | .str a, .str b => some (!ltL b a)
    | _, _ => none
  | .Gt => match x, y with
    | .int i, .int j => some (decide (j < i))
    | .str a, .str b => some (ltL b a)
    | _, _ => none
  | .GtE => match x, y with
    | .int i, .int j => some (decide (j ≤ i))
    | .str a, .str b => some (!ltL a b)
    | _, _ => none
def binD (op : Operator) (x y : D) (S : Sto) : Out D := match op with
  | .Add => match x, y with
    | .int i, .int j => some (.val (.int (i + j)), S)
    | .str a, .str b => if a.length + b.length ≤ sizeLine then some (.val (.str (a ++ b)), S) else none
    | .tup a, .tup b => if a.length + b.length ≤ sizeLine then some (.val (.tup (a ++ b)), S) else none
    | .ref n, .ref m => match S[n]?, S[m]? with
      | some (.lst a), some (.lst b) => if a.length + b.length ≤ sizeLine then some (.val (.ref S.length), S ++ [.lst (a ++ b)]) else none
      | _, _ => none
    | _, _ => none
  | .Sub => match x, y with
    | .int i, .int j => some (.val (.int (i - j)), S)
    | _, _ => none
  | .Mult => match x, y with
    | .int i, .int j => if ((-(2 ^ 64) < i ∧ i < 2 ^ 64) ∨ (-(2 ^ 64) < j ∧ j < 2 ^ 64)) ∨ i.natAbs.log2 + j.natAbs.log2 < 1000000 then some (.val (.int (i * j)), S) else none
    | .str a, .int j => if j < 16777216 ∧ -16777216 < j ∧ a.length * j.toNat ≤ sizeLine then some (.val (.str (List.replicate j.toNat a).flatten), S) else none
    | _, _ => none
  | .FloorDiv => match x, y with
    | .int i, .int j => if 0 < j ∧ j.natAbs.log2 < 9000 then some (.val (.int (i / j)), S) else if j ≠ 0 ∧ j.natAbs < 1073741824 then some (.val (.int (i.fdiv j)), S) else none
    | _, _ => none
  | .Mod => match x, y with
    | .int i, .int j => if 0 < j then some (.val (.int (i % j)), S) else none
    | _, _ => none
  | .Pow => match x, y with
    | .int i, .int j => if 0 ≤ j ∧ j ≤ 1000000 ∧ i.natAbs < 18446744073709551616 then some (.val (.int (i ^ j.toNat)), S) else none
    | _, _ => none
  | _ => none
def ixD (x y : D) (S : Sto) : Option D := match x, y with
  | .tup xs, .int i => atI xs i
  | .str z, .int i => if z.length ≤ sizeLine then (atI z i).map fun c => .str [c] else none
  | x, .int i => match seqL S x with
    | some xs => atI xs i
    | none => none
  | _, _ => none
def cutL {α : Type} (xs : List α) (lo hi : Option Int) : List α := (xs.drop (HT.sIx xs.length 0 lo)).take (HT.sIx xs.length xs.length hi - HT.sIx xs.length 0 lo)
def slD (x : D) (lo hi : Option Int) (S : Sto) : Out D := match x with
  | .str z => if z.length ≤ sizeLine then some (.val (.str (cutL z lo hi)), S) else none
  | .tup xs => some (.val (.tup (cutL xs lo hi)), S)
  | x => match seqL S x with
    | some xs => some (.val (.ref S.length), S ++ [.lst (cutL xs lo hi)])
    | none => none
def blsOf : List D → Option (List Bool)
  | [] => some []
  | .bl b :: r => (blsOf r).map (b :: ·)
  | _ :: _ => none
def max3 (i j l : Int) : Int := if l > (if j > i then j else i) then l else (if j > i then j else i)
/-- built-in names -/
def biD (f : Str) (ds : List D) (S : Sto) : Out D :=
  if f = "len" then match ds with
    | [.str x] => if x.length ≤ sizeLine then some (.val (.int x.length), S) else none
    | [.tup xs] => some (.val (.int xs.length), S)
    | [x] => match seqL S x with
      | some xs => some (.val (.int xs.length), S)
      | none => none
    | _ => none
  else if f = "int" then match ds with
    | [.int i] => some (.val (.int i), S)
    | [.bl b] => some (.val (.int (if b then 1 else 0)), S)
    | [.str x] => if x.length ≤ 640 then (PySem.intText? (stO x)).map fun n => (.val (.int n), S) else none
    | _ => none
  else if f = "abs" then match ds with
    | [.int i] => some (.val (.int (if i < 0 then -i else i)), S)
    | _ => none
  else if f = "max" then match ds with
    | [.int i, .int j] => some (.val (.int (if j > i then j else i)), S)
    | [.int i, .int j, .int l] => some (.val (.int (max3 i j l)), S)
    | _ => none
  else if f = "min" then match ds with
    | [.int i, .int j] => some (.val (.int (if j < i then j else i)), S)
    | _ => none
  else if f = "str" then match ds with
    | [.int i] => if i.natAbs.log2 < 1920 then some (.val (.str (Str.ofString (toString i)).cps.toList), S) else none
    | _ => none
  else if f = "list" then match ds with
    | [.tup xs] => some (.val (.ref S.length), S ++ [.lst xs])
    | [x] => match seqL S x with
      | some xs => some (.val (.ref S.length), S ++ [.lst xs])
      | none => none
    | _ => none
  else if f = "tuple" then match ds with
    | [.tup xs] => some (.val (.tup xs), S)
    | [x] => match seqL S x with
      | some xs => some (.val (.tup xs), S)
      | none => none
    | _ => none
  else if f = "all" then match ds with
    | [x] => match seqL S x with
      | some xs => (blsOf xs).map fun bs => (.val (.bl (bs.all id)), S)
      | none => none
    | _ => none
  else if f = "any" then match ds with
    | [x] => match seqL S x with
      | some xs => (blsOf xs).map fun bs => (.val (.bl (bs.any id)), S)
      | none => none
    | _ => none
  else none
/-- methods of built-in types -/
def bmTy (m : Str) : String := if m = "append" then "list" else if m = "index" then "tuple" else if m = "find" then "str" else if m = "join" then "str" else ""
def strsOf : List D → Option (List (List Nat))
  | [] => some []
  | .str x :: r => (strsOf r).map (x :: ·)
  | _ :: _ => none
def posOf (z : List Nat) : List (List Nat) → Option Nat
  | [] => none
  | y :: r => if y = z then some 0 else (posOf z r).map (· + 1)
def itemsD (S : Sto) : D → Option (List D)
  | .tup xs => some xs
  | d => seqL S d
def joinD (a : List Nat) (y : D) (S : Sto) : Out D := match (itemsD S y).bind strsOf with
  | some ys => if (ys.map List.length).sum + ys.length * a.length ≤ 16777216 then some (.val (.str (TL.joinL a ys)), S) else none
  | none => none
def bmD (m : Str) (x : D) (ds : List D) (S : Sto) : Out D :=
  if m = "append" then match x, ds with
    | .ref n, [d] => match S[n]? with
      | some (.lst xs) => if xs.length < sizeLine then some (.val .non, S.set n (.lst (xs ++ [d]))) else none
      | _ => none
    | _, _ => none
  else if m = "index" then match x, ds with
    | .tup xs, [.str z] => match strsOf xs with
      | some ys => (posOf z ys).map fun j => (.val (.int (j : Nat)), S)
      | none => none
    | _, _ => none
  else if m = "find" then match x, ds with
    | .str a, [.str b, .int i] => some (.val (.int (PySem.Txt.find3 (stO a) (stO b) i)), S)
    | _, _ => none
  else if m = "join" then match x, ds with
    | .str a, [y] => joinD a y S
    | _, _ => none
  else none
/-! ### evaluation -/
def mkEnd (n : Nat) (d : D) (S2 : Sto) : Out D := match d with
  | .non => some (.val (.ref n), S2)
  | _ => none
def lenEs : Es → Nat
  | .nil => 0
  | .cons _ r => lenEs r + 1
/-- a written table, by a text -/
def lookT (z : List Nat) : List (List Nat × D) → Option D
  | [] => none
  | (k, d) :: r => if k = z then some d else lookT z r
structure Pm where
  con : Str → Option D
  kd : Str → Option (List (List Nat × D))
  fds : Str → Str → Bool
  mts : Str → Str → Nat → Bool
  cal : Str → List D → Sto → Out D
  met : Str → Str → List D → Sto → Out D
  mak : Str → List D → Sto → Out D
  exc : Str → D → Option (List (Str × D))
  sub : Str → Str → Option Bool
def optO {α : Type} (S : Sto) : Option α → Out α
  | some a => some (.val a, S)
  | none => none
/-- what a loop goes over -/
inductive Wk where
  | ls (d : D) | tp (xs : List D) | rg (lo : Int) (n : Nat) | en (d : D) | sg (x : List Nat)
def Wk.at (S : Sto) (i : Nat) : Wk → Option (Option D)
  | .ls d => (seqL S d).map fun xs => xs[i]?
  | .tp xs => some xs[i]?
  | .rg lo n => some (if i < n then some (.int (lo + i)) else none)
  | .en d => (seqL S d).map fun xs => (xs[i]?).map fun x => .tup [.int i, x]
  | .sg x => some ((x[i]?).map fun c => .str [c])
def walkOf (S : Sto) (d : D) : Option Wk := match d with
  | .tup xs => some (.tp xs)
  | .str x => some (.sg x)
  | d => (seqL S d).map fun _ => .ls d
def wipeL (L : Lo) : List Nat → Lo
  | [] => L
  | i :: r => (wipeL L r).set i none
/-- a loop: until the step says where it ends -/
def loopF {α β : Type} (step : α → Option (α ⊕ β)) (x : α) : Option β :=
  do
    match (← step x) with
    | .inl y => loopF step y
    | .inr b => some b
partial_fixpoint
def small62 (j : Int) : Bool := decide (-(2 ^ 62) ≤ j) && decide (j < 2 ^ 62)
/-- one turn of a comprehension -/
def lcStep (w : Wk) (R : Nat) (tg : D → Sto → Option (Lo × Sto)) (ts : Lo → Sto → Out Bool) (el : Lo → Sto → Out D) (q : Nat × Sto) : Option ((Nat × Sto) ⊕ Sto) := match w.at q.2 q.1 with
  | none => none
  | some none => some (.inr q.2)
  | some (some d) => match tg d q.2 with
    | none => none
    | some (L2, S2) => match ts L2 S2 with
      | some (.val true, S3) => match el L2 S3 with
        | some (.val y, S4) => match S4[R]? with
          | some (.lst acc) => if acc.length < sizeLine then some (.inl (q.1 + 1, S4.set R (.lst (acc ++ [y])))) else none
          | _ => none
        | _ => none
      | some (.val false, S3) => some (.inl (q.1 + 1, S3))
      | _ => none
mutual
def ev (P : Pm) : E → Lo → Sto → Out D
  | .lit d, _, S => some (.val d, S)
  | .var i, L, S => match L[i]? with
    | some (some d) => some (.val d, S)
    | _ => none
  | .con x, _, S => optO S (P.con x)
  | .bin op a b, L, S => (ev P a L S).andThen fun x S1 => (ev P b L S1).andThen fun y S2 => binD op x y S2
  | .neg a, L, S => (ev P a L S).andThen fun x S1 => match x with
    | .int i => some (.val (.int (-i)), S1)
    | _ => none
  | .cmp op a b, L, S => (ev P a L S).andThen fun x S1 => (ev P b L S1).andThen fun y S2 => optO S2 ((cmpD op S2 x y).map .bl)
  | .chain o p a b c, L, S => (ev P a L S).andThen fun x S1 => (ev P b L S1).andThen fun y S2 => match cmpD o S2 x y with
    | some true => (ev P c L S2).andThen fun z S3 => optO S3 ((cmpD p S3 y z).map .bl)
    | some false => some (.val (.bl false), S2)
    | none => none
  | .nt a, L, S => (ev P a L S).andThen fun x S1 => optO S1 ((truD S1 x).map fun c => .bl (!c))
  | .bo op a b, L, S => (ev P a L S).andThen fun x S1 => match truD S1 x with
    | some c => if c = (match op with | .And => true | .Or => false) then ev P b L S1 else some (.val x, S1)
    | none => none
  | .ite t a b, L, S => (tst P t L S).andThen fun c S1 => if c then ev P a L S1 else ev P b L S1
  | .tup es, L, S => (evs P es L S).andThen fun ds S1 => if ds.length ≤ sizeLine then some (.val (.tup ds), S1) else none
  | .lst es, L, S => (evs P es L S).andThen fun ds S1 => if ds.length ≤ sizeLine then some (.val (.ref S1.length), S1 ++ [.lst ds]) else none
  | .ix a i, L, S => (ev P a L S).andThen fun x S1 => (ev P i L S1).andThen fun y S2 => optO S2 (ixD x y S2)
  | .sl a lo hi, L, S => (ev P a L S).andThen fun x S1 => (evo P lo L S1).andThen fun l S2 => (evo P hi L S2).andThen fun h S3 => slD x l h S3
  | .call f es, L, S => (evs P es L S).andThen fun ds S1 => P.cal f ds S1
  | .bi f es, L, S => (evs P es L S).andThen fun ds S1 => biD f ds S1
  | .bm m o es, L, S => (ev P o L S).andThen fun x S1 => if tyD S1 x = some (bmTy m) then (evs P es L S1).andThen fun ds S2 => bmD m x ds S2 else none
  | .isi e cs, L, S => (ev P e L S).andThen fun x S1 => optO S1 ((isD S1 x cs).map .bl)
  | .fld o f, L, S => (ev P o L S).andThen fun x S1 => match x with
    | .ref n => match S1[n]? with
      | some (.ins c fs) => if P.fds c f then optO S1 (fs.lookup f) else none
      | _ => none
    | _ => none
  | .meth m o es, L, S => (ev P o L S).andThen fun x S1 => match x with
    | .ref n => match S1[n]? with
      | some (.ins c fs) => match fs.lookup m with
        | none => if P.mts c m (lenEs es) then (evs P es L S1).andThen fun ds S2 => P.met c m (x :: ds) S2 else none
        | some _ => none
      | _ => none
    | _ => none
  | .mk c es, L, S => (evs P es L S).andThen fun ds S1 => (P.mak c (.ref S1.length :: ds) (S1 ++ [.ins c []])).andThen (mkEnd S1.length)
  | .kix x e, L, S => (ev P e L S).andThen fun d S1 => match d with
    | .str z => optO S1 ((P.kd x).bind (lookT z))
    | _ => none
  | .kin n x e, L, S => (ev P e L S).andThen fun d S1 => match d with
    | .str z => optO S1 ((P.kd x).map fun kvs => .bl (xor n (lookT z kvs).isSome))
    | _ => none
  | .lc elt g it ifs own, L, S => (evi P it L S).andThen fun w S1 =>
    (loopF (lcStep w S1.length (fun d S2 => asg P g d (wipeL L own) S2) (fun L2 S2 => tsts P ifs L2 S2) (fun L2 S2 => ev P elt L2 S2)) (0, S1 ++ [.lst []])).map fun S' => (.val (.ref S1.length), S')
def tst (P : Pm) : T → Lo → Sto → Out Bool
  | .of e, L, S => (ev P e L S).andThen fun x S1 => optO S1 (truD S1 x)
  | .nt a, L, S => (tst P a L S).andThen fun c S1 => some (.val (!c), S1)
  | .bo op a b, L, S => (tst P a L S).andThen fun c S1 => if c = (match op with | .And => true | .Or => false) then tst P b L S1 else some (.val c, S1)
def tsts (P : Pm) : To → Lo → Sto → Out Bool
  | .yes, _, S => some (.val true, S)
  | .so t, L, S => tst P t L S
def evs (P : Pm) : Es → Lo → Sto → Out (List D)
  | .nil, _, S => some (.val [], S)
  | .cons e r, L, S => (ev P e L S).andThen fun d S1 => (evs P r L S1).andThen fun ds S2 => some (.val (d :: ds), S2)
def evo (P : Pm) : Oe → Lo → Sto → Out (Option Int)
  | .no, _, S => some (.val none, S)
  | .so e, L, S => (ev P e L S).andThen fun d S1 => match d with
    | .int i => some (.val (some i), S1)
    | _ => none
def evi (P : Pm) : Ie → Lo → Sto → Out Wk
  | .seq e, L, S => (ev P e L S).andThen fun d S1 => optO S1 (walkOf S1 d)
  | .rng1 e, L, S => (ev P e L S).andThen fun d S1 => match d with
    | .int j => if small62 j then some (.val (.rg 0 j.toNat), S1) else none
    | _ => none
  | .rng2 a b, L, S => (ev P a L S).andThen fun x S1 => (ev P b L S1).andThen fun y S2 => match x, y with
    | .int i, .int j => if small62 i && small62 j then some (.val (.rg i (j - i).toNat), S2) else none
    | _, _ => none
  | .enum e, L, S => (ev P e L S).andThen fun d S1 => (optO S1 (seqL S1 d)).andThen fun _ S2 => some (.val (.en d), S2)
def asg (P : Pm) : Tg → D → Lo → Sto → Option (Lo × Sto)
  | .nm i, d, L, S => some (L.set i (some d), S)
  | .tp ts, d, L, S => match d with
    | .tup ds => asgs P ts ds L S
    | _ => none
  | .sub o i, d, L, S => match ev P o L S with
    | some (.val (.ref n), S1) => match ev P i L S1 with
      | some (.val (.int k), S2) => match S2[n]? with
        | some (.lst xs) => match ixN xs.length k with
          | some j => some (L, S2.set n (.lst (xs.set j d)))
          | none => none
        | _ => none
      | _ => none
    | _ => none
  | .fld o f, d, L, S => match ev P o L S with
    | some (.val (.ref n), S1) => match S1[n]? with
      | some (.ins c fs) => if P.fds c f = true ∧ fs.length < 1000 then some (L, S1.set n (.ins c (putD f d fs))) else none
      | _ => none
    | _ => none
def asgs (P : Pm) : Tgs → List D → Lo → Sto → Option (Lo × Sto)
  | .nil, [], L, S => some (L, S)
  | .cons t r, d :: ds, L, S => match asg P t d L S with
    | some (L1, S1) => asgs P r ds L1 S1
    | none => none
  | _, _, _, _ => none
end
end Dy

namespace Dy
open PySem PySem.Spec PyProof.Rows L2
/-! ### readings -/
def RX (K : PySem.W.Frag) (mg : Str → Option Value) (μ : List Addr) (H : Hp) (c : Str) (fs : List (Str × D)) (cls : Value) (d : Option Addr) : Prop :=
  mg c = some cls ∧ (∀ f v, fs.lookup f = some v → PySem.W.findIn K cls f = some none) ∧ ((fs = [] ∧ d = none) ∨ ∃ a gs, d = some a ∧ H a = some (.xd gs) ∧ RF K μ H fs gs)
def Cont {α β : Type} (K : PySem.W.Frag) (mg : Str → Option Value) (W : WX) (R : List Addr → Hp → α → β → Prop) (σ : L2.St) (μ : List Addr) (H : Hp) (S' : Sto) (Q : β → Hp → Prop) : Res α → Prop
  | .val d => ∀ μ' H' v, Post K mg μ H μ' S' H' → R μ' H' d v → Q v H'
  | .exc c fs => ∀ μ' H' cls dd, Post K mg μ H μ' S' H' → RX K mg μ' H' c fs cls dd → W cls dd σ H'
def rd {α β : Type} (K : PySem.W.Frag) (mg : Str → Option Value) (W : WX) (R : List Addr → Hp → α → β → Prop) (m : Lo → Sto → Out α) (σ : L2.St) (H : Hp) (Q : β → Hp → Prop) : Prop :=
  ∃ μ S L r S', SR K mg μ S H ∧ SL K μ H L σ ∧ m L S = some (r, S') ∧ Cont K mg W R σ μ H S' Q r
abbrev tE (K : PySem.W.Frag) (mg : Str → Option Value) (W : WX) (m : Lo → Sto → Out D) : TE := rd K mg W (RD K) m
abbrev tT (K : PySem.W.Frag) (mg : Str → Option Value) (W : WX) (m : Lo → Sto → Out Bool) : TT := rd K mg W (fun _ _ (a b : Bool) => a = b) m
abbrev tA (K : PySem.W.Frag) (mg : Str → Option Value) (W : WX) (m : Lo → Sto → Out (List D)) : TA := rd K mg W (RDs K) m
section
variable {K : PySem.W.Frag} {mg : Str → Option Value} {W : WX} {σ : L2.St} {H : Hp} {μ : List Addr} {S S' : Sto} {L : Lo}
theorem Cont.mono {α β : Type} {R : List Addr → Hp → α → β → Prop} {μ1 : List Addr} {H1 : Hp} {S1 : Sto} {Q : β → Hp → Prop} {r : Res α} (p : Post K mg μ H μ1 S1 H1) (h : Cont K mg W R σ μ H S' Q r) : Cont K mg W R σ μ1 H1 S' Q r := by
  cases r with
  | val d => exact fun μ' H' v q x => h μ' H' v (p.trans q) x
  | exc c fs => exact fun μ' H' cls dd q x => h μ' H' cls dd (p.trans q) x
/-- the first of two parts -/
theorem rd_fst {α β γ δ : Type} {R : List Addr → Hp → α → β → Prop} {R2 : List Addr → Hp → γ → δ → Prop} {m : Lo → Sto → Out α} {f : α → Sto → Out γ} {r : Res γ} {Q : δ → Hp → Prop} {Z : β → Hp → Prop} (sr : SR K mg μ S H) (sl : SL K μ H L σ)
    (e : (m L S).andThen f = some (r, S')) (k : Cont K mg W R2 σ μ H S' Q r)
    (h : ∀ x S1 μ1 H1 v, f x S1 = some (r, S') → SR K mg μ1 S1 H1 → SL K μ1 H1 L σ → Pre μ μ1 → Tu H H1 → R μ1 H1 x v → Cont K mg W R2 σ μ1 H1 S' Q r → Z v H1) : rd K mg W R m σ H Z := by
  unfold Out.andThen at e
  cases q : m L S with
  | none => rw [q] at e; cases e
  | some z =>
    obtain ⟨r1, S1⟩ := z
    rw [q] at e
    cases r1 with
    | val x => exact ⟨μ, S, L, .val x, S1, sr, sl, q, fun μ1 H1 v p x2 => h x S1 μ1 H1 v e p.sr (sl.mono p.pre p.tu) p.pre p.tu x2 (k.mono p)⟩
    | exc c fs =>
      have e' : some ((.exc c fs : Res γ), S1) = some (r, S') := e
      cases e'
      exact ⟨μ, S, L, .exc c fs, _, sr, sl, q, k⟩
/-- the same, with what the first part gave -/
theorem rd_fst2 {α β γ δ : Type} {R : List Addr → Hp → α → β → Prop} {R2 : List Addr → Hp → γ → δ → Prop} {m : Lo → Sto → Out α} {f : α → Sto → Out γ} {r : Res γ} {Q : δ → Hp → Prop} {Z : β → Hp → Prop} (sr : SR K mg μ S H) (sl : SL K μ H L σ)
    (e : (m L S).andThen f = some (r, S')) (k : Cont K mg W R2 σ μ H S' Q r)
    (h : ∀ x S1 μ1 H1 v, m L S = some (.val x, S1) → f x S1 = some (r, S') → SR K mg μ1 S1 H1 → SL K μ1 H1 L σ → Pre μ μ1 → Tu H H1 → R μ1 H1 x v → Cont K mg W R2 σ μ1 H1 S' Q r → Z v H1) : rd K mg W R m σ H Z := by
  unfold Out.andThen at e
  cases q : m L S with
  | none => rw [q] at e; cases e
  | some z =>
    obtain ⟨r1, S1⟩ := z
    rw [q] at e
    cases r1 with
    | val x => exact ⟨μ, S, L, .val x, S1, sr, sl, q, fun μ1 H1 v p x2 => h x S1 μ1 H1 v q e p.sr (sl.mono p.pre p.tu) p.pre p.tu x2 (k.mono p)⟩
    | exc c fs =>
      have e' : some ((.exc c fs : Res γ), S1) = some (r, S') := e
      cases e'
      exact ⟨μ, S, L, .exc c fs, _, sr, sl, q, k⟩
theorem Cont.val {α β : Type} {R : List Addr → Hp → α → β → Prop} {Q : β → Hp → Prop} {d : α} (k : Cont K mg W R σ μ H S' Q (.val d)) {v : β} {μ' : List Addr} {H' : Hp} (p : Post K mg μ H μ' S' H') (x : R μ' H' d v) : Q v H' := k μ' H' v p x
theorem optO_some {α : Type} {o : Option α} {r : Res α} (e : optO S o = some (r, S')) : ∃ a, o = some a ∧ r = .val a ∧ S = S' := by
  cases o with
  | none => cases e
  | some a =>
    have e' : some (Res.val a, S) = some (r, S') := e
    cases e'
    exact ⟨a, rfl, rfl, rfl⟩
/-- two parts, then an operation on their values -/
theorem rd_two {γ δ : Type} {R2 : List Addr → Hp → γ → δ → Prop} {ma mb : Lo → Sto → Out D} {f : D → D → Sto → Out γ} {Q : δ → Hp → Prop} {Z : V → V → Hp → Prop}
    (h : rd K mg W R2 (fun L S => (ma L S).andThen fun x S1 => (mb L S1).andThen fun y S2 => f x y S2) σ H Q)
    (st : ∀ μ S H x y v w r S', SR K mg μ S H → RD K μ H x v → RD K μ H y w → f x y S = some (r, S') → Cont K mg W R2 σ μ H S' Q r → Z v w H) :
    tE K mg W ma σ H fun v H1 => tE K mg W mb σ H1 fun w H2 => Z v w H2 := by
  obtain ⟨μ, S, L, r, S', sr, sl, e, k⟩ := h
  exact rd_fst sr sl e k fun x S1 μ1 H1 v e1 sr1 sl1 p1 t1 rx k1 => rd_fst sr1 sl1 e1 k1 fun y S2 μ2 H2 w e2 sr2 sl2 p2 t2 ry k2 => st μ2 S2 H2 x y v w r S' sr2 (rx.mono p2 t2) ry e2 k2
theorem rd_one {γ δ : Type} {R2 : List Addr → Hp → γ → δ → Prop} {ma : Lo → Sto → Out D} {f : D → Sto → Out γ} {Q : δ → Hp → Prop} {Z : V → Hp → Prop}
    (h : rd K mg W R2 (fun L S => (ma L S).andThen f) σ H Q)
    (st : ∀ μ S H x v r S', SR K mg μ S H → RD K μ H x v → f x S = some (r, S') → Cont K mg W R2 σ μ H S' Q r → Z v H) : tE K mg W ma σ H Z := by
  obtain ⟨μ, S, L, r, S', sr, sl, e, k⟩ := h
  exact rd_fst sr sl e k fun x S1 μ1 H1 v e1 sr1 sl1 p1 t1 rx k1 => st μ1 S1 H1 x v r S' sr1 rx e1 k1
theorem rd_args {γ δ : Type} {R2 : List Addr → Hp → γ → δ → Prop} {ma : Lo → Sto → Out (List D)} {f : List D → Sto → Out γ} {Q : δ → Hp → Prop} {Z : List V → Hp → Prop}
    (h : rd K mg W R2 (fun L S => (ma L S).andThen f) σ H Q)
    (st : ∀ μ S H x v r S', SR K mg μ S H → RDs K μ H x v → f x S = some (r, S') → Cont K mg W R2 σ μ H S' Q r → Z v H) : tA K mg W ma σ H Z := by
  obtain ⟨μ, S, L, r, S', sr, sl, e, k⟩ := h
  exact rd_fst sr sl e k fun x S1 μ1 H1 v e1 sr1 sl1 p1 t1 rx k1 => st μ1 S1 H1 x v r S' sr1 rx e1 k1
/-- reading a list -/
theorem seqL_ok {d : D} {v : V} {xs : List D} (sr : SR K mg μ S H) (r : RD K μ H d v) (h : seqL S d = some xs) : ∃ a vs, v = .ref a ∧ SqL K H a vs ∧ RDs K μ H xs vs := by
  cases r with
  | kl hk hc hd ht hz hv r =>
    cases h
    exact ⟨_, _, rfl, .inr ⟨_, _, _, hk, hc, hd, ht, hz, hv⟩, r⟩
  | ref hn =>
    rename_i n a
    unfold seqL at h
    cases q : S[n]? with
    | none => simp only [q] at h; cases h
    | some o =>
      have ob := sr.obj n a o hn q
      simp only [q] at h
      cases o with
      | lst ys => cases h; obtain ⟨vs, h1, h2⟩ := ob; exact ⟨a, vs, rfl, .of h1, h2⟩
      | fro ys => cases h; obtain ⟨o, vs, h1, h2⟩ := ob; exact ⟨a, vs, rfl, .inl (.inr ⟨o, h1⟩), h2⟩
      | ins c fs => cases h
      | dct kvs => cases h
  | non => cases h
  | bl b => cases h
  | int i => cases h
  | str x => cases h
  | tup h1 h2 => cases h
theorem RDs.isEmpty {ds : List D} {vs : List V} (r : RDs K μ H ds vs) : vs.isEmpty = ds.isEmpty := by
  cases r <;> rfl
theorem stO_len (x : List Nat) : (stO x).length = x.length := by simp [stO, Str.length]
theorem stO_list (x : List Nat) : (stO x).cps.toList = x := by simp [stO]
theorem stO_inj {x y : List Nat} : stO x = stO y ↔ x = y := by
  constructor
  · intro h
    have := congrArg (fun z : Str => z.cps.toList) h
    simpa [stO] using this
  · exact fun h => by rw [h]
theorem stO_app (x y : List Nat) : stO x ++ stO y = stO (x ++ y) := by
  show Str.append (stO x) (stO y) = _
  simp [Str.append, stO]
theorem truD_ok {d : D} {v : V} {b : Bool} (sr : SR K mg μ S H) (r : RD K μ H d v) (h : truD S d = some b) : TruV K v H b := by
  cases r with
  | non => cases h; exact rfl
  | bl c => cases h; exact rfl
  | int i => cases h; exact rfl
  | str x =>
    have h : (if x.length ≤ sizeLine then some (!x.isEmpty) else none) = some b := h
    by_cases c : x.length ≤ sizeLine
    · rw [if_pos c] at h
      cases h
      refine ⟨by rw [stO_len]; exact c, ?_⟩
      rw [stO_len]
      cases x <;> simp
      omega
    · rw [if_neg c] at h; cases h
  | tup h1 h2 =>
    cases h
    exact .inr (.inl ⟨_, h1.sq, by rw [h2.isEmpty]⟩)
  | kl hk hc hd ht hz hv r =>
    cases h
    exact .inl ⟨_, .inr ⟨_, _, _, hk, hc, hd, ht, hz, hv⟩, by rw [r.isEmpty]⟩
  | ref hn =>
    rename_i n a
    unfold truD at h
    cases q : S[n]? with
    | none => simp only [q] at h; cases h
    | some o =>
      have ob := sr.obj n a o hn q
      simp only [q] at h
      cases o with
      | lst ys => cases h; obtain ⟨vs, h1, h2⟩ := ob; exact .inl ⟨vs, .of h1, by rw [h2.isEmpty]⟩
      | fro ys => cases h; obtain ⟨o, vs, h1, h2⟩ := ob; exact .inl ⟨vs, .inl (.inr ⟨o, h1⟩), by rw [h2.isEmpty]⟩
      | ins c fs => cases h
      | dct kvs =>
        cases h
        obtain ⟨gs, h1, h2⟩ := ob
        exact .inr (.inr ⟨gs, h1, by cases h2 <;> rfl⟩)
theorem tyD_ok {d : D} {v : V} {t : String} (sr : SR K mg μ S H) (r : RD K μ H d v) (h : tyD S d = some t) : TyX K H v (.type t) := by
  cases r with
  | non => cases h; exact .base .non
  | bl c => cases h; exact .base (.bl c)
  | int i => cases h; exact .base (.int i)
  | str x => cases h; exact .base (.str _)
  | tup h1 h2 =>
    cases h
    rcases h1 with ⟨o, h1, _⟩ | ⟨o, its, n, h1, hc, _⟩
    · exact .fTuple h1
    · exact .kTuple h1 hc
  | kl hk hc hd ht hz hv r =>
    cases h
    exact .kList hk hc
  | ref hn =>
    rename_i n a
    unfold tyD at h
    cases q : S[n]? with
    | none => simp only [q] at h; cases h
    | some o =>
      have ob := sr.obj n a o hn q
      simp only [q] at h
      cases o with
      | lst ys => cases h; obtain ⟨vs, h1, h2⟩ := ob; exact .base (.lst h1)
      | fro ys => cases h; obtain ⟨o, vs, h1, h2⟩ := ob; exact .base (.frz h1)
      | ins c fs => cases h
      | dct kvs => cases h; obtain ⟨gs, h1, h2⟩ := ob; exact .base (.dK h1)
end
end Dy

namespace Dy
open PySem PySem.Spec PyProof.Rows L2
section
variable {K : PySem.W.Frag} {mg : Str → Option Value} {W : WX} {σ : L2.St} {H : Hp} {μ : List Addr} {S S' : Sto} {L : Lo}
/-! ### the data of values -/
mutual
theorem pyD_ok (sr : SR K mg μ S H) : ∀ (n : Nat) {d : D} {v : V} {p : PyData}, RD K μ H d v → pyD n S d = some p → Dp K H v p
  | 0, _, _, _, _, e => by cases e
  | n + 1, d, v, p, r, e => by
    cases r with
    | non => cases e; exact .non
    | bl c => cases e; exact .bl c
    | int i => cases e; exact .int i
    | str x => cases e; exact .str _
    | tup h1 h2 =>
      rename_i a ds vs
      have e' : (pyDs n S ds).map PyData.tuple = some p := e
      obtain ⟨ps, e1, rfl⟩ := Option.map_eq_some_iff.mp e'
      exact .tup h1.sq (pyDs_ok sr n h2 e1)
    | kl hk hc hd ht hz hv r =>
      rename_i a ds vs o its m
      have e' : (pyDs n S ds).map PyData.list = some p := e
      obtain ⟨ps, e1, rfl⟩ := Option.map_eq_some_iff.mp e'
      exact .lst (.inr ⟨_, _, _, hk, hc, hd, ht, hz, hv⟩) (pyDs_ok sr n r e1)
    | ref hn =>
      rename_i k a
      have e' : (match S[k]? with
        | some (.lst xs) => (pyDs n S xs).map PyData.list
        | some (.fro xs) => (pyDs n S xs).map PyData.list
        | _ => none) = some p := e
      cases q : S[k]? with
      | none => rw [q] at e'; cases e'
      | some o =>
        have ob := sr.obj k a o hn q
        rw [q] at e'
        cases o with
        | lst ys =>
          obtain ⟨vs, h1, h2⟩ := ob
          obtain ⟨ps, e1, rfl⟩ := Option.map_eq_some_iff.mp e'
          exact .lst (.of h1) (pyDs_ok sr n h2 e1)
        | fro ys =>
          obtain ⟨o, vs, h1, h2⟩ := ob
          obtain ⟨ps, e1, rfl⟩ := Option.map_eq_some_iff.mp e'
          exact .lst (.inl (.inr ⟨o, h1⟩)) (pyDs_ok sr n h2 e1)
        | ins c fs => cases e'
        | dct kvs => cases e'
theorem pyDs_ok (sr : SR K mg μ S H) : ∀ (n : Nat) {ds : List D} {vs : List V} {ps : List PyData}, RDs K μ H ds vs → pyDs n S ds = some ps → DpAll K H vs ps
  | 0, _, _, _, _, e => by cases e
  | n + 1, _, _, ps, .nil, e => by cases e; exact .nil
  | n + 1, _, _, ps, .cons (d := d) (ds := ds) h r, e => by
    have e' : (match pyD n S d, pyDs n S ds with
      | some p, some ps => some (p :: ps)
      | _, _ => none) = some ps := e
    cases q1 : pyD n S d with
    | none => rw [q1] at e'; cases e'
    | some p =>
      cases q2 : pyDs n S ds with
      | none => rw [q1, q2] at e'; cases e'
      | some qs =>
        rw [q1, q2] at e'
        cases e'
        exact .cons (pyD_ok sr n h q1) (pyDs_ok sr n r q2)
end
theorem eqS_ok {x y : D} {v w : V} {b : Bool} (rx : RD K μ H x v) (ry : RD K μ H y w) (e : eqS x y = some b) : scal v w = true ∧ decide (v = w) = b := by
  cases rx <;> cases ry <;> first
    | (cases e; refine ⟨rfl, ?_⟩; rfl)
    | (cases e; refine ⟨rfl, decide_eq_decide.mpr ?_⟩; rw [V.str.injEq]; exact stO_inj)
    | (cases e; refine ⟨rfl, decide_eq_decide.mpr ?_⟩; simp; done)
    | (cases e; refine ⟨rfl, decide_eq_false ?_⟩; simp; done)
    | cases e
theorem eqD_ok {X : Cx} {x y : D} {v w : V} {b : Bool} {Q : VK} (hu : X.A.units + 64 < cLine) (sr : SR X.K mg μ S H) (rx : RD X.K μ H x v) (ry : RD X.K μ H y w) (e : eqD S x y = some b) (q : Q (.bl b) H) :
    ∃ r, OpR X (compareOp .Eq) r ∧ r v w H Q := by
  unfold eqD at e
  cases q1 : eqS x y with
  | some c =>
    rw [q1] at e
    cases e
    obtain ⟨h1, h2⟩ := eqS_ok rx ry q1
    exact ⟨_, op_eq, h1, by rw [h2]; exact q⟩
  | none =>
    simp only [q1] at e
    cases q2 : pyD 5000 S x with
    | none => rw [q2] at e; cases e
    | some p =>
      cases q3 : pyD 5000 S y with
      | none => rw [q2, q3] at e; cases e
      | some p' =>
        simp only [q2, q3] at e
        by_cases c : SeqAt.shaped p = true ∧ SeqAt.shaped p' = true
        · rw [if_pos c] at e
          cases e
          exact ⟨_, op_eqD hu, p, p', pyD_ok sr 5000 rx q2, pyD_ok sr 5000 ry q3, c.1, c.2, q⟩
        · rw [if_neg c] at e; cases e
theorem neD_ok {X : Cx} {x y : D} {v w : V} {b : Bool} {Q : VK} (hu : X.A.units + 64 < cLine) (sr : SR X.K mg μ S H) (rx : RD X.K μ H x v) (ry : RD X.K μ H y w) (e : eqD S x y = some b) (q : Q (.bl (!b)) H) :
    ∃ r, OpR X (compareOp .NotEq) r ∧ r v w H Q := by
  unfold eqD at e
  cases q1 : eqS x y with
  | some c =>
    rw [q1] at e
    cases e
    obtain ⟨h1, h2⟩ := eqS_ok rx ry q1
    exact ⟨_, op_ne, h1, by rw [h2]; exact q⟩
  | none =>
    simp only [q1] at e
    cases q2 : pyD 5000 S x with
    | none => rw [q2] at e; cases e
    | some p =>
      cases q3 : pyD 5000 S y with
      | none => rw [q2, q3] at e; cases e
      | some p' =>
        simp only [q2, q3] at e
        by_cases c : SeqAt.shaped p = true ∧ SeqAt.shaped p' = true
        · rw [if_pos c] at e
          cases e
          exact ⟨_, op_neD hu, p, p', pyD_ok sr 5000 rx q2, pyD_ok sr 5000 ry q3, c.1, c.2, q⟩
        · rw [if_neg c] at e; cases e
theorem flatD_ok {x : D} {v w : V} (rx : RD K μ H x v) (e : flatD x = some w) : v = w ∧ flatV v = true := by
  cases rx <;> first | (cases e; exact ⟨rfl, rfl⟩) | cases e
theorem flats_ok : ∀ {xs : List D} {vs ws : List V}, RDs K μ H xs vs → flats xs = some ws → vs = ws ∧ vs.all flatV = true
  | _, _, _, .nil, e => by cases e; exact ⟨rfl, rfl⟩
  | _, _, _, .cons (d := d) (ds := ds) h r, e => by
    unfold flats at e
    cases q1 : flatD d with
    | none => rw [q1] at e; cases e
    | some v =>
      cases q2 : flats ds with
      | none => rw [q1, q2] at e; cases e
      | some vs =>
        rw [q1, q2] at e
        cases e
        obtain ⟨h1, h2⟩ := flatD_ok h q1
        obtain ⟨h3, h4⟩ := flats_ok r q2
        exact ⟨by rw [h1, h3], by rw [List.all_cons, h2, h4]; rfl⟩
/-- in over a list or a tuple -/
theorem inSeq {x : D} {ys : List D} {v : V} {vs : List V} {b : Bool} (rx : RD K μ H x v) (ry : RDs K μ H ys vs) (e : (match flatD x, flats ys with
      | some v, some vs => some (inV v vs)
      | _, _ => none) = some b) : flatV v = true ∧ vs.all flatV = true ∧ inV v vs = b := by
  cases q1 : flatD x with
  | none => rw [q1] at e; cases e
  | some v' =>
    cases q2 : flats ys with
    | none => rw [q1, q2] at e; cases e
    | some vs' =>
      rw [q1, q2] at e
      cases e
      obtain ⟨h1, h2⟩ := flatD_ok rx q1
      obtain ⟨h3, h4⟩ := flats_ok ry q2
      exact ⟨h2, h4, by rw [h1, h3]⟩
theorem inD_ok {x y : D} {v w : V} {b : Bool} (sr : SR K mg μ S H) (rx : RD K μ H x v) (ry : RD K μ H y w) (e : inD S x y = some b) :
    (∃ i j, v = .str i ∧ w = .str j ∧ (!(Builtin.Str.occurrences j i 0 j.length 1).isEmpty) = b) ∨ (∃ p xs, w = .ref p ∧ (SqL K H p xs ∨ SqT K H p xs) ∧ flatV v = true ∧ xs.all flatV = true ∧ inV v xs = b) := by
  cases ry with
  | str j =>
    cases rx with
    | str i =>
      cases e
      refine .inl ⟨_, _, rfl, rfl, ?_⟩
      rw [stO_len]
      rfl
    | _ => cases e
  | tup h1 h2 =>
    obtain ⟨a1, a2, a3⟩ := inSeq rx h2 e
    exact .inr ⟨_, _, rfl, .inr h1.sq, a1, a2, a3⟩
  | kl hk hc hd ht hz hv r =>
    obtain ⟨a1, a2, a3⟩ := inSeq rx r e
    exact .inr ⟨_, _, rfl, .inl (.inr ⟨_, _, _, hk, hc, hd, ht, hz, hv⟩), a1, a2, a3⟩
  | ref hn =>
    rename_i n a
    unfold inD at e
    cases q : S[n]? with
    | none => simp only [q] at e; cases e
    | some o =>
      have ob := sr.obj n a o hn q
      simp only [q] at e
      cases o with
      | lst ys =>
        obtain ⟨vs, h1, h2⟩ := ob
        obtain ⟨a1, a2, a3⟩ := inSeq rx h2 e
        exact .inr ⟨_, _, rfl, .inl (.of h1), a1, a2, a3⟩
      | fro ys =>
        obtain ⟨o, vs, h1, h2⟩ := ob
        obtain ⟨a1, a2, a3⟩ := inSeq rx h2 e
        exact .inr ⟨_, _, rfl, .inl (.inl (.inr ⟨o, h1⟩)), a1, a2, a3⟩
      | ins c fs => cases e
      | dct kvs => cases e
  | non => cases e
  | bl c => cases e
  | int i => cases e
theorem lt_list {i j : List Nat} : decide ((stO i).cps.toList < (stO j).cps.toList) = ltL i j := by
  unfold ltL
  rw [stO_list, stO_list]
theorem cmpD_ok {X : Cx} {op : CmpOp} {x y : D} {v w : V} {b : Bool} {Q : VK} (hu : X.A.units + 64 < cLine) (sr : SR X.K mg μ S H) (rx : RD X.K μ H x v) (ry : RD X.K μ H y w) (e : cmpD op S x y = some b) (q : Q (.bl b) H) :
    ∃ r, OpR X (compareOp op) r ∧ r v w H Q := by
  cases op with
  | Eq => exact eqD_ok hu sr rx ry e q
  | NotEq =>
    obtain ⟨c, e1, rfl⟩ := Option.map_eq_some_iff.mp (show (eqD S x y).map (!·) = some b from e)
    exact neD_ok hu sr rx ry e1 q
  | In =>
    rcases inD_ok sr rx ry e with ⟨i, j, rfl, rfl, h⟩ | ⟨p, xs, rfl, h1, h2, h3, h4⟩
    · exact ⟨_, op_in_str, i, j, rfl, rfl, by rw [h]; exact q⟩
    · exact ⟨_, op_in_seq, p, xs, rfl, h1, h2, h3, by rw [h4]; exact q⟩
  | NotIn =>
    obtain ⟨c, e1, rfl⟩ := Option.map_eq_some_iff.mp (show (inD S x y).map (!·) = some b from e)
    rcases inD_ok sr rx ry e1 with ⟨i, j, rfl, rfl, h⟩ | ⟨p, xs, rfl, h1, h2, h3, h4⟩
    · exact ⟨_, op_notin_str, i, j, rfl, rfl, by rw [h]; exact q⟩
    · exact ⟨_, op_notIn_seq, p, xs, rfl, h1, h2, h3, by rw [h4]; exact q⟩
  | Is =>
    cases ry with
    | non =>
      refine ⟨_, op_isN, rfl, ?_⟩
      cases rx <;> (cases e; exact q)
    | _ => cases e
  | IsNot =>
    cases ry with
    | non =>
      refine ⟨_, op_notN, rfl, ?_⟩
      cases rx <;> (cases e; exact q)
    | _ => cases e
  | Lt =>
    cases rx <;> cases ry <;> first
      | (cases e; exact ⟨_, op_lt, _, _, rfl, rfl, q⟩)
      | (cases e; exact ⟨_, op_lt_str, _, _, rfl, rfl, by rw [lt_list]; exact q⟩)
      | cases e
  | LtE =>
    cases rx <;> cases ry <;> first
      | (cases e; exact ⟨_, op_le, _, _, rfl, rfl, q⟩)
      | (cases e; exact ⟨_, op_le_str, _, _, rfl, rfl, by rw [lt_list]; exact q⟩)
      | cases e
  | Gt =>
    cases rx <;> cases ry <;> first
      | (cases e; exact ⟨_, op_gt, _, _, rfl, rfl, q⟩)
      | (cases e; exact ⟨_, op_gt_str, _, _, rfl, rfl, by rw [lt_list]; exact q⟩)
      | cases e
  | GtE =>
    cases rx <;> cases ry <;> first
      | (cases e; exact ⟨_, op_ge, _, _, rfl, rfl, q⟩)
      | (cases e; exact ⟨_, op_ge_str, _, _, rfl, rfl, by rw [lt_list]; exact q⟩)
      | cases e
end
end Dy

namespace Dy
open PySem PySem.Spec PyProof.Rows L2
/-! ### a text times a number -/
theorem foldl_app (l : List (Array Nat)) (a : Array Nat) : (l.foldl (· ++ ·) a).toList = a.toList ++ (l.map Array.toList).flatten := by
  induction l generalizing a with
  | nil => simp
  | cons x r ih => simp [List.foldl_cons, ih]
theorem mul_text (x : List Nat) (n : Int) : Txt.mul (stO x) n = stO (List.replicate n.toNat x).flatten := by
  unfold Txt.mul
  by_cases h1 : n < 1
  · rw [if_pos h1]
    have e : n.toNat = 0 := by omega
    rw [e]
    rfl
  · rw [if_neg h1]
    by_cases h2 : (n == 1 || (stO x).length == 0) = true
    · rw [if_pos h2]
      simp only [Bool.or_eq_true, beq_iff_eq] at h2
      rcases h2 with h2 | h2
      · subst h2
        simp
      · rw [stO_len] at h2
        have e : x = [] := List.eq_nil_of_length_eq_zero h2
        subst e
        simp
    · rw [if_neg h2]
      have key : ((List.replicate n.toNat (stO x).cps).foldl (· ++ ·) #[]).toList = (List.replicate n.toNat x).flatten := by
        rw [foldl_app]
        simp [stO]
      unfold stO
      rw [← key]
      simp [stO]
theorem mul_ok {x : List Nat} {n : Int} (h1 : n < 16777216) (h2 : -16777216 < n) (h3 : x.length * n.toNat ≤ sizeLine) : MulOk (stO x) n := by
  refine ⟨?_, fun a b => ?_, fun a b => ?_⟩
  · rw [Bool.or_eq_false_iff]
    exact ⟨decide_eq_false (by omega), decide_eq_false (by omega)⟩
  · have hp : 0 < n := by omega
    rw [stO_len]
    have e := sizeLine_eq
    have h4 : (x.length : Int) * n ≤ 16777216 := by
      have : ((x.length * n.toNat : Nat) : Int) ≤ ((16777216 : Nat) : Int) := Int.ofNat_le.mpr (Nat.le_trans h3 (Nat.le_of_eq e))
      have z : ((n.toNat : Nat) : Int) = n := Int.toNat_of_nonneg (by omega)
      rw [Int.natCast_mul, z] at this
      exact this
    intro q
    have q' : (2 ^ 63 - 1 : Int) / n < (x.length : Int) := q
    have := (Int.ediv_lt_iff_lt_mul hp).mp q'
    omega
  · show decide (_ > sizeLine) = false
    rw [stO_len]
    exact decide_eq_false (Nat.not_lt.mpr h3)
theorem op_mulS {X : Cx} : OpR X (binaryOp .Mult) (fun x y H Q => ∃ a i, x = .str (stO a) ∧ y = .int i ∧ i < 16777216 ∧ -16777216 < i ∧ a.length * i.toNat ≤ sizeLine ∧ Q (.str (stO (List.replicate i.toNat a).flatten)) H) := by
  intro pins s σ H x y v u Q I rx ry h
  obtain ⟨a, i, rfl, rfl, h1, h2, h3, q⟩ := h
  obtain ⟨t, rfl⟩ := rx
  obtain ⟨t', rfl⟩ := ry
  refine SB.mul (mul_ok h1 h2 h3) fun t2 k => ?_
  rw [mul_text]
  exact ⟨.str _, H, I.tok _, ⟨_, rfl⟩, q⟩
section
variable {X : Cx} {mg : Str → Option Value} {W : WX} {σ : L2.St} {H : Hp} {μ : List Addr} {S S' : Sto} {L : Lo}
theorem RDs.nil_iff {K : PySem.W.Frag} {ds : List D} {vs : List V} (r : RDs K μ H ds vs) : vs = [] ↔ ds = [] := by
  cases r <;> simp
theorem binD_ok {op : Operator} {x y : D} {v w : V} {r : Res D} {Q : VK} (sr : SR X.K mg μ S H) (rx : RD X.K μ H x v) (ry : RD X.K μ H y w) (e : binD op x y S = some (r, S')) (k : Cont X.K mg W (RD X.K) σ μ H S' Q r) :
    ∃ rr, OpR X (binaryOp op) rr ∧ rr v w H Q := by
  cases op with
  | Add =>
    cases rx with
    | int i =>
      cases ry with
      | int j => cases e; exact ⟨_, op_add, _, _, rfl, rfl, k.val (.refl sr) (.int _)⟩
      | _ => cases e
    | str a =>
      cases ry with
      | str b =>
        have e' : (if a.length + b.length ≤ sizeLine then some (Res.val (D.str (a ++ b)), S) else none) = some (r, S') := e
        by_cases c : a.length + b.length ≤ sizeLine
        · rw [if_pos c] at e'
          cases e'
          exact ⟨_, op_add_str, _, _, rfl, rfl, by rw [stO_len, stO_len]; exact c, by rw [stO_app]; exact k.val (.refl sr) (.str _)⟩
        · rw [if_neg c] at e'; cases e'
      | _ => cases e
    | tup h1 h2 =>
      rename_i pa da va
      cases ry with
      | tup h3 h4 =>
        rename_i pb db vb
        have e' : (if da.length + db.length ≤ sizeLine then some (Res.val (D.tup (da ++ db)), S) else none) = some (r, S') := e
        by_cases c : da.length + db.length ≤ sizeLine
        · rw [if_pos c] at e'
          cases e'
          refine ⟨_, op_catF, pa, pb, va, vb, rfl, rfl, h1.sq, h3.sq, by rw [← h2.length, ← h4.length]; exact c, fun z => ?_, fun _ z => ?_, fun _ _ p o hp hd => ?_⟩
          · have z' := h2.nil_iff.mp z
            subst z'
            exact k.val (.refl sr) (.tup h3 h4)
          · have z' := h4.nil_iff.mp z
            subst z'
            exact k.val (.refl sr) (.tup h1 (by rw [List.append_nil]; exact h2))
          · exact k.val (.side sr hp) (.tup (.new hd) ((h2.append h4).mono (.refl _) (.new hp)))
        · rw [if_neg c] at e'; cases e'
      | _ => cases e
    | ref hn =>
      rename_i n pa
      cases ry with
      | ref hm =>
        rename_i m pb
        unfold binD at e
        dsimp only at e
        cases q1 : S[n]? with
        | none => simp only [q1] at e; cases e
        | some o1 =>
          cases q2 : S[m]? with
          | none => simp only [q1, q2] at e; cases o1 <;> cases e
          | some o2 =>
            simp only [q1, q2] at e
            cases o1 with
            | lst a =>
              cases o2 with
              | lst b =>
                dsimp only at e
                by_cases c : a.length + b.length ≤ sizeLine
                · rw [if_pos c] at e
                  cases e
                  obtain ⟨va, h1, h2⟩ := sr.obj n pa _ hn q1
                  obtain ⟨vb, h3, h4⟩ := sr.obj m pb _ hm q2
                  refine ⟨_, op_cat, pa, pb, va, vb, rfl, rfl, h1, h3, by rw [← h2.length, ← h4.length]; exact c, fun p hp => ?_⟩
                  exact k.val (.new sr hp ⟨_, upd_same, (h2.append h4).mono .snoc (.new hp)⟩) (.newRef sr)
                · rw [if_neg c] at e; cases e
              | _ => cases e
            | _ => cases e
      | _ => cases e
    | _ => cases e
  | Sub =>
    cases rx with
    | int i =>
      cases ry with
      | int j => cases e; exact ⟨_, op_sub, _, _, rfl, rfl, k.val (.refl sr) (.int _)⟩
      | _ => cases e
    | _ => cases e
  | Mult =>
    cases rx with
    | int i =>
      cases ry with
      | int j =>
        have e' : (if ((-(2 ^ 64) < i ∧ i < 2 ^ 64) ∨ (-(2 ^ 64) < j ∧ j < 2 ^ 64)) ∨ i.natAbs.log2 + j.natAbs.log2 < 1000000 then some (Res.val (D.int (i * j)), S) else none) = some (r, S') := e
        by_cases c : ((-(2 ^ 64) < i ∧ i < 2 ^ 64) ∨ (-(2 ^ 64) < j ∧ j < 2 ^ 64)) ∨ i.natAbs.log2 + j.natAbs.log2 < 1000000
        · rw [if_pos c] at e'
          cases e'
          rcases c with c | c
          · exact ⟨_, op_mul, _, _, rfl, rfl, c, k.val (.refl sr) (.int _)⟩
          · exact ⟨_, op_mulW, _, _, rfl, rfl, c, k.val (.refl sr) (.int _)⟩
        · rw [if_neg c] at e'; cases e'
      | _ => cases e
    | str a =>
      cases ry with
      | int j =>
        have e' : (if j < 16777216 ∧ -16777216 < j ∧ a.length * j.toNat ≤ sizeLine then some (Res.val (D.str (List.replicate j.toNat a).flatten), S) else none) = some (r, S') := e
        by_cases c : j < 16777216 ∧ -16777216 < j ∧ a.length * j.toNat ≤ sizeLine
        · rw [if_pos c] at e'
          cases e'
          exact ⟨_, op_mulS, _, _, rfl, rfl, c.1, c.2.1, c.2.2, k.val (.refl sr) (.str _)⟩
        · rw [if_neg c] at e'; cases e'
      | _ => cases e
    | _ => cases e
  | FloorDiv =>
    cases rx with
    | int i =>
      cases ry with
      | int j =>
        have e' : (if 0 < j ∧ j.natAbs.log2 < 9000 then some (Res.val (D.int (i / j)), S) else if j ≠ 0 ∧ j.natAbs < 1073741824 then some (Res.val (D.int (i.fdiv j)), S) else none) = some (r, S') := e
        by_cases c : 0 < j ∧ j.natAbs.log2 < 9000
        · rw [if_pos c] at e'
          cases e'
          exact ⟨_, op_fdivW, _, _, rfl, rfl, c, k.val (.refl sr) (.int _)⟩
        · rw [if_neg c] at e'
          by_cases c2 : j ≠ 0 ∧ j.natAbs < 1073741824
          · rw [if_pos c2] at e'
            cases e'
            exact ⟨_, op_fdivN, _, _, rfl, rfl, c2, k.val (.refl sr) (.int _)⟩
          · rw [if_neg c2] at e'; cases e'
      | _ => cases e
    | _ => cases e
  | Mod =>
    cases rx with
    | int i =>
      cases ry with
      | int j =>
        have e' : (if 0 < j then some (Res.val (D.int (i % j)), S) else none) = some (r, S') := e
        by_cases c : 0 < j
        · rw [if_pos c] at e'
          cases e'
          exact ⟨_, op_mod, _, _, rfl, rfl, c, k.val (.refl sr) (.int _)⟩
        · rw [if_neg c] at e'; cases e'
      | _ => cases e
    | _ => cases e
  | Pow =>
    cases rx with
    | int i =>
      cases ry with
      | int j =>
        have e' : (if 0 ≤ j ∧ j ≤ 1000000 ∧ i.natAbs < 18446744073709551616 then some (Res.val (D.int (i ^ j.toNat)), S) else none) = some (r, S') := e
        by_cases c : 0 ≤ j ∧ j ≤ 1000000 ∧ i.natAbs < 18446744073709551616
        · rw [if_pos c] at e'
          cases e'
          exact ⟨_, op_pow, _, _, rfl, rfl, ⟨c.1, c.2.1, c.2.2⟩, k.val (.refl sr) (.int _)⟩
        · rw [if_neg c] at e'; cases e'
      | _ => cases e
    | _ => cases e
  | _ => cases e
theorem atI_ok {K : PySem.W.Frag} {ds : List D} {vs : List V} {i : Int} {d : D} (r : RDs K μ H ds vs) (e : atI ds i = some d) : ∃ v, atI vs i = some v ∧ RD K μ H d v := by
  unfold atI at e ⊢
  rw [← r.length]
  cases q : ixN ds.length i with
  | none => rw [q] at e; cases e
  | some j =>
    rw [q] at e
    exact r.get e
theorem ixD_ok {x y d : D} {v w : V} {Q : VK} (sr : SR X.K mg μ S H) (rx : RD X.K μ H x v) (ry : RD X.K μ H y w) (e : ixD x y S = some d) (k : ∀ u, RD X.K μ H d u → Q u H) : ∃ rr, IxR X rr ∧ rr v w H Q := by
  have viaL : ∀ {i : Int}, w = .int i → (match seqL S x with
    | some xs => atI xs i
    | none => none) = some d → ∃ rr, IxR X rr ∧ rr v w H Q := fun {i} hw e => by
    cases q : seqL S x with
    | none => rw [q] at e; cases e
    | some xs =>
      rw [q] at e
      obtain ⟨a, vs, rfl, h1, h2⟩ := seqL_ok sr rx q
      obtain ⟨u, h3, h4⟩ := atI_ok h2 e
      exact ⟨_, ix_list, a, vs, i, u, rfl, hw, h1, h3, k u h4⟩
  cases ry with
  | int i =>
    cases rx with
    | tup h1 h2 =>
      obtain ⟨u, h3, h4⟩ := atI_ok h2 (show atI _ i = some d from e)
      exact ⟨_, ix_tup, _, _, i, u, rfl, rfl, h1.sq, h3, k u h4⟩
    | str z =>
      have e' : (if z.length ≤ sizeLine then (atI z i).map (fun c => D.str [c]) else none) = some d := e
      by_cases c : z.length ≤ sizeLine
      · rw [if_pos c] at e'
        obtain ⟨ch, h1, rfl⟩ := Option.map_eq_some_iff.mp e'
        exact ⟨_, ix_str, stO z, i, ch, rfl, rfl, by rw [stO_len]; exact c, by rw [stO_list]; exact h1, k _ (.str [ch])⟩
      · rw [if_neg c] at e'; cases e'
    | kl hk hc hd ht hz hv r => exact viaL rfl e
    | ref hn => exact viaL rfl e
    | non => cases e
    | bl b => cases e
    | int j => cases e
  | non => cases rx <;> cases e
  | bl b => cases rx <;> cases e
  | str b => cases rx <;> cases e
  | tup a b => cases rx <;> cases e
  | ref a => cases rx <;> cases e
  | kl _ _ _ _ _ _ _ => cases rx <;> cases e
theorem cutL_ok {K : PySem.W.Frag} {ds : List D} {vs : List V} {lo hi : Option Int} (r : RDs K μ H ds vs) : RDs K μ H (cutL ds lo hi) (cutV vs lo hi) := by
  unfold cutL cutV
  rw [← r.length]
  exact (r.drop _).take _
theorem slD_ok {x : D} {v : V} {lo hi : Option Int} {r : Res D} {Q : VK} (sr : SR X.K mg μ S H) (rx : RD X.K μ H x v) (e : slD x lo hi S = some (r, S')) (k : Cont X.K mg W (RD X.K) σ μ H S' Q r) : ∃ rr, SlR X rr ∧ rr v lo hi H Q := by
  have viaL : (match seqL S x with
    | some xs => some (Res.val (D.ref S.length), S ++ [O.lst (cutL xs lo hi)])
    | none => none) = some (r, S') → ∃ rr, SlR X rr ∧ rr v lo hi H Q := fun e => by
    cases q : seqL S x with
    | none => rw [q] at e; cases e
    | some xs =>
      rw [q] at e
      cases e
      obtain ⟨a, vs, rfl, h1, h2⟩ := seqL_ok sr rx q
      exact ⟨_, sl_list, a, vs, rfl, h1, fun p hp => k.val (.new sr hp ⟨_, upd_same, (cutL_ok h2).mono .snoc (.new hp)⟩) (.newRef sr)⟩
  cases rx with
  | str z =>
    have e' : (if z.length ≤ sizeLine then some (Res.val (D.str (cutL z lo hi)), S) else none) = some (r, S') := e
    by_cases c : z.length ≤ sizeLine
    · rw [if_pos c] at e'
      cases e'
      refine ⟨_, sl_str, stO z, rfl, by rw [stO_len]; exact c, ?_⟩
      have q : cutS (stO z) lo hi = stO (cutL z lo hi) := by
        unfold cutS cutL
        rw [stO_len, stO_list]
        rfl
      rw [q]
      exact k.val (.refl sr) (.str _)
    · rw [if_neg c] at e'; cases e'
  | tup h1 h2 =>
    cases e
    rename_i pa da va
    refine ⟨_, sl_tupF, pa, va, rfl, h1.sq, fun c => ?_, fun c p o hp hd => ?_⟩
    · refine k.val (.refl sr) (.tup h1 ?_)
      have q : cutL da lo hi = da := by
        unfold cutL
        rw [h2.length, c.1, c.2, List.drop_zero, Nat.sub_zero, ← h2.length, List.take_length]
      rw [q]
      exact h2
    · exact k.val (.side sr hp) (.tup (.new hd) ((cutL_ok h2).mono (.refl _) (.new hp)))
  | kl hk hc hd ht hz hv r => exact viaL e
  | ref hn => exact viaL e
  | non => cases e
  | bl b => cases e
  | int j => cases e
theorem bls_rd {K : PySem.W.Frag} {μ : List Addr} {H : Hp} : ∀ {xs : List D} {bs : List Bool} {ws : List V}, blsOf xs = some bs → RDs K μ H xs ws → ws = bs.map V.bl
  | [], _, _, e, .nil => by cases e; rfl
  | d :: xs, bs, _, e, .cons h r => by
    cases h with
    | bl b =>
      have e' : (blsOf xs).map (b :: ·) = some bs := e
      obtain ⟨cs, e1, rfl⟩ := Option.map_eq_some_iff.mp e'
      rw [bls_rd e1 r]; rfl
    | _ => cases e
/-- a built-in's call -/
def biOk (X : Cx) (f : Str) (v : Value) : Prop := bootBuiltins f = some v
theorem biD_ok {f : Str} {ds : List D} {vs : List V} {r : Res D} {Q : VK} (hc : X.calm = true) (sr : SR X.K mg μ S H) (rs : RDs X.K μ H ds vs) (e : biD f ds S = some (r, S')) (k : Cont X.K mg W (RD X.K) σ μ H S' Q r) :
    (∃ id rr, bootBuiltins f = some (.builtin id) ∧ CallR X (.builtin id) rr ∧ rr vs H Q) ∨ (∃ T rr, bootBuiltins f = some (.type T) ∧ CallR X (.type T) rr ∧ rr vs H Q) := by
  unfold biD at e
  by_cases f1 : f = "len"
  · rw [if_pos f1] at e
    subst f1
    refine .inl ⟨"len", _, by decide +kernel, call_len, ?_⟩
    have viaL : ∀ {x : D}, (match seqL S x with
      | some xs => some (Res.val (D.int xs.length), S)
      | none => none) = some (r, S') → ∀ {v}, RD X.K μ H x v → ∃ z n, [v] = [z] ∧ LenV X.K z H n ∧ Q (.int n) H := fun {x} e {v} rx => by
      cases q : seqL S x with
      | none => rw [q] at e; cases e
      | some xs =>
        rw [q] at e
        cases e
        obtain ⟨a, vs, rfl, h1, h2⟩ := seqL_ok sr rx q
        exact ⟨_, xs.length, rfl, .inl ⟨vs, h1, h2.length⟩, k.val (.refl sr) (.int _)⟩
    cases rs with
    | nil => cases e
    | cons h rs =>
      cases rs with
      | cons _ _ => cases h <;> cases e
      | nil =>
        cases h with
        | str x =>
          have e' : (if x.length ≤ sizeLine then some (Res.val (D.int x.length), S) else none) = some (r, S') := e
          by_cases c : x.length ≤ sizeLine
          · rw [if_pos c] at e'
            cases e'
            exact ⟨_, x.length, rfl, ⟨by rw [stO_len]; exact c, (stO_len x).symm⟩, k.val (.refl sr) (.int _)⟩
          · rw [if_neg c] at e'; cases e'
        | tup h1 h2 =>
          cases e
          exact ⟨_, _, rfl, .inr ⟨_, h1.sq, h2.length⟩, k.val (.refl sr) (.int _)⟩
        | ref hn => exact viaL e (.ref hn)
        | kl hk hc hd ht hz hv r => exact viaL e (.kl hk hc hd ht hz hv r)
        | non => cases e
        | bl b => cases e
        | int j => cases e
  rw [if_neg f1] at e
  by_cases f2 : f = "int"
  · rw [if_pos f2] at e
    subst f2
    cases rs with
    | nil => cases e
    | cons h rs =>
      cases rs with
      | cons _ _ => cases h <;> cases e
      | nil =>
        cases h with
        | int i =>
          refine .inr ⟨"int", _, by decide +kernel, call_int1, ?_⟩
          cases e; exact .inl ⟨i, rfl, k.val (.refl sr) (.int _)⟩
        | bl b =>
          refine .inr ⟨"int", _, by decide +kernel, call_int1, ?_⟩
          cases e; exact .inr ⟨b, rfl, k.val (.refl sr) (.int _)⟩
        | str x =>
          refine .inr ⟨"int", _, by decide +kernel, call_int_str, ?_⟩
          have e' : (if x.length ≤ 640 then (PySem.intText? (stO x)).map fun n => (Res.val (D.int n), S) else none) = some (r, S') := e
          by_cases c : x.length ≤ 640
          · rw [if_pos c] at e'
            obtain ⟨n, e1, e2⟩ := Option.map_eq_some_iff.mp e'
            cases e2
            exact ⟨_, n, rfl, e1, by rw [stO_len]; exact c, k.val (.refl sr) (.int _)⟩
          · rw [if_neg c] at e'; cases e'
        | _ => cases e
  rw [if_neg f2] at e
  by_cases f3 : f = "abs"
  · rw [if_pos f3] at e
    subst f3
    refine .inl ⟨"abs", _, by decide +kernel, call_abs, ?_⟩
    cases rs with
    | nil => cases e
    | cons h rs =>
      cases rs with
      | cons _ _ => cases h <;> cases e
      | nil =>
        cases h with
        | int i => cases e; exact ⟨i, rfl, k.val (.refl sr) (.int _)⟩
        | _ => cases e
  rw [if_neg f3] at e
  by_cases f4 : f = "max"
  · rw [if_pos f4] at e
    subst f4
    cases rs with
    | nil => cases e
    | cons h rs =>
      cases rs with
      | nil => cases h <;> cases e
      | cons h2 rs =>
        cases rs with
        | cons h3 rs =>
          cases rs with
          | cons _ _ => cases h <;> cases h2 <;> cases h3 <;> cases e
          | nil =>
            refine .inl ⟨"max", _, by decide +kernel, call_max3Nu hc, ?_⟩
            cases h with
            | int i =>
              cases h2 with
              | int j =>
                cases h3 with
                | int l =>
                  cases e
                  refine ⟨_, _, _, .int (max3 i j l), rfl, ?_, k.val (.refl sr) (.int _)⟩
                  unfold max3
                  by_cases h1 : j > i
                  · by_cases h2 : l > j
                    · simp [nuMax3, nuMax2, nuLt, nuCB, h1, h2]
                    · simp [nuMax3, nuMax2, nuLt, nuCB, h1, h2]
                  · by_cases h2 : l > i
                    · simp [nuMax3, nuMax2, nuLt, nuCB, h1, h2]
                    · simp [nuMax3, nuMax2, nuLt, nuCB, h1, h2]
                | _ => cases e
              | _ => cases h3 <;> cases e
            | _ => cases h2 <;> cases h3 <;> cases e
        | nil =>
          refine .inl ⟨"max", _, by decide +kernel, call_max2 hc, ?_⟩
          cases h with
          | int i =>
            cases h2 with
            | int j => cases e; exact ⟨i, j, rfl, k.val (.refl sr) (.int _)⟩
            | _ => cases e
          | _ => cases e
  rw [if_neg f4] at e
  by_cases f5 : f = "min"
  · rw [if_pos f5] at e
    subst f5
    refine .inl ⟨"min", _, by decide +kernel, call_min2 hc, ?_⟩
    cases rs with
    | nil => cases e
    | cons h rs =>
      cases rs with
      | nil => cases h <;> cases e
      | cons h2 rs =>
        cases rs with
        | cons _ _ => cases h <;> cases h2 <;> cases e
        | nil =>
          cases h with
          | int i =>
            cases h2 with
            | int j => cases e; exact ⟨i, j, rfl, k.val (.refl sr) (.int _)⟩
            | _ => cases e
          | _ => cases e
  rw [if_neg f5] at e
  by_cases f6 : f = "str"
  · rw [if_pos f6] at e
    subst f6
    refine .inr ⟨"str", _, by decide +kernel, call_str_int, ?_⟩
    cases rs with
    | nil => cases e
    | cons h rs =>
      cases rs with
      | cons _ _ => cases h <;> cases e
      | nil =>
        cases h with
        | int i =>
          have e' : (if i.natAbs.log2 < 1920 then some (Res.val (D.str (Str.ofString (toString i)).cps.toList), S) else none) = some (r, S') := e
          by_cases c : i.natAbs.log2 < 1920
          · rw [if_pos c] at e'
            cases e'
            refine ⟨i, rfl, c, ?_⟩
            have q := k.val (.refl sr) (.str (Str.ofString (toString i)).cps.toList)
            have z : stO (Str.ofString (toString i)).cps.toList = Str.ofString (toString i) := by simp [stO]
            rw [z] at q
            exact q
          · rw [if_neg c] at e'; cases e'
        | _ => cases e
  rw [if_neg f6] at e
  by_cases f7 : f = "list"
  · rw [if_pos f7] at e
    subst f7
    refine .inr ⟨"list", _, by decide +kernel, call_list_of, ?_⟩
    have viaL : ∀ {x : D}, (match seqL S x with
      | some xs => some (Res.val (D.ref S.length), S ++ [O.lst xs])
      | none => none) = some (r, S') → ∀ {v}, RD X.K μ H x v → ∃ p ys, [v] = [V.ref p] ∧ (SqL X.K H p ys ∨ SqT X.K H p ys) ∧ ∀ (l : Addr), H l = none → Q (V.ref l) (upd H l (HO.lst ys)) := fun {x} e {v} rx => by
      cases q : seqL S x with
      | none => rw [q] at e; cases e
      | some xs =>
        rw [q] at e
        cases e
        obtain ⟨a, vs, rfl, h1, h2⟩ := seqL_ok sr rx q
        exact ⟨a, vs, rfl, .inl h1, fun p hp => k.val (.new sr hp ⟨_, upd_same, h2.mono .snoc (.new hp)⟩) (.newRef sr)⟩
    cases rs with
    | nil => cases e
    | cons h rs =>
      cases rs with
      | cons _ _ => cases h <;> cases e
      | nil =>
        cases h with
        | tup h1 h2 =>
          cases e
          exact ⟨_, _, rfl, .inr h1.sq, fun p hp => k.val (.new sr hp ⟨_, upd_same, h2.mono .snoc (.new hp)⟩) (.newRef sr)⟩
        | ref hn => exact viaL e (.ref hn)
        | kl hk hc hd ht hz hv r => exact viaL e (.kl hk hc hd ht hz hv r)
        | non => cases e
        | bl b => cases e
        | int j => cases e
        | str j => cases e
  rw [if_neg f7] at e
  by_cases f8 : f = "tuple"
  · rw [if_pos f8] at e
    subst f8
    refine .inr ⟨"tuple", _, by decide +kernel, call_tupleF, ?_⟩
    have viaL : ∀ {x : D}, (match seqL S x with
      | some xs => some (Res.val (D.tup xs), S)
      | none => none) = some (r, S') → ∀ {v}, RD X.K μ H x v → ∃ p ys, [v] = [V.ref p] ∧ ((SqL X.K H p ys ∧ NewT H ys Q) ∨ SqT X.K H p ys ∧ Q (V.ref p) H) := fun {x} e {v} rx => by
      cases q : seqL S x with
      | none => rw [q] at e; cases e
      | some xs =>
        rw [q] at e
        cases e
        obtain ⟨a, vs, rfl, h1, h2⟩ := seqL_ok sr rx q
        exact ⟨a, vs, rfl, .inl ⟨h1, fun p o hp hd => k.val (.side sr hp) (.tup (.new hd) (h2.mono (.refl _) (.new hp)))⟩⟩
    cases rs with
    | nil => cases e
    | cons h rs =>
      cases rs with
      | cons _ _ => cases h <;> cases e
      | nil =>
        cases h with
        | tup h1 h2 =>
          cases e
          exact ⟨_, _, rfl, .inr ⟨h1.sq, k.val (.refl sr) (.tup h1 h2)⟩⟩
        | ref hn => exact viaL e (.ref hn)
        | kl hk hc hd ht hz hv r => exact viaL e (.kl hk hc hd ht hz hv r)
        | non => cases e
        | bl b => cases e
        | int j => cases e
        | str j => cases e
  rw [if_neg f8] at e
  by_cases f9 : f = "all"
  · rw [if_pos f9] at e
    subst f9
    refine .inl ⟨"all", _, by decide +kernel, cr_all hc, ?_⟩
    cases rs with
    | nil => cases e
    | cons h rs =>
      cases rs with
      | cons _ _ => cases e
      | nil =>
        rename_i d v
        have e' : (match seqL S d with
          | some xs => (blsOf xs).map fun bs => (Res.val (D.bl (bs.all id)), S)
          | none => none) = some (r, S') := e
        cases q : seqL S d with
        | none => rw [q] at e'; cases e'
        | some xs =>
          rw [q] at e'
          obtain ⟨bs, e1, e2⟩ := Option.map_eq_some_iff.mp e'
          cases e2
          obtain ⟨a, ws, rfl, h1, h2⟩ := seqL_ok sr h q
          rw [bls_rd e1 h2] at h1
          exact ⟨a, bs, rfl, h1, k.val (.refl sr) (.bl _)⟩
  rw [if_neg f9] at e
  by_cases f10 : f = "any"
  · rw [if_pos f10] at e
    subst f10
    refine .inl ⟨"any", _, by decide +kernel, cr_any hc, ?_⟩
    cases rs with
    | nil => cases e
    | cons h rs =>
      cases rs with
      | cons _ _ => cases e
      | nil =>
        rename_i d v
        have e' : (match seqL S d with
          | some xs => (blsOf xs).map fun bs => (Res.val (D.bl (bs.any id)), S)
          | none => none) = some (r, S') := e
        cases q : seqL S d with
        | none => rw [q] at e'; cases e'
        | some xs =>
          rw [q] at e'
          obtain ⟨bs, e1, e2⟩ := Option.map_eq_some_iff.mp e'
          cases e2
          obtain ⟨a, ws, rfl, h1, h2⟩ := seqL_ok sr h q
          rw [bls_rd e1 h2] at h1
          exact ⟨a, bs, rfl, h1, k.val (.refl sr) (.bl _)⟩
  rw [if_neg f10] at e
  cases e
end
end Dy

namespace Dy
open PySem PySem.Spec PyProof.Rows L2
/-! ### from the text to the core -/
structure Cc where
  N : List Str
  names : List (Str × NameKind)
  fns : List (Str × Nat)
  cls : List (Str × Nat)
  cons : List Str
  kds : List Str
  mets : List (Str × Nat)
  flds : List Str
  excs : List Str
  hcl : List Str
  top : Bool
  fcell : List Str
def idx (N : List Str) (x : Str) : Option Nat := match N with
  | [] => none
  | y :: r => if y = x then some 0 else (idx r x).map (· + 1)
theorem idx_ok : ∀ {N : List Str} {x : Str} {i : Nat}, idx N x = some i → N[i]? = some x
  | [], _, _, h => by cases h
  | y :: r, x, i, h => by
    unfold idx at h
    by_cases e : y = x
    · rw [if_pos e] at h; cases h; subst e; rfl
    · rw [if_neg e] at h
      obtain ⟨j, h1, rfl⟩ := Option.map_eq_some_iff.mp h
      simpa using idx_ok h1
def o2 {α β γ : Type} (a : Option α) (b : Option β) (f : α → β → γ) : Option γ := match a, b with
  | some x, some y => some (f x y)
  | _, _ => none
def o3 {α β γ δ : Type} (a : Option α) (b : Option β) (d : Option γ) (f : α → β → γ → δ) : Option δ := match a, b, d with
  | some x, some y, some z => some (f x y z)
  | _, _, _ => none
theorem o2_ok {α β γ : Type} {a : Option α} {b : Option β} {f : α → β → γ} {z : γ} (h : o2 a b f = some z) : ∃ x y, a = some x ∧ b = some y ∧ z = f x y := by
  cases a with
  | none => cases h
  | some x =>
    cases b with
    | none => cases h
    | some y => cases h; exact ⟨x, y, rfl, rfl, rfl⟩
theorem o3_ok {α β γ δ : Type} {a : Option α} {b : Option β} {d : Option γ} {f : α → β → γ → δ} {z : δ} (h : o3 a b d f = some z) : ∃ x y w, a = some x ∧ b = some y ∧ d = some w ∧ z = f x y w := by
  cases a with
  | none => cases h
  | some x =>
    cases b with
    | none => cases h
    | some y =>
      cases d with
      | none => cases h
      | some w => cases h; exact ⟨x, y, w, rfl, rfl, rfl, rfl⟩
def isTys : List String := ["bool", "int", "str", "tuple", "list", "dict"]
def nmsIn (own : List Nat) : Tgs → Bool
  | .nil => true
  | .cons (.nm i) r => own.contains i && nmsIn own r
  | .cons _ _ => false
/-- the target of a comprehension stores its own names alone -/
def lcTg (own : List Nat) : Tg → Bool
  | .nm i => own.contains i
  | .tp ts => nmsIn own ts
  | _ => false
def biNames : List Str := ["len", "int", "abs", "max", "min", "str", "list", "tuple", "all", "any"]
def bmNames : List Str := ["append", "index", "find", "join"]
def nameOk (x : Str) : Bool := !decide (x = "__debug__") && !decide (x = "__classdict__")
def isSlice : Expr → Bool
  | .Slice _ _ _ _ => true
  | _ => false
def isTupE : Expr → Bool
  | .Tuple _ _ _ => true
  | _ => false
def abOk : Expr → Bool
  | .Call (.Name _ _) [] [] _ => false
  | _ => true
def clsOf : List Expr → Option (List Str)
  | [] => some []
  | .Name x _ :: r => (clsOf r).map (x :: ·)
  | _ => none
def glob (c : Cc) (x : Str) : Bool := decide (c.names.lookup x = some .globalImplicit) && nameOk x
def isiArg (c : Cc) : List Expr → Option (Expr × String)
  | [e, .Name t _] => if glob c t then (isTys.find? fun T => decide (Str.ofString T = t)).map fun T => (e, T) else none
  | _ => none
theorem isiArg_ok {c : Cc} {args : List Expr} {e : Expr} {T : String} (h : isiArg c args = some (e, T)) : ∃ t p, args = [e, .Name t p] ∧ glob c t = true ∧ isTys.find? (fun T => decide (Str.ofString T = t)) = some T := by
  unfold isiArg at h
  split at h
  · rename_i e1 t p
    by_cases hg : glob c t = true
    · rw [if_pos hg] at h
      obtain ⟨T1, h1, h2⟩ := Option.map_eq_some_iff.mp h
      cases h2
      exact ⟨t, p, rfl, hg, h1⟩
    · rw [if_neg hg] at h; cases h
  · cases h
def ownOf (N : List Str) : List (Str × NameKind) → Option (List (Str × Nat))
  | [] => some []
  | (y, k) :: r => if (k = .local ∨ k = .cell) ∧ y ∈ N then match idx N y, ownOf N r with
      | some i, some o => some ((y, i) :: o)
      | _, _ => none
    else ownOf N r
def relNames (names outer : List (Str × NameKind)) : List (Str × NameKind) :=
  names.map fun (n, k) => if k == .free && outer.lookup n == some .cell then (n, .cell) else (n, k)
def cellsOf (names : List (Str × NameKind)) : List Str := names.filterMap fun (n, k) => if k = .cell then some n else none
def Cc.inner (c : Cc) (names : List (Str × NameKind)) : Cc := { c with names := relNames names c.names, top := false, fcell := (cellsOf names).filter fun x => decide (names.lookup x = some .cell) }
def blkB (N : List Str) (outer names : List (Str × NameKind)) (own : List (Str × Nat)) : Bool :=
  names.all (fun y => decide (names.lookup y.1 = some y.2)) && (own.all (fun p => decide (N[p.2]? = some p.1)) &&
  (names.all (fun y => !decide (y.2 = .free) || (decide (outer.lookup y.1 = some .cell) || decide (outer.lookup y.1 = some .free))) &&
   names.all (fun y => !(decide (y.2 = .local) || decide (y.2 = .cell)) || ((own.map (·.1)).contains y.1 || !N.contains y.1))))
def asCall1 (f : Str) : Expr → Option Expr
  | .Call (.Name g _) [a] [] _ => if g = f then some a else none
  | _ => none
def asCall2 (f : Str) : Expr → Option (Expr × Expr)
  | .Call (.Name g _) [a, b] [] _ => if g = f then some (a, b) else none
  | _ => none
theorem asCall1_ok {f : Str} {e a : Expr} (h : asCall1 f e = some a) : ∃ p pos, e = .Call (.Name f p) [a] [] pos := by
  unfold asCall1 at h
  split at h
  · rename_i g p b pos
    by_cases c : g = f
    · rw [if_pos c] at h; cases h; exact ⟨p, pos, by rw [c]⟩
    · rw [if_neg c] at h; cases h
  · cases h
theorem asCall2_ok {f : Str} {e a b : Expr} (h : asCall2 f e = some (a, b)) : ∃ p pos, e = .Call (.Name f p) [a, b] [] pos := by
  unfold asCall2 at h
  split at h
  · rename_i g p a1 b1 pos
    by_cases c : g = f
    · rw [if_pos c] at h; cases h; exact ⟨p, pos, by rw [c]⟩
    · rw [if_neg c] at h; cases h
  · cases h
/-- a written table's name -/
def kdOf (c : Cc) : Expr → Option Str
  | .Name x _ => if glob c x && c.kds.contains x then some x else none
  | _ => none
theorem kdOf_ok {c : Cc} {e : Expr} {x : Str} (h : kdOf c e = some x) : ∃ p, e = .Name x p ∧ glob c x = true ∧ c.kds.contains x = true := by
  unfold kdOf at h
  split at h
  · rename_i y p
    by_cases q : (glob c y && c.kds.contains y) = true
    · rw [if_pos q] at h
      cases h
      exact ⟨p, rfl, Bool.and_eq_true_iff.mp q⟩
    · rw [if_neg q] at h; cases h
  · cases h
def kinOf (c : Cc) (op : CmpOp) (b : Expr) : Option (Bool × Str) := match op with
  | .In => (kdOf c b).map fun x => (false, x)
  | .NotIn => (kdOf c b).map fun x => (true, x)
  | _ => none
mutual
def cE : Nat → Cc → Expr → Option E
  | 0, _, _ => none
  | n + 1, c, e => match e with
    | .Constant (.int i) _ _ => some (.lit (.int i))
    | .Constant (.bool b) _ _ => some (.lit (.bl b))
    | .Constant .none _ _ => some (.lit .non)
    | .Constant (.str x) _ _ => some (.lit (.str x.cps.toList))
    | .Name x _ => if nameOk x then match c.names.lookup x with
        | some .local => (idx c.N x).map .var
        | some .cell => (idx c.N x).map .var
        | some .free => (idx c.N x).map .var
        | some .globalImplicit => if c.cons.contains x then some (.con x) else none
        | _ => none
      else none
    | .BinOp a op b _ => o2 (cE n c a) (cE n c b) (.bin op)
    | .UnaryOp .USub a _ => (cE n c a).map .neg
    | .UnaryOp .Not a _ => (cE n c a).map .nt
    | .BoolOp op vs _ => cB n c op vs
    | .IfExp t a b _ => o3 (cQ n c t) (cE n c a) (cE n c b) (.ite)
    | .Compare a [op] [b] _ => match kinOf c op b with
      | some (m, x) => (cE n c a).map (.kin m x)
      | none => if behindInMarks op b then none else o2 (cE n c a) (cE n c b) (.cmp op)
    | .Compare a [o, p] [b, d] _ => if lastMarks [o, p] [b, d] then none else o3 (cE n c a) (cE n c b) (cE n c d) (.chain o p)
    | .Tuple es _ _ => (cEs n c es).map .tup
    | .List es _ => (cEs n c es).map .lst
    | .Subscript a (.Slice lo hi none _) _ => o3 (cE n c a) (cO n c lo) (cO n c hi) (.sl)
    | .Subscript a i _ => if isSlice i then none else match kdOf c a with
      | some x => (cE n c i).map (.kix x)
      | none => o2 (cE n c a) (cE n c i) (.ix)
    | .Attribute o f _ => if abOk o && c.flds.contains f then (cE n c o).map fun x => .fld x f else none
    | .Call (.Name f _) args [] _ => if glob c f then
        if f = "isinstance" then (isiArg c args).bind fun q => (cE n c q.1).map fun x => .isi x [q.2]
        else if c.fns.contains (f, args.length) then (cEs n c args).map (.call f)
        else if c.cls.contains (f, args.length) then (cEs n c args).map (.mk f)
        else if biNames.contains f && !args.isEmpty then (cEs n c args).map (.bi f)
        else none
      else none
    | .Call (.Attribute o m apos) args [] pos => if abOk o && (apos.endLine == pos.line) && decide (args.length < 20) then
        if bmNames.contains m && !args.isEmpty then o2 (cE n c o) (cEs n c args) (.bm m)
        else if c.mets.contains (m, args.length) then o2 (cE n c o) (cEs n c args) (.meth m)
        else none
      else none
    | .ListComp elt [⟨tg, iter, ifs, 0⟩] scope _ => match ownOf c.N scope.names with
      | none => none
      | some own => if decide (scope.kind = .function) && blkB c.N c.names scope.names own then
          (cI n c tg iter).bind fun i => (cT n (c.inner scope.names) tg).bind fun g => if lcTg (own.map (·.2)) g = false then none else (cF n (c.inner scope.names) ifs).bind fun is => (cE n (c.inner scope.names) elt).map fun x => .lc x g i is (own.map (·.2))
        else none
    | _ => none
def cB : Nat → Cc → BoolOp → List Expr → Option E
  | 0, _, _, _ => none
  | n + 1, c, op, [a] => cE n c a
  | n + 1, c, op, a :: b :: r => o2 (cE n c a) (cB n c op (b :: r)) (.bo op)
  | _ + 1, _, _, [] => none
def cQ : Nat → Cc → Expr → Option T
  | 0, _, _ => none
  | n + 1, c, e => match e with
    | .UnaryOp .Not a _ => (cQ n c a).map .nt
    | .BoolOp op vs _ => cQB n c op vs
    | .IfExp _ _ _ _ => none
    | e => (cE n c e).map .of
def cQB : Nat → Cc → BoolOp → List Expr → Option T
  | 0, _, _, _ => none
  | n + 1, c, op, [a] => cQ n c a
  | n + 1, c, op, a :: b :: r => o2 (cQ n c a) (cQB n c op (b :: r)) (.bo op)
  | _ + 1, _, _, [] => none
def cF : Nat → Cc → List Expr → Option To
  | 0, _, _ => none
  | n + 1, c, [] => some .yes
  | n + 1, c, [t] => (cQ n c t).map .so
  | n + 1, c, _ :: _ :: _ => none
def cEs : Nat → Cc → List Expr → Option Es
  | 0, _, _ => none
  | n + 1, c, [] => some .nil
  | n + 1, c, e :: r => o2 (cE n c e) (cEs n c r) (.cons)
def cO : Nat → Cc → Option Expr → Option Oe
  | 0, _, _ => none
  | n + 1, c, none => some .no
  | n + 1, c, some e => (cE n c e).map .so
def cI : Nat → Cc → Expr → Expr → Option Ie
  | 0, _, _, _ => none
  | n + 1, c, tg, e => match asCall1 "range" e with
    | some a => if glob c "range" then (cE n c a).map .rng1 else none
    | none => match asCall2 "range" e with
      | some (a, b) => if glob c "range" then (o2 (cE n c a) (cE n c b) (.rng2)) else none
      | none => match asCall1 "enumerate" e with
        | some a => if glob c "enumerate" && isTupE tg then (cE n c a).map .enum else none
        | none => (cE n c e).map .seq
def cT : Nat → Cc → Expr → Option Tg
  | 0, _, _ => none
  | n + 1, c, .Name x _ => if nameOk x then match c.names.lookup x with
      | some .local => (idx c.N x).map .nm
      | some .cell => if c.fcell.contains x then (idx c.N x).map .nm else none
      | _ => none
    else none
  | n + 1, c, .Tuple es _ _ => (cTs n c es).map .tp
  | n + 1, c, .Subscript o i _ => if isSlice i then none else o2 (cE n c o) (cE n c i) (.sub)
  | n + 1, c, .Attribute o f _ => if c.flds.contains f then (cE n c o).map fun x => .fld x f else none
  | _ + 1, _, _ => none
def cTs : Nat → Cc → List Expr → Option Tgs
  | 0, _, _ => none
  | n + 1, c, [] => some .nil
  | n + 1, c, e :: r => o2 (cT n c e) (cTs n c r) (.cons)
end
end Dy

namespace Dy
open PySem PySem.Spec PyProof.Rows L2
/-! ### side conditions by shape -/
section
variable {n : Nat} {c : Cc} {env : Env}
def isStar : Expr → Bool
  | .Starred _ _ => true
  | _ => false
theorem cE_star {e : Expr} {x : E} (h : cE n c e = some x) : isStar e = false := by
  cases n with
  | zero => simp [cE] at h
  | succ n => cases e <;> first | rfl | (simp [cE] at h)
theorem star_cons {e : Expr} {es : List Expr} (h : isStar e = false) : starEach (e :: es) env = (false, eval e env) :: starEach es env := by
  cases e <;> first | rfl | cases h
theorem cEs_plain : ∀ {n : Nat} {es : List Expr} {xs : Es} {pos : Pos}, cEs n c es = some xs → (backTo pos (starEach es env)).any (·.1) = false
  | 0, _, _, _, h => by simp [cEs] at h
  | n + 1, [], _, _, _ => rfl
  | n + 1, e :: r, _, pos, h => by
    simp only [cEs] at h
    cases q1 : cE n c e with
    | none => rw [q1] at h; cases h
    | some x =>
      cases q2 : cEs n c r with
      | none => rw [q1, q2] at h; cases h
      | some xs =>
        rw [star_cons (cE_star q1)]
        have ih := cEs_plain (pos := pos) q2
        show (false || (backTo pos (starEach r env)).any (·.1)) = false
        rw [ih]
        rfl
theorem cEs_all : ∀ {n : Nat} {es : List Expr} {xs : Es} {pos : Pos}, cEs n c es = some xs → (backTo pos (starEach es env)).all (fun x => !x.1) = true
  | 0, _, _, _, h => by simp [cEs] at h
  | n + 1, [], _, _, _ => rfl
  | n + 1, e :: r, _, pos, h => by
    simp only [cEs] at h
    cases q1 : cE n c e with
    | none => rw [q1] at h; cases h
    | some x =>
      cases q2 : cEs n c r with
      | none => rw [q1, q2] at h; cases h
      | some xs =>
        rw [star_cons (cE_star q1)]
        have ih := cEs_all (pos := pos) q2
        show (!false && (backTo pos (starEach r env)).all (fun x => !x.1)) = true
        rw [ih]
        rfl
theorem ab_ok {o : Expr} {f : Str} (h : abOk o = true) : attributeBase o f env (eval o env) = eval o env := by
  unfold attributeBase
  split
  · cases h
  · rfl
theorem plainIx {i : Expr} (h : isSlice i = false) : PlainIx i := by
  intro o v
  cases i <;> first | rfl | cases h
theorem not_dbg {x : Str} (h : nameOk x = true) : (x == ("__debug__" : Str)) = false ∧ (x == ("__classdict__" : Str)) = false := by
  unfold nameOk at h
  obtain ⟨h1, h2⟩ := Bool.and_eq_true_iff.mp h
  simp at h1 h2
  exact ⟨by simpa using h1, by simpa using h2⟩
end
/-! ### what stands behind the names -/
/-- the promise of a def: what it comes to -/
def spF (a : Nat) (cal : List D → Sto → Out D) (K : PySem.W.Frag) (mg : Str → Option Value) : Sp := fun vs H Q E => vs.length = a ∧ ∃ μ S ds r S', SR K mg μ S H ∧ RDs K μ H ds vs ∧ cal ds S = some (r, S') ∧
  match r with
  | .val d => ∀ μ' H' v, Post K mg μ H μ' S' H' → RD K μ' H' d v → Q v H'
  | .exc c fs => ∀ μ' H' cls dd, Post K mg μ H μ' S' H' → RX K mg μ' H' c fs cls dd → E cls dd H'
/-- a def that may be called with a values -/
structure DefOk (prog : Program) (w : World) (K : PySem.W.Frag) (mg : Str → Option Value) (base : Heap) (k a : Nat) (f : Addr) (cal : List D → Sto → Out D) : Prop where
  ex : ∃ (fd : FuncData) (ps : List Str) (ds : List Value) (dvs : List V) (dd : List D) (cal' : List D → Sto → Out D), FnOk prog w K mg base (L2.CX prog w) k f fd ps (spF ps.length cal' K mg) ∧ Binds K fd ps ds ∧ Vals dvs ds ∧ (∀ μ H, RDs K μ H dd dvs) ∧
    a + dd.length = ps.length ∧ ∀ xs S r, cal xs S = some r → xs.length = a → cal' (xs ++ dd) S = some r
/-- what an except clause's name, a class handed to isinstance stands for -/
def HVal (mg : Str → Option Value) (y : Str) (cv : Value) : Prop := mg y = some cv ∧ (∃ C, cv = .ref C) ∨ (mg y = none ∧ bootBuiltins y = some cv ∧ y ≠ "__name__" ∧ ∃ T, cv = .type T)
/-- what an exception class must say to be asked by isinstance, its fields to be read -/
structure ExcK (K : PySem.W.Frag) (C : Addr) : Prop where
  cl : (PySem.W.clsIn K C).isSome = true
  ga : PySem.W.findIn K (.ref C) "__getattribute__" = some (some (.builtin "BaseException.__getattribute__"))
  gt : PySem.W.findIn K (.ref C) "__getattr__" = some none
  sub : PySem.W.subIn K (.ref C) (.type "BaseException") = some true
  ca : PySem.W.findIn K (.ref C) "__class__" = some (some (.builtin "object.__class__"))
  sp : PySem.W.specialIn K (.builtin "object.__class__") "__get__" = some (some (.builtin "getset_descriptor.__get__"))
  tk : PySem.W.takesIn K (.builtin "object.__class__") = some true
  ob : PySem.W.mroIn K C (.type "object") = some true
  hd : PySem.W.hasDictIn K C = true
structure GF (prog : Program) (w : World) (K : PySem.W.Frag) (mg : Str → Option Value) (base : Heap) (P : Pm) (c : Cc) (k : Nat) : Prop where
  con : ∀ x d, P.con x = some d → ∃ u v, mg x = some u ∧ RelV v u ∧ ∀ μ H, RD K μ H d v
  fn : ∀ x a, c.fns.contains (x, a) = true → ∃ f, mg x = some (.ref f) ∧ PySem.W.keepIn K (.ref f) = true ∧ DefOk prog w K mg base (k + 2) a f (P.cal x)
  fds : ∀ x f C, P.fds x f = true → mg x = some (.ref C) → Cls K C ∧ NoAttr K C f
  mts : ∀ x m a, P.mts x m a = true → ∃ C f, mg x = some (.ref C) ∧ Cls K C ∧ Meth K C m f ∧ DefOk prog w K mg base (k + 2) (a + 1) f (P.met x m)
  mex : ∀ m a, c.mets.contains (m, a) = true → ∃ x, P.mts x m a = true
  mak : ∀ x a, c.cls.contains (x, a) = true → ∃ C f, mg x = some (.ref C) ∧ Mk K C f ∧ DefOk prog w K mg base (k + 1) (a + 1) f (P.mak x)
  exc : ∀ x, c.excs.contains x = true → ∃ C fI fl m gs ok, mg x = some (.ref C) ∧ IniT prog K mg C fI fl m gs ∧ MsgOk prog w K mg fl m gs ok ∧ ∀ d fs, P.exc x d = some fs → fs = [(fl, d)] ∧ ∀ μ H v, RD K μ H d v → ok v
  sub : ∀ x y b, P.sub x y = some b → ∃ C cv, mg x = some (.ref C) ∧ HVal mg y cv ∧ PySem.W.exmOne K (.ref C) cv = some b ∧ PySem.W.kitOne K (.ref C) cv = some b ∧ ExcK K C
  hcl : ∀ y, c.hcl.contains y = true → ∃ cv, HVal mg y cv ∧ (y == ("__debug__" : Str)) = false
  kd : ∀ x kvs, P.kd x = some kvs → ∃ a es n, mg x = some (.ref a) ∧ KDict K w a es n ∧ (∀ z d, lookT z kvs = some d → ∃ u v, PySem.W.nsIn K a (stO z) = some (some u) ∧ RelV v u ∧ ∀ μ H, RD K μ H d v) ∧ (∀ z, lookT z kvs = none → PySem.W.nsIn K a (stO z) = some none)
  kex : ∀ x, c.kds.contains x = true → ∃ kvs, P.kd x = some kvs
  bi : ∀ x, biNames.contains x = true → mg x = none
  ty : ∀ x : String, tyNames.contains x = true → mg (Str.ofString x) = none
  isi : mg "isinstance" = none
  rng : mg "range" = none
  enu : mg "enumerate" = none
structure Fine (X : Cx) (P : Pm) (c : Cc) (k : Nat) : Prop where
  N : X.N = c.N
  names : X.env.scope.names = c.names
  nd : X.N.Nodup
  kind : X.env.scope.kind = .function
  fn : ∀ x, c.fcell.contains x = true → X.fn x = true
  calm : X.calm = true
  room : Room (k + 2) X.A
  pass : PassesOwn (model X.prog X.w) X.A X.env X.xe
  stk : c.top = true → X.stack = X.env :: X.outer ∧ X.env.frame = some X.env.locals
  g : GF X.prog X.w X.K X.mg X.base P c k
section
variable {X : Cx} {P : Pm} {c : Cc} {k n : Nat} {W : WX}
theorem Fine.hu (F : Fine X P c k) : X.A.units + 64 < cLine := F.room.units
theorem Fine.gl (F : Fine X P c k) {x : Str} (h : glob c x = true) : Gl X x ∧ (x == ("__debug__" : Str)) = false := by
  unfold glob at h
  obtain ⟨h1, h2⟩ := Bool.and_eq_true_iff.mp h
  refine ⟨?_, (not_dbg h2).1⟩
  show X.env.scope.names.lookup x = _
  rw [F.names]
  exact of_decide_eq_true h1
/-- a rule chosen at the state -/
theorem _root_.L2.PE.sel {e : Expr} {t : TE} (h : ∀ σ H Q, t σ H Q → ∃ t', PE X e t' ∧ t' σ H Q) : PE X e t := ⟨fun pins s σ H Q I q => by
  obtain ⟨t', h1, h2⟩ := h σ H Q q
  exact h1.run pins s σ H Q I h2⟩
theorem _root_.L2.PT.sel {e : Expr} {t : TT} (h : ∀ σ H Q, t σ H Q → ∃ t', PT X e t' ∧ t' σ H Q) : PT X e t := ⟨fun pins s σ H Q I q => by
  obtain ⟨t', h1, h2⟩ := h σ H Q q
  exact h1.run pins s σ H Q I h2⟩
theorem _root_.L2.PE.imp {e : Expr} {t t' : TE} (h : PE X e t) (i : ∀ σ H Q, t' σ H Q → t σ H Q) : PE X e t' := ⟨fun pins s σ H Q I q => h.run pins s σ H Q I (i σ H Q q)⟩
theorem _root_.L2.PT.imp {e : Expr} {t t' : TT} (h : PT X e t) (i : ∀ σ H Q, t' σ H Q → t σ H Q) : PT X e t' := ⟨fun pins s σ H Q I q => h.run pins s σ H Q I (i σ H Q q)⟩
theorem _root_.L2.PW.imp {e : Expr} {t t' : TT} (h : PW X e t) (i : ∀ σ H Q, t' σ H Q → t σ H Q) : PW X e t' := ⟨fun wh pins s σ H Q I q => h.run wh pins s σ H Q I (i σ H Q q)⟩
theorem _root_.L2.PA.imp {es : List Expr} {t t' : TA} (h : PA X es t) (i : ∀ σ H Q, t' σ H Q → t σ H Q) : PA X es t' := ⟨fun pos pins s σ H Q I q => h.run pos pins s σ H Q I (i σ H Q q)⟩
/-- an operator's rule chosen at the values -/
theorem op_any {f : Value → Value → Sem Value} : OpR X f (fun x y H Q => ∃ r, OpR X f r ∧ r x y H Q) := fun pins s σ H x y v u Q I rx ry ⟨r, h, q⟩ => h pins s σ H x y v u Q I rx ry q
theorem ix_any : IxR X (fun x y H Q => ∃ r, IxR X r ∧ r x y H Q) := fun a b pins s σ H x y v u Q I rx ry ⟨r, h, q⟩ => h a b pins s σ H x y v u Q I rx ry q
theorem sl_any : SlR X (fun x lo hi H Q => ∃ r, SlR X r ∧ r x lo hi H Q) := fun pins s σ H x v vl vu lo hi sl Q I rx hs pl pu ⟨r, h, q⟩ => h pins s σ H x v vl vu lo hi sl Q I rx hs pl pu q
theorem call_any {f : Value} : CallR X f (fun xs H Q => ∃ r, CallR X f r ∧ r xs H Q) := fun pins s σ H xs us Q I rs ⟨r, h, q⟩ => h pins s σ H xs us Q I rs q
theorem of_lit {d : D} {v : V} {e : Expr} (h : PE X e (tC v)) (hd : ∀ μ H, RD X.K μ H d v) : PE X e (tE X.K X.mg W (ev P (.lit d))) := h.imp fun σ H Q ⟨μ, S, L, r, S', sr, sl, e, k⟩ => by
  have e' : some (Res.val d, S) = some (r, S') := e
  cases e'
  exact k.val (.refl sr) (hd _ _)
end
end Dy



namespace Dy
open PySem PySem.Spec PyProof.Rows L2
/-! ### walks -/
/-- what a walk is, by the layer's iterators -/
inductive WR (K : PySem.W.Frag) (μ : List Addr) (H : Hp) : Wk → It → Prop
  | ls {d : D} {a : Addr} (h : RD K μ H d (.ref a)) : WR K μ H (.ls d) (Itl K a)
  | tp {xs : List D} {vs : List V} {a : Addr} (h : SqT K H a vs) (r : RDs K μ H xs vs) : WR K μ H (.tp xs) (Itt K a)
  | rg (lo : Int) (n : Nat) : WR K μ H (.rg lo n) (Itr lo n)
  | en {d : D} {a : Addr} (h : RD K μ H d (.ref a)) : WR K μ H (.en d) (Ite K a)
  | sg (x : List Nat) : WR K μ H (.sg x) (Its (stO x))
section
variable {K : PySem.W.Frag} {mg : Str → Option Value} {W : WX} {σ : L2.St} {H : Hp} {μ : List Addr} {S S' : Sto} {L : Lo}
theorem WR.mono {μ' : List Addr} {H' : Hp} (p : Pre μ μ') (t : Tu H H') {w : Wk} {J : It} (h : WR K μ H w J) : WR K μ' H' w J := by
  cases h with
  | ls h => exact .ls (h.mono p t)
  | tp h r => exact .tp (t.sqT h) (r.mono p t)
  | rg lo n => exact .rg lo n
  | en h => exact .en (h.mono p t)
  | sg x => exact .sg x
theorem seqL_ref {d : D} {a : Addr} {xs : List D} (sr : SR K mg μ S H) (r : RD K μ H d (.ref a)) (h : seqL S d = some xs) : ∃ vs, SqL K H a vs ∧ RDs K μ H xs vs := by
  obtain ⟨b, vs, e, h1, h2⟩ := seqL_ok sr r h
  cases e
  exact ⟨vs, h1, h2⟩
theorem WR.stop {w : Wk} {J : It} (sr : SR K mg μ S H) (h : WR K μ H w J) {i : Nat} (e : w.at S i = some none) : J.stop i H := by
  cases h with
  | ls h =>
    obtain ⟨xs, e1, e2⟩ := Option.map_eq_some_iff.mp (show (seqL S _).map (fun xs => xs[i]?) = some none from e)
    obtain ⟨vs, h1, h2⟩ := seqL_ref sr h e1
    exact ⟨vs, h1, by rw [← h2.length]; exact List.getElem?_eq_none_iff.mp e2⟩
  | tp h r =>
    rename_i xs vs a
    have e2 : xs[i]? = none := Option.some.inj (show some xs[i]? = some none from e)
    exact ⟨vs, h, by rw [← r.length]; exact List.getElem?_eq_none_iff.mp e2⟩
  | rg lo n =>
    have e2 : (if i < n then some (D.int (lo + i)) else none) = none := Option.some.inj (show some _ = some none from e)
    by_cases c : i < n
    · rw [if_pos c] at e2; cases e2
    · exact Nat.le_of_not_lt c
  | en h =>
    obtain ⟨xs, e1, e2⟩ := Option.map_eq_some_iff.mp (show (seqL S _).map (fun xs => (xs[i]?).map fun x => D.tup [.int i, x]) = some none from e)
    obtain ⟨vs, h1, h2⟩ := seqL_ref sr h e1
    exact ⟨vs, h1, by rw [← h2.length]; exact List.getElem?_eq_none_iff.mp (by simpa using e2)⟩
  | sg x =>
    have e2 : (x[i]?).map (fun c => D.str [c]) = none := Option.some.inj (show some ((x[i]?).map fun c => D.str [c]) = some none from e)
    show (stO x).cps.size ≤ i
    have e3 : x[i]? = none := by simpa using e2
    simpa [stO] using List.getElem?_eq_none_iff.mp e3
/-- a value that is handed to a target: a pair of enumerate is no value of ours, its parts are -/
def RP (K : PySem.W.Frag) (μ : List Addr) (H : Hp) (d : D) (v : V) : Prop := RD K μ H d v ∨ ∃ ds vs a, d = .tup ds ∧ v = .ref a ∧ SqT K H a vs ∧ RDs K μ H ds vs
def enW : Wk → Bool
  | .en _ => true
  | _ => false
theorem WR.go {w : Wk} {J : It} (sr : SR K mg μ S H) (h : WR K μ H w J) {i : Nat} {d : D} (e : w.at S i = some (some d)) : J.go i H ∧ ∀ x H', J.yld i H x H' → Post K mg μ H μ S H' ∧ RP K μ H' d x ∧ (enW w = false → RD K μ H' d x) := by
  cases h with
  | ls h =>
    obtain ⟨xs, e1, e2⟩ := Option.map_eq_some_iff.mp (show (seqL S _).map (fun xs => xs[i]?) = some (some d) from e)
    obtain ⟨vs, h1, h2⟩ := seqL_ref sr h e1
    obtain ⟨v, h3, h4⟩ := h2.get e2
    refine ⟨⟨vs, v, h1, h3⟩, fun x H' y => ?_⟩
    obtain ⟨rfl, y2⟩ := y
    have z := y2 vs h1
    rw [h3] at z
    cases z
    exact ⟨.refl sr, .inl h4, fun _ => h4⟩
  | tp h r =>
    rename_i xs vs a
    have e2 : xs[i]? = some d := Option.some.inj (show some xs[i]? = some (some d) from e)
    obtain ⟨v, h3, h4⟩ := r.get e2
    refine ⟨⟨vs, v, h, h3⟩, fun x H' y => ?_⟩
    obtain ⟨rfl, y2⟩ := y
    have z := y2 vs h
    rw [h3] at z
    cases z
    exact ⟨.refl sr, .inl h4, fun _ => h4⟩
  | rg lo n =>
    have e2 : (if i < n then some (D.int (lo + i)) else none) = some d := Option.some.inj (show some _ = some (some d) from e)
    by_cases c : i < n
    · rw [if_pos c] at e2
      cases e2
      refine ⟨c, fun x H' y => ?_⟩
      obtain ⟨rfl, rfl⟩ := y
      exact ⟨.refl sr, .inl (.int _), fun _ => .int _⟩
    · rw [if_neg c] at e2; cases e2
  | en h =>
    obtain ⟨xs, e1, e2⟩ := Option.map_eq_some_iff.mp (show (seqL S _).map (fun xs => (xs[i]?).map fun x => D.tup [.int i, x]) = some (some d) from e)
    obtain ⟨vs, h1, h2⟩ := seqL_ref sr h e1
    obtain ⟨x0, e3, rfl⟩ := Option.map_eq_some_iff.mp e2
    obtain ⟨v, h3, h4⟩ := h2.get e3
    refine ⟨⟨vs, v, h1, h3⟩, fun x H' y => ?_⟩
    obtain ⟨T, x1, rfl, hT, rfl, y2⟩ := y
    have z := y2 vs h1
    rw [h3] at z
    cases z
    exact ⟨.side sr hT, .inr ⟨_, _, _, rfl, rfl, .of upd_same, .cons (.int _) (.cons (h4.mono (.refl _) (.new hT)) .nil)⟩, fun z => Bool.noConfusion z⟩
  | sg x =>
    have e2 : (x[i]?).map (fun c => D.str [c]) = some d := Option.some.inj (show some ((x[i]?).map fun c => D.str [c]) = some (some d) from e)
    obtain ⟨c, e3, rfl⟩ := Option.map_eq_some_iff.mp e2
    have l := (List.getElem?_eq_some_iff.mp e3).1
    refine ⟨by show i < (stO x).cps.size; simpa [stO] using l, fun v H' y => ?_⟩
    obtain ⟨rfl, c2, h1, rfl⟩ := y
    have e4 : (stO x).cps[i]? = x[i]? := by simp [stO]
    rw [e4, e3] at h1
    cases h1
    exact ⟨.refl sr, .inl (.str [c]), fun _ => .str [c]⟩
/-! ### loops come to their end in finitely many turns -/
def loopN {α β : Type} (step : α → Option (α ⊕ β)) : Nat → α → Option β
  | 0, _ => none
  | n + 1, x => match step x with
    | none => none
    | some (.inl y) => loopN step n y
    | some (.inr b) => some b
theorem loopF_eq {α β : Type} (step : α → Option (α ⊕ β)) (x : α) : loopF step x = match step x with
    | none => none
    | some (.inl y) => loopF step y
    | some (.inr b) => some b := by
  rw [loopF]
  cases q : step x with
  | none => rfl
  | some r => cases r <;> rfl
theorem loopF_n {α β : Type} {step : α → Option (α ⊕ β)} {x : α} {b : β} (h : loopF step x = some b) : ∃ n, loopN step n x = some b := by
  refine loopF.partial_correctness step (motive := fun x b => ∃ n, loopN step n x = some b) (fun f ih x b h => ?_) x b h
  cases q : step x with
  | none => rw [q] at h; cases h
  | some r =>
    rw [q] at h
    cases r with
    | inl y =>
      obtain ⟨n, hn⟩ := ih y b h
      exact ⟨n + 1, by unfold loopN; rw [q]; exact hn⟩
    | inr c =>
      cases h
      exact ⟨1, by unfold loopN; rw [q]⟩
end
end Dy

namespace Dy
open PySem PySem.Spec PyProof.Rows L2
def W0 : WX := fun _ _ _ _ => False
def tupTg : Tg → Bool
  | .tp _ => true
  | _ => false
def tG (P : Pm) (K : PySem.W.Frag) (mg : Str → Option Value) (g : Tg) : TG := fun v σ H Q => ∃ μ S L d L' S', SR K mg μ S H ∧ SL K μ H L σ ∧ RP K μ H d v ∧ (tupTg g = false → RD K μ H d v) ∧ asg P g d L S = some (L', S') ∧ ∀ μ' H' σ', Post K mg μ H μ' S' H' → SL K μ' H' L' σ' → Q σ' H'
def tGs (P : Pm) (K : PySem.W.Frag) (mg : Str → Option Value) (g : Tgs) : TGs := fun vs σ H Q => ∃ μ S L ds L' S', SR K mg μ S H ∧ SL K μ H L σ ∧ RDs K μ H ds vs ∧ asgs P g ds L S = some (L', S') ∧ ∀ μ' H' σ', Post K mg μ H μ' S' H' → SL K μ' H' L' σ' → Q σ' H'
abbrev tO (K : PySem.W.Frag) (mg : Str → Option Value) (W : WX) (m : Lo → Sto → Out (Option Int)) : TO := rd K mg W (fun _ _ (a b : Option Int) => a = b) m
abbrev tI (K : PySem.W.Frag) (mg : Str → Option Value) (W : WX) (m : Lo → Sto → Out Wk) : TI := rd K mg W (WR K) m
/-- the core text of an expression does what the expression does -/
structure Snd (n : Nat) : Prop where
  e : ∀ {X : Cx} {P : Pm} {c : Cc} {k : Nat} {W : WX} {ex : Expr} {x : E}, Fine X P c k → Takes X W → cE n c ex = some x → PE X ex (tE X.K X.mg W (ev P x))
  b : ∀ {X : Cx} {P : Pm} {c : Cc} {k : Nat} {W : WX} {op : BoolOp} {vs : List Expr} {pos : Pos} {x : E}, Fine X P c k → Takes X W → cB n c op vs = some x → PE X (.BoolOp op vs pos) (tE X.K X.mg W (ev P x))
  q : ∀ {X : Cx} {P : Pm} {c : Cc} {k : Nat} {W : WX} {ex : Expr} {x : T}, Fine X P c k → Takes X W → cQ n c ex = some x → PT X ex (tT X.K X.mg W (tst P x))
  qb : ∀ {X : Cx} {P : Pm} {c : Cc} {k : Nat} {W : WX} {op : BoolOp} {vs : List Expr} {pos : Pos} {x : T}, Fine X P c k → Takes X W → cQB n c op vs = some x → PW X (.BoolOp op vs pos) (tT X.K X.mg W (tst P x))
  f : ∀ {X : Cx} {P : Pm} {c : Cc} {k : Nat} {W : WX} {ifs : List Expr} {x : To}, Fine X P c k → Takes X W → cF n c ifs = some x → PTs X ifs (tT X.K X.mg W (tsts P x))
  es : ∀ {X : Cx} {P : Pm} {c : Cc} {k : Nat} {W : WX} {es : List Expr} {x : Es}, Fine X P c k → Takes X W → cEs n c es = some x → PA X es (tA X.K X.mg W (evs P x))
  o : ∀ {X : Cx} {P : Pm} {c : Cc} {k : Nat} {W : WX} {e : Option Expr} {x : Oe}, Fine X P c k → Takes X W → cO n c e = some x → PO X e (tO X.K X.mg W (evo P x))
  i : ∀ {X : Cx} {P : Pm} {c : Cc} {k : Nat} {W : WX} {tg e : Expr} {x : Ie}, Fine X P c k → Takes X W → cI n c tg e = some x → PI X tg e (tI X.K X.mg W (evi P x))
  g : ∀ {X : Cx} {P : Pm} {c : Cc} {k : Nat} {tg : Expr} {x : Tg}, Fine X P c k → cT n c tg = some x → PG X tg (tG P X.K X.mg x)
  gs : ∀ {X : Cx} {P : Pm} {c : Cc} {k : Nat} {tgs : List Expr} {x : Tgs}, Fine X P c k → cTs n c tgs = some x → PGs X tgs (tGs P X.K X.mg x)
section
variable {X : Cx} {P : Pm} {c : Cc} {k n : Nat} {W : WX}
theorem stO_of (x : Str) : stO x.cps.toList = x := by simp [stO]
theorem Fine.slot (F : Fine X P c k) {x : Str} {i : Nat} (h : idx c.N x = some i) : X.N[i]? = some x := by
  rw [F.N]
  exact idx_ok h
theorem Fine.vis (F : Fine X P c k) {x : Str} (h : c.names.lookup x = some .local ∨ c.names.lookup x = some .cell ∨ c.names.lookup x = some .free) : Vis X.env.scope x := by
  unfold Vis
  rw [F.names]
  exact h
theorem snd_var (F : Fine X P c k) {x : Str} {i : Nat} {pos : Pos} (h1 : nameOk x = true) (h2 : c.names.lookup x = some .local ∨ c.names.lookup x = some .cell ∨ c.names.lookup x = some .free) (h3 : idx c.N x = some i) :
    PE X (.Name x pos) (tE X.K X.mg W (ev P (.var i))) := (pe_var (F.slot h3) (F.vis h2) (not_dbg h1).1 (not_dbg h1).2).imp fun σ H Q ⟨μ, S, L, r, S', sr, sl, e, kk⟩ => by
  have e1 : (match L[i]? with
    | some (some d) => some (Res.val d, S)
    | _ => none) = some (r, S') := e
  cases q : L[i]? with
  | none => rw [q] at e1; cases e1
  | some o =>
    cases o with
    | none => rw [q] at e1; cases e1
    | some d =>
      rw [q] at e1
      cases e1
      obtain ⟨v, h4, h5⟩ := sl.get i d q
      exact ⟨v, h4, kk.val (.refl sr) h5⟩
theorem snd_name (F : Fine X P c k) {x : Str} {pos : Pos} {y : E} (h : cE (n + 1) c (.Name x pos) = some y) : PE X (.Name x pos) (tE X.K X.mg W (ev P y)) := by
  simp only [cE] at h
  by_cases h1 : nameOk x = true
  · rw [if_pos h1] at h
    cases q : c.names.lookup x with
    | none => rw [q] at h; cases h
    | some kd =>
      rw [q] at h
      cases kd with
      | «local» =>
        obtain ⟨i, h3, rfl⟩ := Option.map_eq_some_iff.mp h
        exact snd_var F h1 (.inl q) h3
      | cell =>
        obtain ⟨i, h3, rfl⟩ := Option.map_eq_some_iff.mp h
        exact snd_var F h1 (.inr (.inl q)) h3
      | free =>
        obtain ⟨i, h3, rfl⟩ := Option.map_eq_some_iff.mp h
        exact snd_var F h1 (.inr (.inr q)) h3
      | globalExplicit => cases h
      | globalImplicit =>
        dsimp only at h
        by_cases hc : c.cons.contains x = true
        · rw [if_pos hc] at h
          cases h
          refine PE.sel fun σ H Q ⟨μ, S, L, r, S', sr, sl, e, kk⟩ => ?_
          obtain ⟨d, e1, rfl, rfl⟩ := optO_some (show optO S (P.con x) = some (r, S') from e)
          obtain ⟨u, v, h4, h5, h6⟩ := F.g.con x d e1
          have hg : Gl X x := by
            show X.env.scope.names.lookup x = _
            rw [F.names]
            exact q
          exact ⟨_, pe_glob hg h4 h5 (not_dbg h1).1, kk.val (.refl sr) (h6 _ _)⟩
        · rw [if_neg hc] at h; cases h
  · rw [if_neg h1] at h; cases h
/-- the operators and comparisons -/
theorem snd_cmp {op : CmpOp} {a b : Expr} {x y : E} {pos : Pos} (F : Fine X P c k) (hm : behindInMarks op b = false) (ha : PE X a (tE X.K X.mg W (ev P x))) (hb : PE X b (tE X.K X.mg W (ev P y))) :
    PE X (.Compare a [op] [b] pos) (tE X.K X.mg W (ev P (.cmp op x y))) ∧ PT X (.Compare a [op] [b] pos) (tT X.K X.mg W (tst P (.of (.cmp op x y)))) := by
  refine ⟨(pe_cmpR op_any ha hb hm).imp fun σ H Q h => rd_two (R2 := RD X.K) (f := fun x y S2 => optO S2 ((cmpD op S2 x y).map D.bl)) h fun μ S H x y v w r S' sr rx ry e kk => ?_,
    (pt_cmpR op_any ha hb hm).imp fun σ H Q h => ?_⟩
  · obtain ⟨d, e1, rfl, rfl⟩ := optO_some e
    obtain ⟨bb, e2, rfl⟩ := Option.map_eq_some_iff.mp e1
    exact cmpD_ok F.hu sr rx ry e2 (kk.val (.refl sr) (.bl bb))
  · obtain ⟨μ, S, L, r, S', sr, sl, e, kk⟩ := h
    have e1 : (((ev P x L S).andThen fun x S1 => (ev P y L S1).andThen fun y S2 => optO S2 ((cmpD op S2 x y).map D.bl)).andThen fun x S1 => optO S1 (truD S1 x)) = some (r, S') := e
    unfold Out.andThen at e1
    cases q1 : ev P x L S with
    | none => rw [q1] at e1; cases e1
    | some z =>
      obtain ⟨r1, S1⟩ := z
      rw [q1] at e1
      cases r1 with
      | exc cc fs =>
        cases e1
        exact ⟨μ, S, L, _, _, sr, sl, q1, kk⟩
      | val d1 =>
        refine ⟨μ, S, L, _, _, sr, sl, q1, fun μ1 H1 v p1 rx => ?_⟩
        dsimp only at e1
        cases q2 : ev P y L S1 with
        | none => rw [q2] at e1; cases e1
        | some z2 =>
          obtain ⟨r2, S2⟩ := z2
          rw [q2] at e1
          cases r2 with
          | exc cc fs =>
            cases e1
            exact ⟨μ1, S1, L, _, _, p1.sr, sl.mono p1.pre p1.tu, q2, kk.mono p1⟩
          | val d2 =>
            refine ⟨μ1, S1, L, _, _, p1.sr, sl.mono p1.pre p1.tu, q2, fun μ2 H2 w p2 ry => ?_⟩
            dsimp only at e1
            cases q3 : cmpD op S2 d1 d2 with
            | none => rw [q3] at e1; cases e1
            | some bb =>
              rw [q3] at e1
              cases e1
              exact cmpD_ok F.hu p2.sr (rx.mono p2.pre p2.tu) ry q3 ⟨bb, rfl, (kk.mono (p1.trans p2)).val (.refl p2.sr) rfl⟩
end
end Dy

namespace Dy
open PySem PySem.Spec PyProof.Rows L2
section
variable {X : Cx} {P : Pm} {c : Cc} {k n : Nat} {W : WX}
theorem snd_chain {o p : CmpOp} {a b d : Expr} {x y z : E} {pos : Pos} (F : Fine X P c k) (hm : lastMarks [o, p] [b, d] = false) (ha : PE X a (tE X.K X.mg W (ev P x))) (hb : PE X b (tE X.K X.mg W (ev P y))) (hd : PE X d (tE X.K X.mg W (ev P z))) :
    PE X (.Compare a [o, p] [b, d] pos) (tE X.K X.mg W (ev P (.chain o p x y z))) ∧ PT X (.Compare a [o, p] [b, d] pos) (tT X.K X.mg W (tst P (.of (.chain o p x y z)))) := by
  have h1 : PE X (.Compare a [o, p] [b, d] pos) (tE X.K X.mg W (ev P (.chain o p x y z))) := by
    refine (pe_chain op_any op_any ha hb hd hm).imp fun σ H Q ⟨μ, S, L, r, S', sr, sl, e, kk⟩ => ?_
    refine rd_fst sr sl e kk fun d1 S1 μ1 H1 v e1 sr1 sl1 p1 t1 rx k1 => rd_fst sr1 sl1 e1 k1 fun d2 S2 μ2 H2 w e2 sr2 sl2 p2 t2 ry k2 => ?_
    cases q : cmpD o S2 d1 d2 with
    | none => simp only [q] at e2; cases e2
    | some bb =>
      refine cmpD_ok F.hu sr2 (rx.mono p2 t2) ry q ⟨bb, rfl, ?_⟩
      simp only [q] at e2
      cases bb with
      | false =>
        cases e2
        exact k2.val (.refl sr2) (.bl _)
      | true =>
        refine rd_fst sr2 sl2 e2 k2 fun d3 S3 μ3 H3 u e3 sr3 sl3 p3 t3 rz k3 => ?_
        obtain ⟨d4, e4, rfl, rfl⟩ := optO_some e3
        obtain ⟨b4, e5, rfl⟩ := Option.map_eq_some_iff.mp e4
        exact cmpD_ok F.hu sr3 (ry.mono p3 t3) rz e5 (k3.val (.refl sr3) (.bl _))
  refine ⟨h1, (pt_chain op_any op_any ha hb hd hm).imp fun σ H Q ⟨μ, S, L, r, S', sr, sl, e, kk⟩ => ?_⟩
  have e' : (((ev P x L S).andThen fun d1 S1 => (ev P y L S1).andThen fun d2 S2 => (match cmpD o S2 d1 d2 with
    | some true => (ev P z L S2).andThen fun d3 S3 => optO S3 ((cmpD p S3 d2 d3).map .bl)
    | some false => some (.val (.bl false), S2)
    | none => none : Out D)).andThen fun x S1 => optO S1 (truD S1 x)) = some (r, S') := e
  have asc : ∀ {α β γ : Type} (m : Out α) (f : α → Sto → Out β) (g : β → Sto → Out γ), (m.andThen f).andThen g = m.andThen fun a S => (f a S).andThen g := fun m f g => by
    cases m with
    | none => rfl
    | some z => obtain ⟨r, S⟩ := z; cases r <;> rfl
  rw [asc] at e'
  refine rd_fst sr sl e' kk fun d1 S1 μ1 H1 v e1 sr1 sl1 p1 t1 rx k1 => ?_
  rw [asc] at e1
  refine rd_fst sr1 sl1 e1 k1 fun d2 S2 μ2 H2 w e2 sr2 sl2 p2 t2 ry k2 => ?_
  cases q : cmpD o S2 d1 d2 with
  | none => simp only [q] at e2; cases e2
  | some bb =>
    refine cmpD_ok F.hu sr2 (rx.mono p2 t2) ry q ⟨bb, rfl, ?_⟩
    simp only [q] at e2
    cases bb with
    | false =>
      cases e2
      exact ⟨_, rfl, k2.val (.refl sr2) rfl⟩
    | true =>
      rw [if_pos rfl]
      have e3 := e2
      rw [asc] at e3
      refine rd_fst sr2 sl2 e3 k2 fun d3 S3 μ3 H3 u e3 sr3 sl3 p3 t3 rz k3 => ?_
      cases q4 : cmpD p S3 d2 d3 with
      | none => simp only [q4] at e3; cases e3
      | some b4 =>
        simp only [q4] at e3
        cases e3
        exact cmpD_ok F.hu sr3 (ry.mono p3 t3) rz q4 ⟨_, rfl, k3.val (.refl sr3) rfl⟩
/-- truth of a value -/
theorem snd_truth {ex : Expr} {x : E} (ht : ∀ whole, isTrue ex X.env whole = (do let v ← whole; standAt ex.pos; holding [v] (truthy v))) (h : PE X ex (tE X.K X.mg W (ev P x))) : PT X ex (tT X.K X.mg W (tst P (.of x))) :=
  (pt_truth h ht).imp fun σ H Q hh => rd_one (R2 := fun _ _ (a b : Bool) => a = b) (f := fun x S1 => optO S1 (truD S1 x)) hh fun μ S H x v r S' sr rx e kk => by
    obtain ⟨b, e1, rfl, rfl⟩ := optO_some e
    exact ⟨b, truD_ok sr rx e1, kk.val (.refl sr) rfl⟩
/-- a written table's name -/
theorem kd_name (F : Fine X P c k) {x : Str} {p : Pos} {a : Addr} (hg : glob c x = true) (hm : X.mg x = some (.ref a)) : PE X (.Name x p) (tC (.ref a)) := pe_glob (F.gl hg).1 hm rfl (F.gl hg).2
theorem snd_kin (F : Fine X P c k) {m : Bool} {op : CmpOp} {b a : Expr} {x : Str} {pos : Pos} {y : E} (h : kinOf c op b = some (m, x)) (I : PE X a (tE X.K X.mg W (ev P y))) :
    PE X (.Compare a [op] [b] pos) (tE X.K X.mg W (ev P (.kin m x y))) ∧ PT X (.Compare a [op] [b] pos) (tT X.K X.mg W (tst P (.of (.kin m x y)))) := by
  have key : ∃ p, b = .Name x p ∧ glob c x = true ∧ c.kds.contains x = true ∧ ((op = .In ∧ m = false) ∨ (op = .NotIn ∧ m = true)) := by
    cases op with
    | In =>
      obtain ⟨z, h1, h2⟩ := Option.map_eq_some_iff.mp (show (kdOf c b).map (fun x => (false, x)) = some (m, x) from h)
      cases h2
      obtain ⟨p, h3, h4, h5⟩ := kdOf_ok h1
      exact ⟨p, h3, h4, h5, .inl ⟨rfl, rfl⟩⟩
    | NotIn =>
      obtain ⟨z, h1, h2⟩ := Option.map_eq_some_iff.mp (show (kdOf c b).map (fun x => (true, x)) = some (m, x) from h)
      cases h2
      obtain ⟨p, h3, h4, h5⟩ := kdOf_ok h1
      exact ⟨p, h3, h4, h5, .inr ⟨rfl, rfl⟩⟩
    | _ => cases h
  obtain ⟨p, rfl, hg, hx, hop⟩ := key
  obtain ⟨kvs, hk⟩ := F.g.kex x hx
  obtain ⟨ad, es, n, hm, KD, h1, h2⟩ := F.g.kd x kvs hk
  have isS : ∀ z, ∃ r, PySem.W.nsIn X.K ad (stO z) = some r ∧ r.isSome = (lookT z kvs).isSome := fun z => by
    cases q : lookT z kvs with
    | none => exact ⟨none, h2 z q, rfl⟩
    | some d => obtain ⟨u, v, h3, _⟩ := h1 z d q; exact ⟨some u, h3, rfl⟩
  have val : ∀ {μ : List Addr} {S S' : Sto} {H : Hp} {d : D} {v : V} {r : Res D}, RD X.K μ H d v → (match d with
    | .str z => optO S ((P.kd x).map fun kvs => D.bl (xor m (lookT z kvs).isSome))
    | _ => none : Out D) = some (r, S') → ∃ z, v = .str (stO z) ∧ r = .val (.bl (xor m (lookT z kvs).isSome)) ∧ S = S' := fun {μ S S' H d v r} rx e => by
    cases rx with
    | str z =>
      obtain ⟨d2, e2, rfl, rfl⟩ := optO_some (show optO S ((P.kd x).map fun kvs => D.bl (xor m (lookT z kvs).isSome)) = some (r, S') from e)
      rw [hk] at e2
      cases e2
      exact ⟨z, rfl, rfl, rfl⟩
    | _ => cases e
  have opR : ∃ rr, OpR X (compareOp op) rr ∧ ∀ z H (Q : VK), Q (.bl (xor m (lookT z kvs).isSome)) H → rr (.str (stO z)) (.ref ad) H Q := by
    rcases hop with ⟨rfl, rfl⟩ | ⟨rfl, rfl⟩
    · refine ⟨_, op_in_kd KD, fun z H Q q => ?_⟩
      obtain ⟨r, h3, h4⟩ := isS z
      exact ⟨stO z, r, rfl, rfl, h3, by rw [h4]; simpa using q⟩
    · refine ⟨_, op_notIn_kd KD, fun z H Q q => ?_⟩
      obtain ⟨r, h3, h4⟩ := isS z
      exact ⟨stO z, r, rfl, rfl, h3, by rw [h4]; simpa using q⟩
  obtain ⟨rr, hR, hrr⟩ := opR
  have hmk : behindInMarks op (.Name x p) = false := by cases op <;> rfl
  refine ⟨(pe_cmpR hR I (kd_name F hg hm) hmk).imp fun σ H Q ⟨μ, S, L, r, S', sr, sl, e, kk⟩ => ?_, (pt_cmpR hR I (kd_name F hg hm) hmk).imp fun σ H Q ⟨μ, S, L, r, S', sr, sl, e, kk⟩ => ?_⟩
  · refine rd_fst sr sl e kk fun d S1 μ1 H1 v e1 sr1 sl1 p1 t1 rx k1 => ?_
    obtain ⟨z, rfl, rfl, rfl⟩ := val rx e1
    exact hrr z _ _ (k1.val (.refl sr1) (.bl _))
  · have asc : ∀ {α β γ : Type} (m : Out α) (f : α → Sto → Out β) (g : β → Sto → Out γ), (m.andThen f).andThen g = m.andThen fun a S => (f a S).andThen g := fun m f g => by
      cases m with
      | none => rfl
      | some z => obtain ⟨r, S⟩ := z; cases r <;> rfl
    have e' : (((ev P y L S).andThen fun d S1 => (match d with
      | .str z => optO S1 ((P.kd x).map fun kvs => D.bl (xor m (lookT z kvs).isSome))
      | _ => none : Out D)).andThen fun x S1 => optO S1 (truD S1 x)) = some (r, S') := e
    rw [asc] at e'
    refine rd_fst sr sl e' kk fun d S1 μ1 H1 v e1 sr1 sl1 p1 t1 rx k1 => ?_
    cases rx with
    | str z =>
      have e2 : ((optO S1 ((P.kd x).map fun kvs => D.bl (xor m (lookT z kvs).isSome))).andThen fun x S1 => optO S1 (truD S1 x)) = some (r, S') := e1
      rw [hk] at e2
      cases e2
      exact hrr z _ _ ⟨_, rfl, k1.val (.refl sr1) rfl⟩
    | _ => cases e1
/-- a comparison, as a value and as a test -/
theorem snd_compare (I : Snd n) {a : Expr} {ops : List CmpOp} {cs : List Expr} {pos : Pos} {x : E} (F : Fine X P c k) (tk : Takes X W) (h : cE (n + 1) c (.Compare a ops cs pos) = some x) :
    PE X (.Compare a ops cs pos) (tE X.K X.mg W (ev P x)) ∧ PT X (.Compare a ops cs pos) (tT X.K X.mg W (tst P (.of x))) := by
  cases ops with
  | nil => cases h
  | cons o ops =>
    cases ops with
    | nil =>
      cases cs with
      | nil => cases h
      | cons b cs =>
        cases cs with
        | cons _ _ => cases h
        | nil =>
          have h1 : (match kinOf c o b with
            | some (m, x) => (cE n c a).map (E.kin m x)
            | none => if behindInMarks o b = true then none else o2 (cE n c a) (cE n c b) (.cmp o)) = some x := h
          cases qk : kinOf c o b with
          | some mx =>
            obtain ⟨m, xx⟩ := mx
            rw [qk] at h1
            obtain ⟨y, h3, rfl⟩ := Option.map_eq_some_iff.mp h1
            exact snd_kin F qk (I.e F tk h3)
          | none =>
            rw [qk] at h1
            have h2 : (if behindInMarks o b = true then none else o2 (cE n c a) (cE n c b) (.cmp o)) = some x := h1
            cases q : behindInMarks o b with
            | true => rw [q] at h2; cases h2
            | false =>
              rw [q, if_neg Bool.false_ne_true] at h2
              obtain ⟨x1, y1, h3, h4, rfl⟩ := o2_ok h2
              exact snd_cmp F q (I.e F tk h3) (I.e F tk h4)
    | cons p ops =>
      cases ops with
      | cons _ _ => cases h
      | nil =>
        cases cs with
        | nil => cases h
        | cons b cs =>
          cases cs with
          | nil => cases h
          | cons d cs =>
            cases cs with
            | cons _ _ => cases h
            | nil =>
              have h2 : (if lastMarks [o, p] [b, d] = true then none else o3 (cE n c a) (cE n c b) (cE n c d) (.chain o p)) = some x := h
              cases q : lastMarks [o, p] [b, d] with
              | true => rw [q] at h2; cases h2
              | false =>
                rw [q, if_neg Bool.false_ne_true] at h2
                obtain ⟨x1, y1, z1, h3, h4, h5, rfl⟩ := o3_ok h2
                exact snd_chain F q (I.e F tk h3) (I.e F tk h4) (I.e F tk h5)
theorem snd_q (J : ∀ m, m ≤ n → Snd m) {ex : Expr} {t : T} (F : Fine X P c k) (tk : Takes X W) (h : cQ (n + 1) c ex = some t) : PT X ex (tT X.K X.mg W (tst P t)) := by
  have I := J n (Nat.le_refl n)
  have gen : ∀ (ht : ∀ whole, isTrue ex X.env whole = (do let v ← whole; standAt ex.pos; holding [v] (truthy v))), (cE n c ex).map T.of = some t → PT X ex (tT X.K X.mg W (tst P t)) := fun ht h => by
    obtain ⟨x, h1, rfl⟩ := Option.map_eq_some_iff.mp h
    exact snd_truth ht (I.e F tk h1)
  cases ex with
  | UnaryOp op a pos =>
    cases op with
    | Not =>
      obtain ⟨x, h1, rfl⟩ := Option.map_eq_some_iff.mp (show (cQ n c a).map T.nt = some t from h)
      exact (pt_not (I.q F tk h1)).imp fun σ H Q ⟨μ, S, L, r, S', sr, sl, e, kk⟩ => rd_fst sr sl e kk fun b S1 μ1 H1 v e1 sr1 sl1 p1 t1 rx k1 => by
        cases e1
        subst rx
        exact k1.val (.refl sr1) rfl
    | _ => exact gen (fun _ => rfl) h
  | BoolOp op vs pos => exact (I.qb F tk (show cQB n c op vs = some t from h)).pt
  | IfExp _ _ _ _ => cases h
  | Compare a ops cs pos =>
    obtain ⟨x, h1, rfl⟩ := Option.map_eq_some_iff.mp (show (cE n c (.Compare a ops cs pos)).map T.of = some t from h)
    cases n with
    | zero => cases h1
    | succ m => exact (snd_compare (J m (Nat.le_succ m)) F tk h1).2
  | _ => exact gen (fun _ => rfl) h
theorem snd_qb (I : Snd n) {op : BoolOp} {vs : List Expr} {pos : Pos} {t : T} (F : Fine X P c k) (tk : Takes X W) (h : cQB (n + 1) c op vs = some t) : PW X (.BoolOp op vs pos) (tT X.K X.mg W (tst P t)) := by
  cases vs with
  | nil => cases h
  | cons a vs =>
    cases vs with
    | nil =>
      have h1 : cQ n c a = some t := h
      cases op with
      | And => exact pw_and1 (I.q F tk h1)
      | Or => exact pw_or1 (I.q F tk h1)
    | cons b vs =>
      obtain ⟨x, y, h1, h2, rfl⟩ := o2_ok (show o2 (cQ n c a) (cQB n c op (b :: vs)) (.bo op) = some t from h)
      cases op with
      | And =>
        refine (pw_and (I.q F tk h1) (I.qb F tk h2)).imp fun σ H Q ⟨μ, S, L, r, S', sr, sl, e, kk⟩ => rd_fst sr sl e kk fun b S1 μ1 H1 v e1 sr1 sl1 p1 t1 rx k1 => ?_
        subst rx
        cases b with
        | true => exact ⟨μ1, S1, L, r, S', sr1, sl1, e1, k1⟩
        | false =>
          cases e1
          exact k1.val (.refl sr1) rfl
      | Or =>
        refine (pw_or (I.q F tk h1) (I.qb F tk h2)).imp fun σ H Q ⟨μ, S, L, r, S', sr, sl, e, kk⟩ => rd_fst sr sl e kk fun b S1 μ1 H1 v e1 sr1 sl1 p1 t1 rx k1 => ?_
        subst rx
        cases b with
        | false => exact ⟨μ1, S1, L, r, S', sr1, sl1, e1, k1⟩
        | true =>
          cases e1
          exact k1.val (.refl sr1) rfl
theorem snd_b (I : Snd n) {op : BoolOp} {vs : List Expr} {pos : Pos} {x : E} (F : Fine X P c k) (tk : Takes X W) (h : cB (n + 1) c op vs = some x) : PE X (.BoolOp op vs pos) (tE X.K X.mg W (ev P x)) := by
  cases vs with
  | nil => cases h
  | cons a vs =>
    cases vs with
    | nil => exact pe_one (I.e F tk (show cE n c a = some x from h))
    | cons b vs =>
      obtain ⟨x1, y1, h1, h2, rfl⟩ := o2_ok (show o2 (cE n c a) (cB n c op (b :: vs)) (.bo op) = some x from h)
      cases op with
      | And =>
        refine (pe_andT (I.e F tk h1) (I.b F tk h2)).imp fun σ H Q ⟨μ, S, L, r, S', sr, sl, e, kk⟩ => rd_fst sr sl e kk fun d S1 μ1 H1 v e1 sr1 sl1 p1 t1 rx k1 => ?_
        cases q : truD S1 d with
        | none => simp only [q] at e1; cases e1
        | some bb =>
          refine ⟨bb, truD_ok sr1 rx q, ?_⟩
          simp only [q] at e1
          cases bb with
          | true => exact ⟨μ1, S1, L, r, S', sr1, sl1, e1, k1⟩
          | false =>
            cases e1
            exact k1.val (.refl sr1) rx
      | Or =>
        refine (pe_orT (I.e F tk h1) (I.b F tk h2)).imp fun σ H Q ⟨μ, S, L, r, S', sr, sl, e, kk⟩ => rd_fst sr sl e kk fun d S1 μ1 H1 v e1 sr1 sl1 p1 t1 rx k1 => ?_
        cases q : truD S1 d with
        | none => simp only [q] at e1; cases e1
        | some bb =>
          refine ⟨bb, truD_ok sr1 rx q, ?_⟩
          simp only [q] at e1
          cases bb with
          | false => exact ⟨μ1, S1, L, r, S', sr1, sl1, e1, k1⟩
          | true =>
            cases e1
            exact k1.val (.refl sr1) rx
theorem snd_f (I : Snd n) {ifs : List Expr} {t : To} (F : Fine X P c k) (tk : Takes X W) (h : cF (n + 1) c ifs = some t) : PTs X ifs (tT X.K X.mg W (tsts P t)) := by
  cases ifs with
  | nil =>
    cases h
    refine ⟨fun pins s σ H Q I0 ⟨μ, S, L, r, S', sr, sl, e, kk⟩ => ?_⟩
    cases e
    exact pts_nil.run pins s σ H Q I0 (kk.val (.refl sr) rfl)
  | cons a ifs =>
    cases ifs with
    | cons _ _ => cases h
    | nil =>
      obtain ⟨x, h1, rfl⟩ := Option.map_eq_some_iff.mp (show (cQ n c a).map To.so = some t from h)
      exact pts_one (I.q F tk h1)
theorem snd_es (I : Snd n) {es : List Expr} {x : Es} (F : Fine X P c k) (tk : Takes X W) (h : cEs (n + 1) c es = some x) : PA X es (tA X.K X.mg W (evs P x)) := by
  cases es with
  | nil =>
    cases h
    refine pa_nil.imp fun σ H Q ⟨μ, S, L, r, S', sr, sl, e, kk⟩ => ?_
    cases e
    exact kk.val (.refl sr) .nil
  | cons a es =>
    obtain ⟨x1, y1, h1, h2, rfl⟩ := o2_ok (show o2 (cE n c a) (cEs n c es) .cons = some x from h)
    refine (pa_cons (I.e F tk h1) (I.es F tk h2) (star_cons (cE_star h1))).imp fun σ H Q ⟨μ, S, L, r, S', sr, sl, e, kk⟩ => ?_
    refine rd_fst sr sl e kk fun d S1 μ1 H1 v e1 sr1 sl1 p1 t1 rx k1 => rd_fst sr1 sl1 e1 k1 fun ds S2 μ2 H2 vs e2 sr2 sl2 p2 t2 ry k2 => ?_
    cases e2
    exact k2.val (.refl sr2) (.cons (rx.mono p2 t2) ry)
theorem snd_o (I : Snd n) {e : Option Expr} {x : Oe} (F : Fine X P c k) (tk : Takes X W) (h : cO (n + 1) c e = some x) : PO X e (tO X.K X.mg W (evo P x)) := by
  cases e with
  | none =>
    cases h
    refine ⟨fun pins s σ H Q I0 ⟨μ, S, L, r, S', sr, sl, e, kk⟩ => ?_⟩
    cases e
    exact po_none.run pins s σ H Q I0 (kk.val (.refl sr) rfl)
  | some a =>
    obtain ⟨x1, h1, rfl⟩ := Option.map_eq_some_iff.mp (show (cE n c a).map Oe.so = some x from h)
    refine ⟨fun pins s σ H Q I0 hh => (po_some (I.e F tk h1)).run pins s σ H Q I0 ?_⟩
    refine rd_one (R2 := fun _ _ (a b : Option Int) => a = b) (f := fun d S1 => match d with
      | .int i => some (.val (some i), S1)
      | _ => none) hh fun μ S H d v r S' sr rx e kk => ?_
    cases rx with
    | int i =>
      cases e
      exact ⟨i, rfl, kk.val (.refl sr) rfl⟩
    | _ => cases e
theorem cT_star {e : Expr} {x : Tg} {c : Cc} (h : cT n c e = some x) : isStar e = false := by
  cases n with
  | zero => simp [cT] at h
  | succ n => cases e <;> first | rfl | (simp [cT] at h)
theorem snd_gs (I : Snd n) {tgs : List Expr} {x : Tgs} (F : Fine X P c k) (h : cTs (n + 1) c tgs = some x) : PGs X tgs (tGs P X.K X.mg x) := by
  cases tgs with
  | nil =>
    cases h
    refine ⟨fun pins s σ H vs us Q I0 rr ⟨μ, S, L, ds, L', S', sr, sl, rs, e, kk⟩ => ?_⟩
    cases rs with
    | nil =>
      cases e
      exact pgs_nil.run pins s σ H _ _ Q I0 rr ⟨rfl, kk _ _ _ (.refl sr) sl⟩
    | cons _ _ => cases e
  | cons a tgs =>
    obtain ⟨x1, y1, h1, h2, rfl⟩ := o2_ok (show o2 (cT n c a) (cTs n c tgs) .cons = some x from h)
    have hst : ((assignEach (a :: tgs) X.env).map fun x => x.2) = assign a X.env :: (assignEach tgs X.env).map fun x => x.2 := by
      have hs := cT_star h1
      cases a <;> first | rfl | cases hs
    refine ⟨fun pins s σ H vs us Q I0 rr ⟨μ, S, L, ds, L', S', sr, sl, rs, e, kk⟩ => ?_⟩
    cases rs with
    | nil => cases e
    | @cons d v ds vs r1 rs =>
      have e' : (match asg P x1 d L S with
        | some (L1, S1) => asgs P y1 ds L1 S1
        | none => none) = some (L', S') := e
      cases q : asg P x1 d L S with
      | none => rw [q] at e'; cases e'
      | some z =>
        obtain ⟨L1, S1⟩ := z
        rw [q] at e'
        refine (pgs_cons (I.g F h1) (I.gs F h2) hst).run pins s σ H _ us Q I0 rr ⟨v, vs, rfl, μ, S, L, d, L1, S1, sr, sl, .inl r1, fun _ => r1, q, fun μ1 H1 σ1 p1 sl1 => ?_⟩
        exact ⟨μ1, S1, L1, ds, L', S', p1.sr, sl1, rs.mono p1.pre p1.tu, e', fun μ2 H2 σ2 p2 sl2 => kk μ2 H2 σ2 (p1.trans p2) sl2⟩
end
end Dy

namespace Dy
open PySem PySem.Spec PyProof.Rows L2
section
variable {X : Cx} {P : Pm} {c : Cc} {k n : Nat} {W : WX}
theorem _root_.L2.PI.sel {tg e : Expr} {t : TI} (h : ∀ σ H R, t σ H R → ∃ t', PI X tg e t' ∧ t' σ H R) : PI X tg e t := ⟨fun pins s σ H Q I q => by
  obtain ⟨t', h1, h2⟩ := h σ H Q q
  exact h1.run pins s σ H Q I h2⟩
theorem _root_.L2.PI.imp {tg e : Expr} {t t' : TI} (h : PI X tg e t) (i : ∀ σ H Q, t' σ H Q → t σ H Q) : PI X tg e t' := ⟨fun pins s σ H Q I q => h.run pins s σ H Q I (i σ H Q q)⟩
theorem snd_i (I : Snd n) {tg e : Expr} {x : Ie} (F : Fine X P c k) (tk : Takes X W) (h : cI (n + 1) c tg e = some x) : PI X tg e (tI X.K X.mg W (evi P x)) := by
  simp only [cI] at h
  cases q1 : asCall1 "range" e with
  | some a =>
    rw [q1] at h
    obtain ⟨p, pos, rfl⟩ := asCall1_ok q1
    dsimp only at h
    by_cases hg : glob c "range" = true
    · rw [if_pos hg] at h
      obtain ⟨y, h1, rfl⟩ := Option.map_eq_some_iff.mp h
      have hs := star_cons (env := X.env) (es := []) (cE_star h1)
      refine (pi_range1 (F.gl hg).1 F.g.rng (pa_cons (I.e F tk h1) pa_nil hs) hs).imp fun σ H R hh => ?_
      refine rd_one (R2 := WR X.K) (f := fun d S1 => match d with
        | .int j => if small62 j then some (.val (.rg 0 j.toNat), S1) else none
        | _ => none) hh fun μ S H d v r S' sr rx e kk => ?_
      cases rx with
      | int j =>
        have e' : (if small62 j = true then some (Res.val (Wk.rg 0 j.toNat), S) else none) = some (r, S') := e
        by_cases hj : small62 j = true
        · rw [if_pos hj] at e'
          cases e'
          obtain ⟨j1, j2⟩ := Bool.and_eq_true_iff.mp hj
          exact ⟨j, rfl, of_decide_eq_true j1, of_decide_eq_true j2, kk.val (.refl sr) (.rg 0 j.toNat)⟩
        · rw [if_neg hj] at e'; cases e'
      | _ => cases e
    · rw [if_neg hg] at h; cases h
  | none =>
    rw [q1] at h
    cases q2 : asCall2 "range" e with
    | some ab =>
      obtain ⟨a, b⟩ := ab
      rw [q2] at h
      obtain ⟨p, pos, rfl⟩ := asCall2_ok q2
      dsimp only at h
      by_cases hg : glob c "range" = true
      · rw [if_pos hg] at h
        obtain ⟨y, z, h1, h2, rfl⟩ := o2_ok h
        have hs2 := star_cons (env := X.env) (es := []) (cE_star h2)
        have hs := star_cons (env := X.env) (es := [b]) (cE_star h1)
        refine (pi_range2 (F.gl hg).1 F.g.rng (pa_cons (I.e F tk h1) (pa_cons (I.e F tk h2) pa_nil hs2) hs) (by rw [hs, hs2]; rfl) hs2).imp fun σ H R ⟨μ, S, L, r, S', sr, sl, e, kk⟩ => ?_
        refine rd_fst sr sl e kk fun d S1 μ1 H1 v e1 sr1 sl1 p1 t1 rx k1 => rd_fst sr1 sl1 e1 k1 fun d2 S2 μ2 H2 w e2 sr2 sl2 p2 t2 ry k2 => ?_
        have rx' := rx.mono p2 t2
        cases rx' with
        | int i =>
          cases ry with
          | int j =>
            have e' : (if (small62 i && small62 j) = true then some (Res.val (Wk.rg i (j - i).toNat), S2) else none) = some (r, S') := e2
            by_cases hj : (small62 i && small62 j) = true
            · rw [if_pos hj] at e'
              cases e'
              obtain ⟨ji, jj⟩ := Bool.and_eq_true_iff.mp hj
              obtain ⟨j1, j2⟩ := Bool.and_eq_true_iff.mp ji
              obtain ⟨j3, j4⟩ := Bool.and_eq_true_iff.mp jj
              exact ⟨i, j, rfl, ⟨of_decide_eq_true j1, of_decide_eq_true j2, of_decide_eq_true j3, of_decide_eq_true j4⟩, k2.val (.refl sr2) (.rg i _)⟩
            · rw [if_neg hj] at e'; cases e'
          | _ => cases e2
        | _ => cases ry <;> cases e2
      · rw [if_neg hg] at h; cases h
    | none =>
      rw [q2] at h
      cases q3 : asCall1 "enumerate" e with
      | some a =>
        rw [q3] at h
        obtain ⟨p, pos, rfl⟩ := asCall1_ok q3
        dsimp only at h
        by_cases hg : (glob c "enumerate" && isTupE tg) = true
        · rw [if_pos hg] at h
          obtain ⟨hg1, hg2⟩ := Bool.and_eq_true_iff.mp hg
          obtain ⟨y, h1, rfl⟩ := Option.map_eq_some_iff.mp h
          have hs := star_cons (env := X.env) (es := []) (cE_star h1)
          cases tg with
          | Tuple elts kk0 tpos =>
            refine (pi_enum (F.gl hg1).1 F.g.enu (pa_cons (I.e F tk h1) pa_nil hs) hs).imp fun σ H R hh => ?_
            refine rd_one (R2 := WR X.K) (f := fun d S1 => (optO S1 (seqL S1 d)).andThen fun _ S2 => some (.val (.en d), S2)) hh fun μ S H d v r S' sr rx e kk => ?_
            cases q4 : seqL S d with
            | none => simp only [q4] at e; cases e
            | some xs =>
              simp only [q4] at e
              cases e
              obtain ⟨a0, vs, rfl, h3, h4⟩ := seqL_ok sr rx q4
              exact ⟨a0, vs, rfl, h3, kk.val (.refl sr) (.en rx)⟩
          | _ => cases hg2
        · rw [if_neg hg] at h; cases h
      | none =>
        rw [q3] at h
        obtain ⟨y, h1, rfl⟩ := Option.map_eq_some_iff.mp h
        have hE := I.e F tk h1
        refine PI.sel fun σ H R hh => ?_
        obtain ⟨μ, S, L, r, S', sr, sl, e0, kk⟩ := hh
        have e' : ((ev P y L S).andThen fun d S1 => optO S1 (walkOf S1 d)) = some (r, S') := e0
        cases q4 : ev P y L S with
        | none => simp only [q4] at e'; cases e'
        | some z =>
          obtain ⟨r1, S1⟩ := z
          simp only [q4] at e'
          cases r1 with
          | exc cc fs =>
            cases e'
            exact ⟨_, pi_list hE, μ, S, L, _, _, sr, sl, q4, kk⟩
          | val d =>
            obtain ⟨w, e1, rfl, rfl⟩ := optO_some (show optO S1 (walkOf S1 d) = some (r, S') from e')
            have viaL : ∀ (dd : D), dd = d → (seqL S1 dd).map (fun _ => Wk.ls dd) = some w → ∃ t', PI X tg e t' ∧ t' σ H R := fun dd ed e2 => by
              subst ed
              obtain ⟨xs, e3, rfl⟩ := Option.map_eq_some_iff.mp e2
              refine ⟨_, pi_list hE, μ, S, L, _, _, sr, sl, q4, fun μ1 H1 v p1 rx => ?_⟩
              obtain ⟨a0, vs, rfl, h3, h4⟩ := seqL_ok p1.sr rx e3
              exact ⟨a0, rfl, ⟨vs, h3⟩, kk μ1 H1 _ p1 (.ls rx)⟩
            cases d with
            | tup xs =>
              cases e1
              refine ⟨_, pi_tup hE, μ, S, L, _, _, sr, sl, q4, fun μ1 H1 v p1 rx => ?_⟩
              cases rx with
              | tup h1 h2 => exact ⟨_, rfl, ⟨_, h1.sq⟩, kk μ1 H1 _ p1 (.tp h1.sq h2)⟩
            | ref m => exact viaL _ rfl e1
            | kl xs => exact viaL _ rfl e1
            | non => cases e1
            | bl b => cases e1
            | int i => cases e1
            | str z =>
              cases e1
              refine ⟨_, pi_str hE, μ, S, L, _, _, sr, sl, q4, fun μ1 H1 v p1 rx => ?_⟩
              cases rx with
              | str _ => exact ⟨_, rfl, kk μ1 H1 _ p1 (.sg z)⟩
/-! ### targets -/
theorem takesW0 : Takes X W0 := takes0
theorem asg_len (P : Pm) : ∀ {ts : Tgs} {ds : List D} {L L' : Lo} {S S' : Sto} {n : Nat} {c : Cc} {es : List Expr}, cTs n c es = some ts → asgs P ts ds L S = some (L', S') → ds.length = es.length
  | ts, ds, L, L', S, S', 0, c, es, h, e => by simp [cTs] at h
  | ts, ds, L, L', S, S', n + 1, c, [], h, e => by
    cases h
    cases ds with
    | nil => rfl
    | cons _ _ => cases e
  | ts, ds, L, L', S, S', n + 1, c, a :: es, h, e => by
    obtain ⟨x1, y1, h1, h2, rfl⟩ := o2_ok (show o2 (cT n c a) (cTs n c es) .cons = some ts from h)
    cases ds with
    | nil => cases e
    | cons d ds =>
      have e' : (match asg P x1 d L S with
        | some (L1, S1) => asgs P y1 ds L1 S1
        | none => none) = some (L', S') := e
      cases q : asg P x1 d L S with
      | none => rw [q] at e'; cases e'
      | some z =>
        obtain ⟨L1, S1⟩ := z
        rw [q] at e'
        exact congrArg (· + 1) (asg_len P h2 e')
theorem cTs_each {env : Env} : ∀ {n : Nat} {c : Cc} {es : List Expr} {ts : Tgs}, cTs n c es = some ts → (assignEach es env).length = es.length ∧ (assignEach es env).findIdx? (fun x => x.1) = none
  | 0, _, _, _, h => by simp [cTs] at h
  | n + 1, _, [], _, _ => ⟨rfl, rfl⟩
  | n + 1, c, a :: es, ts, h => by
    obtain ⟨x1, y1, h1, h2, rfl⟩ := o2_ok (show o2 (cT n c a) (cTs n c es) .cons = some ts from h)
    obtain ⟨l1, l2⟩ := cTs_each (env := env) h2
    have hs := cT_star h1
    have q : assignEach (a :: es) env = (false, assign a env) :: assignEach es env := by
      cases a <;> first | rfl | cases hs
    rw [q]
    refine ⟨by rw [List.length_cons, l1, List.length_cons], ?_⟩
    rw [List.findIdx?_cons, l2]
    rfl
theorem snd_g (I : Snd n) {tg : Expr} {x : Tg} (F : Fine X P c k) (h : cT (n + 1) c tg = some x) : PG X tg (tG P X.K X.mg x) := by
  cases tg with
  | Name y pos =>
    have h0 : (if nameOk y = true then (match c.names.lookup y with
      | some .local => (idx c.N y).map Tg.nm
      | some .cell => if c.fcell.contains y then (idx c.N y).map Tg.nm else none
      | _ => none) else none) = some x := h
    by_cases h1 : nameOk y = true
    · rw [if_pos h1] at h0
      have fin : ∀ {i : Nat}, idx c.N y = some i → Loc X.env.scope y → (X.fn y = true ∨ X.env.scope.names.lookup y = some .local) → PG X (.Name y pos) (tG P X.K X.mg (.nm i)) := fun {i} hi hl hf =>
        ⟨fun pins s σ H v u Q I0 rr ⟨μ, S, L, d, L', S', sr, sl, rp, rd, e, kk⟩ => by
          cases e
          exact (pg_name F.nd (F.slot hi) hl hf).run pins s σ H v u Q I0 rr (kk μ H _ (.refl sr) (sl.set i (rd rfl)))⟩
      cases q : c.names.lookup y with
      | none => rw [q] at h0; cases h0
      | some kd =>
        rw [q] at h0
        have hq : X.env.scope.names.lookup y = some kd := by rw [F.names]; exact q
        cases kd with
        | «local» =>
          obtain ⟨i, hi, rfl⟩ := Option.map_eq_some_iff.mp h0
          exact fin hi (.inl hq) (.inr hq)
        | cell =>
          dsimp only at h0
          by_cases hc : c.fcell.contains y = true
          · rw [if_pos hc] at h0
            obtain ⟨i, hi, rfl⟩ := Option.map_eq_some_iff.mp h0
            exact fin hi (.inr hq) (.inl (F.fn y hc))
          · rw [if_neg hc] at h0; cases h0
        | _ => cases h0
    · rw [if_neg h1] at h0; cases h0
  | Tuple es kk0 pos =>
    obtain ⟨ts, h1, rfl⟩ := Option.map_eq_some_iff.mp (show (cTs n c es).map Tg.tp = some x from h)
    obtain ⟨l1, l2⟩ := cTs_each (env := X.env) h1
    refine ⟨fun pins s σ H v u Q I0 rr ⟨μ, S, L, d, L', S', sr, sl, rp, _, e, kk⟩ => ?_⟩
    have key : ∃ ds vs a, d = .tup ds ∧ v = .ref a ∧ SqT X.K H a vs ∧ RDs X.K μ H ds vs := by
      rcases rp with rp | rp
      · cases rp with
        | tup h1 h2 => exact ⟨_, _, _, rfl, rfl, h1.sq, h2⟩
        | _ => cases e
      · exact rp
    obtain ⟨ds, vs, a, rfl, rfl, hs, rs⟩ := key
    have e' : asgs P ts ds L S = some (L', S') := e
    exact (pg_tup F.calm (I.gs F h1) l1 l2).run pins s σ H _ u Q I0 rr ⟨a, vs, rfl, hs, by rw [← rs.length]; exact asg_len P h1 e', μ, S, L, ds, L', S', sr, sl, rs, e', kk⟩
  | Subscript o i pos =>
    have h0 : (if isSlice i = true then none else o2 (cE n c o) (cE n c i) Tg.sub) = some x := h
    cases q : isSlice i with
    | true => rw [q] at h0; cases h0
    | false =>
      rw [q, if_neg Bool.false_ne_true] at h0
      obtain ⟨x1, y1, h1, h2, rfl⟩ := o2_ok h0
      have hE1 := I.e F takesW0 h1
      have hE2 := I.e F takesW0 h2
      refine ⟨fun pins s σ H v u Q I0 rr ⟨μ, S, L, d, L', S', sr, sl, rp, rd, e, kk⟩ => ?_⟩
      have rv := rd rfl
      have ha : ∀ v : Value, assign (.Subscript o i pos) X.env v = (do
          let ov ← holding [v] (eval o X.env)
          let iv ← holding [v, ov] (eval i X.env)
          standAt pos
          holding [v, ov, iv] (setItem ov iv v)
          release [v, ov, iv] []) := fun v => by
        cases i <;> first | rfl | cases q
      refine (pg_sub hE1 hE2 set_list ha).run pins s σ H v u Q I0 rr ?_
      have e' : (match ev P x1 L S with
        | some (.val (.ref n), S1) => match ev P y1 L S1 with
          | some (.val (.int k), S2) => match S2[n]? with
            | some (.lst xs) => match ixN xs.length k with
              | some j => some (L, S2.set n (.lst (xs.set j d)))
              | none => none
            | _ => none
          | _ => none
        | _ => none) = some (L', S') := e
      cases q1 : ev P x1 L S with
      | none => rw [q1] at e'; cases e'
      | some z1 =>
        obtain ⟨r1, S1⟩ := z1
        cases r1 with
        | exc cc fs => rw [q1] at e'; cases e'
        | val d1 =>
          cases d1 with
          | ref m =>
            rw [q1] at e'
            dsimp only at e'
            cases q2 : ev P y1 L S1 with
            | none => rw [q2] at e'; cases e'
            | some z2 =>
              obtain ⟨r2, S2⟩ := z2
              cases r2 with
              | exc cc fs => rw [q2] at e'; cases e'
              | val d2 =>
                cases d2 with
                | int j0 =>
                  rw [q2] at e'
                  dsimp only at e'
                  cases q3 : S2[m]? with
                  | none => rw [q3] at e'; cases e'
                  | some ob =>
                    cases ob with
                    | lst xs =>
                      rw [q3] at e'
                      dsimp only at e'
                      cases q4 : ixN xs.length j0 with
                      | none => rw [q4] at e'; cases e'
                      | some j =>
                        rw [q4] at e'
                        cases e'
                        refine ⟨μ, S, L, _, _, sr, sl, q1, fun μ1 H1 v1 p1 rx => ?_⟩
                        refine ⟨μ1, S1, L, _, _, p1.sr, sl.mono p1.pre p1.tu, q2, fun μ2 H2 v2 p2 ry => ?_⟩
                        have rx2 := rx.mono p2.pre p2.tu
                        cases rx2 with
                        | ref hn =>
                          rename_i a
                          cases ry with
                          | int _ =>
                            obtain ⟨vs, h3, h4⟩ := p2.sr.obj m a _ hn q3
                            refine ⟨a, vs, j0, j, rfl, rfl, h3, by rw [← h4.length]; exact q4, ?_⟩
                            have p3 : Post X.K X.mg μ2 H2 μ2 (S2.set m (.lst (xs.set j d))) (upd H2 a (.lst (vs.set j v))) :=
                              .write p2.sr hn h3 (fun z => z) ⟨_, upd_same, (RDs.set ((rv.mono p1.pre p1.tu).mono p2.pre p2.tu) j h4).mono (.refl _) (.write h3 fun z => z)⟩
                            exact kk _ _ _ ((p1.trans p2).trans p3) (((sl.mono p1.pre p1.tu).mono p2.pre p2.tu).mono p3.pre p3.tu)
                    | _ => rw [q3] at e'; cases e'
                | _ => rw [q2] at e'; cases e'
          | _ => rw [q1] at e'; cases e'
  | Attribute o f pos =>
    have h0 : (if c.flds.contains f then (cE n c o).map fun x => Tg.fld x f else none) = some x := h
    by_cases hc : c.flds.contains f = true
    · rw [if_pos hc] at h0
      obtain ⟨y, h1, rfl⟩ := Option.map_eq_some_iff.mp h0
      refine ⟨fun pins s σ H v u Q I0 rr ⟨μ, S, L, d, L', S', sr, sl, rp, rd, e, kk⟩ => ?_⟩
      have rv := rd rfl
      refine (pg_fld (I.e F takesW0 h1)).run pins s σ H v u Q I0 rr ?_
      have e' : (match ev P y L S with
        | some (.val (.ref n), S1) => match S1[n]? with
          | some (.ins c fs) => if P.fds c f = true ∧ fs.length < 1000 then some (L, S1.set n (.ins c (putD f d fs))) else none
          | _ => none
        | _ => none) = some (L', S') := e
      cases q1 : ev P y L S with
      | none => rw [q1] at e'; cases e'
      | some z1 =>
        obtain ⟨r1, S1⟩ := z1
        cases r1 with
        | exc cc fs => rw [q1] at e'; cases e'
        | val d1 =>
          cases d1 with
          | ref m =>
            rw [q1] at e'
            dsimp only at e'
            cases q3 : S1[m]? with
            | none => rw [q3] at e'; cases e'
            | some ob =>
              cases ob with
              | ins cn fs =>
                rw [q3] at e'
                dsimp only at e'
                by_cases hfd : P.fds cn f = true ∧ fs.length < 1000
                · rw [if_pos hfd] at e'
                  cases e'
                  refine ⟨μ, S, L, _, _, sr, sl, q1, fun μ1 H1 v1 p1 rx => ?_⟩
                  cases rx with
                  | ref hn =>
                    rename_i a
                    obtain ⟨C, dx, gs, h2, h3, h4⟩ := p1.sr.obj m a _ hn q3
                    obtain ⟨hc1, hc2⟩ := F.g.fds cn f C hfd.1 h2
                    refine ⟨a, C, dx, gs, rfl, h3, hc1, hc2, by rw [← h4.len]; exact hfd.2, ?_⟩
                    have p3 : Post X.K X.mg μ1 H1 μ1 (S1.set m (.ins cn (putD f d fs))) (upd H1 a (.ins C dx (putF f v gs))) :=
                      .write p1.sr hn h3 (fun z => z) ⟨C, dx, _, h2, upd_same, (RF.put (rv.mono p1.pre p1.tu) h4).mono (.refl _) (.write h3 fun z => z)⟩
                    exact kk _ _ _ (p1.trans p3) ((sl.mono p1.pre p1.tu).mono p3.pre p3.tu)
                · rw [if_neg hfd] at e'; cases e'
              | _ => rw [q3] at e'; cases e'
          | _ => rw [q1] at e'; cases e'
    · rw [if_neg hc] at h0; cases h0
  | _ => cases h
end
end Dy

namespace Dy
open PySem PySem.Spec PyProof.Rows L2
section
variable {X : Cx} {P : Pm} {c : Cc} {k n : Nat} {W : WX}
/-! ### calls -/
theorem spF_run {K : PySem.W.Frag} {mg : Str → Option Value} {σ : L2.St} {H : Hp} {μ : List Addr} {S S' : Sto} {a : Nat} {cal : List D → Sto → Out D} {ds : List D} {vs : List V} {r : Res D} {Q : VK} (hl : vs.length = a) (sr : SR K mg μ S H) (rs : RDs K μ H ds vs) (e : cal ds S = some (r, S')) (kk : Cont K mg W (RD K) σ μ H S' Q r) :
    spF a cal K mg vs H Q (WE W σ) := by
  refine ⟨hl, μ, S, ds, r, S', sr, rs, e, ?_⟩
  cases r with
  | val d => exact kk
  | exc c fs => exact kk
theorem rd_imp {K : PySem.W.Frag} {mg : Str → Option Value} {W : WX} {σ : L2.St} {α β : Type} {R : List Addr → Hp → α → β → Prop} {m : Lo → Sto → Out α} {H : Hp} {Q Q' : β → Hp → Prop} (h : rd K mg W R m σ H Q) (i : ∀ v H', Q v H' → Q' v H') : rd K mg W R m σ H Q' := by
  obtain ⟨μ, S, L, r, S', sr, sl, e, kk⟩ := h
  refine ⟨μ, S, L, r, S', sr, sl, e, ?_⟩
  cases r with
  | val d => exact fun μ' H' v p x => i v H' (kk μ' H' v p x)
  | exc c fs => exact kk
theorem evs_len : ∀ {es : Es} {L : Lo} {S S' : Sto} {ds : List D}, evs P es L S = some (.val ds, S') → ds.length = lenEs es
  | .nil, L, S, S', ds, h => by cases h; rfl
  | .cons e r, L, S, S', ds, h => by
    have h' : ((ev P e L S).andThen fun d S1 => (evs P r L S1).andThen fun ds S2 => some (.val (d :: ds), S2)) = some (.val ds, S') := h
    unfold Out.andThen at h'
    cases q1 : ev P e L S with
    | none => rw [q1] at h'; cases h'
    | some z =>
      obtain ⟨r1, S1⟩ := z
      rw [q1] at h'
      cases r1 with
      | exc _ _ => cases h'
      | val d =>
        dsimp only at h'
        cases q2 : evs P r L S1 with
        | none => rw [q2] at h'; cases h'
        | some z2 =>
          obtain ⟨r2, S2⟩ := z2
          rw [q2] at h'
          cases r2 with
          | exc _ _ => cases h'
          | val ds2 =>
            cases h'
            exact congrArg (· + 1) (evs_len q2)
theorem cEs_len : ∀ {n : Nat} {c : Cc} {es : List Expr} {xs : Es}, cEs n c es = some xs → lenEs xs = es.length
  | 0, _, _, _, h => by simp [cEs] at h
  | n + 1, c, [], _, h => by cases h; rfl
  | n + 1, c, e :: r, xs, h => by
    obtain ⟨x1, y1, h3, h4, rfl⟩ := o2_ok (show o2 (cE n c e) (cEs n c r) .cons = some xs from h)
    exact congrArg (· + 1) (cEs_len h4)
/-- a def's promise, the written values and the defaults -/
theorem def_fin {j a : Nat} {f : Addr} {cal : List D → Sto → Out D} (Dk : DefOk X.prog X.w X.K X.mg X.base j a f cal) : ∃ (fd : FuncData) (ps : List Str) (ds : List Value) (dvs : List V) (sp : Sp), FnOk X.prog X.w X.K X.mg X.base (L2.CX X.prog X.w) j f fd ps sp ∧ Binds X.K fd ps ds ∧ Vals dvs ds ∧
    ∀ {μ : List Addr} {S S' : Sto} {W : WX} {σ : L2.St} {H : Hp} {xs : List D} {vs : List V} {r : Res D} {Q : VK}, SR X.K X.mg μ S H → RDs X.K μ H xs vs → xs.length = a → cal xs S = some (r, S') → Cont X.K X.mg W (RD X.K) σ μ H S' Q r → sp (vs ++ dvs) H Q (WE W σ) := by
  obtain ⟨fd, ps, ds, dvs, dd, cal', hF, hb, hd, hdd, hlen, hcal⟩ := Dk.ex
  refine ⟨fd, ps, ds, dvs, _, hF, hb, hd, fun {μ S S' W σ H xs vs r Q} sr rx hx e kk => ?_⟩
  have e2 := hcal xs S _ e hx
  refine spF_run ?_ sr (rx.append (hdd μ H)) e2 kk
  rw [List.length_append, ← rx.length, hx, ← (hdd μ H).length]
  exact hlen
theorem snd_call (F : Fine X P c k) (tk : Takes X W) {f : Str} {p pos : Pos} {es : List Expr} {xs : Es} (hg : glob c f = true) (hf : c.fns.contains (f, es.length) = true) (h : cEs n c es = some xs) (I : PA X es (tA X.K X.mg W (evs P xs))) :
    PE X (.Call (.Name f p) es [] pos) (tE X.K X.mg W (ev P (.call f xs))) := by
  obtain ⟨fa, h1, h2, Dk⟩ := F.g.fn f _ hf
  obtain ⟨fd, ps, ds, dvs, sp, hF, hb, hd, fin⟩ := def_fin Dk
  have hl := cEs_len h
  cases es with
  | nil =>
    refine (pe_callSD0 hF F.room (F.gl hg).1 h1 h2 hb hd (fun σ => passAt tk σ) (F.gl hg).2).imp fun σ H Q ⟨μ, S, L, r, S', sr, sl, e, kk⟩ => ?_
    cases n with
    | zero => cases h
    | succ m =>
      cases h
      have e' : P.cal f [] S = some (r, S') := e
      exact fin sr .nil rfl e' kk
  | cons a es =>
    cases n with
    | zero => cases h
    | succ m =>
      obtain ⟨x1, y1, h3, h4, rfl⟩ := o2_ok (show o2 (cE m c a) (cEs m c es) .cons = some xs from h)
      refine (pe_callSD hF F.room (F.gl hg).1 h1 h2 hb hd (fun σ => passAt tk σ) I (F.gl hg).2 (star_cons (cE_star h3)) (cEs_plain h4)).imp fun σ H Q ⟨μ, S, L, r, S', sr, sl, e, kk⟩ => ?_
      exact rd_fst2 (m := evs P (.cons x1 y1)) (f := fun ds S1 => P.cal f ds S1) sr sl e kk fun x S1 μ1 H1 v e0 e1 sr1 sl1 p1 t1 rx k1 => fin sr1 rx ((evs_len e0).trans hl) e1 k1
/-! ### fields, methods, making, written tables -/
theorem snd_fld (F : Fine X P c k) {o : Expr} {f : Str} {pos : Pos} {x : E} (hab : abOk o = true) (Io : PE X o (tE X.K X.mg W (ev P x))) : PE X (.Attribute o f pos) (tE X.K X.mg W (ev P (.fld x f))) := by
  refine (pe_fld Io (ab_ok hab)).imp fun σ H Q ⟨μ, S, L, r, S', sr, sl, e, kk⟩ => rd_fst sr sl e kk fun d S1 μ1 H1 v e1 sr1 sl1 p1 t1 rx k1 => ?_
  cases rx with
  | @ref m a hn =>
    dsimp only at e1
    cases q : S1[m]? with
    | none => simp only [q] at e1; cases e1
    | some ob =>
      cases ob with
      | ins cn fs =>
        simp only [q] at e1
        by_cases hf : P.fds cn f = true
        · rw [if_pos hf] at e1
          obtain ⟨d2, e2, rfl, rfl⟩ := optO_some e1
          obtain ⟨C, dx, gs, h2, h3, h4⟩ := sr1.obj m a _ hn q
          obtain ⟨hc1, hc2⟩ := F.g.fds cn f C hf h2
          obtain ⟨u, h5, h6⟩ := h4.look e2
          exact ⟨a, C, dx, gs, u, rfl, h3, hc1, hc2, h5, k1.val (.refl sr1) h6⟩
        · rw [if_neg hf] at e1; cases e1
      | _ => simp only [q] at e1; cases e1
  | _ => cases e1
theorem snd_meth (F : Fine X P c k) (tk : Takes X W) {m : Str} {apos pos : Pos} {o : Expr} {es : List Expr} {x : E} {xs : Es} (hm : c.mets.contains (m, es.length) = true) (hab : abOk o = true) (hl : (apos.endLine == pos.line) = true) (hn : es.length < 20) (h : cEs n c es = some xs)
    (Io : PE X o (tE X.K X.mg W (ev P x))) (I : PA X es (tA X.K X.mg W (evs P xs))) : PE X (.Call (.Attribute o m apos) es [] pos) (tE X.K X.mg W (ev P (.meth m x xs))) := by
  have hlen := cEs_len h
  have rule : ∀ {cn : Str} {C fa : Addr}, Cls X.K C → Meth X.K C m fa → DefOk X.prog X.w X.K X.mg X.base (k + 2) (es.length + 1) fa (P.met cn m) →
      ∃ (sp : Sp) (dvs : List V), PE X (.Call (.Attribute o m apos) es [] pos) (tMethSD C m sp dvs (WE W) (tE X.K X.mg W (ev P x)) (tA X.K X.mg W (evs P xs))) ∧
        ∀ {μ : List Addr} {S S' : Sto} {σ : L2.St} {H : Hp} {ys : List D} {vs : List V} {r : Res D} {Q : VK}, SR X.K X.mg μ S H → RDs X.K μ H ys vs → ys.length = es.length + 1 → P.met cn m ys S = some (r, S') → Cont X.K X.mg W (RD X.K) σ μ H S' Q r → sp (vs ++ dvs) H Q (WE W σ) := fun {cn C fa} hc hMe Dk => by
    obtain ⟨fd, ps, ds, dvs, sp, hF, hb, hd, fin⟩ := def_fin Dk
    refine ⟨sp, dvs, ?_, fun sr rs hx e kk => fin sr rs hx e kk⟩
    cases es with
    | nil =>
      cases n with
      | zero => cases h
      | succ q =>
        cases h
        refine (pe_methSD0 Io hc hMe hF F.room hb hd (fun σ => passAt tk σ) (ab_ok hab) hl).imp fun σ H Q hh => ?_
        refine rd_imp hh fun v H1 ⟨a, dx, fs, e1, e2, e3, μ, S, L, r, S', sr, sl, e, kk⟩ => ?_
        cases e
        exact ⟨a, dx, fs, e1, e2, e3, kk.val (.refl sr) .nil⟩
    | cons a es =>
      cases n with
      | zero => cases h
      | succ q =>
        obtain ⟨x1, y1, h3, h4, rfl⟩ := o2_ok (show o2 (cE q c a) (cEs q c es) .cons = some xs from h)
        exact pe_methSD Io hc hMe hF F.room hb hd (fun σ => passAt tk σ) I (star_cons (cE_star h3)) (cEs_plain h4) (ab_ok hab) (by rw [cEs_all h]; exact decide_eq_true (by simp; simp at hn; omega)) hl
  refine PE.sel fun σ H Q hh => ?_
  obtain ⟨μ, S, L, r, S', sr, sl, e, kk⟩ := hh
  have e' : ((ev P x L S).andThen fun d S1 => match d with
      | .ref n => match S1[n]? with
        | some (.ins c fs) => match fs.lookup m with
          | none => if P.mts c m (lenEs xs) then (evs P xs L S1).andThen fun ds S2 => P.met c m (d :: ds) S2 else none
          | some _ => none
        | _ => none
      | _ => none : Out D) = some (r, S') := e
  cases q : ev P x L S with
  | none => rw [q] at e'; cases e'
  | some z =>
    obtain ⟨r1, S1⟩ := z
    rw [q] at e'
    cases r1 with
    | exc cc fs =>
      cases e'
      obtain ⟨cn, hcn⟩ := F.g.mex m _ hm
      obtain ⟨C, fa, g1, g2, g3, g4⟩ := F.g.mts cn m _ hcn
      obtain ⟨sp, dvs, hp, _⟩ := rule g2 g3 g4
      exact ⟨_, hp, μ, S, L, _, _, sr, sl, q, kk⟩
    | val d =>
      cases d with
      | ref nn =>
        have e2 : (match S1[nn]? with
          | some (.ins c fs) => match fs.lookup m with
            | none => if P.mts c m (lenEs xs) then (evs P xs L S1).andThen fun ds S2 => P.met c m (D.ref nn :: ds) S2 else none
            | some _ => none
          | _ => none : Out D) = some (r, S') := e'
        cases q2 : S1[nn]? with
        | none => rw [q2] at e2; cases e2
        | some ob =>
          cases ob with
          | ins cn fs =>
            rw [q2] at e2
            dsimp only at e2
            cases q3 : fs.lookup m with
            | some _ => rw [q3] at e2; cases e2
            | none =>
              rw [q3] at e2
              dsimp only at e2
              by_cases hmt : P.mts cn m (lenEs xs) = true
              · rw [if_pos hmt] at e2
                rw [hlen] at hmt
                obtain ⟨C, fa, g1, g2, g3, g4⟩ := F.g.mts cn m _ hmt
                obtain ⟨sp, dvs, hp, fin⟩ := rule g2 g3 g4
                refine ⟨_, hp, μ, S, L, _, _, sr, sl, q, fun μ1 H1 v p1 rx => ?_⟩
                cases rx with
                | @ref _ a hn1 =>
                  obtain ⟨C', dx, gs, h2, h3, h4⟩ := p1.sr.obj nn a _ hn1 q2
                  have hC : C' = C := by
                    have := h2.symm.trans g1
                    simpa using this
                  subst hC
                  refine ⟨a, dx, gs, rfl, h3, h4.look_none q3, ?_⟩
                  exact rd_fst2 (m := evs P xs) (f := fun ds S2 => P.met cn m (.ref nn :: ds) S2) p1.sr (sl.mono p1.pre p1.tu) e2 (kk.mono p1) fun ds S2 μ2 H2 vs e0 e3 sr2 sl2 p2 t2 rs k2 =>
                    fin sr2 (.cons (.ref (p2 _ _ hn1)) rs) (congrArg (· + 1) ((evs_len e0).trans hlen)) e3 k2
              · rw [if_neg hmt] at e2; cases e2
          | _ => rw [q2] at e2; cases e2
      | _ => cases e'
theorem snd_mk (F : Fine X P c k) (tk : Takes X W) {f : Str} {p pos : Pos} {es : List Expr} {xs : Es} (hg : glob c f = true) (hf : c.cls.contains (f, es.length) = true) (h : cEs n c es = some xs) (I : PA X es (tA X.K X.mg W (evs P xs))) :
    PE X (.Call (.Name f p) es [] pos) (tE X.K X.mg W (ev P (.mk f xs))) := by
  obtain ⟨C, fa, h1, h2, Dk⟩ := F.g.mak f _ hf
  obtain ⟨fd, ps, ds, dvs, sp, hF, hb, hd, fin⟩ := def_fin Dk
  have hl := cEs_len h
  have core : ∀ {σ : L2.St} {H : Hp} {Q : VK}, tE X.K X.mg W (ev P (.mk f xs)) σ H Q → tMakeSD C sp dvs (WE W) (tA X.K X.mg W (evs P xs)) σ H Q := fun {σ H Q} ⟨μ, S, L, r, S', sr, sl, e, kk⟩ => by
    refine rd_fst2 (m := evs P xs) (f := fun ds S1 => (P.mak f (D.ref S1.length :: ds) (S1 ++ [O.ins f []])).andThen (mkEnd S1.length)) sr sl e kk fun ds S1 μ1 H1 vs e0 e1 sr1 sl1 p1 t1 rs k1 => ?_
    intro a dx ha hdx hne
    have P1 : Post X.K X.mg μ1 H1 μ1 S1 (upd H1 dx (.own a)) := .side sr1 hdx
    have ha2 : upd H1 dx (.own a) a = none := by rw [upd_ne (Ne.symm hne)]; exact ha
    have P2 : Post X.K X.mg μ1 (upd H1 dx (.own a)) (μ1 ++ [a]) (S1 ++ [.ins f []]) (upd (upd H1 dx (.own a)) a (.ins C dx [])) := .new P1.sr ha2 ⟨C, dx, [], h1, upd_same, .nil⟩
    have P3 := P1.trans P2
    have rs3 : RDs X.K (μ1 ++ [a]) (upd (upd H1 dx (.own a)) a (.ins C dx [])) (.ref S1.length :: ds) (.ref a :: vs) := .cons (.newRef sr1) (rs.mono P3.pre P3.tu)
    unfold Out.andThen at e1
    cases q : P.mak f (.ref S1.length :: ds) (S1 ++ [.ins f []]) with
    | none => rw [q] at e1; cases e1
    | some z =>
      obtain ⟨r2, S2⟩ := z
      rw [q] at e1
      refine fin (r := r2) P3.sr rs3 (congrArg (· + 1) ((evs_len e0).trans hl)) q ?_
      have k3 := k1.mono P3
      cases r2 with
      | exc cc fs =>
        cases e1
        exact k3
      | val d =>
        cases d with
        | non =>
          have e9 : some (Res.val (D.ref S1.length), S2) = some (r, S') := e1
          cases e9
          intro μ' H' v pp rv
          cases rv
          exact ⟨rfl, k3.val pp (.ref (pp.pre _ _ (by rw [← sr1.len]; simp)))⟩
        | _ => cases e1
  cases es with
  | nil =>
    cases n with
    | zero => cases h
    | succ m =>
      cases h
      refine (pe_makeSD0 h2 hF F.room (F.gl hg).1 h1 hb hd (fun σ => passAt tk σ) (F.gl hg).2).imp fun σ H Q hh => ?_
      obtain ⟨μ, S, L, r, S', sr, sl, e, kk⟩ := core hh
      cases e
      exact kk.val (.refl sr) .nil
  | cons a es =>
    cases n with
    | zero => cases h
    | succ m =>
      obtain ⟨x1, y1, h3, h4, rfl⟩ := o2_ok (show o2 (cE m c a) (cEs m c es) .cons = some xs from h)
      exact (pe_makeSD h2 hF F.room (F.gl hg).1 h1 hb hd (fun σ => passAt tk σ) I (F.gl hg).2 (star_cons (cE_star h3)) (cEs_plain h4)).imp fun σ H Q hh => core hh
theorem snd_kix (F : Fine X P c k) {x : Str} {p pos : Pos} {i : Expr} {y : E} (hg : glob c x = true) (hx : c.kds.contains x = true) (hi : isSlice i = false) (I : PE X i (tE X.K X.mg W (ev P y))) : PE X (.Subscript (.Name x p) i pos) (tE X.K X.mg W (ev P (.kix x y))) := by
  obtain ⟨kvs, hk⟩ := F.g.kex x hx
  obtain ⟨a, es, n, hm, KD, h1, h2⟩ := F.g.kd x kvs hk
  refine (pe_ix ix_kdict (kd_name F hg hm) I (plainIx hi)).imp fun σ H Q hh => ?_
  refine rd_one (R2 := RD X.K) (f := fun d S1 => match d with
    | .str z => optO S1 ((P.kd x).bind (lookT z))
    | _ => none) hh fun μ S H d v r S' sr rx e kk => ?_
  cases rx with
  | str z =>
    obtain ⟨d2, e2, rfl, rfl⟩ := optO_some (show optO S ((P.kd x).bind (lookT z)) = some (r, S') from e)
    rw [hk] at e2
    obtain ⟨u, w, h3, h4, h5⟩ := h1 z d2 e2
    exact ⟨a, stO z, w, rfl, rfl, ⟨es, n, u, KD.at_, KD.lit, h3, h4⟩, kk.val (.refl sr) (h5 _ _)⟩
  | _ => cases e
theorem bi_stat {f : Str} (h : biNames.contains f = true) : ((∃ id, bootBuiltins f = some (.builtin id)) ∨ ∃ T, bootBuiltins f = some (.type T)) ∧ f ≠ "__name__" := by
  have h' : f ∈ biNames := List.contains_iff_mem.mp h
  unfold biNames at h'
  simp only [List.mem_cons, List.not_mem_nil, or_false] at h'
  rcases h' with rfl | rfl | rfl | rfl | rfl | rfl | rfl | rfl | rfl | rfl
  · exact ⟨.inl ⟨"len", by decide +kernel⟩, by decide⟩
  · exact ⟨.inr ⟨"int", by decide +kernel⟩, by decide⟩
  · exact ⟨.inl ⟨"abs", by decide +kernel⟩, by decide⟩
  · exact ⟨.inl ⟨"max", by decide +kernel⟩, by decide⟩
  · exact ⟨.inl ⟨"min", by decide +kernel⟩, by decide⟩
  · exact ⟨.inr ⟨"str", by decide +kernel⟩, by decide⟩
  · exact ⟨.inr ⟨"list", by decide +kernel⟩, by decide⟩
  · exact ⟨.inr ⟨"tuple", by decide +kernel⟩, by decide⟩
  · exact ⟨.inl ⟨"all", by decide +kernel⟩, by decide⟩
  · exact ⟨.inl ⟨"any", by decide +kernel⟩, by decide⟩
theorem snd_bi (F : Fine X P c k) {f : Str} {p pos : Pos} {a : Expr} {es : List Expr} {xs : Es} (hg : glob c f = true) (hf : biNames.contains f = true) (hs : starEach (a :: es) X.env = (false, eval a X.env) :: starEach es X.env) (hp : (backTo pos (starEach es X.env)).any (·.1) = false) (I : PA X (a :: es) (tA X.K X.mg W (evs P xs))) :
    PE X (.Call (.Name f p) (a :: es) [] pos) (tE X.K X.mg W (ev P (.bi f xs))) := by
  obtain ⟨h1, h2⟩ := bi_stat hf
  rcases h1 with ⟨id, h1⟩ | ⟨T, h1⟩
  · refine (pe_callB (call_any) (F.gl hg).1 (F.g.bi f hf) h1 I h2 (F.gl hg).2 hs hp).imp fun σ H Q hh => ?_
    refine rd_args (R2 := RD X.K) (f := fun ds S1 => biD f ds S1) hh fun μ S H x v r S' sr rx e kk => ?_
    rcases biD_ok F.calm sr rx e kk with ⟨id', rr, h3, h4, h5⟩ | ⟨T, rr, h3, h4, h5⟩
    · rw [h1] at h3
      cases h3
      exact ⟨rr, h4, h5⟩
    · rw [h1] at h3
      cases h3
  · refine (pe_callTy (call_any) (F.gl hg).1 (F.g.bi f hf) h1 I h2 (F.gl hg).2 hs hp).imp fun σ H Q hh => ?_
    refine rd_args (R2 := RD X.K) (f := fun ds S1 => biD f ds S1) hh fun μ S H x v r S' sr rx e kk => ?_
    rcases biD_ok F.calm sr rx e kk with ⟨id', rr, h3, h4, h5⟩ | ⟨T, rr, h3, h4, h5⟩
    · rw [h1] at h3
      cases h3
    · rw [h1] at h3
      cases h3
      exact ⟨rr, h4, h5⟩
/-! ### isinstance -/
theorem kit_all {a b : String} (ha : a ∈ tyNames) (hb : b ∈ tyNames) : kitB a b = some (isTy a b) := by
  unfold tyNames at ha hb
  simp only [List.mem_cons, List.not_mem_nil, or_false] at ha hb
  rcases ha with rfl | rfl | rfl | rfl | rfl | rfl | rfl <;> rcases hb with rfl | rfl | rfl | rfl | rfl | rfl | rfl <;> decide +kernel
theorem tyD_mem {S : Sto} {d : D} {t : String} (h : tyD S d = some t) : t ∈ tyNames := by
  have key : ∀ {o : Option O}, (match o with
    | some (.lst _) => some "list"
    | some (.fro _) => some "list"
    | some (.dct _) => some "dict"
    | _ => none) = some t → t ∈ tyNames := fun {o} h => by
    cases o with
    | none => cases h
    | some u => cases u <;> cases h <;> decide
  cases d with
  | ref n => exact key h
  | _ => cases h; decide
def tyV1 : List (Str × String) := tyNames.map fun x => (Str.ofString x, x)
theorem boot_ty {T : String} (h : T ∈ tyNames) (hn : T ≠ "NoneType") : bootBuiltins (Str.ofString T) = some (.type T) ∧ Str.ofString T ≠ "__name__" := by
  unfold tyNames at h
  simp only [List.mem_cons, List.not_mem_nil, or_false] at h
  rcases h with rfl | rfl | rfl | rfl | rfl | rfl | rfl
  · exact absurd rfl hn
  all_goals exact ⟨by decide +kernel, by decide⟩
/-! ### methods of built-in types -/
theorem tyG_of {μ : List Addr} {S : Sto} {H : Hp} {d : D} {v : V} {T : String} (sr : SR X.K X.mg μ S H) (r : RD X.K μ H d v) (h : tyD S d = some T) (hT : T = "list" ∨ T = "tuple" ∨ T = "str" ∨ T = "dict") : TyG X T v H := by
  cases r with
  | non => cases h; rcases hT with h | h | h | h <;> exact absurd h (by decide)
  | bl b => cases h; rcases hT with h | h | h | h <;> exact absurd h (by decide)
  | int b => cases h; rcases hT with h | h | h | h <;> exact absurd h (by decide)
  | str x => cases h; exact .of (by rfl)
  | tup h1 h2 => cases h; exact .tup h1
  | kl hk hc hd ht hz hv r => cases h; exact .of (.inl ⟨rfl, _, .inr ⟨_, _, _, hk, hc, hd, ht, hz, hv⟩⟩)
  | ref hn =>
    rename_i m a
    have h' : (match S[m]? with
      | some (.lst _) => some "list"
      | some (.fro _) => some "list"
      | some (.dct _) => some "dict"
      | _ => none) = some T := h
    cases q : S[m]? with
    | none => rw [q] at h'; cases h'
    | some o =>
      rw [q] at h'
      have ob := sr.obj m a o hn q
      cases o with
      | lst ys => cases h'; obtain ⟨vs, h1, h2⟩ := ob; exact .of (.inl ⟨rfl, vs, .of h1⟩)
      | fro ys => cases h'; obtain ⟨o, vs, h1, h2⟩ := ob; exact .of (.inl ⟨rfl, vs, .inl (.inr ⟨o, h1⟩)⟩)
      | ins c fs => cases h'
      | dct kvs => cases h'; obtain ⟨gs, h1, h2⟩ := ob; exact .of (.inr (.inr (.inl ⟨rfl, .inl ⟨gs, h1⟩⟩)))
theorem mt_any {id : String} : MtR X id (fun x xs H Q => ∃ r, MtR X id r ∧ r x xs H Q) := fun pins s σ H x xs v us Q I rx rs ⟨r, h, q⟩ => h pins s σ H x xs v us Q I rx rs q
theorem strs_ok {K : PySem.W.Frag} {μ : List Addr} {H : Hp} : ∀ {ds : List D} {vs : List V} {ys : List (List Nat)}, RDs K μ H ds vs → strsOf ds = some ys → vs = (ys.map stO).map V.str
  | _, _, _, .nil, e => by cases e; rfl
  | _, _, ys, .cons (d := d) (ds := ds) h r, e => by
    cases h with
    | str x =>
      obtain ⟨zs, e1, rfl⟩ := Option.map_eq_some_iff.mp (show (strsOf ds).map (x :: ·) = some ys from e)
      rw [strs_ok r e1]
      rfl
    | _ => cases e
theorem pos_ok : ∀ {z : List Nat} {ys : List (List Nat)} {j : Nat}, posOf z ys = some j → ys[j]? = some z ∧ ∀ m, m < j → ys[m]? ≠ some z
  | z, [], j, h => by cases h
  | z, y :: r, j, h => by
    unfold posOf at h
    by_cases e : y = z
    · rw [if_pos e] at h
      cases h
      exact ⟨by simp [e], fun m hm => absurd hm (Nat.not_lt_zero m)⟩
    · rw [if_neg e] at h
      obtain ⟨i, h1, rfl⟩ := Option.map_eq_some_iff.mp h
      obtain ⟨h2, h3⟩ := pos_ok h1
      refine ⟨by simpa using h2, fun m hm => ?_⟩
      cases m with
      | zero => simpa using e
      | succ m => simpa using h3 m (by omega)
theorem join_stO (a : List Nat) (ys : List (List Nat)) : PySem.Txt.join (stO a) (ys.map stO) = stO (TL.joinL a ys) := by
  have tlS : ∀ x : List Nat, TL.tl (stO x) = x := fun x => by simp [TL.tl, stO]
  have e := TL.tl_join (stO a) (ys.map stO)
  rw [← TL.join_eq, tlS, List.map_map] at e
  have e2 : ys.map (TL.tl ∘ stO) = ys := by
    rw [show (TL.tl ∘ stO) = id from funext tlS, List.map_id]
  rw [e2] at e
  have e3 : stO (TL.tl (PySem.Txt.join (stO a) (ys.map stO))) = PySem.Txt.join (stO a) (ys.map stO) := by simp [TL.tl, stO]
  rw [← e3, e]
theorem bm_stat {m : Str} (h : bmNames.contains m = true) : ∃ id, PlainAttrs (bmTy m) ∧ Slot (bmTy m) m id ∧ typeOf (.builtin id) = pure (.type "method_descriptor") ∧ (bmTy m = "list" ∨ bmTy m = "tuple" ∨ bmTy m = "str" ∨ bmTy m = "dict") ∧
    ∀ {X : Cx} {W : WX} {σ : L2.St} {H : Hp} {μ : List Addr} {S S' : Sto} {x : D} {v : V} {ds : List D} {vs : List V} {r : Res D} {Q : VK}, SR X.K X.mg μ S H → RD X.K μ H x v → RDs X.K μ H ds vs → bmD m x ds S = some (r, S') → Cont X.K X.mg W (RD X.K) σ μ H S' Q r → ∃ rr, MtR X id rr ∧ rr v vs H Q := by
  have h' : m ∈ bmNames := List.contains_iff_mem.mp h
  unfold bmNames at h'
  simp only [List.mem_cons, List.not_mem_nil, or_false] at h'
  rcases h' with rfl | rfl | rfl | rfl
  · refine ⟨"list.append", PySem.F.plainAttrs_list, PySem.F.slot_list_append, PySem.F.type_list_append, .inl (by decide), ?_⟩
    intro X W σ H μ S S' x v ds vs r Q sr rx rs e kk
    refine ⟨_, mt_append, ?_⟩
    cases rx with
    | ref hn =>
      rename_i l a
      cases rs with
      | nil => cases e
      | @cons d w ds vs hd rs =>
        cases rs with
        | cons _ _ => cases e
        | nil =>
          have e' : (match S[l]? with
            | some (.lst xs) => if xs.length < sizeLine then some (Res.val D.non, S.set l (.lst (xs ++ [d]))) else none
            | _ => none) = some (r, S') := e
          cases q : S[l]? with
          | none => rw [q] at e'; cases e'
          | some o =>
            rw [q] at e'
            cases o with
            | lst xs =>
              dsimp only at e'
              by_cases c : xs.length < sizeLine
              · rw [if_pos c] at e'
                cases e'
                obtain ⟨us, h1, h2⟩ := sr.obj l a _ hn q
                refine ⟨a, us, w, rfl, rfl, h1, by rw [← h2.length]; exact c, ?_⟩
                have t := Tu.write (o := .lst (us ++ [w])) h1 (fun z => z)
                exact kk.val (.write sr hn h1 (fun z => z) ⟨_, upd_same, (h2.append (.cons hd .nil)).mono (.refl _) t⟩) .non
              · rw [if_neg c] at e'; cases e'
            | _ => cases e'
    | _ => cases e
  · refine ⟨"tuple.index", by first | exact PySem.F.plainAttrs_tuple, by first | exact PySem.F.slot_tuple_index, by first | exact PySem.F.type_tuple_index, .inr (.inl (by decide)), ?_⟩
    intro X W σ H μ S S' x v ds vs r Q sr rx rs e kk
    refine ⟨_, mt_tup_index, ?_⟩
    cases rx with
    | @tup a das vas h1 h2 =>
      cases rs with
      | nil => cases e
      | cons hd rs =>
        cases rs with
        | cons _ _ => cases hd <;> cases e
        | nil =>
          cases hd with
          | str z =>
            have e' : (match strsOf das with
              | some ys => (posOf z ys).map fun j => (Res.val (D.int (j : Nat)), S)
              | none => none) = some (r, S') := e
            cases q : strsOf das with
            | none => rw [q] at e'; cases e'
            | some ys =>
              rw [q] at e'
              obtain ⟨j, h3, h4⟩ := Option.map_eq_some_iff.mp e'
              cases h4
              obtain ⟨p1, p2⟩ := pos_ok h3
              have hv := strs_ok h2 q
              subst hv
              refine ⟨a, ys.map stO, stO z, j, rfl, rfl, h1.sq, by rw [List.getElem?_map, p1]; rfl, fun m hm hz => ?_, kk.val (.refl sr) (.int _)⟩
              rw [List.getElem?_map] at hz
              obtain ⟨y, h5, h6⟩ := Option.map_eq_some_iff.mp hz
              exact p2 m hm (by rw [h5, stO_inj.mp h6])
          | _ => cases e
    | _ => cases e
  · refine ⟨"str.find", PySem.F.plainAttrs_str, PySem.F.slot_str_find, PySem.F.type_str_find, .inr (.inr (.inl (by decide))), ?_⟩
    intro X W σ H μ S S' x v ds vs r Q sr rx rs e kk
    refine ⟨_, mt_find3, ?_⟩
    cases rx with
    | str a =>
      cases rs with
      | nil => cases e
      | cons hd rs =>
        cases rs with
        | nil => cases hd <;> cases e
        | cons hd2 rs =>
          cases rs with
          | cons _ _ => cases hd <;> cases hd2 <;> cases e
          | nil =>
            cases hd with
            | str b =>
              cases hd2 with
              | int i => cases e; exact ⟨_, _, i, rfl, rfl, kk.val (.refl sr) (.int _)⟩
              | _ => cases e
            | _ => cases hd2 <;> cases e
    | _ => cases e
  · refine ⟨"str.join", PySem.F.plainAttrs_str, PySem.F.slot_str_join, PySem.F.type_str_join, .inr (.inr (.inl (by decide))), ?_⟩
    intro X W σ H μ S S' x v ds vs r Q sr rx rs e kk
    refine ⟨_, mt_join, ?_⟩
    cases rx with
    | str a =>
      cases rs with
      | nil => cases e
      | @cons y w ds' vs' hy rs =>
        cases rs with
        | cons _ _ => cases e
        | nil =>
          have e' : (match (itemsD S y).bind strsOf with
            | some ys => if (ys.map List.length).sum + ys.length * a.length ≤ 16777216 then some (Res.val (D.str (TL.joinL a ys)), S) else none
            | none => none) = some (r, S') := e
          cases q : (itemsD S y).bind strsOf with
          | none => rw [q] at e'; cases e'
          | some ys =>
            rw [q] at e'
            obtain ⟨xs, q1, q2⟩ := Option.bind_eq_some_iff.mp q
            dsimp only at e'
            by_cases c : (ys.map List.length).sum + ys.length * a.length ≤ 16777216
            · rw [if_pos c] at e'
              cases e'
              have lens : ((ys.map stO).map (·.length)).sum + (ys.map stO).length * (stO a).length ≤ 16777216 := by
                rw [List.map_map, List.length_map, stO_len, show ((fun x : Str => x.length) ∘ stO) = List.length from funext stO_len]
                exact c
              have fin : ∀ (p : Addr) (ws : List V), w = .ref p → RDs X.K μ H xs ws → (SqL X.K H p ws ∨ SqT X.K H p ws) → ∃ (a' : Str) (p : Addr) (zs : List Str), V.str (stO a) = V.str a' ∧ [w] = [V.ref p] ∧ (SqL X.K H p (zs.map V.str) ∨ SqT X.K H p (zs.map V.str)) ∧ (zs.map (·.length)).sum + zs.length * a'.length ≤ 16777216 ∧ Q (.str (PySem.Txt.join a' zs)) H := by
                intro p ws hw hr hs
                subst hw
                have hv := strs_ok hr q2
                subst hv
                refine ⟨stO a, p, ys.map stO, rfl, rfl, hs, lens, ?_⟩
                rw [join_stO]
                exact kk.val (.refl sr) (.str _)
              cases hy with
              | tup h1 h2 =>
                cases q1
                exact fin _ _ rfl h2 (.inr h1.sq)
              | ref hn =>
                obtain ⟨p, ws, e1, h1, h2⟩ := seqL_ok sr (.ref hn) q1
                exact fin p ws e1 h2 (.inl h1)
              | kl hk hc hd ht hz hv r =>
                obtain ⟨p, ws, e1, h1, h2⟩ := seqL_ok sr (.kl hk hc hd ht hz hv r) q1
                exact fin p ws e1 h2 (.inl h1)
              | non => cases q1
              | bl b => cases q1
              | int i => cases q1
              | str z => cases q1
            · rw [if_neg c] at e'; cases e'
    | _ => cases e
theorem snd_bm (F : Fine X P c k) {m : Str} {apos pos : Pos} {o a : Expr} {es : List Expr} {x : E} {xs : Es} (hm : bmNames.contains m = true) (hab : abOk o = true) (hl : (apos.endLine == pos.line) = true) (hn : (a :: es).length < 20) (hs : starEach (a :: es) X.env = (false, eval a X.env) :: starEach es X.env)
    (hp : (backTo pos (starEach es X.env)).any (·.1) = false) (hall : (backTo pos (starEach (a :: es) X.env)).all (fun x => !x.1) = true) (Io : PE X o (tE X.K X.mg W (ev P x))) (I : PA X (a :: es) (tA X.K X.mg W (evs P xs))) :
    PE X (.Call (.Attribute o m apos) (a :: es) [] pos) (tE X.K X.mg W (ev P (.bm m x xs))) := by
  obtain ⟨id, pa, sl, ty, hT, hD⟩ := bm_stat hm
  refine (pe_bG pa sl ty mt_any Io I (ab_ok hab) (by rw [hall]; exact decide_eq_true (by simp; simp at hn; omega)) hl hs hp).imp fun σ H Q ⟨μ, S, L, r, S', sr, slo, e, kk⟩ => ?_
  refine rd_fst sr slo e kk fun d S1 μ1 H1 v e1 sr1 sl1 p1 t1 rx k1 => ?_
  by_cases ht : tyD S1 d = some (bmTy m)
  · rw [if_pos ht] at e1
    refine ⟨tyG_of sr1 rx ht hT, ?_⟩
    refine rd_fst sr1 sl1 e1 k1 fun ds S2 μ2 H2 vs e2 sr2 sl2 p2 t2 rs k2 => ?_
    exact hD sr2 (rx.mono p2 t2) rs e2 k2
  · rw [if_neg ht] at e1; cases e1
end
end Dy

namespace Dy
open PySem PySem.Spec PyProof.Rows L2
/-! ### comprehensions -/
theorem wipe_get {σ : L2.St} (i : Nat) : ∀ vs : List Nat, (wipe σ vs)[i]? = if i ∈ vs then (σ[i]?).map (fun _ => none) else σ[i]?
  | [] => by simp [wipe]
  | v :: vs => by
    have ih := wipe_get (σ := σ) i vs
    unfold wipe
    by_cases e : i = v
    · subst e
      rw [if_pos (List.mem_cons_self)]
      by_cases hl : i < σ.length
      · rw [List.getElem?_set_self (by rw [wipe_length]; exact hl), List.getElem?_eq_getElem hl]
        rfl
      · rw [List.getElem?_eq_none (by simp [wipe_length]; omega), List.getElem?_eq_none (by omega)]
        rfl
    · rw [List.getElem?_set_ne (Ne.symm e), ih]
      by_cases hm : i ∈ vs
      · rw [if_pos hm, if_pos (List.mem_cons_of_mem _ hm)]
      · rw [if_neg hm, if_neg (fun z => (List.mem_cons.mp z).elim e hm)]
theorem wipe_set {σ : L2.St} {i : Nat} {x : Option V} {vs : List Nat} (h : i ∈ vs) : wipe (σ.set i x) vs = wipe σ vs := by
  apply List.ext_getElem?
  intro j
  rw [wipe_get, wipe_get]
  by_cases hm : j ∈ vs
  · rw [if_pos hm, if_pos hm]
    by_cases e : j = i
    · subst e
      by_cases hl : j < σ.length
      · rw [List.getElem?_set_self hl, List.getElem?_eq_getElem hl]
        rfl
      · rw [List.getElem?_eq_none (by simp; omega), List.getElem?_eq_none (by omega)]
    · rw [List.getElem?_set_ne (Ne.symm e)]
  · rw [if_neg hm, if_neg hm, List.getElem?_set_ne (fun e => hm (by rw [← e]; exact h))]
theorem wipe_wipe {σ : L2.St} {vs : List Nat} : wipe (wipe σ vs) vs = wipe σ vs := by
  apply List.ext_getElem?
  intro j
  rw [wipe_get, wipe_get]
  by_cases hm : j ∈ vs
  · rw [if_pos hm, if_pos hm]
    cases σ[j]? <;> rfl
  · rw [if_neg hm, if_neg hm]
section
variable {X : Cx} {P : Pm} {c : Cc} {k n : Nat} {W : WX}
theorem SL.wipe {K : PySem.W.Frag} {μ : List Addr} {H : Hp} {L : Lo} {σ : L2.St} (l : SL K μ H L σ) : ∀ vs : List Nat, SL K μ H (wipeL L vs) (L2.wipe σ vs)
  | [] => l
  | v :: vs => (SL.wipe l vs).drop v
/-- a target that stores names alone, exactly -/
def Exact (own : List Nat) (P : Pm) (K : PySem.W.Frag) (mg : Str → Option Value) (g : Tg) (gg : TG) : Prop := ∀ μ S H L σ d v L' S', SR K mg μ S H → SL K μ H L σ → RP K μ H d v → (tupTg g = false → RD K μ H d v) → asg P g d L S = some (L', S') →
  S' = S ∧ ∀ Q, (∀ σ', SL K μ H L' σ' → wipe σ' own = wipe σ own → Q σ' H) → gg v σ H Q
def Exacts (own : List Nat) (P : Pm) (K : PySem.W.Frag) (mg : Str → Option Value) (g : Tgs) (gg : TGs) : Prop := ∀ μ S H L σ ds vs L' S', SR K mg μ S H → SL K μ H L σ → RDs K μ H ds vs → asgs P g ds L S = some (L', S') →
  S' = S ∧ ∀ Q, (∀ σ', SL K μ H L' σ' → wipe σ' own = wipe σ own → Q σ' H) → gg vs σ H Q
theorem exact_name (F : Fine X P c k) {own : List Nat} {y : Str} {pos : Pos} {i : Nat} (h : cT (n + 1) c (.Name y pos) = some (.nm i)) (ho : own.contains i = true) : PG X (.Name y pos) (gName i) ∧ Exact own P X.K X.mg (.nm i) (gName i) := by
  refine ⟨?_, fun μ S H L σ d v L' S' sr sl rp rd e => ?_⟩
  · have h0 : (if nameOk y = true then (match c.names.lookup y with
      | some .local => (idx c.N y).map Tg.nm
      | some .cell => if c.fcell.contains y then (idx c.N y).map Tg.nm else none
      | _ => none) else none) = some (.nm i) := h
    by_cases h1 : nameOk y = true
    · rw [if_pos h1] at h0
      cases q : c.names.lookup y with
      | none => rw [q] at h0; cases h0
      | some kd =>
        rw [q] at h0
        have hq : X.env.scope.names.lookup y = some kd := by rw [F.names]; exact q
        cases kd with
        | «local» =>
          obtain ⟨j, hi, hj⟩ := Option.map_eq_some_iff.mp h0
          cases hj
          exact pg_name F.nd (F.slot hi) (.inl hq) (.inr hq)
        | cell =>
          dsimp only at h0
          by_cases hc : c.fcell.contains y = true
          · rw [if_pos hc] at h0
            obtain ⟨j, hi, hj⟩ := Option.map_eq_some_iff.mp h0
            cases hj
            exact pg_name F.nd (F.slot hi) (.inr hq) (.inl (F.fn y hc))
          · rw [if_neg hc] at h0; cases h0
        | _ => cases h0
    · rw [if_neg h1] at h0; cases h0
  · cases e
    exact ⟨rfl, fun Q q => q _ (sl.set i (rd rfl)) (wipe_set (List.contains_iff_mem.mp ho))⟩
def ggs : Tgs → TGs
  | .cons (.nm i) r => gCons (gName i) (ggs r)
  | _ => gNil
def tsLen : Tgs → Nat
  | .nil => 0
  | .cons _ r => tsLen r + 1
def ggOf (K : PySem.W.Frag) : Tg → TG
  | .nm i => gName i
  | .tp ts => gTup K (tsLen ts) (ggs ts)
  | _ => fun _ _ _ _ => False
theorem tsLen_ok : ∀ {n : Nat} {c : Cc} {es : List Expr} {ts : Tgs}, cTs n c es = some ts → es.length = tsLen ts
  | 0, _, _, _, h => by simp [cTs] at h
  | n + 1, c, [], ts, h => by cases h; rfl
  | n + 1, c, a :: es, ts, h => by
    obtain ⟨x1, y1, h1, h2, rfl⟩ := o2_ok (show o2 (cT n c a) (cTs n c es) .cons = some ts from h)
    exact congrArg (· + 1) (tsLen_ok h2)
theorem exact_names {own : List Nat} : ∀ {n : Nat} {es : List Expr} {ts : Tgs} (F : Fine X P c k), cTs n c es = some ts → nmsIn own ts = true → PGs X es (ggs ts) ∧ Exacts own P X.K X.mg ts (ggs ts)
  | 0, es, ts, F, h, ho => by simp [cTs] at h
  | n + 1, [], ts, F, h, ho => by
    cases h
    refine ⟨pgs_nil, fun μ S H L σ ds vs L' S' sr sl rs e => ?_⟩
    cases rs with
    | nil => cases e; exact ⟨rfl, fun Q q => ⟨rfl, q σ sl rfl⟩⟩
    | cons _ _ => cases e
  | n + 1, a :: es, ts, F, h, ho => by
    obtain ⟨x1, y1, h1, h2, rfl⟩ := o2_ok (show o2 (cT n c a) (cTs n c es) .cons = some ts from h)
    cases x1 with
    | nm i =>
      obtain ⟨ho1, ho2⟩ := Bool.and_eq_true_iff.mp (show (own.contains i && nmsIn own y1) = true from ho)
      obtain ⟨hg, hx⟩ := exact_names F h2 ho2
      cases n with
      | zero => simp [cT] at h1
      | succ m =>
        cases a with
        | Name y pos =>
          obtain ⟨pg, ex⟩ := exact_name F h1 ho1
          refine ⟨pgs_cons pg hg rfl, fun μ S H L σ ds vs L' S' sr sl rs e => ?_⟩
          cases rs with
          | nil => cases e
          | @cons d v ds vs r1 rs =>
            have e' : asgs P y1 ds (L.set i (some d)) S = some (L', S') := e
            obtain ⟨z1, z2⟩ := ex μ S H L σ d v _ S sr sl (.inl r1) (fun _ => r1) rfl
            have sl1 := sl.set i r1
            obtain ⟨z3, z4⟩ := hx μ S H _ _ ds vs L' S' sr sl1 rs e'
            refine ⟨z3, fun Q q => ⟨v, vs, rfl, z4 Q fun σ' s1 s2 => q σ' s1 (s2.trans (wipe_set (List.contains_iff_mem.mp ho1)))⟩⟩
        | Tuple es' kk pos =>
          obtain ⟨_, _, z⟩ := Option.map_eq_some_iff.mp (show (cTs m c es').map Tg.tp = some (.nm i) from h1)
          cases z
        | Subscript o ix pos =>
          have z : (if isSlice ix = true then none else o2 (cE m c o) (cE m c ix) Tg.sub) = some (.nm i) := h1
          cases q : isSlice ix with
          | true => rw [q] at z; cases z
          | false =>
            rw [q, if_neg Bool.false_ne_true] at z
            obtain ⟨_, _, _, _, z2⟩ := o2_ok z
            cases z2
        | Attribute o f pos =>
          have z : (if c.flds.contains f then (cE m c o).map fun x => Tg.fld x f else none) = some (.nm i) := h1
          by_cases hc : c.flds.contains f = true
          · rw [if_pos hc] at z
            obtain ⟨_, _, z2⟩ := Option.map_eq_some_iff.mp z
            cases z2
          · rw [if_neg hc] at z; cases z
        | _ => cases h1
    | tp _ => cases ho
    | sub _ _ => cases ho
    | fld _ _ => cases ho
theorem exact_tg (F : Fine X P c k) {own : List Nat} {tg : Expr} {g : Tg} (h : cT (n + 1) c tg = some g) (ho : lcTg own g = true) : PG X tg (ggOf X.K g) ∧ Exact own P X.K X.mg g (ggOf X.K g) := by
  cases tg with
  | Name y pos =>
    cases g with
    | nm i => exact exact_name F h ho
    | sub _ _ => cases ho
    | fld _ _ => cases ho
    | tp ts =>
      have h0 : (if nameOk y = true then (match c.names.lookup y with
        | some .local => (idx c.N y).map Tg.nm
        | some .cell => if c.fcell.contains y then (idx c.N y).map Tg.nm else none
        | _ => none) else none) = some (.tp ts) := h
      split at h0
      · split at h0
        · obtain ⟨_, _, z⟩ := Option.map_eq_some_iff.mp h0; cases z
        · split at h0
          · obtain ⟨_, _, z⟩ := Option.map_eq_some_iff.mp h0; cases z
          · cases h0
        · cases h0
      · cases h0
  | Tuple es kk0 pos =>
    obtain ⟨ts, h1, rfl⟩ := Option.map_eq_some_iff.mp (show (cTs n c es).map Tg.tp = some g from h)
    obtain ⟨hg, hx⟩ := exact_names F h1 ho
    obtain ⟨l1, l2⟩ := cTs_each (env := X.env) h1
    refine ⟨pg_tup F.calm hg (l1.trans (tsLen_ok h1)) l2, fun μ S H L σ d v L' S' sr sl rp _ e => ?_⟩
    have key : ∃ ds vs a, d = .tup ds ∧ v = .ref a ∧ SqT X.K H a vs ∧ RDs X.K μ H ds vs := by
      rcases rp with rp | rp
      · cases rp with
        | tup h1 h2 => exact ⟨_, _, _, rfl, rfl, h1.sq, h2⟩
        | _ => cases e
      · exact rp
    obtain ⟨ds, vs, a, rfl, rfl, hs, rs⟩ := key
    have e' : asgs P ts ds L S = some (L', S') := e
    obtain ⟨z1, z2⟩ := hx μ S H L σ ds vs L' S' sr sl rs e'
    exact ⟨z1, fun Q q => ⟨a, vs, rfl, hs, by rw [← rs.length]; exact (asg_len P h1 e').trans (tsLen_ok h1), z2 Q q⟩⟩
  | Subscript o ix pos =>
    have z : (if isSlice ix = true then none else o2 (cE n c o) (cE n c ix) Tg.sub) = some g := h
    cases q : isSlice ix with
    | true => rw [q] at z; cases z
    | false =>
      rw [q, if_neg Bool.false_ne_true] at z
      obtain ⟨_, _, _, _, rfl⟩ := o2_ok z
      cases ho
  | Attribute o f pos =>
    have z : (if c.flds.contains f then (cE n c o).map fun x => Tg.fld x f else none) = some g := h
    by_cases hc : c.flds.contains f = true
    · rw [if_pos hc] at z
      obtain ⟨_, _, rfl⟩ := Option.map_eq_some_iff.mp z
      cases ho
    · rw [if_neg hc] at z; cases z
  | _ => cases h
end
end Dy

namespace Dy
open PySem PySem.Spec PyProof.Rows L2
section
variable {X : Cx} {P : Pm} {c : Cc} {k n : Nat} {W : WX}
theorem idx_own : ∀ {N : List Str} {names : List (Str × NameKind)} {own : List (Str × Nat)}, ownOf N names = some own → True := fun _ => trivial
theorem blk_ok (F : Fine X P c k) {scope : Scope} {own : List (Str × Nat)} (h1 : scope.kind = .function) (h2 : blkB c.N c.names scope.names own = true) : BlkOk X.N X.env.scope scope own := by
  unfold blkB at h2
  obtain ⟨b1, h2⟩ := Bool.and_eq_true_iff.mp h2
  obtain ⟨b2, h2⟩ := Bool.and_eq_true_iff.mp h2
  obtain ⟨b3, b4⟩ := Bool.and_eq_true_iff.mp h2
  refine ⟨h1, fun y hy => of_decide_eq_true (List.all_eq_true.mp b1 y hy), fun p hp => by rw [F.N]; exact of_decide_eq_true (List.all_eq_true.mp b2 p hp), fun y hy hf => ?_, fun y hy hl => ?_⟩
  · have z := List.all_eq_true.mp b3 y hy
    rw [F.names]
    rcases Bool.or_eq_true_iff.mp z with z | z
    · rw [hf] at z
      simp at z
    · rcases Bool.or_eq_true_iff.mp z with z | z
      · exact .inl (of_decide_eq_true z)
      · exact .inr (of_decide_eq_true z)
  · have z := List.all_eq_true.mp b4 y hy
    rcases Bool.or_eq_true_iff.mp z with z | z
    · have z2 : (decide (y.2 = .local) || decide (y.2 = .cell)) = true := by
        rcases hl with q | q
        · rw [q]; rfl
        · rw [q]; rfl
      rw [z2] at z
      cases z
    · rcases Bool.or_eq_true_iff.mp z with z | z
      · exact .inl (List.contains_iff_mem.mp z)
      · refine .inr fun hm => ?_
        have hc : c.N.contains y.1 = true := List.contains_iff_mem.mpr (by rw [← F.N]; exact hm)
        rw [hc] at z
        cases z
theorem rel_names {names : List (Str × NameKind)} {env : Env} (hk : env.scope.kind = .function) : (names.map fun (x : Str × NameKind) => match x with
    | (n, k) => if (k == .free && env.scope.kind == .function && env.kindOf n == some .cell) then (n, .cell) else (n, k)) = relNames names env.scope.names := by
  unfold relNames
  refine List.map_congr_left fun a _ => ?_
  obtain ⟨a, b⟩ := a
  have e : (env.scope.kind == ScopeKind.function) = true := by rw [hk]; rfl
  show (if (b == .free && env.scope.kind == .function && env.kindOf a == some .cell) = true then (a, NameKind.cell) else (a, b)) = _
  rw [e, Bool.and_true]
  rfl
theorem Fine.blk (F : Fine X P c k) {scope : Scope} (h1 : scope.kind = .function) (s : Shared) (H : Hp) (C : Addr) (cl : List (Str × Addr)) (fp : List Addr) : Fine (X.blk s H scope (compEnvC scope cl C X.env) fp) P (c.inner scope.names) k where
  N := F.N
  names := by
    show (relabel scope X.env).names = relNames scope.names c.names
    rw [← F.names]
    exact rel_names F.kind
  nd := F.nd
  kind := h1
  fn := fun x hx => by
    have hx' : x ∈ (cellsOf scope.names).filter fun x => decide (scope.names.lookup x = some .cell) := List.contains_iff_mem.mp hx
    have := of_decide_eq_true (List.mem_filter.mp hx').2
    show (scope.names.lookup x == some .cell) = true
    rw [this]
    rfl
  calm := F.calm
  room := F.room
  pass := PassesOwn.never
  stk := fun h => by cases h
  g := ⟨F.g.con, F.g.fn, F.g.fds, F.g.mts, F.g.mex, F.g.mak, F.g.exc, F.g.sub, F.g.hcl, F.g.kd, F.g.kex, F.g.bi, F.g.ty, F.g.isi, F.g.rng, F.g.enu⟩
def enT : Ie → Bool
  | .enum _ => true
  | _ => false
theorem en_ev {i : Ie} {L : Lo} {S S1 : Sto} {w : Wk} (h : evi P i L S = some (.val w, S1)) : enW w = true → enT i = true := fun hw => by
  have bindv : ∀ {α β : Type} {m : Out α} {f : α → Sto → Out β} {b : β} {S1 : Sto}, m.andThen f = some (.val b, S1) → ∃ a S0, f a S0 = some (.val b, S1) := fun {α β m f b S1} h => by
    cases m with
    | none => cases h
    | some z =>
      obtain ⟨r, S0⟩ := z
      cases r with
      | val a => exact ⟨a, S0, h⟩
      | exc _ _ => cases h
  cases i with
  | enum e => rfl
  | seq e =>
    obtain ⟨d, S0, h1⟩ := bindv h
    obtain ⟨w', h2, h3, _⟩ := optO_some h1
    cases h3
    cases d <;> (try (obtain ⟨_, _, rfl⟩ := Option.map_eq_some_iff.mp h2; cases hw)) <;> cases h2 <;> cases hw
  | rng1 e =>
    obtain ⟨d, S0, h1⟩ := bindv h
    cases d with
    | int j =>
      have h1' : (if small62 j = true then some (Res.val (Wk.rg 0 j.toNat), S0) else none) = some (Res.val w, S1) := h1
      by_cases c : small62 j = true
      · rw [if_pos c] at h1'; cases h1'; cases hw
      · rw [if_neg c] at h1'; cases h1'
    | _ => cases h1
  | rng2 a b =>
    obtain ⟨d, S0, h1⟩ := bindv h
    obtain ⟨d2, S2, h2⟩ := bindv h1
    cases d with
    | int i =>
      cases d2 with
      | int j =>
        have h1' : (if (small62 i && small62 j) = true then some (Res.val (Wk.rg i (j - i).toNat), S2) else none) = some (Res.val w, S1) := h2
        by_cases c : (small62 i && small62 j) = true
        · rw [if_pos c] at h1'; cases h1'; cases hw
        · rw [if_neg c] at h1'; cases h1'
      | _ => cases h2
    | _ => cases d2 <;> cases h2
theorem en_tg {tg iter : Expr} {i : Ie} (h : cI n c tg iter = some i) (hi : enT i = true) : isTupE tg = true := by
  cases n with
  | zero => simp [cI] at h
  | succ n =>
    simp only [cI] at h
    cases q1 : asCall1 "range" iter with
    | some a =>
      rw [q1] at h
      dsimp only at h
      by_cases hg : glob c "range" = true
      · rw [if_pos hg] at h
        obtain ⟨y, h1, rfl⟩ := Option.map_eq_some_iff.mp h
        cases hi
      · rw [if_neg hg] at h; cases h
    | none =>
      rw [q1] at h
      cases q2 : asCall2 "range" iter with
      | some ab =>
        obtain ⟨a, b⟩ := ab
        rw [q2] at h
        dsimp only at h
        by_cases hg : glob c "range" = true
        · rw [if_pos hg] at h
          obtain ⟨y, z, h1, h2, rfl⟩ := o2_ok h
          cases hi
        · rw [if_neg hg] at h; cases h
      | none =>
        rw [q2] at h
        cases q3 : asCall1 "enumerate" iter with
        | some a =>
          rw [q3] at h
          dsimp only at h
          by_cases hg : (glob c "enumerate" && isTupE tg) = true
          · exact (Bool.and_eq_true_iff.mp hg).2
          · rw [if_neg hg] at h; cases h
        | none =>
          rw [q3] at h
          obtain ⟨y, h1, rfl⟩ := Option.map_eq_some_iff.mp h
          cases hi
theorem tup_tg {n : Nat} {c : Cc} {tg : Expr} {g : Tg} (h : cT n c tg = some g) (ht : isTupE tg = true) : tupTg g = true := by
  cases n with
  | zero => simp [cT] at h
  | succ n =>
    cases tg with
    | Tuple es kk pos =>
      obtain ⟨ts, _, rfl⟩ := Option.map_eq_some_iff.mp (show (cTs n c es).map Tg.tp = some g from h)
      rfl
    | _ => cases ht
theorem set_cI {tg : Expr} {es : List Expr} {kk : Nat} {pos : Pos} {i : Ie} (h : cI n c tg (.Set es kk pos) = some i) : False := by
  cases n with
  | zero => simp [cI] at h
  | succ n =>
    have h' : (cE n c (.Set es kk pos)).map Ie.seq = some i := h
    obtain ⟨y, h1, _⟩ := Option.map_eq_some_iff.mp h'
    cases n <;> cases h1
theorem no_fold {tg iter : Expr} {i : Ie} {env : Env} (h : cI n c tg iter = some i) (z : Value) : foldedSetIterable iter env z = pure z := by
  cases iter <;> first | rfl | exact (set_cI h).elim
theorem lc_core (F : Fine X P c k) {i : Ie} {g : Tg} {is : To} {x : E} {own : List Nat} {gg : TG} (hx : Exact own P X.K X.mg g gg) (hen : ∀ {L : Lo} {S S1 : Sto} {w : Wk}, evi P i L S = some (.val w, S1) → enW w = true → tupTg g = true)
    {σ : L2.St} {H : Hp} {Q : VK} (hq : tE X.K X.mg W (ev P (.lc x g i is own)) σ H Q) : tLc (tI X.K X.mg W (evi P i)) gg (tT X.K X.mg W0 (tsts P is)) (tE X.K X.mg W0 (ev P x)) own σ H Q := by
  obtain ⟨μ, S, L, r, S', sr, sl, e, kk⟩ := hq
  have e0 : ((evi P i L S).andThen fun w S1 => (loopF (lcStep w S1.length (fun d S2 => asg P g d (wipeL L own) S2) (fun L2 S2 => tsts P is L2 S2) (fun L2 S2 => ev P x L2 S2)) (0, S1 ++ [.lst []])).map fun S' => (Res.val (D.ref S1.length), S')) = some (r, S') := e
  have hen2 : ∀ {S1 : Sto} {w : Wk}, evi P i L S = some (.val w, S1) → enW w = true → tupTg g = true := fun h => hen h
  revert e0
  cases q0 : evi P i L S with
  | none => intro e0; cases e0
  | some z =>
  obtain ⟨r0, S1⟩ := z
  intro e0
  cases r0 with
  | exc cc fs =>
    cases e0
    exact ⟨μ, S, L, _, _, sr, sl, q0, kk⟩
  | val w =>
  have hw : enW w = true → tupTg g = true := hen2 q0
  obtain ⟨Sf, hl, hr⟩ := Option.map_eq_some_iff.mp (show (loopF (lcStep w S1.length (fun d S2 => asg P g d (wipeL L own) S2) (fun L2 S2 => tsts P is L2 S2) (fun L2 S2 => ev P x L2 S2)) (0, S1 ++ [.lst []])).map (fun S' => (Res.val (D.ref S1.length), S')) = some (r, S') from e0)
  cases hr
  refine ⟨μ, S, L, _, _, sr, sl, q0, fun μ1 H1 JJ p1 rw1 => ?_⟩
  have sr1 := p1.sr
  have sl1 := sl.mono p1.pre p1.tu
  have k1 := kk.mono p1
  intro D hD
  obtain ⟨N0, hN⟩ := loopF_n hl
  have pD : Post X.K X.mg μ1 H1 (μ1 ++ [D]) (S1 ++ [.lst []]) (upd H1 D (.lst [])) := .new sr1 hD ⟨[], upd_same, .nil⟩
  have hDix : (μ1 ++ [D])[S1.length]? = some D := by rw [← sr1.len]; simp
  refine ⟨fun t m H2 => ∃ μ2 S2, Post X.K X.mg μ1 H1 μ2 S2 H2 ∧ μ2[S1.length]? = some D ∧ loopN (lcStep w S1.length (fun d S2 => asg P g d (wipeL L own) S2) (fun L2 S2 => tsts P is L2 S2) (fun L2 S2 => ev P x L2 S2)) m (t, S2) = some S', ⟨N0, _, _, pD, hDix, hN⟩, ?_⟩
  rintro t mm H2 ⟨μ2, S2, p2, hD2, hm⟩
  cases mm with
  | zero => cases hm
  | succ mm =>
    have rw2 := rw1.mono p2.pre p2.tu
    have sl2 := sl1.mono p2.pre p2.tu
    unfold loopN at hm
    cases q1 : w.at S2 t with
    | none =>
      have z : lcStep w S1.length (fun d S2 => asg P g d (wipeL L own) S2) (fun L2 S2 => tsts P is L2 S2) (fun L2 S2 => ev P x L2 S2) (t, S2) = none := by unfold lcStep; simp only [q1]
      rw [z] at hm; cases hm
    | some od =>
      cases od with
      | none =>
        have z : lcStep w S1.length (fun d S2 => asg P g d (wipeL L own) S2) (fun L2 S2 => tsts P is L2 S2) (fun L2 S2 => ev P x L2 S2) (t, S2) = some (.inr S2) := by unfold lcStep; simp only [q1]
        rw [z] at hm
        cases hm
        exact .inl ⟨rw2.stop p2.sr q1, (k1.mono p2).val (.refl p2.sr) (.ref hD2)⟩
      | some d =>
        obtain ⟨go, yl⟩ := rw2.go p2.sr q1
        refine .inr ⟨go, fun H' => ∃ μ' S'', Post X.K X.mg μ1 H1 μ' S'' H' ∧ μ'[S1.length]? = some D ∧ loopN (lcStep w S1.length (fun d S2 => asg P g d (wipeL L own) S2) (fun L2 S2 => tsts P is L2 S2) (fun L2 S2 => ev P x L2 S2)) mm (t + 1, S'') = some S', fun H' hh => ⟨mm, Nat.lt_succ_self mm, hh⟩, fun xv H3 yy => ?_⟩
        obtain ⟨p3, rp, rdw⟩ := yl xv H3 yy
        have slw := (sl2.mono p3.pre p3.tu).wipe own
        have rdn : tupTg g = false → RD X.K μ2 H3 d xv := fun hng => by
          cases hww : enW w with
          | false => exact rdw hww
          | true => rw [hw hww] at hng; cases hng
        unfold lcStep at hm
        simp only [q1] at hm
        cases q2 : asg P g d (wipeL L own) S2 with
        | none => simp only [q2] at hm; cases hm
        | some z =>
          obtain ⟨L2, S2'⟩ := z
          obtain ⟨rfl, z2⟩ := hx μ2 S2 H3 _ _ d xv L2 S2' p3.sr slw rp rdn q2
          simp only [q2] at hm
          refine z2 _ fun σ2 sl3 hwp => ⟨by rw [hwp, wipe_wipe], ?_⟩
          cases q3 : tsts P is L2 S2' with
          | none => simp only [q3] at hm; cases hm
          | some zz =>
            obtain ⟨rb, S3⟩ := zz
            cases rb with
            | exc cc fs => simp only [q3] at hm; cases hm
            | val b =>
              refine ⟨μ2, S2', L2, _, _, p3.sr, sl3, q3, fun μ4 H4 bb p4 hbb => ?_⟩
              subst hbb
              cases b with
              | false =>
                simp only [q3] at hm
                rw [if_neg Bool.false_ne_true]
                exact ⟨μ4, S3, (p2.trans p3).trans p4, p4.pre _ _ (p3.pre _ _ hD2), hm⟩
              | true =>
                simp only [q3] at hm
                rw [if_pos rfl]
                cases q4 : ev P x L2 S3 with
                | none => simp only [q4] at hm; cases hm
                | some ze =>
                  obtain ⟨re, S4⟩ := ze
                  cases re with
                  | exc cc fs => simp only [q4] at hm; cases hm
                  | val y =>
                    refine ⟨μ4, S3, L2, _, _, p4.sr, sl3.mono p4.pre p4.tu, q4, fun μ5 H5 yv p5 ry => ?_⟩
                    simp only [q4] at hm
                    have hD5 : μ5[S1.length]? = some D := p5.pre _ _ (p4.pre _ _ (p3.pre _ _ hD2))
                    cases q5 : S4[S1.length]? with
                    | none => simp only [q5] at hm; cases hm
                    | some ob =>
                      cases ob with
                      | lst acc =>
                        simp only [q5] at hm
                        by_cases hc : acc.length < sizeLine
                        · rw [if_pos hc] at hm
                          obtain ⟨us, h1, h2⟩ := p5.sr.obj _ D _ hD5 q5
                          have tw := Tu.write (o := .lst (us ++ [yv])) h1 (fun z => z)
                          refine ⟨us, h1, by rw [← h2.length]; exact hc, ?_⟩
                          have p6 : Post X.K X.mg μ5 H5 μ5 (S4.set S1.length (.lst (acc ++ [y]))) (upd H5 D (.lst (us ++ [yv]))) :=
                            .write p5.sr hD5 h1 (fun z => z) ⟨_, upd_same, (h2.append (.cons ry .nil)).mono (.refl _) tw⟩
                          exact ⟨μ5, _, (((p2.trans p3).trans p4).trans p5).trans p6, hD5, hm⟩
                        · rw [if_neg hc] at hm; cases hm
                      | _ => simp only [q5] at hm; cases hm
end
end Dy

namespace Dy
open PySem PySem.Spec PyProof.Rows L2
section
variable {X : Cx} {P : Pm} {c : Cc} {k n : Nat} {W : WX}
theorem snd_lc (I : Snd n) (F : Fine X P c k) (tk : Takes X W) {elt tg iter : Expr} {ifs : List Expr} {scope : Scope} {pos : Pos} {own : List (Str × Nat)} {i : Ie} {g : Tg} {is : To} {x : E} (hk : scope.kind = .function) (hb : blkB c.N c.names scope.names own = true)
    (hi : cI n c tg iter = some i) (hg : cT n (c.inner scope.names) tg = some g) (ho : lcTg (own.map (·.2)) g = true) (hf : cF n (c.inner scope.names) ifs = some is) (he : cE n (c.inner scope.names) elt = some x) :
    PE X (.ListComp elt [⟨tg, iter, ifs, 0⟩] scope pos) (tE X.K X.mg W (ev P (.lc x g i is (own.map (·.2))))) ∧
    ∀ {ix : Nat} {y : Str} {py spos : Pos}, X.N[ix]? = some y → X.env.scope.names.lookup y = some .local → swapsWith (.ListComp elt [⟨tg, iter, ifs, 0⟩] scope pos) (some (.Name y py)) spos.line X.env = pure true →
      PS X (.Assign [.Name y py] (.ListComp elt [⟨tg, iter, ifs, 0⟩] scope pos) spos) (tAsg (tE X.K X.mg W (ev P (.lc x g i is (own.map (·.2))))) (gName ix)) := by
  cases n with
  | zero => simp [cI] at hi
  | succ m =>
  have hG : ∀ (s : Shared) (H : Hp) (C : Addr) (cl : List (Str × Addr)) (fp : List Addr), PG (X.blk s H scope (compEnvC scope cl C X.env) fp) tg (ggOf X.K g) := fun s H C cl fp => (exact_tg (P := P) (k := k) (F.blk hk s H C cl fp) hg ho).1
  have hX : Exact (own.map (·.2)) P X.K X.mg g (ggOf X.K g) := (exact_tg (P := P) (k := k) (F.blk hk X.s_0 (fun _ => none) 0 [] []) hg ho).2
  have hT : ∀ (s : Shared) (H : Hp) (C : Addr) (cl : List (Str × Addr)) (fp : List Addr), PTs (X.blk s H scope (compEnvC scope cl C X.env) fp) ifs (tT X.K X.mg W0 (tsts P is)) := fun s H C cl fp => I.f (F.blk hk s H C cl fp) takesW0 hf
  have hE : ∀ (s : Shared) (H : Hp) (C : Addr) (cl : List (Str × Addr)) (fp : List Addr), PE (X.blk s H scope (compEnvC scope cl C X.env) fp) elt (tE X.K X.mg W0 (ev P x)) := fun s H C cl fp => I.e (F.blk hk s H C cl fp) takesW0 he
  have hen : ∀ {L : Lo} {S S1 : Sto} {w : Wk}, evi P i L S = some (.val w, S1) → enW w = true → tupTg g = true := fun h hw => tup_tg hg (en_tg hi (en_ev h hw))
  have core : ∀ (σ : L2.St) (H : Hp) (Q : VK), tE X.K X.mg W (ev P (.lc x g i is (own.map (·.2)))) σ H Q → tLc (tI X.K X.mg W (evi P i)) (ggOf X.K g) (tT X.K X.mg W0 (tsts P is)) (tE X.K X.mg W0 (ev P x)) (own.map (·.2)) σ H Q := fun σ H Q q => lc_core F hX hen q
  refine ⟨(pe_lc F.calm F.nd (I.i F tk hi) (blk_ok F hk hb) hG hT hE (no_fold hi)).imp core, fun {ix y py spos} h1 h2 h3 => ?_⟩
  have z := ps_setLc F.calm F.nd h1 h2 h3 (I.i F tk hi) (blk_ok F hk hb) hG hT hE (no_fold hi)
  exact ⟨fun pins s σ H D I0 q => z.run pins s σ H D I0 (core σ H _ q)⟩
/-! ### all expressions -/
theorem map_some {α β : Type} {f : α → β} {o : Option α} {b : β} (h : o.map f = some b) : ∃ a, o = some a ∧ b = f a := by
  cases o with
  | none => cases h
  | some a => cases h; exact ⟨a, rfl, rfl⟩
theorem snd_isi (F : Fine X P c k) {e : Expr} {p pt pos : Pos} {t : Str} {T : String} {x : E} (hgi : glob c "isinstance" = true) (hg : glob c t = true) (hT : isTys.find? (fun T => decide (Str.ofString T = t)) = some T) (hs : isStar e = false) (I : PE X e (tE X.K X.mg W (ev P x))) :
    PE X (.Call (.Name "isinstance" p) [e, .Name t pt] [] pos) (tE X.K X.mg W (ev P (.isi x [T]))) := by
  have hm : T ∈ isTys := List.mem_of_find?_eq_some hT
  have ht : Str.ofString T = t := by
    have := List.find?_some hT
    exact of_decide_eq_true this
  have hm2 : T ∈ tyNames ∧ T ≠ "NoneType" := by
    unfold isTys at hm
    simp only [List.mem_cons, List.not_mem_nil, or_false] at hm
    rcases hm with rfl | rfl | rfl | rfl | rfl | rfl <;> exact ⟨by decide, by decide⟩
  obtain ⟨b1, b2⟩ := boot_ty hm2.1 hm2.2
  subst ht
  have hty : PE X (.Name (Str.ofString T) pt) (tC (.ty T)) := pe_bltn (F.gl hg).1 (F.g.ty T (List.contains_iff_mem.mpr hm2.1)) b1 rfl b2 (F.gl hg).2
  have hA : PA X [e, .Name (Str.ofString T) pt] (tCons (tE X.K X.mg W (ev P x)) (tCons (tC (.ty T)) tNil)) := pa_cons I (pa_cons hty pa_nil rfl) (star_cons hs)
  refine (pe_callB call_isi (F.gl hgi).1 F.g.isi (by decide +kernel) hA (by decide) (F.gl hgi).2 (star_cons hs) rfl).imp fun σ H Q hh => ?_
  refine rd_one (R2 := RD X.K) (f := fun x S1 => optO S1 ((isD S1 x [T]).map D.bl)) hh fun μ S H d v r S' sr rx e kk => ?_
  obtain ⟨d1, e1, rfl, rfl⟩ := optO_some e
  obtain ⟨b, e2, rfl⟩ := map_some e1
  unfold isD at e2
  cases q : tyD S d with
  | none => simp only [q] at e2; cases e2
  | some ty =>
    simp only [q] at e2
    have hall : ([T].all fun c => tyNames.contains c) = true := by
      rw [List.all_cons, List.all_nil, Bool.and_true]
      exact List.contains_iff_mem.mpr hm2.1
    rw [if_pos hall] at e2
    have hb : b = isTy ty T := by
      have := Option.some.inj e2
      rw [← this, List.any_cons, List.any_nil, Bool.or_false]
    refine ⟨v, .ty T, .type ty, .type T, isTy ty T, rfl, .ty T, tyD_ok sr rx q, kit_ty (kit_all (tyD_mem q) hm2.1), ?_⟩
    rw [← hb]
    exact kk.val (.refl sr) (.bl _)
theorem snd_e (J : ∀ m, m ≤ n → Snd m) {ex : Expr} {x : E} (F : Fine X P c k) (tk : Takes X W) (h : cE (n + 1) c ex = some x) : PE X ex (tE X.K X.mg W (ev P x)) := by
  have I := J n (Nat.le_refl n)
  cases ex with
  | Constant v kk pos =>
    cases v with
    | int i => cases h; exact of_lit pe_int fun _ _ => .int i
    | bool b => cases h; exact of_lit pe_bl fun _ _ => .bl b
    | none => cases h; exact of_lit pe_non fun _ _ => .non
    | str z =>
      cases h
      refine of_lit pe_str fun _ _ => ?_
      have q := RD.str (K := X.K) (μ := ‹List Addr›) (H := ‹Hp›) z.cps.toList
      rw [stO_of] at q
      exact q
    | _ => cases h
  | Name y pos => exact snd_name F h
  | BinOp a op b pos =>
    obtain ⟨x1, y1, h1, h2, rfl⟩ := o2_ok (show o2 (cE n c a) (cE n c b) (E.bin op) = some x from h)
    refine (pe_op op_any (I.e F tk h1) (I.e F tk h2)).imp fun σ H Q hh => ?_
    exact rd_two (R2 := RD X.K) (f := fun x y S2 => binD op x y S2) hh fun μ S H x y v w r S' sr rx ry e kk => binD_ok sr rx ry e kk
  | UnaryOp op a pos =>
    cases op with
    | USub =>
      obtain ⟨y, h1, rfl⟩ := map_some (show (cE n c a).map E.neg = some x from h)
      refine (pe_un un_neg (I.e F tk h1)).imp fun σ H Q hh => ?_
      refine rd_one (R2 := RD X.K) (f := fun x S1 => match x with
        | .int i => some (.val (.int (-i)), S1)
        | _ => none) hh fun μ S H d v r S' sr rx e kk => ?_
      cases rx with
      | int i => cases e; exact ⟨i, rfl, kk.val (.refl sr) (.int _)⟩
      | _ => cases e
    | Not =>
      obtain ⟨y, h1, rfl⟩ := map_some (show (cE n c a).map E.nt = some x from h)
      refine (pe_notT (I.e F tk h1)).imp fun σ H Q hh => ?_
      refine rd_one (R2 := RD X.K) (f := fun x S1 => optO S1 ((truD S1 x).map fun c => D.bl (!c))) hh fun μ S H d v r S' sr rx e kk => ?_
      obtain ⟨d1, e1, rfl, rfl⟩ := optO_some e
      obtain ⟨b, e2, rfl⟩ := map_some e1
      exact ⟨b, truD_ok sr rx e2, kk.val (.refl sr) (.bl _)⟩
    | _ => cases h
  | BoolOp op vs pos => exact I.b F tk (show cB n c op vs = some x from h)
  | IfExp t a b pos =>
    obtain ⟨x1, y1, z1, h1, h2, h3, rfl⟩ := o3_ok (show o3 (cQ n c t) (cE n c a) (cE n c b) E.ite = some x from h)
    refine (pe_ifExp (I.q F tk h1) (I.e F tk h2) (I.e F tk h3)).imp fun σ H Q ⟨μ, S, L, r, S', sr, sl, e, kk⟩ => ?_
    refine rd_fst sr sl e kk fun b S1 μ1 H1 v e1 sr1 sl1 p1 t1 rx k1 => ?_
    subst rx
    cases b with
    | true => exact ⟨μ1, S1, L, r, S', sr1, sl1, e1, k1⟩
    | false => exact ⟨μ1, S1, L, r, S', sr1, sl1, e1, k1⟩
  | Compare a ops cs pos => exact (snd_compare I F tk h).1
  | Tuple es kk pos =>
    obtain ⟨y, h1, rfl⟩ := map_some (show (cEs n c es).map E.tup = some x from h)
    refine (pe_tupF (I.es F tk h1)).imp fun σ H Q hh => ?_
    refine rd_args (R2 := RD X.K) (f := fun ds S1 => if ds.length ≤ sizeLine then some (.val (.tup ds), S1) else none) hh fun μ S H ds vs r S' sr rx e kk => ?_
    by_cases hc : ds.length ≤ sizeLine
    · rw [if_pos hc] at e
      cases e
      exact ⟨by rw [← rx.length]; exact hc, fun p o hp hd => kk.val (.side sr hp) (.tup (.new hd) (rx.mono (.refl _) (.new hp)))⟩
    · rw [if_neg hc] at e; cases e
  | List es pos =>
    obtain ⟨y, h1, rfl⟩ := map_some (show (cEs n c es).map E.lst = some x from h)
    refine (pe_lst (I.es F tk h1)).imp fun σ H Q hh => ?_
    refine rd_args (R2 := RD X.K) (f := fun ds S1 => if ds.length ≤ sizeLine then some (.val (.ref S1.length), S1 ++ [O.lst ds]) else none) hh fun μ S H ds vs r S' sr rx e kk => ?_
    by_cases hc : ds.length ≤ sizeLine
    · rw [if_pos hc] at e
      cases e
      exact ⟨by rw [← rx.length]; exact hc, fun p hp => kk.val (.new sr hp ⟨_, upd_same, rx.mono .snoc (.new hp)⟩) (.newRef sr)⟩
    · rw [if_neg hc] at e; cases e
  | Subscript a i pos =>
    have plain : isSlice i = false → (if isSlice i = true then none else match kdOf c a with
      | some x => (cE n c i).map (E.kix x)
      | none => o2 (cE n c a) (cE n c i) E.ix) = some x → PE X (.Subscript a i pos) (tE X.K X.mg W (ev P x)) := fun hi h => by
      rw [hi, if_neg Bool.false_ne_true] at h
      cases qk : kdOf c a with
      | some xx =>
        rw [qk] at h
        obtain ⟨y, h1, rfl⟩ := map_some h
        obtain ⟨p, rfl, g1, g2⟩ := kdOf_ok qk
        exact snd_kix F g1 g2 hi (I.e F tk h1)
      | none =>
      rw [qk] at h
      obtain ⟨x1, y1, h1, h2, rfl⟩ := o2_ok h
      refine (pe_ix ix_any (I.e F tk h1) (I.e F tk h2) (plainIx hi)).imp fun σ H Q hh => ?_
      refine rd_two (R2 := RD X.K) (f := fun x y S2 => optO S2 (ixD x y S2)) hh fun μ S H x y v w r S' sr rx ry e kk => ?_
      obtain ⟨d, e1, rfl, rfl⟩ := optO_some e
      exact ixD_ok sr rx ry e1 fun u ru => kk.val (.refl sr) ru
    cases i with
    | Slice lo hi st p2 =>
      cases st with
      | some _ => cases h
      | none =>
        obtain ⟨x1, y1, z1, h1, h2, h3, rfl⟩ := o3_ok (show o3 (cE n c a) (cO n c lo) (cO n c hi) E.sl = some x from h)
        refine (pe_slice sl_any (I.e F tk h1) (I.o F tk h2) (I.o F tk h3)).imp fun σ H Q ⟨μ, S, L, r, S', sr, sl, e, kk⟩ => ?_
        refine rd_fst sr sl e kk fun d S1 μ1 H1 v e1 sr1 sl1 p1 t1 rx k1 => rd_fst sr1 sl1 e1 k1 fun l S2 μ2 H2 l' e2 sr2 sl2 p2 t2 ry k2 => rd_fst sr2 sl2 e2 k2 fun h S3 μ3 H3 h' e3 sr3 sl3 p3 t3 rz k3 => ?_
        subst ry
        subst rz
        exact slD_ok sr3 ((rx.mono p2 t2).mono p3 t3) e3 k3
    | _ => exact plain rfl h
  | Attribute o f pos =>
    have h0 : (if (abOk o && c.flds.contains f) = true then (cE n c o).map fun x => E.fld x f else none) = some x := h
    by_cases hg : (abOk o && c.flds.contains f) = true
    · rw [if_pos hg] at h0
      obtain ⟨y, h1, rfl⟩ := map_some h0
      exact snd_fld F (Bool.and_eq_true_iff.mp hg).1 (I.e F tk h1)
    · rw [if_neg hg] at h0; cases h0
  | Call f args kws pos =>
    cases kws with
    | cons _ _ => cases f <;> cases h
    | nil =>
      cases f with
      | Name y p =>
        have h0 : (if glob c y then
          if y = "isinstance" then (isiArg c args).bind fun q => (cE n c q.1).map fun x => .isi x [q.2]
          else if c.fns.contains (y, args.length) then (cEs n c args).map (.call y)
          else if c.cls.contains (y, args.length) then (cEs n c args).map (.mk y)
          else if biNames.contains y && !args.isEmpty then (cEs n c args).map (.bi y)
          else none
          else none : Option E) = some x := h
        by_cases hg : glob c y = true
        · rw [if_pos hg] at h0
          by_cases hi : y = "isinstance"
          · rw [if_pos hi] at h0
            subst hi
            obtain ⟨⟨e0, T⟩, h1, h2⟩ := Option.bind_eq_some_iff.mp h0
            obtain ⟨t, pt, rfl, hgt, hT⟩ := isiArg_ok h1
            obtain ⟨z, h3, rfl⟩ := map_some h2
            exact snd_isi F hg hgt hT (cE_star h3) (I.e F tk h3)
          · rw [if_neg hi] at h0
            by_cases hf : c.fns.contains (y, args.length) = true
            · rw [if_pos hf] at h0
              obtain ⟨z, h1, rfl⟩ := map_some h0
              exact snd_call F tk hg hf h1 (I.es F tk h1)
            · rw [if_neg hf] at h0
              by_cases hcl : c.cls.contains (y, args.length) = true
              · rw [if_pos hcl] at h0
                obtain ⟨z, h1, rfl⟩ := map_some h0
                exact snd_mk F tk hg hcl h1 (I.es F tk h1)
              rw [if_neg hcl] at h0
              by_cases hb : (biNames.contains y && !args.isEmpty) = true
              · rw [if_pos hb] at h0
                obtain ⟨hb1, hb2⟩ := Bool.and_eq_true_iff.mp hb
                obtain ⟨z, h1, rfl⟩ := map_some h0
                cases args with
                | nil => cases hb2
                | cons a as =>
                  cases n with
                  | zero => simp [cEs] at h1
                  | succ m =>
                    obtain ⟨x1, y1, h3, h4, rfl⟩ := o2_ok (show o2 (cE m c a) (cEs m c as) .cons = some z from h1)
                    exact snd_bi F hg hb1 (star_cons (cE_star h3)) (cEs_plain h4) (I.es F tk h1)
              · rw [if_neg hb] at h0; cases h0
        · rw [if_neg hg] at h0; cases h0
      | Attribute o m apos =>
        have h0 : (if (abOk o && (apos.endLine == pos.line) && decide (args.length < 20)) = true then
          if (bmNames.contains m && !args.isEmpty) = true then o2 (cE n c o) (cEs n c args) (.bm m)
          else if c.mets.contains (m, args.length) then o2 (cE n c o) (cEs n c args) (.meth m)
          else none
          else none : Option E) = some x := h
        by_cases hg : (abOk o && (apos.endLine == pos.line) && decide (args.length < 20)) = true
        · rw [if_pos hg] at h0
          obtain ⟨hg1, hg2⟩ := Bool.and_eq_true_iff.mp hg
          obtain ⟨hg3, hg4⟩ := Bool.and_eq_true_iff.mp hg1
          by_cases hb : (bmNames.contains m && !args.isEmpty) = true
          · rw [if_pos hb] at h0
            obtain ⟨hb1, hb2⟩ := Bool.and_eq_true_iff.mp hb
            obtain ⟨z, z2, h1, h2, rfl⟩ := o2_ok h0
            cases args with
            | nil => cases hb2
            | cons a as =>
              cases n with
              | zero => simp [cEs] at h2
              | succ q =>
                obtain ⟨x1, y1, h3, h4, rfl⟩ := o2_ok (show o2 (cE q c a) (cEs q c as) .cons = some z2 from h2)
                exact snd_bm F hb1 hg3 hg4 (of_decide_eq_true hg2) (star_cons (cE_star h3)) (cEs_plain h4) (cEs_all h2) (I.e F tk h1) (I.es F tk h2)
          · rw [if_neg hb] at h0
            by_cases hme : c.mets.contains (m, args.length) = true
            · rw [if_pos hme] at h0
              obtain ⟨z, z2, h1, h2, rfl⟩ := o2_ok h0
              exact snd_meth F tk hme hg3 hg4 (of_decide_eq_true hg2) h2 (I.e F tk h1) (I.es F tk h2)
            · rw [if_neg hme] at h0; cases h0
        · rw [if_neg hg] at h0; cases h0
      | _ => cases h
  | ListComp elt gens scope pos =>
    cases gens with
    | nil => cases h
    | cons gen gens =>
      cases gens with
      | cons _ _ =>
        obtain ⟨_, _, _, ia⟩ := gen
        cases ia with
        | ofNat m => cases m <;> cases h
        | negSucc m => cases h
      | nil =>
        obtain ⟨tg, iter, ifs, ia⟩ := gen
        by_cases hia : ia = 0
        · subst hia
          have h0 : (match ownOf c.N scope.names with
            | none => none
            | some own => if (decide (scope.kind = .function) && blkB c.N c.names scope.names own) = true then
                (cI n c tg iter).bind fun i => (cT n (c.inner scope.names) tg).bind fun g => if lcTg (own.map (·.2)) g = false then none else (cF n (c.inner scope.names) ifs).bind fun is => (cE n (c.inner scope.names) elt).map fun x => .lc x g i is (own.map (·.2))
              else none : Option E) = some x := h
          cases q : ownOf c.N scope.names with
          | none => rw [q] at h0; cases h0
          | some own =>
            rw [q] at h0
            dsimp only at h0
            by_cases hb : (decide (scope.kind = .function) && blkB c.N c.names scope.names own) = true
            · rw [if_pos hb] at h0
              obtain ⟨hb1, hb2⟩ := Bool.and_eq_true_iff.mp hb
              obtain ⟨i, hi, h0⟩ := Option.bind_eq_some_iff.mp h0
              obtain ⟨g, hg, h0⟩ := Option.bind_eq_some_iff.mp h0
              by_cases ho : lcTg (own.map (·.2)) g = false
              · rw [if_pos ho] at h0; cases h0
              · rw [if_neg ho] at h0
                obtain ⟨is, hf, h0⟩ := Option.bind_eq_some_iff.mp h0
                obtain ⟨z, he, rfl⟩ := map_some h0
                exact (snd_lc I F tk (of_decide_eq_true hb1) hb2 hi hg (by simpa using ho) hf he).1
            · rw [if_neg hb] at h0; cases h0
        · exfalso
          cases ia with
          | ofNat m =>
            cases m with
            | zero => exact hia rfl
            | succ m => cases h
          | negSucc m => cases h
  | _ => cases h
theorem snd : ∀ n, Snd n := by
  have main : ∀ n m, m ≤ n → Snd m := by
    intro n
    induction n with
    | zero =>
      intro m hm
      have e : m = 0 := Nat.le_zero.mp hm
      subst e
      exact ⟨fun _ _ h => by simp [cE] at h, fun _ _ h => by simp [cB] at h, fun _ _ h => by simp [cQ] at h, fun _ _ h => by simp [cQB] at h, fun _ _ h => by simp [cF] at h, fun _ _ h => by simp [cEs] at h, fun _ _ h => by simp [cO] at h, fun _ _ h => by simp [cI] at h, fun _ h => by simp [cT] at h, fun _ h => by simp [cTs] at h⟩
    | succ n ih =>
      intro m hm
      by_cases e : m ≤ n
      · exact ih m e
      · have e : m = n + 1 := by omega
        subst e
        have I := ih n (Nat.le_refl n)
        exact ⟨snd_e ih, snd_b I, snd_q ih, snd_qb I, snd_f I, snd_es I, snd_o I, snd_i I, snd_g I, snd_gs I⟩
  exact fun n => main n n (Nat.le_refl n)
end
end Dy

namespace Dy
open PySem PySem.Spec PyProof.Rows L2
/-! ### statements -/
/-! what an except suite says -/
mutual
inductive HE where
  | lit (d : D) | var (i : Nat) | fld (f : Str) | tup (es : HEs) | cmp (op : CmpOp) (a b : HE)
inductive HEs where
  | nil | cons (e : HE) (r : HEs)
end
inductive HT where
  | isi (c : Str) | nt (t : HT) | and (t u : HT) | or (t u : HT) | of (e : HE)
mutual
inductive HC where
  | iff (t : HT) (a b : HCs) | ret (e : HE) | retn | pass
inductive HCs where
  | nil | cons (s : HC) (r : HCs)
end
mutual
inductive C where
  | ex (e : E) | asg (t : Tg) (e : E) | aug (i : Nat) (op : Operator) (e : E) | augf (o : E) (f : Str) (op : Operator) (e : E) | ret (e : E) | retn
  | iff (t : T) (a b : Cs) | whl (t : T) (b : Cs) | fr (g : Tg) (it : Ie) (b : Cs) | pass | brk | cont | stop | raise (c : Str) (e : E) | par (i j : Nat) (a b : E) | tryx (b : Cs) (y : Str) (i : Option Nat) (h : HCs)
inductive Cs where
  | nil | cons (s : C) (r : Cs)
end
def augD (op : Operator) (x y : D) : Option D := match op, x, y with
  | .Add, .int i, .int j => some (.int (i + j))
  | .Add, .str a, .str b => if a.length + b.length ≤ sizeLine then some (.str (a ++ b)) else none
  | .Sub, .int i, .int j => some (.int (i - j))
  | _, _, _ => none
def valS {α : Type} (L : Lo) (m : Out α) (f : α → Sto → OutS) : OutS := match m with
  | none => none
  | some (.exc c fs, S1) => some (.exc c fs, L, S1)
  | some (.val d, S1) => f d S1
/-- one turn of a while, of a for -/
def whStep (t : Lo → Sto → Out Bool) (body : Lo → Sto → OutS) (q : Lo × Sto) : Option ((Lo × Sto) ⊕ (Fl × Lo × Sto)) := match t q.1 q.2 with
  | none => none
  | some (.exc c fs, S1) => some (.inr (.exc c fs, q.1, S1))
  | some (.val false, S1) => some (.inr (.nx, q.1, S1))
  | some (.val true, S1) => match body q.1 S1 with
    | none => none
    | some (.nx, L2, S2) => some (.inl (L2, S2))
    | some (.ct, L2, S2) => some (.inl (L2, S2))
    | some (.bk, L2, S2) => some (.inr (.nx, L2, S2))
    | some (.rt d, L2, S2) => some (.inr (.rt d, L2, S2))
    | some (.exc c fs, L2, S2) => some (.inr (.exc c fs, L2, S2))
def frStep (w : Wk) (tg : D → Lo → Sto → Option (Lo × Sto)) (body : Lo → Sto → OutS) (q : Nat × Lo × Sto) : Option ((Nat × Lo × Sto) ⊕ (Fl × Lo × Sto)) := match w.at q.2.2 q.1 with
  | none => none
  | some none => some (.inr (.nx, q.2.1, q.2.2))
  | some (some d) => match tg d q.2.1 q.2.2 with
    | none => none
    | some (L1, S1) => match body L1 S1 with
      | none => none
      | some (.nx, L2, S2) => some (.inl (q.1 + 1, L2, S2))
      | some (.ct, L2, S2) => some (.inl (q.1 + 1, L2, S2))
      | some (.bk, L2, S2) => some (.inr (.nx, L2, S2))
      | some (.rt d, L2, S2) => some (.inr (.rt d, L2, S2))
      | some (.exc c fs, L2, S2) => some (.inr (.exc c fs, L2, S2))
/-! ### an except suite: cls, fs what is handled -/
mutual
def hE (fs : List (Str × D)) (S : Sto) : HE → Lo → Option D
  | .lit d, _ => some d
  | .var i, L => match L[i]? with
    | some (some d) => some d
    | _ => none
  | .fld f, _ => fs.lookup f
  | .tup es, L => match hEs fs S es L with
    | some ds => if ds.length ≤ sizeLine then some (.tup ds) else none
    | none => none
  | .cmp op a b, L => match hE fs S a L, hE fs S b L with
    | some x, some y => (cmpD op S x y).map .bl
    | _, _ => none
def hEs (fs : List (Str × D)) (S : Sto) : HEs → Lo → Option (List D)
  | .nil, _ => some []
  | .cons e r, L => match hE fs S e L, hEs fs S r L with
    | some d, some ds => some (d :: ds)
    | _, _ => none
end
def hT (P : Pm) (cls : Str) (fs : List (Str × D)) (S : Sto) : HT → Lo → Option Bool
  | .isi c, _ => P.sub cls c
  | .nt t, L => (hT P cls fs S t L).map (!·)
  | .and t u, L => match hT P cls fs S t L with
    | some true => hT P cls fs S u L
    | o => o
  | .or t u, L => match hT P cls fs S t L with
    | some false => hT P cls fs S u L
    | o => o
  | .of e, L => match hE fs S e L with
    | some d => truD S d
    | none => none
mutual
def hC (P : Pm) (cls : Str) (fs : List (Str × D)) (S : Sto) : HC → Lo → Option Fl
  | .iff t a b, L => match hT P cls fs S t L with
    | some true => hCs P cls fs S a L
    | some false => hCs P cls fs S b L
    | none => none
  | .ret e, L => (hE fs S e L).map .rt
  | .retn, _ => some (.rt .non)
  | .pass, _ => some .nx
def hCs (P : Pm) (cls : Str) (fs : List (Str × D)) (S : Sto) : HCs → Lo → Option Fl
  | .nil, _ => some .nx
  | .cons s r, L => match hC P cls fs S s L with
    | some .nx => hCs P cls fs S r L
    | o => o
end
def tryE (L : Lo) (S : Sto) : Option Fl → OutS
  | some .nx => some (.nx, L, S)
  | some (.rt d) => some (.rt d, L, S)
  | _ => none
def hideL (L : Lo) : Option Nat → Lo
  | none => L
  | some i => L.set i none
def slotIn (L : Lo) : Option Nat → Bool
  | none => true
  | some j => decide (j < L.length)
/-- the clause: y its class, i its name's slot -/
def tryH (P : Pm) (y : Str) (i : Option Nat) (h : HCs) (c : Str) (fs : List (Str × D)) (L : Lo) (S : Sto) : OutS := match P.sub c y with
  | some true => if slotIn L i then tryE (hideL L i) S (hCs P c fs S h (hideL L i)) else none
  | some false => some (.exc c fs, L, S)
  | none => none
mutual
def ex (P : Pm) : C → Lo → Sto → OutS
  | .ex e, L, S => valS L (ev P e L S) fun _ S1 => some (.nx, L, S1)
  | .asg t e, L, S => valS L (ev P e L S) fun d S1 => match asg P t d L S1 with
    | some (L2, S2) => some (.nx, L2, S2)
    | none => none
  | .aug i op e, L, S => match L[i]? with
    | some (some x) => valS L (ev P e L S) fun y S1 => match augD op x y with
      | some z => some (.nx, L.set i (some z), S1)
      | none => none
    | _ => none
  | .augf o f op e, L, S => valS L (ev P o L S) fun d S1 => match d with
    | .ref n => match S1[n]? with
      | some (.ins c fs) => match fs.lookup f with
        | some x => if P.fds c f then valS L (ev P e L S1) fun y S2 => match augD op x y with
            | some z => match S2[n]? with
              | some (.ins c2 fs2) => if decide (c2 = c) && decide (fs2.length < 1000) then some (.nx, L, S2.set n (.ins c (putD f z fs2))) else none
              | _ => none
            | none => none
          else none
        | none => none
      | _ => none
    | _ => none
  | .ret e, L, S => valS L (ev P e L S) fun d S1 => some (.rt d, L, S1)
  | .retn, L, S => some (.rt .non, L, S)
  | .iff t a b, L, S => match tst P t L S with
    | none => none
    | some (.exc c fs, S1) => some (.exc c fs, L, S1)
    | some (.val true, S1) => exs P a L S1
    | some (.val false, S1) => exs P b L S1
  | .whl t b, L, S => loopF (whStep (fun L S => tst P t L S) (fun L S => exs P b L S)) (L, S)
  | .fr g it b, L, S => match evi P it L S with
    | none => none
    | some (.exc c fs, S1) => some (.exc c fs, L, S1)
    | some (.val w, S1) => loopF (frStep w (fun d L S => asg P g d L S) (fun L S => exs P b L S)) (0, L, S1)
  | .pass, L, S => some (.nx, L, S)
  | .brk, L, S => some (.bk, L, S)
  | .cont, L, S => some (.ct, L, S)
  | .stop, _, _ => none
  | .par i j a b, L, S => valS L (ev P a L S) fun x S1 => valS L (ev P b L S1) fun y S2 => some (.nx, (L.set i (some x)).set j (some y), S2)
  | .raise c e, L, S => valS L (ev P e L S) fun d S1 => match P.exc c d with
    | some fs => some (.exc c fs, L, S1)
    | none => none
  | .tryx b y i h, L, S => match exs P b L S with
    | some (.exc c fs, L1, S1) => tryH P y i h c fs L1 S1
    | o => o
def exs (P : Pm) : Cs → Lo → Sto → OutS
  | .nil, L, S => some (.nx, L, S)
  | .cons s r, L, S => match ex P s L S with
    | some (.nx, L1, S1) => exs P r L1 S1
    | o => o
end
/-! ### from the text -/
def isComp : Expr → Bool
  | .ListComp .. => true
  | .SetComp .. => true
  | .DictComp .. => true
  | _ => false
/-- y = [..] where the names of the comprehension are not y's -/
def lcSet (c : Cc) (y : Str) (py : Pos) (line : Nat) : Expr → Bool
  | .ListComp _ _ scope pos => decide (c.names.lookup y = some .local) && (py.line == pos.line) && !(scope.names.any fun (n, k) => n == y && (k == .local || k == .cell))
  | _ => false
def isSeqE : Expr → Bool
  | .Tuple _ _ _ => true
  | .List _ _ => true
  | _ => false
def asgOk (c : Cc) (t e : Expr) : Bool := if isComp e then (match t with
    | .Name y _ => decide (c.names.lookup y = some .cell)
    | .Subscript _ _ _ => true
    | _ => false) else !(isSeqE t && isTupE e)
def tryOf (hs : List ExceptHandler) (oe fe : List Stmt) : Option (Str × Option Str × Stmt × List Stmt) := match hs, oe, fe with
  | [.ExceptHandler (some (.Name y _)) nm (s :: r) _], [], [] => some (y, nm, s, r)
  | _, _, _ => none
theorem tryOf_ok {hs : List ExceptHandler} {oe fe : List Stmt} {y : Str} {nm : Option Str} {s : Stmt} {r : List Stmt} (h : tryOf hs oe fe = some (y, nm, s, r)) : ∃ p p2, hs = [.ExceptHandler (some (.Name y p)) nm (s :: r) p2] ∧ oe = [] ∧ fe = [] := by
  unfold tryOf at h
  split at h
  · cases h; exact ⟨_, _, rfl, rfl, rfl⟩
  · cases h
/-- the exception's own name, or none -/
def isNm (n : Option Str) : Expr → Bool
  | .Name y _ => decide (n = some y)
  | _ => false
mutual
def cHE : Nat → Cc → Option Str → Expr → Option HE
  | 0, _, _, _ => none
  | n + 1, c, nm, e => match e with
    | .Constant (.int i) _ _ => some (.lit (.int i))
    | .Constant (.bool b) _ _ => some (.lit (.bl b))
    | .Constant .none _ _ => some (.lit .non)
    | .Constant (.str x) _ _ => some (.lit (.str x.cps.toList))
    | .Name x _ => if nameOk x && !decide (nm = some x) && decide (c.names.lookup x = some .local) then (idx c.N x).map .var else none
    | .Attribute o f _ => if isNm nm o then some (.fld f) else none
    | .Tuple es _ _ => (cHEs n c nm es).map .tup
    | .Compare a [op] [b] _ => if behindInMarks op b then none else o2 (cHE n c nm a) (cHE n c nm b) (.cmp op)
    | _ => none
def cHEs : Nat → Cc → Option Str → List Expr → Option HEs
  | 0, _, _, _ => none
  | _ + 1, _, _, [] => some .nil
  | n + 1, c, nm, e :: r => o2 (cHE n c nm e) (cHEs n c nm r) .cons
end
mutual
def cHT : Nat → Cc → Option Str → Expr → Option HT
  | 0, _, _, _ => none
  | n + 1, c, nm, e => match e with
    | .Call (.Name f _) [x, .Name y _] [] _ => if decide (f = "isinstance") && glob c "isinstance" && isNm nm x && glob c y && c.hcl.contains y then some (.isi y) else none
    | .UnaryOp .Not a _ => (cHT n c nm a).map .nt
    | .BoolOp op vs _ => cHB n c nm op vs
    | _ => none
def cHB : Nat → Cc → Option Str → BoolOp → List Expr → Option HT
  | 0, _, _, _, _ => none
  | n + 1, c, nm, _, [a] => cHT n c nm a
  | n + 1, c, nm, .And, a :: b :: r => o2 (cHT n c nm a) (cHB n c nm .And (b :: r)) .and
  | n + 1, c, nm, .Or, a :: b :: r => o2 (cHT n c nm a) (cHB n c nm .Or (b :: r)) .or
  | _ + 1, _, _, _, [] => none
end
mutual
def cHC : Nat → Cc → Option Str → Stmt → Option HC
  | 0, _, _, _ => none
  | n + 1, c, nm, s => match s with
    | .If t a b _ => o3 (cHT n c nm t) (cHCs n c nm a) (cHCs n c nm b) .iff
    | .Return (some e) _ => (cHE n c nm e).map .ret
    | .Return none _ => some .retn
    | .Pass _ => some .pass
    | _ => none
def cHCs : Nat → Cc → Option Str → List Stmt → Option HCs
  | 0, _, _, _ => none
  | _ + 1, _, _, [] => some .nil
  | n + 1, c, nm, s :: r => o2 (cHC n c nm s) (cHCs n c nm r) .cons
end
/-- the slot of the exception's name -/
def hSlot (c : Cc) : Option Str → Option (Option Nat)
  | none => some none
  | some x => if nameOk x && decide (c.names.lookup x = some .local) then (idx c.N x).map some else none
def isStarE : Expr → Bool
  | .Starred _ _ => true
  | _ => false
def raiseOk (c : Cc) : Expr → Option (Str × Expr)
  | .Call (.Name x _) [a] [] _ => if glob c x && c.excs.contains x then some (x, a) else none
  | _ => none
/-- a, b = x, y by two local names -/
def parOf (c : Cc) (t e : Expr) : Option (Str × Str × Expr × Expr) := match t, e with
  | .Tuple [.Name x px, .Name y py] _ _, .Tuple [a, b] _ _ => if nameOk x && nameOk y && !decide (x = y) && decide (c.names.lookup x = some .local) && decide (c.names.lookup y = some .local) && (py.line == px.line) && !isStarE a && !isStarE b && !([a, b].all (foldedForSure 8)) && !([a, b].all (constantsAlone 8)) then some (x, y, a, b) else none
  | _, _ => none
mutual
def cS : Nat → Cc → Stmt → Option C
  | 0, _, _ => none
  | n + 1, c, st => match st with
    | .Expr e _ => if isComp e then none else (cE n c e).map .ex
    | .Assign [t] e pos => match t with
      | .Name y py => if lcSet c y py pos.line e && nameOk y then o2 (idx c.N y) (cE n c e) fun i x => .asg (.nm i) x
        else if asgOk c t e then o2 (cT n c t) (cE n c e) .asg else none
      | t => match parOf c t e with
        | some (x, y, a, b) => (o2 (idx c.N x) (idx c.N y) Prod.mk).bind fun ij => o2 (cE n c a) (cE n c b) fun u v => .par ij.1 ij.2 u v
        | none => if asgOk c t e then o2 (cT n c t) (cE n c e) .asg else none
    | .AugAssign (.Name y _) op e _ => if nameOk y then match c.names.lookup y with
      | some .local => o2 (idx c.N y) (cE n c e) fun i x => .aug i op x
      | some .cell => if c.fcell.contains y then o2 (idx c.N y) (cE n c e) fun i x => .aug i op x else none
      | _ => none
      else none
    | .AugAssign (.Attribute o f _) op e _ => if c.flds.contains f then o2 (cE n c o) (cE n c e) fun x y => .augf x f op y else none
    | .Return (some e) _ => (cE n c e).map .ret
    | .Return none _ => some .retn
    | .If t a b _ => o3 (cQ n c t) (cSs n c a) (cSs n c b) .iff
    | .While t b [] _ => o2 (cQ n c t) (cSs n c b) .whl
    | .For tg it b [] _ => o3 (cT n c tg) (cI n c tg it) (cSs n c b) .fr
    | .Pass _ => some .pass
    | .Break _ => some .brk
    | .Continue _ => some .cont
    | .Raise (some e) none _ => match raiseOk c e with
      | some (x, a) => (cE n c a).map (.raise x)
      | none => some .stop
    | .Try b hs oe fe _ => match tryOf hs oe fe with
      | some (y, nm, s, r) => if c.top && glob c y && c.hcl.contains y then
          o3 (cSs n c b) (hSlot c nm) (cHCs n c nm (s :: r)) fun x i h => .tryx x y i h
        else some .stop
      | none => some .stop
    | _ => some .stop
def cSs : Nat → Cc → List Stmt → Option Cs
  | 0, _, _ => none
  | n + 1, c, [] => some .nil
  | n + 1, c, s :: r => o2 (cS n c s) (cSs n c r) .cons
end
/-! ### readings -/
def ContS (K : PySem.W.Frag) (mg : Str → Option Value) (W : WX) (D : Ends) (μ : List Addr) (H : Hp) (L' : Lo) (S' : Sto) : Fl → Prop
  | .nx => ∀ μ' H' σ', Post K mg μ H μ' S' H' → SL K μ' H' L' σ' → D.nx σ' H'
  | .bk => ∀ μ' H' σ', Post K mg μ H μ' S' H' → SL K μ' H' L' σ' → D.bk σ' H'
  | .ct => ∀ μ' H' σ', Post K mg μ H μ' S' H' → SL K μ' H' L' σ' → D.ct σ' H'
  | .rt d => ∀ μ' H' v, Post K mg μ H μ' S' H' → RD K μ' H' d v → D.rt v H'
  | .exc c fs => ∀ μ' H' σ' cls dd, Post K mg μ H μ' S' H' → SL K μ' H' L' σ' → RX K mg μ' H' c fs cls dd → W cls dd σ' H'
def tS (K : PySem.W.Frag) (mg : Str → Option Value) (W : WX) (m : Lo → Sto → OutS) : TS := fun D σ H => ∃ μ S L fl L' S', SR K mg μ S H ∧ SL K μ H L σ ∧ m L S = some (fl, L', S') ∧ ContS K mg W D μ H L' S' fl
section
variable {K : PySem.W.Frag} {mg : Str → Option Value} {W : WX} {σ : L2.St} {H : Hp} {μ : List Addr} {S S' : Sto} {L L' : Lo} {D : Ends}
theorem ContS.mono {μ1 : List Addr} {H1 : Hp} {S1 : Sto} {fl : Fl} (p : Post K mg μ H μ1 S1 H1) (h : ContS K mg W D μ H L' S' fl) : ContS K mg W D μ1 H1 L' S' fl := by
  cases fl with
  | nx => exact fun μ' H' σ' q => h μ' H' σ' (p.trans q)
  | bk => exact fun μ' H' σ' q => h μ' H' σ' (p.trans q)
  | ct => exact fun μ' H' σ' q => h μ' H' σ' (p.trans q)
  | rt d => exact fun μ' H' v q => h μ' H' v (p.trans q)
  | exc c fs => exact fun μ' H' σ' cls dd q => h μ' H' σ' cls dd (p.trans q)
/-- a part, then the rest -/
theorem rdS {α β : Type} {R : List Addr → Hp → α → β → Prop} {m : Lo → Sto → Out α} {f : α → Sto → OutS} {fl : Fl} {Z : β → Hp → Prop} (sr : SR K mg μ S H) (sl : SL K μ H L σ)
    (e : valS L (m L S) f = some (fl, L', S')) (k : ContS K mg W D μ H L' S' fl)
    (h : ∀ x S1 μ1 H1 v, f x S1 = some (fl, L', S') → SR K mg μ1 S1 H1 → SL K μ1 H1 L σ → Pre μ μ1 → Tu H H1 → R μ1 H1 x v → ContS K mg W D μ1 H1 L' S' fl → Z v H1) : rd K mg W R m σ H Z := by
  unfold valS at e
  cases q : m L S with
  | none => rw [q] at e; cases e
  | some z =>
    obtain ⟨r1, S1⟩ := z
    rw [q] at e
    cases r1 with
    | val x => exact ⟨μ, S, L, .val x, S1, sr, sl, q, fun μ1 H1 v p x2 => h x S1 μ1 H1 v e p.sr (sl.mono p.pre p.tu) p.pre p.tu x2 (k.mono p)⟩
    | exc c fs =>
      cases e
      exact ⟨μ, S, L, .exc c fs, _, sr, sl, q, fun μ' H' cls dd p rx => k μ' H' σ cls dd p (sl.mono p.pre p.tu) rx⟩
end
end Dy

namespace Dy
open PySem PySem.Spec PyProof.Rows L2
structure SndS (n : Nat) : Prop where
  s : ∀ {X : Cx} {P : Pm} {c : Cc} {k : Nat} {W : WX} {st : Stmt} {x : C}, Fine X P c k → Takes X W → cS n c st = some x → PS X st (tS X.K X.mg W (ex P x))
  ss : ∀ {X : Cx} {P : Pm} {c : Cc} {k : Nat} {W : WX} {st : List Stmt} {x : Cs}, Fine X P c k → Takes X W → cSs n c st = some x → PSs X st (tS X.K X.mg W (exs P x))
section
variable {X : Cx} {P : Pm} {c : Cc} {k n : Nat} {W : WX}
theorem _root_.L2.PS.imp {st : Stmt} {t t' : TS} (h : PS X st t) (i : ∀ D σ H, t' D σ H → t D σ H) : PS X st t' := ⟨fun pins s σ H D I q => h.run pins s σ H D I (i D σ H q)⟩
theorem _root_.L2.PSs.imp {st : List Stmt} {t t' : TS} (h : PSs X st t) (i : ∀ D σ H, t' D σ H → t D σ H) : PSs X st t' := ⟨fun pins s σ H D I q => h.run pins s σ H D I (i D σ H q)⟩
theorem swap_none {e : Expr} {t : Option Expr} {l : Nat} {env : Env} (h : isComp e = false) : swapsWith e t l env = pure false := by
  cases e <;> first | rfl | cases h
theorem swapped_none {t e : Expr} {env : Env} (h : (isSeqE t && isTupE e) = false) : swappedStores [t] e env = pure none := by
  unfold swappedStores
  cases t <;> first | rfl | skip
  all_goals (cases e <;> first | rfl | cases h | skip)
theorem aug_ok {op : Operator} {x y z : D} {v w : V} {Q : VK} {K : PySem.W.Frag} {μ : List Addr} {H : Hp} (rx : RD K μ H x v) (ry : RD K μ H y w) (e : augD op x y = some z) (q : ∀ u, RD K μ H z u → Q u H) : ∃ r, PIp X op r ∧ r v w H Q := by
  cases op with
  | Add =>
    cases rx <;> cases ry <;> first
      | (cases e; exact ⟨_, ip_add, _, _, rfl, rfl, q _ (.int _)⟩)
      | (rename_i a b
         have e' : (if a.length + b.length ≤ sizeLine then some (D.str (a ++ b)) else none) = some z := e
         by_cases c : a.length + b.length ≤ sizeLine
         · rw [if_pos c] at e'
           cases e'
           refine ⟨_, iop_add_str, _, _, rfl, rfl, by rw [stO_len, stO_len]; exact c, ?_⟩
           rw [stO_app]
           exact q _ (.str _)
         · rw [if_neg c] at e'; cases e')
      | cases e
  | Sub =>
    cases rx <;> cases ry <;> first
      | (cases e; exact ⟨_, ip_sub, _, _, rfl, rfl, q _ (.int _)⟩)
      | cases e
  | _ => cases rx <;> cases ry <;> cases e
theorem ip_any {op : Operator} : PIp X op (fun x y H Q => ∃ r, PIp X op r ∧ r x y H Q) := fun pins s σ H x y v u Q I rx ry ⟨r, h, q⟩ => h pins s σ H x y v u Q I rx ry q
theorem snd_aug (F : Fine X P c k) (tk : Takes X W) {y : Str} {i : Nat} {op : Operator} {e : Expr} {x : E} {py pos : Pos} (hi : idx c.N y = some i) (hl : Loc X.env.scope y) (hf : X.fn y = true ∨ X.env.scope.names.lookup y = some .local) (he : cE n c e = some x) : PS X (.AugAssign (.Name y py) op e pos) (tS X.K X.mg W (ex P (.aug i op x))) := by
  refine (ps_aug F.nd (F.slot hi) hl ((snd n).e F tk he) ip_any hf).imp fun D σ H ⟨μ, S, L, fl, L', S', sr, sl, e0, kk⟩ => ?_
  have e1 : (match L[i]? with
    | some (some d) => valS L (ev P x L S) fun y S1 => match augD op d y with
      | some z => some (.nx, L.set i (some z), S1)
      | none => none
    | _ => none : OutS) = some (fl, L', S') := e0
  cases q : L[i]? with
  | none => rw [q] at e1; cases e1
  | some od =>
    cases od with
    | none => rw [q] at e1; cases e1
    | some d =>
      rw [q] at e1
      obtain ⟨v, h1, h2⟩ := sl.get i d q
      refine ⟨v, h1, rdS (m := ev P x) sr sl e1 kk fun d2 S1 μ1 H1 w e2 sr1 sl1 p1 t1 ry k1 => ?_⟩
      cases q2 : augD op d d2 with
      | none => simp only [q2] at e2; cases e2
      | some z =>
        simp only [q2] at e2
        cases e2
        exact aug_ok (h2.mono p1 t1) ry q2 fun u ru => k1 μ1 H1 _ (.refl sr1) (sl1.set i ru)
theorem aug_in {op : Operator} {x y z : D} {v w : V} {Q : VK} {K : PySem.W.Frag} {μ : List Addr} {H : Hp} (rx : RD K μ H x v) (ry : RD K μ H y w) (e : augD op x y = some z) (q : ∀ u, RD K μ H z u → Q u H) : ∃ r, InOp X op r ∧ r v w H Q := by
  cases op with
  | Add =>
    cases rx <;> cases ry <;> first
      | (cases e; exact ⟨_, in_add, _, _, rfl, rfl, q _ (.int _)⟩)
      | (rename_i a b
         have e' : (if a.length + b.length ≤ sizeLine then some (D.str (a ++ b)) else none) = some z := e
         by_cases c : a.length + b.length ≤ sizeLine
         · rw [if_pos c] at e'
           cases e'
           refine ⟨_, in_addS, _, _, rfl, rfl, by rw [stO_len, stO_len]; exact c, ?_⟩
           rw [stO_app]
           exact q _ (.str _)
         · rw [if_neg c] at e'; cases e')
      | cases e
  | Sub =>
    cases rx <;> cases ry <;> first
      | (cases e; exact ⟨_, in_sub, _, _, rfl, rfl, q _ (.int _)⟩)
      | cases e
  | _ => cases rx <;> cases ry <;> cases e
theorem in_any {op : Operator} : InOp X op (fun x y H Q => ∃ r, InOp X op r ∧ r x y H Q) := fun pins s σ H x y u v Q I rx ry ⟨r, h, q⟩ => h pins s σ H x y u v Q I rx ry q
theorem snd_augf (F : Fine X P c k) (tk : Takes X W) {o e : Expr} {f : Str} {op : Operator} {x y : E} {po pos : Pos} (ho : cE n c o = some x) (he : cE n c e = some y) : PS X (.AugAssign (.Attribute o f po) op e pos) (tS X.K X.mg W (ex P (.augf x f op y))) := by
  refine (ps_fldaug ((snd n).e F tk ho) ((snd n).e F tk he) in_any).imp fun D σ H ⟨μ, S, L, fl, L', S', sr, sl, e0, kk⟩ => ?_
  refine rdS (m := ev P x) sr sl e0 kk fun d S1 μ1 H1 v e1 sr1 sl1 p1 t1 rx k1 => ?_
  cases rx with
  | @ref m a hn =>
    dsimp only at e1
    cases q : S1[m]? with
    | none => simp only [q] at e1; cases e1
    | some ob =>
      cases ob with
      | ins cn fs =>
        simp only [q] at e1
        cases q2 : fs.lookup f with
        | none => simp only [q2] at e1; cases e1
        | some xv =>
          simp only [q2] at e1
          by_cases hf : P.fds cn f = true
          · rw [if_pos hf] at e1
            obtain ⟨C, dx, gs, h2, h3, h4⟩ := sr1.obj m a _ hn q
            obtain ⟨hc1, hc2⟩ := F.g.fds cn f C hf h2
            obtain ⟨u, h5, h6⟩ := h4.look q2
            refine ⟨a, C, dx, gs, u, rfl, h3, hc1, hc2, h5, ?_⟩
            refine rdS (m := ev P y) sr1 sl1 e1 k1 fun d2 S2 μ2 H2 w e2 sr2 sl2 p2 t2 ry k2 => ?_
            cases q3 : augD op xv d2 with
            | none => simp only [q3] at e2; cases e2
            | some z =>
              simp only [q3] at e2
              cases q4 : S2[m]? with
              | none => simp only [q4] at e2; cases e2
              | some ob2 =>
                cases ob2 with
                | ins c2 fs2 =>
                  simp only [q4] at e2
                  by_cases hq : (decide (c2 = cn) && decide (fs2.length < 1000)) = true
                  · rw [if_pos hq] at e2
                    obtain ⟨hq1, hq2⟩ := Bool.and_eq_true_iff.mp hq
                    have hq3 := of_decide_eq_true hq1
                    subst hq3
                    cases e2
                    obtain ⟨C', dx', gs', g2, g3, g4⟩ := sr2.obj m a _ (p2 _ _ hn) q4
                    have hC : C' = C := by simpa using g2.symm.trans h2
                    subst hC
                    refine aug_in (h6.mono p2 t2) ry q3 fun z' rz => ⟨dx', gs', g3, by rw [← g4.len]; exact of_decide_eq_true hq2, ?_⟩
                    have p3 : Post X.K X.mg μ2 H2 μ2 (S2.set m (.ins c2 (putD f z fs2))) (upd H2 a (.ins C' dx' (putF f z' gs'))) :=
                      .write sr2 (p2 _ _ hn) g3 (fun z => z) ⟨C', dx', _, g2, upd_same, (RF.put rz g4).mono (.refl _) (.write g3 fun z => z)⟩
                    exact k2 _ _ _ p3 (sl2.mono p3.pre p3.tu)
                  · rw [if_neg hq] at e2; cases e2
                | _ => simp only [q4] at e2; cases e2
          · rw [if_neg hf] at e1; cases e1
      | _ => simp only [q] at e1; cases e1
  | _ => cases e1
theorem parOf_ok {t e : Expr} {x y : Str} {a b : Expr} (h : parOf c t e = some (x, y, a, b)) : ∃ px py k1 p1 k2 p2, t = .Tuple [.Name x px, .Name y py] k1 p1 ∧ e = .Tuple [a, b] k2 p2 ∧ nameOk x = true ∧ nameOk y = true ∧ x ≠ y ∧ c.names.lookup x = some .local ∧ c.names.lookup y = some .local ∧ (py.line == px.line) = true ∧ isStarE a = false ∧ isStarE b = false ∧ ([a, b].all (foldedForSure 8)) = false ∧ ([a, b].all (constantsAlone 8)) = false := by
  unfold parOf at h
  split at h
  · rename_i x' px y' py k1 p1 a' b' k2 p2
    split at h
    · rename_i hc
      cases h
      simp only [Bool.and_eq_true, Bool.not_eq_true', decide_eq_true_eq, decide_eq_false_iff_not] at hc
      obtain ⟨⟨⟨⟨⟨⟨⟨⟨⟨h1, h2⟩, h3⟩, h4⟩, h5⟩, h6⟩, h7⟩, h8⟩, h9⟩, h10⟩ := hc
      exact ⟨px, py, k1, p1, k2, p2, rfl, rfl, h1, h2, h3, h4, h5, h6, h7, h8, h9, h10⟩
    · cases h
  · cases h
theorem snd_par (F : Fine X P c k) (tk : Takes X W) {t e a b : Expr} {x y : Str} {i j : Nat} {u v : E} {pos : Pos} (h : parOf c t e = some (x, y, a, b)) (hi : idx c.N x = some i) (hj : idx c.N y = some j) (ha : cE n c a = some u) (hb : cE n c b = some v) : PS X (.Assign [t] e pos) (tS X.K X.mg W (ex P (.par i j u v))) := by
  obtain ⟨px, py, k1, p1, k2, p2, rfl, rfl, h1, h2, h3, h4, h5, h6, h7, h8, h9, h10⟩ := parOf_ok h
  have hx : X.env.scope.names.lookup x = some .local := by rw [F.names]; exact h4
  have hy : X.env.scope.names.lookup y = some .local := by rw [F.names]; exact h5
  have hij : i ≠ j := fun e => by
    have q1 := F.slot hi
    have q2 := F.slot hj
    rw [e, q2] at q1
    exact h3 (Option.some.inj q1).symm
  have hw : swappedStores [.Tuple [.Name x px, .Name y py] k1 p1] (.Tuple [a, b] k2 p2) X.env = pure (some [x, y]) := by
    have kx : (X.env.kindOf x == some .local) = true := by
      show (X.env.scope.names.lookup x == some .local) = true
      rw [hx]; rfl
    have ky : (X.env.kindOf y == some .local) = true := by
      show (X.env.scope.names.lookup y == some .local) = true
      rw [hy]; rfl
    have bk : (X.env.blockKind != .function) = false := by
      unfold Env.blockKind
      rw [F.kind]
      rfl
    have hst : ([a, b].any fun | .Starred .. => true | _ => false) = false := by
      have e1 : ∀ z : Expr, isStarE z = false → (match z with | .Starred .. => true | _ => false) = false := fun z hz => by
        cases z <;> first | rfl | cases hz
      simp only [List.any_cons, List.any_nil, Bool.or_false]
      rw [e1 a h7, e1 b h8]
      rfl
    have hne : (x == y) = false := by simpa using h3
    have hfil : ([Expr.Name x px, Expr.Name y py].filterMap fun z => match z with
      | .Name id pos => if (X.env.kindOf id == some .local && pos.line == px.line) = true then some id else none
      | _ => none) = [x, y] := by
      have e2 : py.line = px.line := by simpa using h6
      have kx' : X.env.kindOf x = some .local := hx
      have ky' : X.env.kindOf y = some .local := hy
      simp [List.filterMap_cons, kx', ky', e2]
    have hed : [x, y].eraseDups.length = 2 := by
      simp [List.eraseDups_cons, h3, Ne.symm h3]
    unfold swappedStores
    have hline : (([Expr.Name x px, Expr.Name y py].head?.map (·.pos.line)).getD 0) = px.line := rfl
    have c1 : (!([Expr.Name x px, Expr.Name y py].length == 2 || [Expr.Name x px, Expr.Name y py].length == 3) || [a, b].length != [Expr.Name x px, Expr.Name y py].length || X.env.blockKind != .function) = false := by
      rw [bk]; rfl
    refine (if_neg (by rw [c1]; exact Bool.false_ne_true)).trans ?_
    refine (if_neg (fun h => Bool.noConfusion (h.symm.trans hst))).trans ?_
    dsimp only
    rw [hline]
    erw [hfil]
    refine (if_neg (by rw [hed]; exact Bool.false_ne_true)).trans ?_
    refine (if_neg (by rw [h9]; exact Bool.false_ne_true)).trans ?_
    refine (if_neg (by rw [h10]; exact Bool.false_ne_true)).trans ?_
    rfl
  refine (ps_par F.calm F.nd (F.slot hi) (F.slot hj) hij hx hy (pa_cons ((snd n).e F tk ha) (pa_cons ((snd n).e F tk hb) pa_nil (star_cons (cE_star hb))) (star_cons (cE_star ha))) hw rfl).imp fun D σ H ⟨μ, S, L, fl, L', S', sr, sl, e0, kk⟩ => ?_
  refine rdS (m := ev P u) sr sl e0 kk fun d1 S1 μ1 H1 w1 e1 sr1 sl1 p1 t1 rx k1 => ?_
  refine rdS (m := ev P v) sr1 sl1 e1 k1 fun d2 S2 μ2 H2 w2 e2 sr2 sl2 p2 t2 ry k2 => ?_
  cases e2
  exact ⟨w1, w2, rfl, k2 μ2 H2 _ (.refl sr2) ((sl2.set i (rx.mono p2 t2)).set j ry)⟩
theorem swap_cell {e : Expr} {y : Str} {py : Pos} {l : Nat} {env : Env} (hc : isComp e = true) (hk : env.kindOf y = some .cell) : swapsWith e (some (.Name y py)) l env = pure false := by
  have e2 : (env.kindOf y == some .local) = false := by rw [hk]; rfl
  cases e with
  | ListComp a b sc vp =>
    show (pure (env.blockKind == .function && env.kindOf y == some .local && py.line == vp.line && !(sc.names.any fun (n, k) => n == y && (k == .local || k == .cell))) : Sem Bool) = pure false
    rw [e2, Bool.and_false, Bool.false_and, Bool.false_and]
  | SetComp a b sc vp =>
    show (pure (env.blockKind == .function && env.kindOf y == some .local && py.line == vp.line && !(sc.names.any fun (n, k) => n == y && (k == .local || k == .cell))) : Sem Bool) = pure false
    rw [e2, Bool.and_false, Bool.false_and, Bool.false_and]
  | DictComp a b b2 sc vp =>
    show (pure (env.blockKind == .function && env.kindOf y == some .local && py.line == vp.line && !(sc.names.any fun (n, k) => n == y && (k == .local || k == .cell))) : Sem Bool) = pure false
    rw [e2, Bool.and_false, Bool.false_and, Bool.false_and]
  | _ => cases hc
theorem swap_sub {e o i : Expr} {py : Pos} {l : Nat} {env : Env} (hc : isComp e = true) : swapsWith e (some (.Subscript o i py)) l env = pure false := by
  cases e <;> first | rfl | cases hc
theorem snd_asg (F : Fine X P c k) (tk : Takes X W) {t e : Expr} {g : Tg} {x : E} {pos : Pos} (hok : asgOk c t e = true) (hg : cT n c t = some g) (he : cE n c e = some x) : PS X (.Assign [t] e pos) (tS X.K X.mg W (ex P (.asg g x))) := by
  have hs : swapsWithSole [t] e pos.line X.env = pure false := by
    show swapsWith e (some t) pos.line X.env = pure false
    cases hc : isComp e with
    | false => exact swap_none hc
    | true =>
      unfold asgOk at hok
      rw [hc, if_pos rfl] at hok
      cases t with
      | Name y py =>
        refine swap_cell hc ?_
        show X.env.scope.names.lookup y = _
        rw [F.names]
        exact of_decide_eq_true hok
      | Subscript _ _ _ => exact swap_sub hc
      | _ => cases hok
  have hw : swappedStores [t] e X.env = pure none := by
    cases hc : isComp e with
    | false =>
      unfold asgOk at hok
      rw [hc, if_neg Bool.false_ne_true] at hok
      exact swapped_none (by simpa only [Bool.not_eq_true'] using hok)
    | true =>
      refine swapped_none ?_
      cases e <;> first | exact Bool.and_false _ | cases hc
  have h3 : ((assignEach [t] X.env).map fun x => x.2) = [assign t X.env] := by
    have hst := cT_star hg
    cases t <;> first | rfl | cases hst
  refine (ps_asg ((snd n).e F tk he) ((snd n).g F hg) hs hw h3).imp fun D σ H ⟨μ, S, L, fl, L', S', sr, sl, e0, kk⟩ => ?_
  refine rdS (m := ev P x) (f := fun d S1 => match asg P g d L S1 with
    | some (L2, S2) => some (.nx, L2, S2)
    | none => none) sr sl e0 kk fun d S1 μ1 H1 v e1 sr1 sl1 p1 t1 rx k1 => ?_
  cases q : asg P g d L S1 with
  | none => simp only [q] at e1; cases e1
  | some z =>
    obtain ⟨L2, S2⟩ := z
    simp only [q] at e1
    cases e1
    exact ⟨μ1, S1, L, d, _, _, sr1, sl1, .inl rx, fun _ => rx, q, fun μ' H' σ' p s => k1 μ' H' σ' p s⟩
theorem snd_lcset (F : Fine X P c k) (tk : Takes X W) {y : Str} {e : Expr} {i : Nat} {x : E} {py pos : Pos} (hl : lcSet c y py pos.line e = true) (hi : idx c.N y = some i) (he : cE n c e = some x) : PS X (.Assign [.Name y py] e pos) (tS X.K X.mg W (ex P (.asg (.nm i) x))) := by
  cases e with
  | ListComp elt gens scope p2 =>
    cases n with
    | zero => cases he
    | succ n =>
    cases gens with
    | nil => cases he
    | cons gen gens =>
      cases gens with
      | cons _ _ =>
        obtain ⟨_, _, _, ia⟩ := gen
        cases ia with
        | ofNat m => cases m <;> cases he
        | negSucc m => cases he
      | nil =>
        obtain ⟨tg, iter, ifs, ia⟩ := gen
        by_cases hia : ia = 0
        · subst hia
          have h0 : (match ownOf c.N scope.names with
            | none => none
            | some own => if (decide (scope.kind = .function) && blkB c.N c.names scope.names own) = true then
                (cI n c tg iter).bind fun i => (cT n (c.inner scope.names) tg).bind fun g => if lcTg (own.map (·.2)) g = false then none else (cF n (c.inner scope.names) ifs).bind fun is => (cE n (c.inner scope.names) elt).map fun x => .lc x g i is (own.map (·.2))
              else none : Option E) = some x := he
          cases q : ownOf c.N scope.names with
          | none => rw [q] at h0; cases h0
          | some own =>
            rw [q] at h0
            dsimp only at h0
            by_cases hb : (decide (scope.kind = .function) && blkB c.N c.names scope.names own) = true
            · rw [if_pos hb] at h0
              obtain ⟨hb1, hb2⟩ := Bool.and_eq_true_iff.mp hb
              obtain ⟨ii, hii, h0⟩ := Option.bind_eq_some_iff.mp h0
              obtain ⟨g, hg, h0⟩ := Option.bind_eq_some_iff.mp h0
              by_cases ho : lcTg (own.map (·.2)) g = false
              · rw [if_pos ho] at h0; cases h0
              · rw [if_neg ho] at h0
                obtain ⟨is, hf, h0⟩ := Option.bind_eq_some_iff.mp h0
                obtain ⟨z, hez, rfl⟩ := map_some h0
                have hl' : (decide (c.names.lookup y = some .local) && (py.line == p2.line) && !(scope.names.any fun (n, k) => n == y && (k == .local || k == .cell))) = true := hl
                obtain ⟨hl1, hl2⟩ := Bool.and_eq_true_iff.mp hl'
                obtain ⟨hl3, hl4⟩ := Bool.and_eq_true_iff.mp hl1
                have hyl : X.env.scope.names.lookup y = some .local := by rw [F.names]; exact of_decide_eq_true hl3
                have hsw : swapsWith (.ListComp elt [⟨tg, iter, ifs, 0⟩] scope p2) (some (.Name y py)) pos.line X.env = pure true := by
                  show (pure (X.env.blockKind == .function && X.env.kindOf y == some .local && py.line == p2.line && !(scope.names.any fun (n, k) => n == y && (k == .local || k == .cell))) : Sem Bool) = pure true
                  have b1 : (X.env.blockKind == .function) = true := by
                    unfold Env.blockKind
                    rw [F.kind]
                    rfl
                  have b2 : (X.env.kindOf y == some .local) = true := by
                    show (X.env.scope.names.lookup y == some .local) = true
                    rw [hyl]
                    rfl
                  rw [b1, b2, hl4, hl2]
                  rfl
                refine ((snd_lc (snd n) F tk (of_decide_eq_true hb1) hb2 hii hg (by simpa using ho) hf hez).2 (F.slot hi) hyl hsw).imp fun D σ H ⟨μ, S, L, fl, L', S', sr, sl, e0, kk⟩ => ?_
                refine rdS (m := ev P (.lc z g ii is (own.map (·.2)))) (f := fun d S1 => match asg P (.nm i) d L S1 with
                  | some (L2, S2) => some (.nx, L2, S2)
                  | none => none) sr sl e0 kk fun d S1 μ1 H1 v e1 sr1 sl1 p1 t1 rx k1 => ?_
                cases e1
                exact k1 μ1 H1 _ (.refl sr1) (sl1.set i rx)
            · rw [if_neg hb] at h0; cases h0
        · exfalso
          cases ia with
          | ofNat m =>
            cases m with
            | zero => exact hia rfl
            | succ m => cases he
          | negSucc m => cases he
  | _ => cases hl
theorem snd_whl (I : SndS n) (F : Fine X P c k) (tk : Takes X W) {t : Expr} {b : List Stmt} {x : T} {y : Cs} {pos : Pos} (ht : cQ n c t = some x) (hb : cSs n c b = some y) : PS X (.While t b [] pos) (tS X.K X.mg W (ex P (.whl x y))) := by
  refine (ps_while F.pass ((snd n).q F tk ht) (I.ss F tk hb)).imp fun D σ H ⟨μ, S, L, fl, L', S', sr, sl, e, kk⟩ => ?_
  obtain ⟨N0, hN⟩ := loopF_n (show loopF (whStep (fun L S => tst P x L S) (fun L S => exs P y L S)) (L, S) = some (fl, L', S') from e)
  refine ⟨fun m σ2 H2 => ∃ μ2 S2 L2, Post X.K X.mg μ H μ2 S2 H2 ∧ SL X.K μ2 H2 L2 σ2 ∧ loopN (whStep (fun L S => tst P x L S) (fun L S => exs P y L S)) m (L2, S2) = some (fl, L', S'), ⟨N0, μ, S, L, .refl sr, sl, hN⟩, ?_⟩
  rintro m σ2 H2 ⟨μ2, S2, L2, p2, sl2, hm⟩
  cases m with
  | zero => cases hm
  | succ m =>
    unfold loopN whStep at hm
    dsimp only at hm
    cases q1 : tst P x L2 S2 with
    | none => simp only [q1] at hm; cases hm
    | some z =>
      obtain ⟨rb, S3⟩ := z
      cases rb with
      | exc cc fs =>
        simp only [q1] at hm
        cases hm
        exact ⟨μ2, S2, _, _, _, p2.sr, sl2, q1, fun μ' H' cls dd p rx => kk μ' H' σ2 cls dd (p2.trans p) (sl2.mono p.pre p.tu) rx⟩
      | val b0 =>
        refine ⟨μ2, S2, L2, _, _, p2.sr, sl2, q1, fun μ3 H3 bb p3 hbb => ?_⟩
        subst hbb
        cases b0 with
        | false =>
          simp only [q1] at hm
          cases hm
          rw [if_neg Bool.false_ne_true]
          exact kk μ3 H3 σ2 (p2.trans p3) (sl2.mono p3.pre p3.tu)
        | true =>
          simp only [q1] at hm
          rw [if_pos rfl]
          refine ⟨fun σ' H' => ∃ μ' S'' L'', Post X.K X.mg μ H μ' S'' H' ∧ SL X.K μ' H' L'' σ' ∧ loopN (whStep (fun L S => tst P x L S) (fun L S => exs P y L S)) m (L'', S'') = some (fl, L', S'), fun σ' H' hh => ⟨m, Nat.lt_succ_self m, hh⟩, ?_⟩
          cases q2 : exs P y L2 S3 with
          | none => simp only [q2] at hm; cases hm
          | some z =>
            obtain ⟨f2, L4, S4⟩ := z
            refine ⟨μ3, S3, L2, f2, L4, S4, p3.sr, sl2.mono p3.pre p3.tu, q2, ?_⟩
            cases f2 with
            | nx =>
              simp only [q2] at hm
              exact fun μ' H' σ' p s => ⟨μ', S4, L4, (p2.trans p3).trans p, s, hm⟩
            | ct =>
              simp only [q2] at hm
              exact fun μ' H' σ' p s => ⟨μ', S4, L4, (p2.trans p3).trans p, s, hm⟩
            | bk =>
              simp only [q2] at hm
              cases hm
              exact fun μ' H' σ' p s => kk μ' H' σ' ((p2.trans p3).trans p) s
            | rt d =>
              simp only [q2] at hm
              cases hm
              exact fun μ' H' v p s => kk μ' H' v ((p2.trans p3).trans p) s
            | exc cc fs =>
              simp only [q2] at hm
              cases hm
              exact fun μ' H' σ' cls dd p s r => kk μ' H' σ' cls dd ((p2.trans p3).trans p) s r
theorem snd_fr (I : SndS n) (F : Fine X P c k) (tk : Takes X W) {tg it : Expr} {b : List Stmt} {g : Tg} {i : Ie} {y : Cs} {pos : Pos} (hg : cT n c tg = some g) (hi : cI n c tg it = some i) (hb : cSs n c b = some y) : PS X (.For tg it b [] pos) (tS X.K X.mg W (ex P (.fr g i y))) := by
  refine (ps_for F.pass F.calm ((snd n).i F tk hi) ((snd n).g F hg) (I.ss F tk hb) (no_fold hi)).imp fun D σ H ⟨μ, S, L, fl, L', S', sr, sl, e, kk⟩ => ?_
  have e' : (match evi P i L S with | none => none | some (.exc c fs, S1) => some (.exc c fs, L, S1) | some (.val w, S1) => loopF (frStep w (fun d L S => asg P g d L S) (fun L S => exs P y L S)) (0, L, S1) : OutS) = some (fl, L', S') := e
  have hen : ∀ {S1 : Sto} {w : Wk}, evi P i L S = some (.val w, S1) → enW w = true → tupTg g = true := fun h hw => tup_tg hg (en_tg hi (en_ev h hw))
  cases q0 : evi P i L S with
  | none => rw [q0] at e'; cases e'
  | some z =>
  obtain ⟨r0, S1⟩ := z
  have hen2 := fun (w : Wk) (h : r0 = .val w) => hen (S1 := S1) (w := w) (by rw [q0, h])
  rw [q0] at e'
  cases r0 with
  | exc cc fs =>
    cases e'
    exact ⟨μ, S, L, _, _, sr, sl, q0, fun μ' H' cls dd p rx => kk μ' H' σ cls dd p (sl.mono p.pre p.tu) rx⟩
  | val w =>
  have hw := hen2 w rfl
  refine ⟨μ, S, L, _, _, sr, sl, q0, fun μ1 H1 JJ p1 rw1 => ?_⟩
  obtain ⟨N0, hN⟩ := loopF_n (show loopF (frStep w (fun d L S => asg P g d L S) (fun L S => exs P y L S)) (0, L, S1) = some (fl, L', S') from e')
  refine ⟨fun t m σ2 H2 => ∃ μ2 S2 L2, Post X.K X.mg μ1 H1 μ2 S2 H2 ∧ SL X.K μ2 H2 L2 σ2 ∧ loopN (frStep w (fun d L S => asg P g d L S) (fun L S => exs P y L S)) m (t, L2, S2) = some (fl, L', S'), ⟨N0, μ1, S1, L, .refl p1.sr, sl.mono p1.pre p1.tu, hN⟩, ?_⟩
  rintro t m σ2 H2 ⟨μ2, S2, L2, p2, sl2, hm⟩
  have kk1 := kk.mono p1
  cases m with
  | zero => cases hm
  | succ m =>
    have rw2 := rw1.mono p2.pre p2.tu
    unfold loopN frStep at hm
    dsimp only at hm
    cases q1 : w.at S2 t with
    | none => simp only [q1] at hm; cases hm
    | some od =>
      cases od with
      | none =>
        simp only [q1] at hm
        cases hm
        exact .inl ⟨rw2.stop p2.sr q1, kk1 μ2 H2 σ2 p2 sl2⟩
      | some d =>
        simp only [q1] at hm
        obtain ⟨go, yl⟩ := rw2.go p2.sr q1
        refine .inr ⟨go, fun σ' H' => ∃ μ' S'' L'', Post X.K X.mg μ1 H1 μ' S'' H' ∧ SL X.K μ' H' L'' σ' ∧ loopN (frStep w (fun d L S => asg P g d L S) (fun L S => exs P y L S)) m (t + 1, L'', S'') = some (fl, L', S'), fun σ' H' hh => ⟨m, Nat.lt_succ_self m, hh⟩, fun xv H3 yy => ?_⟩
        obtain ⟨p3, rp, rdw⟩ := yl xv H3 yy
        have rdn : tupTg g = false → RD X.K μ2 H3 d xv := fun hng => by
          cases hww : enW w with
          | false => exact rdw hww
          | true => rw [hw hww] at hng; cases hng
        cases q2 : asg P g d L2 S2 with
        | none => simp only [q2] at hm; cases hm
        | some z =>
          obtain ⟨L3, S3⟩ := z
          simp only [q2] at hm
          refine ⟨μ2, S2, L2, d, L3, S3, p3.sr, sl2.mono p3.pre p3.tu, rp, rdn, q2, fun μ4 H4 σ4 p4 sl4 => ?_⟩
          cases q3 : exs P y L3 S3 with
          | none => simp only [q3] at hm; cases hm
          | some z =>
            obtain ⟨f2, L4, S4⟩ := z
            refine ⟨μ4, S3, L3, f2, L4, S4, p4.sr, sl4, q3, ?_⟩
            have pp := (p2.trans p3).trans p4
            cases f2 with
            | nx =>
              simp only [q3] at hm
              exact fun μ' H' σ' p s => ⟨μ', S4, L4, pp.trans p, s, hm⟩
            | ct =>
              simp only [q3] at hm
              exact fun μ' H' σ' p s => ⟨μ', S4, L4, pp.trans p, s, hm⟩
            | bk =>
              simp only [q3] at hm
              cases hm
              exact fun μ' H' σ' p s => kk1 μ' H' σ' (pp.trans p) s
            | rt d =>
              simp only [q3] at hm
              cases hm
              exact fun μ' H' v p s => kk1 μ' H' v (pp.trans p) s
            | exc cc fs =>
              simp only [q3] at hm
              cases hm
              exact fun μ' H' σ' cls dd p s r => kk1 μ' H' σ' cls dd (pp.trans p) s r
end
end Dy

namespace Dy
open PySem PySem.Spec PyProof.Rows L2
section
variable {X : Cx} {P : Pm} {c : Cc} {k n : Nat} {W : WX}
/-! ### raise -/
theorem RX.mono {K : PySem.W.Frag} {mg : Str → Option Value} {μ μ' : List Addr} {H H' : Hp} {cn : Str} {fs : List (Str × D)} {cls : Value} {d : Option Addr} (p : Pre μ μ') (t : Tu H H') (h : RX K mg μ H cn fs cls d) (hx : ∀ a gs, H a = some (.xd gs) → H' a = some (.xd gs)) : RX K mg μ' H' cn fs cls d := by
  obtain ⟨h1, h2, h3⟩ := h
  refine ⟨h1, h2, ?_⟩
  rcases h3 with h3 | ⟨a, gs, e1, e2, e3⟩
  · exact .inl h3
  · exact .inr ⟨a, gs, e1, hx _ _ e2, e3.mono p t⟩
theorem raiseOk_ok {e a : Expr} {x : Str} (h : raiseOk c e = some (x, a)) : ∃ p cp, e = .Call (.Name x p) [a] [] cp ∧ glob c x = true ∧ c.excs.contains x = true := by
  unfold raiseOk at h
  split at h
  · rename_i y p b cp
    by_cases q : (glob c y && c.excs.contains y) = true
    · rw [if_pos q] at h
      cases h
      obtain ⟨q1, q2⟩ := Bool.and_eq_true_iff.mp q
      exact ⟨p, cp, rfl, q1, q2⟩
    · rw [if_neg q] at h; cases h
  · cases h
theorem snd_raise (F : Fine X P c k) (tk : Takes X W) {e a : Expr} {x : Str} {y : E} {pos : Pos} (h : raiseOk c e = some (x, a)) (ha : cE n c a = some y) : PS X (.Raise (some e) none pos) (tS X.K X.mg W (ex P (.raise x y))) := by
  obtain ⟨p, cp, rfl, hg, hx⟩ := raiseOk_ok h
  obtain ⟨C, fI, fl, m, gs, ok, hm, T, M, hex⟩ := F.g.exc x hx
  obtain ⟨fd, hF, hb⟩ := ini_fnok (base := X.base) (CX := fun _ _ _ _ _ _ => False) (k := k) T M
  have hA := (snd n).e F tk ha
  refine (ps_raise F.calm tk (pmk_oex T.ox T.ini T.tI hF F.room hb .nil (fun _ _ _ _ _ _ _ z => z.elim) (F.gl hg).1 hm (pa_cons hA pa_nil (star_cons (cE_star ha))) (F.gl hg).2 (star_cons (cE_star ha)) rfl)).imp fun D σ H ⟨μ, S, L, fl0, L', S', sr, sl, e0, kk⟩ => ?_
  refine rdS (m := ev P y) sr sl e0 kk fun d S1 μ1 H1 v e1 sr1 sl1 p1 t1 rx k1 => ?_
  cases q : P.exc x d with
  | none => simp only [q] at e1; cases e1
  | some fs =>
    simp only [q] at e1
    cases e1
    obtain ⟨hfs, hok⟩ := hex d fs q
    subst hfs
    refine ⟨by show 1 ≤ 1000; omega, fun ad had => ⟨ad, v, rfl, hok _ _ _ rx, upd_same, fun dd hdd hne => ⟨rfl, dd, [(fl, v)], upd_same, ?_, ?_, ?_⟩⟩⟩
    · rw [upd_ne (ne_of_none (H := upd H1 ad (exo ad C none)) upd_same hdd |>.symm), upd_same]
    · rw [upd_ne hne] at hdd
      exact hdd
    · have hd1 : H1 dd = none := by rw [upd_ne hne] at hdd; exact hdd
      have e9 : upd (del (upd (upd (upd H1 ad (exo ad C none)) dd (exd dd [(fl, v)])) ad (exo ad C (some dd))) ad) dd (.xd [(fl, v)]) = upd H1 dd (.xd [(fl, v)]) := by
        funext b
        by_cases hb : b = dd
        · rw [hb, upd_same, upd_same]
        · rw [upd_ne hb, upd_ne hb]
          by_cases hb2 : b = ad
          · rw [hb2, del_same, had]
          · rw [del_ne hb2, upd_ne hb2, upd_ne hb, upd_ne hb2]
      rw [e9]
      have P1 : Post X.K X.mg μ1 H1 μ1 _ (upd H1 dd (.xd [(fl, v)])) := .side sr1 hd1
      refine k1 μ1 _ σ _ _ P1 (sl1.mono P1.pre P1.tu) ⟨hm, fun f v2 hv => ?_, .inr ⟨dd, _, rfl, upd_same, .cons (rx.mono P1.pre P1.tu) .nil⟩⟩
      rw [List.lookup_cons] at hv
      cases q2 : (f == fl) with
      | true => rw [beq_iff_eq.mp q2]; exact T.noat
      | false => rw [q2] at hv; cases hv

/-! ### an except suite -/
theorem Fine.tr (F : Fine X P c k) {pn : List (Addr × Obj)} {xe : Value → Shared → Prop} (h : PassesOwn (model X.prog X.w) X.A X.env xe) : Fine (X.tr pn xe) P c k where
  N := F.N
  names := F.names
  nd := F.nd
  kind := F.kind
  fn := F.fn
  calm := F.calm
  room := F.room
  pass := h
  stk := F.stk
  g := F.g
/-- what stands while the exception at ad (class cls, dict d) is handled -/
def HG (X : Cx) (ad : Addr) (cls : Value) (d : Option Addr) (i : Option Nat) (P : Pm) (μ : List Addr) (S : Sto) (L : Lo) (cn : Str) (fs : List (Str × D)) (σ : L2.St) (H : Hp) : Prop :=
  SR X.K X.mg μ S H ∧ SL X.K μ H L σ ∧ (∀ j, i = some j → σ[j]? = some (some (.ref ad))) ∧ RX X.K X.mg μ H cn fs cls d ∧ ∃ y b, P.sub cn y = some b
theorem HG.mono {ad : Addr} {cls : Value} {d : Option Addr} {i : Option Nat} {μ μ' : List Addr} {S S' : Sto} {L : Lo} {cn : Str} {fs : List (Str × D)} {σ : L2.St} {H H' : Hp} (h : HG X ad cls d i P μ S L cn fs σ H) (p : Post X.K X.mg μ H μ' S' H') : HG X ad cls d i P μ' S' L cn fs σ H' := by
  obtain ⟨h1, h2, h3, h4, h5⟩ := h
  exact ⟨p.sr, h2.mono p.pre p.tu, h3, h4.mono p.pre p.tu (fun a gs e => p.tu _ _ e trivial), h5⟩
def tHE (X : Cx) (ad : Addr) (cls : Value) (d : Option Addr) (i : Option Nat) (P : Pm) (x : HE) : TE := fun σ H Q => ∃ μ S L cn fs dv, HG X ad cls d i P μ S L cn fs σ H ∧ hE fs S x L = some dv ∧ ∀ H' v, Post X.K X.mg μ H μ S H' → RD X.K μ H' dv v → Q v H'
def tHEs (X : Cx) (ad : Addr) (cls : Value) (d : Option Addr) (i : Option Nat) (P : Pm) (x : HEs) : TA := fun σ H Q => ∃ μ S L cn fs dv, HG X ad cls d i P μ S L cn fs σ H ∧ hEs fs S x L = some dv ∧ ∀ H' v, Post X.K X.mg μ H μ S H' → RDs X.K μ H' dv v → Q v H'
def tHT (X : Cx) (ad : Addr) (cls : Value) (d : Option Addr) (i : Option Nat) (P : Pm) (x : HT) : TT := fun σ H Q => ∃ μ S L cn fs b, HG X ad cls d i P μ S L cn fs σ H ∧ hT P cn fs S x L = some b ∧ ∀ H', Post X.K X.mg μ H μ S H' → Q b H'
def KH (X : Cx) (μ : List Addr) (S : Sto) (σ : L2.St) (H : Hp) (D : Ends) : Fl → Prop
  | .nx => ∀ H', Post X.K X.mg μ H μ S H' → D.nx σ H'
  | .rt dv => ∀ H' v, Post X.K X.mg μ H μ S H' → RD X.K μ H' dv v → D.rt v H'
  | _ => False
theorem KH.mono {μ : List Addr} {S : Sto} {σ : L2.St} {H H' : Hp} {D : Ends} {fl : Fl} (p : Post X.K X.mg μ H μ S H') (h : KH X μ S σ H D fl) : KH X μ S σ H' D fl := by
  cases fl with
  | nx => exact fun H2 q => h H2 (p.trans q)
  | rt dv => exact fun H2 v q r => h H2 v (p.trans q) r
  | _ => exact h
def tHC (X : Cx) (ad : Addr) (cls : Value) (d : Option Addr) (i : Option Nat) (P : Pm) (x : HC) : TS := fun D σ H => ∃ μ S L cn fs fl, HG X ad cls d i P μ S L cn fs σ H ∧ hC P cn fs S x L = some fl ∧ KH X μ S σ H D fl
def tHCs (X : Cx) (ad : Addr) (cls : Value) (d : Option Addr) (i : Option Nat) (P : Pm) (x : HCs) : TS := fun D σ H => ∃ μ S L cn fs fl, HG X ad cls d i P μ S L cn fs σ H ∧ hCs P cn fs S x L = some fl ∧ KH X μ S σ H D fl
/-- the suite's context -/
structure HX (X : Cx) (P : Pm) (c : Cc) (k : Nat) (nm : Option Str) (i : Option Nat) (ad : Addr) (oe : Obj) (cls : Value) (d : Option Addr) (pn : List (Addr × Obj)) : Prop where
  F : Fine X P c k
  zc : Zc cls d oe
  hf : ∃ vs, oe.data = .fields vs
  slot : hSlot c nm = some i
theorem isNm_ok {nm : Option Str} {e : Expr} (h : isNm nm e = true) : ∃ y p, e = .Name y p ∧ nm = some y := by
  unfold isNm at h
  split at h
  · rename_i y p
    exact ⟨y, p, rfl, of_decide_eq_true h⟩
  · cases h
variable {nm : Option Str} {i : Option Nat} {ad : Addr} {oe : Obj} {cls : Value} {d : Option Addr} {pn : List (Addr × Obj)}
theorem HX.name (h : HX X P c k nm i ad oe cls d pn) {e : Expr} (he : isNm nm e = true) : ∃ j, i = some j ∧ PE (X.suite ad ((ad, oe) :: pn)) e (tVar j) := by
  obtain ⟨y, p, rfl, hn⟩ := isNm_ok he
  have hs := h.slot
  rw [hn] at hs
  have hs' : (if (nameOk y && decide (c.names.lookup y = some .local)) = true then (idx c.N y).map some else none) = some i := hs
  by_cases q : (nameOk y && decide (c.names.lookup y = some .local)) = true
  · rw [if_pos q] at hs'
    obtain ⟨j, hj, rfl⟩ := map_some hs'
    obtain ⟨q1, q2⟩ := Bool.and_eq_true_iff.mp q
    exact ⟨j, rfl, pe_var (h.F.slot hj) (h.F.vis (.inl (of_decide_eq_true q2))) (not_dbg q1).1 (not_dbg q1).2⟩
  · rw [if_neg q] at hs'; cases hs'

theorem SL.hide {K : PySem.W.Frag} {μ : List Addr} {H : Hp} {L : Lo} {σ : L2.St} (l : SL K μ H L σ) (i : Nat) (x : Option V) : SL K μ H (L.set i none) (σ.set i x) := by
  refine ⟨by simp [l.len], fun j e q => ?_⟩
  by_cases hj : j = i
  · subst hj
    by_cases hlt : j < L.length
    · rw [List.getElem?_set_self hlt] at q; cases q
    · rw [List.getElem?_eq_none (by simpa using hlt)] at q; cases q
  · rw [List.getElem?_set_ne (Ne.symm hj)] at q ⊢
    exact l.get j e q
/-- e.f -/
theorem hE_fld (h : HX X P c k nm i ad oe cls d pn) {o : Expr} {f : Str} {pos : Pos} (ho : isNm nm o = true) : PE (X.suite ad ((ad, oe) :: pn)) (.Attribute o f pos) (tHE X ad cls d i P (.fld f)) := by
  obtain ⟨j, hj, he⟩ := h.name ho
  obtain ⟨y, p, rfl, _⟩ := isNm_ok ho
  refine PE.sel fun σ H Q ⟨μ, S, L, cn, fs, dv, hg, e, q⟩ => ?_
  obtain ⟨h1, h2, h3, ⟨h4, h5, h6⟩, yy, b, h7⟩ := id hg
  obtain ⟨C, cv, g1, g2, g3, g4, g5⟩ := h.F.g.sub cn yy b h7
  have hcls : cls = .ref C := by simpa using h4.symm.trans g1
  subst hcls
  have e' : fs.lookup f = some dv := e
  have hno := h5 f dv e'
  refine ⟨_, pe_xf (T := ⟨g5.ga, g5.gt, g5.sub, g5.hd⟩) hno h.zc h.hf he rfl, ?_⟩
  refine ⟨_, h3 j hj, rfl, rfl, ?_⟩
  rcases h6 with ⟨rfl, _⟩ | ⟨dd, gs, e1, e2, e3⟩
  · cases e'
  · obtain ⟨v, e4, e5⟩ := e3.look e'
    exact ⟨dd, gs, v, e1, e2, e4, q _ _ (.refl h1) e5⟩
/-- isinstance(e, C) -/
theorem call_isX {X : Cx} {ad C : Addr} {oe : Obj} {d : Option Addr} {pn : List (Addr × Obj)} (E : ExcK X.K C) (hz : Zc (.ref C) d oe) (hf : ∃ vs, oe.data = .fields vs) : CallR (X.suite ad ((ad, oe) :: pn)) (.builtin "isinstance") (fun xs H Q => ∃ (v : V) (cv : Value) (b : Bool), xs = [.ref ad, v] ∧ (∀ u, RelV v u → u = cv) ∧ PySem.W.kitOne X.K (.ref C) cv = some b ∧ (d = none ∨ ∃ dd gs, d = some dd ∧ H dd = some (.xd gs)) ∧ Q (.bl b) H) := by
  intro pins s σ H xs us Q I r ⟨c, cv, b, e1, hcv, e, hd, q⟩
  subst e1
  cases r with
  | cons rx rr =>
    cases rr with
    | cons rt rr =>
      cases rr
      cases rx
      have ec := hcv _ rt
      subst ec
      obtain ⟨hget, _⟩ := I.pin (ad, oe) (List.mem_append.mpr (.inl List.mem_cons_self))
      obtain ⟨vs, hv⟩ := hf
      have J : ∃ od, PySem.W.InstAt s.heap ad oe C od := by
        rcases hd with rfl | ⟨dd, gs, rfl, hdd⟩
        · refine ⟨none, hget, hz.1, by unfold PySem.W.notCls; rw [hv] <;> rfl, ?_⟩
          rw [hz.2]
          trivial
        · have hx : ObjOk X.prog X.w H s.heap dd (.xd gs) := I.hok dd _ hdd
          obtain ⟨mA, hns, hr⟩ := hx
          obtain ⟨od, ho, hl⟩ := lookIn_ns hns
          exact ⟨some od, hget, hz.1, by unfold PySem.W.notCls; rw [hv] <;> rfl, by rw [hz.2]; exact ho⟩
      obtain ⟨od, J⟩ := J
      exact PySem.W.kia_one (PySem.W.kitx_exc E.cl E.ga E.gt E.sub E.ca E.sp E.tk E.ob) I.kIn J e (fun z => nomatch z) fun tk => ⟨.bl b, H, I.kept (t' := tk) fun _ _ z => z, rfl, q⟩
theorem hT_isi (h : HX X P c k nm i ad oe cls d pn) {e : Expr} {y : Str} {p1 p2 pos : Pos} (hgi : glob c "isinstance" = true) (hgy : glob c y = true) (he : isNm nm e = true) :
    PT (X.suite ad ((ad, oe) :: pn)) (.Call (.Name "isinstance" p1) [e, .Name y p2] [] pos) (tHT X ad cls d i P (.isi y)) := by
  obtain ⟨j, hj, hE⟩ := h.name he
  obtain ⟨y0, p0, rfl, _⟩ := isNm_ok he
  refine PT.sel fun σ H Q ⟨μ, S, L, cn, fs, b, hg, e, q⟩ => ?_
  obtain ⟨h1, h2, h3, ⟨h4, h5, h6⟩, yy, b2, h7⟩ := id hg
  have e' : P.sub cn y = some b := e
  obtain ⟨C, cv, g1, g2, g3, g4, g5⟩ := h.F.g.sub cn y b e'
  have hcls : cls = .ref C := by simpa using h4.symm.trans g1
  subst hcls
  have arg : ∃ v : V, (∀ u, RelV v u → u = cv) ∧ PE (X.suite ad ((ad, oe) :: pn)) (.Name y p2) (tC v) := by
    rcases g2 with ⟨m1, C2, rfl⟩ | ⟨m1, m2, m3, T, rfl⟩
    · exact ⟨.ref C2, fun u hu => hu, pe_glob (h.F.gl hgy).1 m1 rfl (h.F.gl hgy).2⟩
    · exact ⟨.ty T, fun u hu => hu, pe_bltn (h.F.gl hgy).1 m1 m2 rfl m3 (h.F.gl hgy).2⟩
  obtain ⟨v, hv, hP⟩ := arg
  refine ⟨_, pt_val (pe_callB (call_isX g5 h.zc h.hf) (h.F.gl hgi).1 h.F.g.isi (by decide +kernel) (pa_cons hE (pa_cons hP pa_nil rfl) rfl) (by decide) (h.F.gl hgi).2 rfl rfl), ?_⟩
  refine ⟨_, h3 j hj, v, cv, b, rfl, hv, g4, ?_, b, rfl, q _ (.refl h1)⟩
  rcases h6 with ⟨_, rfl⟩ | ⟨dd, gs, e1, e2, _⟩
  · exact .inl rfl
  · exact .inr ⟨dd, gs, e1, e2⟩
theorem snd_hE : ∀ (n : Nat), (∀ {e : Expr} {x : HE}, cHE n c nm e = some x → HX X P c k nm i ad oe cls d pn → PE (X.suite ad ((ad, oe) :: pn)) e (tHE X ad cls d i P x)) ∧
    (∀ {es : List Expr} {x : HEs}, cHEs n c nm es = some x → HX X P c k nm i ad oe cls d pn → PA (X.suite ad ((ad, oe) :: pn)) es (tHEs X ad cls d i P x)) := by
  intro n
  induction n with
  | zero => exact ⟨fun h => by simp [cHE] at h, fun h => by simp [cHEs] at h⟩
  | succ n ih =>
    obtain ⟨ihE, ihEs⟩ := ih
    have lit : ∀ {e : Expr} {dv : D} {v : V}, PE (X.suite ad ((ad, oe) :: pn)) e (tC v) → (∀ μ H, RD X.K μ H dv v) → PE (X.suite ad ((ad, oe) :: pn)) e (tHE X ad cls d i P (.lit dv)) := fun hp hr => hp.imp fun σ H Q ⟨μ, S, L, cn, fs, dv', hg, e, q⟩ => by
      cases e
      exact q H _ (.refl hg.1) (hr _ _)
    have star : ∀ {e : Expr} {x : HE} {n : Nat}, cHE n c nm e = some x → isStar e = false := fun {e x n} h => by
      cases n with
      | zero => simp [cHE] at h
      | succ n => cases e <;> first | rfl | (simp [cHE] at h)
    refine ⟨fun {e x} h hx => ?_, fun {es x} h hx => ?_⟩
    · cases e with
      | Constant v kk pos =>
        cases v with
        | int z => cases h; exact lit pe_int fun _ _ => .int z
        | bool b => cases h; exact lit pe_bl fun _ _ => .bl b
        | none => cases h; exact lit pe_non fun _ _ => .non
        | str z =>
          cases h
          refine lit pe_str fun μ H => ?_
          have q := RD.str (K := X.K) (μ := μ) (H := H) z.cps.toList
          rw [stO_of] at q
          exact q
        | _ => cases h
      | Name y pos =>
        have h0 : (if (nameOk y && !decide (nm = some y) && decide (c.names.lookup y = some .local)) = true then (idx c.N y).map HE.var else none) = some x := h
        by_cases q : (nameOk y && !decide (nm = some y) && decide (c.names.lookup y = some .local)) = true
        · rw [if_pos q] at h0
          obtain ⟨j, hj, rfl⟩ := map_some h0
          obtain ⟨q1, q2⟩ := Bool.and_eq_true_iff.mp q
          obtain ⟨q3, _⟩ := Bool.and_eq_true_iff.mp q1
          refine (pe_var (X := X.suite ad ((ad, oe) :: pn)) (hx.F.slot hj) (hx.F.vis (.inl (of_decide_eq_true q2))) (not_dbg q3).1 (not_dbg q3).2).imp fun σ H Q ⟨μ, S, L, cn, fs, dv, hg, e, q⟩ => ?_
          have e' : (match L[j]? with
            | some (some d) => some d
            | _ => none) = some dv := e
          cases ql : L[j]? with
          | none => rw [ql] at e'; cases e'
          | some o =>
            cases o with
            | none => rw [ql] at e'; cases e'
            | some dd =>
              rw [ql] at e'
              cases e'
              obtain ⟨v, h4, h5⟩ := hg.2.1.get j _ ql
              exact ⟨v, h4, q H v (.refl hg.1) h5⟩
        · rw [if_neg q] at h0; cases h0
      | Attribute o f pos =>
        have h0 : (if isNm nm o = true then some (HE.fld f) else none) = some x := h
        by_cases q : isNm nm o = true
        · rw [if_pos q] at h0
          cases h0
          exact hE_fld hx q
        · rw [if_neg q] at h0; cases h0
      | Tuple es kk pos =>
        obtain ⟨y, h1, rfl⟩ := map_some (show (cHEs n c nm es).map HE.tup = some x from h)
        refine (pe_tupF (ihEs h1 hx)).imp fun σ H Q ⟨μ, S, L, cn, fs, dv, hg, e, q⟩ => ?_
        have e' : (match hEs fs S y L with
          | some ds => if ds.length ≤ sizeLine then some (D.tup ds) else none
          | none => none) = some dv := e
        cases q2 : hEs fs S y L with
        | none => rw [q2] at e'; cases e'
        | some ds =>
          rw [q2] at e'
          dsimp only at e'
          by_cases hc : ds.length ≤ sizeLine
          · rw [if_pos hc] at e'
            cases e'
            refine ⟨μ, S, L, cn, fs, ds, hg, q2, fun H' vs pp rs => ⟨by rw [← rs.length]; exact hc, fun p o hp hd => ?_⟩⟩
            exact q _ _ (pp.trans (.side pp.sr hp)) (.tup (.new hd) (rs.mono (.refl _) (.new hp)))
          · rw [if_neg hc] at e'; cases e'
      | Compare a ops cs pos =>
        cases ops with
        | nil => cases h
        | cons o ops =>
          cases ops with
          | cons _ _ => cases h
          | nil =>
            cases cs with
            | nil => cases h
            | cons b cs =>
              cases cs with
              | cons _ _ => cases h
              | nil =>
                have h2 : (if behindInMarks o b = true then none else o2 (cHE n c nm a) (cHE n c nm b) (.cmp o)) = some x := h
                cases q : behindInMarks o b with
                | true => rw [q] at h2; cases h2
                | false =>
                  rw [q, if_neg Bool.false_ne_true] at h2
                  obtain ⟨x1, y1, h3, h4, rfl⟩ := o2_ok h2
                  refine (pe_cmpR op_any (ihE h3 hx) (ihE h4 hx) q).imp fun σ H Q ⟨μ, S, L, cn, fs, dv, hg, e, q⟩ => ?_
                  have e' : (match hE fs S x1 L, hE fs S y1 L with
                    | some x, some y => (cmpD o S x y).map D.bl
                    | _, _ => none) = some dv := e
                  cases q1 : hE fs S x1 L with
                  | none => rw [q1] at e'; cases e'
                  | some d1 =>
                    cases q2 : hE fs S y1 L with
                    | none => rw [q1, q2] at e'; cases e'
                    | some d2 =>
                      rw [q1, q2] at e'
                      obtain ⟨bb, e5, rfl⟩ := map_some e'
                      refine ⟨μ, S, L, cn, fs, d1, hg, q1, fun H1 v p1 r1 => ⟨μ, S, L, cn, fs, d2, hg.mono p1, q2, fun H2 w p2 r2 => ?_⟩⟩
                      exact cmpD_ok (X := X.suite ad ((ad, oe) :: pn)) hx.F.hu p2.sr (r1.mono p2.pre p2.tu) r2 e5 (q _ _ (p1.trans p2) (.bl bb))
      | _ => cases h
    · cases es with
      | nil =>
        cases h
        refine pa_nil.imp fun σ H Q ⟨μ, S, L, cn, fs, dv, hg, e, q⟩ => ?_
        cases e
        exact q H _ (.refl hg.1) .nil
      | cons a es =>
        obtain ⟨x1, y1, h1, h2, rfl⟩ := o2_ok (show o2 (cHE n c nm a) (cHEs n c nm es) .cons = some x from h)
        refine (pa_cons (ihE h1 hx) (ihEs h2 hx) (star_cons (star h1))).imp fun σ H Q ⟨μ, S, L, cn, fs, dv, hg, e, q⟩ => ?_
        have e' : (match hE fs S x1 L, hEs fs S y1 L with
          | some d, some ds => some (d :: ds)
          | _, _ => none) = some dv := e
        cases q1 : hE fs S x1 L with
        | none => rw [q1] at e'; cases e'
        | some d1 =>
          cases q2 : hEs fs S y1 L with
          | none => rw [q1, q2] at e'; cases e'
          | some d2 =>
            rw [q1, q2] at e'
            cases e'
            exact ⟨μ, S, L, cn, fs, d1, hg, q1, fun H1 v p1 r1 => ⟨μ, S, L, cn, fs, d2, hg.mono p1, q2, fun H2 w p2 r2 => q _ _ (p1.trans p2) (.cons (r1.mono p2.pre p2.tu) r2)⟩⟩
theorem snd_hT : ∀ (n : Nat), (∀ {e : Expr} {x : HT}, cHT n c nm e = some x → HX X P c k nm i ad oe cls d pn → PT (X.suite ad ((ad, oe) :: pn)) e (tHT X ad cls d i P x)) ∧
    (∀ {op : BoolOp} {vs : List Expr} {pos : Pos} {x : HT}, cHB n c nm op vs = some x → HX X P c k nm i ad oe cls d pn → PW (X.suite ad ((ad, oe) :: pn)) (.BoolOp op vs pos) (tHT X ad cls d i P x)) := by
  intro n
  induction n with
  | zero => exact ⟨fun h => by simp [cHT] at h, fun h => by simp [cHB] at h⟩
  | succ n ih =>
    obtain ⟨ihT, ihB⟩ := ih
    refine ⟨fun {e x} h hx => ?_, fun {op vs pos x} h hx => ?_⟩
    · cases e with
      | UnaryOp op a pos =>
        cases op with
        | Not =>
          obtain ⟨y, h1, rfl⟩ := map_some (show (cHT n c nm a).map HT.nt = some x from h)
          refine (pt_not (ihT h1 hx)).imp fun σ H Q ⟨μ, S, L, cn, fs, b, hg, e, q⟩ => ?_
          obtain ⟨b1, e1, rfl⟩ := map_some (show (hT P cn fs S y L).map (!·) = some b from e)
          exact ⟨μ, S, L, cn, fs, b1, hg, e1, fun H' pp => q H' pp⟩
        | _ => cases h
      | BoolOp op vs pos => exact (ihB (show cHB n c nm op vs = some x from h) hx).pt
      | Call f args kws pos =>
        cases kws with
        | cons _ _ => cases f <;> (try cases h) <;> (cases args with | nil => cases h | cons a0 as => cases as with | nil => cases h | cons a1 as => cases as <;> cases a1 <;> cases h)
        | nil =>
          cases f with
          | Name f0 p1 =>
            cases args with
            | nil => cases h
            | cons a0 as =>
              cases as with
              | nil => cases h
              | cons a1 as =>
                cases as with
                | cons _ _ => cases a1 <;> cases h
                | nil =>
                  cases a1 with
                  | Name y p2 =>
                    have h0 : (if (decide (f0 = "isinstance") && glob c "isinstance" && isNm nm a0 && glob c y && c.hcl.contains y) = true then some (HT.isi y) else none) = some x := h
                    by_cases q : (decide (f0 = "isinstance") && glob c "isinstance" && isNm nm a0 && glob c y && c.hcl.contains y) = true
                    · rw [if_pos q] at h0
                      cases h0
                      obtain ⟨q, _⟩ := Bool.and_eq_true_iff.mp q
                      obtain ⟨q, q4⟩ := Bool.and_eq_true_iff.mp q
                      obtain ⟨q, q3⟩ := Bool.and_eq_true_iff.mp q
                      obtain ⟨q1, q2⟩ := Bool.and_eq_true_iff.mp q
                      have q1 := of_decide_eq_true q1
                      subst q1
                      exact hT_isi hx q2 q4 q3
                    · rw [if_neg q] at h0; cases h0
                  | _ => cases h
          | _ => cases h
      | _ => cases h
    · cases vs with
      | nil => cases op <;> cases h
      | cons a vs =>
        cases vs with
        | nil =>
          have h1 : cHT n c nm a = some x := by cases op <;> exact h
          cases op with
          | And => exact pw_and1 (ihT h1 hx)
          | Or => exact pw_or1 (ihT h1 hx)
        | cons b vs =>
          cases op with
          | And =>
            obtain ⟨x1, y1, h1, h2, rfl⟩ := o2_ok (show o2 (cHT n c nm a) (cHB n c nm .And (b :: vs)) .and = some x from h)
            refine (pw_and (ihT h1 hx) (ihB h2 hx)).imp fun σ H Q ⟨μ, S, L, cn, fs, b, hg, e, q⟩ => ?_
            have e' : (match hT P cn fs S x1 L with
              | some true => hT P cn fs S y1 L
              | o => o) = some b := e
            cases q1 : hT P cn fs S x1 L with
            | none => rw [q1] at e'; cases e'
            | some b1 =>
              rw [q1] at e'
              refine ⟨μ, S, L, cn, fs, b1, hg, q1, fun H' pp => ?_⟩
              cases b1 with
              | true => exact ⟨μ, S, L, cn, fs, b, hg.mono pp, e', fun H2 p2 => q H2 (pp.trans p2)⟩
              | false => cases e'; exact q H' pp
          | Or =>
            obtain ⟨x1, y1, h1, h2, rfl⟩ := o2_ok (show o2 (cHT n c nm a) (cHB n c nm .Or (b :: vs)) .or = some x from h)
            refine (pw_or (ihT h1 hx) (ihB h2 hx)).imp fun σ H Q ⟨μ, S, L, cn, fs, b, hg, e, q⟩ => ?_
            have e' : (match hT P cn fs S x1 L with
              | some false => hT P cn fs S y1 L
              | o => o) = some b := e
            cases q1 : hT P cn fs S x1 L with
            | none => rw [q1] at e'; cases e'
            | some b1 =>
              rw [q1] at e'
              refine ⟨μ, S, L, cn, fs, b1, hg, q1, fun H' pp => ?_⟩
              cases b1 with
              | false => exact ⟨μ, S, L, cn, fs, b, hg.mono pp, e', fun H2 p2 => q H2 (pp.trans p2)⟩
              | true => cases e'; exact q H' pp
theorem snd_hC : ∀ (n : Nat), (∀ {s : Stmt} {x : HC}, cHC n c nm s = some x → HX X P c k nm i ad oe cls d pn → PS (X.suite ad ((ad, oe) :: pn)) s (tHC X ad cls d i P x)) ∧
    (∀ {ss : List Stmt} {x : HCs}, cHCs n c nm ss = some x → HX X P c k nm i ad oe cls d pn → PSs (X.suite ad ((ad, oe) :: pn)) ss (tHCs X ad cls d i P x)) := by
  intro n
  induction n with
  | zero => exact ⟨fun h => by simp [cHC] at h, fun h => by simp [cHCs] at h⟩
  | succ n ih =>
    obtain ⟨ihC, ihCs⟩ := ih
    refine ⟨fun {s x} h hx => ?_, fun {ss x} h hx => ?_⟩
    · cases s with
      | If t a b pos =>
        obtain ⟨x1, y1, z1, h1, h2, h3, rfl⟩ := o3_ok (show o3 (cHT n c nm t) (cHCs n c nm a) (cHCs n c nm b) HC.iff = some x from h)
        refine (ps_if ((snd_hT n).1 h1 hx) (ihCs h2 hx) (ihCs h3 hx)).imp fun D σ H ⟨μ, S, L, cn, fs, fl, hg, e, q⟩ => ?_
        have e' : (match hT P cn fs S x1 L with
          | some true => hCs P cn fs S y1 L
          | some false => hCs P cn fs S z1 L
          | none => none) = some fl := e
        cases q1 : hT P cn fs S x1 L with
        | none => rw [q1] at e'; cases e'
        | some b1 =>
          rw [q1] at e'
          refine ⟨μ, S, L, cn, fs, b1, hg, q1, fun H' pp => ?_⟩
          cases b1 with
          | true => exact ⟨μ, S, L, cn, fs, fl, hg.mono pp, e', q.mono pp⟩
          | false => exact ⟨μ, S, L, cn, fs, fl, hg.mono pp, e', q.mono pp⟩
      | Return e pos =>
        cases e with
        | none =>
          cases h
          refine ps_retN.imp fun D σ H ⟨μ, S, L, cn, fs, fl, hg, e, q⟩ => ?_
          cases e
          exact q H _ (.refl hg.1) .non
        | some e =>
          obtain ⟨y, h1, rfl⟩ := map_some (show (cHE n c nm e).map HC.ret = some x from h)
          refine (ps_ret ((snd_hE n).1 h1 hx)).imp fun D σ H ⟨μ, S, L, cn, fs, fl, hg, e, q⟩ => ?_
          obtain ⟨dv, e1, rfl⟩ := map_some (show (hE fs S y L).map Fl.rt = some fl from e)
          exact ⟨μ, S, L, cn, fs, dv, hg, e1, fun H' v pp r => q H' v pp r⟩
      | Pass pos =>
        cases h
        refine ps_pass.imp fun D σ H ⟨μ, S, L, cn, fs, fl, hg, e, q⟩ => ?_
        cases e
        exact q H (.refl hg.1)
      | _ => cases h
    · cases ss with
      | nil =>
        cases h
        refine pss_nil.imp fun D σ H ⟨μ, S, L, cn, fs, fl, hg, e, q⟩ => ?_
        cases e
        exact q H (.refl hg.1)
      | cons s ss =>
        obtain ⟨x1, y1, h1, h2, rfl⟩ := o2_ok (show o2 (cHC n c nm s) (cHCs n c nm ss) HCs.cons = some x from h)
        refine (pss_cons (ihC h1 hx) (ihCs h2 hx)).imp fun D σ H ⟨μ, S, L, cn, fs, fl, hg, e, q⟩ => ?_
        have e' : (match hC P cn fs S x1 L with
          | some .nx => hCs P cn fs S y1 L
          | o => o) = some fl := e
        cases q1 : hC P cn fs S x1 L with
        | none => rw [q1] at e'; cases e'
        | some f1 =>
          rw [q1] at e'
          refine ⟨μ, S, L, cn, fs, f1, hg, q1, ?_⟩
          cases f1 with
          | nx => exact fun H' pp => ⟨μ, S, L, cn, fs, fl, hg.mono pp, e', q.mono pp⟩
          | rt dv => cases e'; exact q
          | bk => cases e'; exact q
          | ct => cases e'; exact q
          | exc _ _ => cases e'; exact q

/-! ### try -/
theorem hval_names (F : Fine X P c k) {y : Str} {cv : Value} (hg : glob c y = true) (h : HVal X.mg y cv) : Names X y cv := by
  obtain ⟨g1, g2⟩ := F.gl hg
  refine ⟨g1, g2, ?_⟩
  rcases h with ⟨h1, _⟩ | ⟨h1, h2, h3, _⟩
  · exact .inl h1
  · exact .inr ⟨h1, h2, h3⟩
theorem hval_one {mg : Str → Option Value} {y : Str} {a b : Value} (h1 : HVal mg y a) (h2 : HVal mg y b) : a = b := by
  rcases h1 with ⟨h1, _⟩ | ⟨h1, h3, _⟩ <;> rcases h2 with ⟨h2, _⟩ | ⟨h2, h4, _⟩
  · simpa using h1.symm.trans h2
  · rw [h1] at h2; cases h2
  · rw [h1] at h2; cases h2
  · simpa using h3.symm.trans h4
theorem snd_try (I : SndS n) (F : Fine X P c k) (tk : Takes X W) {b sts : List Stmt} {st : Stmt} {y : Str} {p p2 pos : Pos} {x : Cs} {hh : HCs} (ht : c.top = true) (hg : glob c y = true) (hcl : c.hcl.contains y = true) (hb : cSs n c b = some x) (hs : hSlot c nm = some i) (hh0 : cHCs n c nm (st :: sts) = some hh) :
    PS X (.Try b [.ExceptHandler (some (.Name y p)) nm (st :: sts) p2] [] [] pos) (tS X.K X.mg W (ex P (.tryx x y i hh))) := by
  obtain ⟨cv, hv, _⟩ := F.g.hcl y hcl
  obtain ⟨stk, frm⟩ := F.stk ht
  -- what the suite says
  have suite : ∀ (a : Addr) (oe : Obj) (cls : Value) (d : Option Addr) (pn : List (Addr × Obj)), Zc cls d oe → (∃ vs, oe.data = .fields vs) → PSs (X.suite a ((a, oe) :: pn)) (st :: sts) (tHCs X a cls d i P hh) := fun a oe cls d pn hz hf => (snd_hC n).2 hh0 ⟨F, hz, hf, hs⟩
  have body : ∀ (W : WX) (pn : List (Addr × Obj)) (xe : Value → Shared → Prop), Takes (X.tr pn xe) W → PassesOwn (model X.prog X.w) X.A X.env xe → PSs (X.tr pn xe) b (tS X.K X.mg W (exs P x)) := fun W pn xe tk2 ps => I.ss (F.tr ps) tk2 hb
  -- the body's end, whatever the clause's form
  have core : ∀ {En : Ends} {σ : L2.St} {H : Hp} (Wn : WX), tS X.K X.mg W (ex P (.tryx x y i hh)) En σ H →
      (∀ {cls : Value} {d : Option Addr} {σ' : L2.St} {H' : Hp} {μ : List Addr} {S1 : Sto} {L1 L' : Lo} {S' : Sto} {cn : Str} {fs : List (Str × D)} {fl : Fl}, SR X.K X.mg μ S1 H' → SL X.K μ H' L1 σ' → RX X.K X.mg μ H' cn fs cls d →
        tryH P y i hh cn fs L1 S1 = some (fl, L', S') → ContS X.K X.mg W En μ H' L' S' fl → Wn cls d σ' H') → tS X.K X.mg Wn (exs P x) En σ H := fun {En σ H} Wn ⟨μ, S, L, fl, L', S', sr, sl, e, kk⟩ hw => by
    have e' : (match exs P x L S with
      | some (.exc cn fs, L1, S1) => tryH P y i hh cn fs L1 S1
      | o => o : OutS) = some (fl, L', S') := e
    cases q : exs P x L S with
    | none => rw [q] at e'; cases e'
    | some z =>
      obtain ⟨f1, L1, S1⟩ := z
      rw [q] at e'
      refine ⟨μ, S, L, f1, L1, S1, sr, sl, q, ?_⟩
      cases f1 with
      | nx => cases e'; exact kk
      | bk => cases e'; exact kk
      | ct => cases e'; exact kk
      | rt d => cases e'; exact kk
      | exc cn fs =>
        intro μ1 H1 σ1 cls d p1 s1 rx
        exact hw p1.sr s1 rx e' (kk.mono p1)
  -- the clause
  have hand : ∀ {En : Ends} {cls : Value} {d : Option Addr} {σ' : L2.St} {H' : Hp} {μ : List Addr} {S1 : Sto} {L1 L' : Lo} {S' : Sto} {cn : Str} {fs : List (Str × D)} {fl : Fl}, SR X.K X.mg μ S1 H' → SL X.K μ H' L1 σ' → RX X.K X.mg μ H' cn fs cls d →
        tryH P y i hh cn fs L1 S1 = some (fl, L', S') → ContS X.K X.mg W En μ H' L' S' fl →
      ∃ bb, PySem.W.exmOne X.K cls cv = some bb ∧ (bb = true → ∀ (a : Addr) (D2 : Ends) (σ2 : L2.St), SL X.K μ H' (hideL L1 i) σ2 → (slotIn L1 i = true → ∀ j, i = some j → σ2[j]? = some (some (.ref a))) → (∀ H3, Post X.K X.mg μ H' μ S' H3 → L' = hideL L1 i → ContS X.K X.mg W En μ H' (hideL L1 i) S' .nx → D2.nx σ2 H3) → (D2.rt = En.rt) → tHCs X a cls d i P hh D2 σ2 H') ∧ (bb = false → W cls d σ' H') := fun {En cls d σ' H' μ S1 L1 L' S' cn fs fl} sr sl rx e kk => by
    unfold tryH at e
    cases q : P.sub cn y with
    | none => rw [q] at e; cases e
    | some bb =>
      rw [q] at e
      obtain ⟨C, cv2, g1, g2, g3, g4, g5⟩ := F.g.sub cn y bb q
      have hcls : cls = .ref C := by simpa using rx.1.symm.trans g1
      subst hcls
      have := hval_one g2 hv
      subst this
      refine ⟨bb, g3, fun hb => ?_, fun hb => ?_⟩
      · subst hb
        intro a D2 σ2 sl2 hσ hnx hrt
        dsimp only at e
        by_cases hin : slotIn L1 i = true
        case neg => rw [if_neg hin] at e; cases e
        rw [if_pos hin] at e
        have hσ := hσ hin
        cases q2 : hCs P cn fs S1 hh (hideL L1 i) with
        | none => rw [q2] at e; cases e
        | some f2 =>
          rw [q2] at e
          refine ⟨μ, S1, hideL L1 i, cn, fs, f2, ⟨sr, sl2, hσ, rx, y, true, q⟩, q2, ?_⟩
          cases f2 with
          | nx =>
            cases e
            intro H3 pp
            exact hnx H3 pp rfl kk
          | rt dv =>
            cases e
            intro H3 v pp rv
            rw [hrt]
            exact kk μ H3 v pp rv
          | bk => cases e
          | ct => cases e
          | exc _ _ => cases e
      · subst hb
        cases e
        exact kk μ H' σ' _ _ (.refl sr) sl rx
  cases nm with
  | none =>
    cases hs
    refine (ps_try_only stk frm (hval_names F hg hv) tk body suite).imp fun En σ H hh1 => ?_
    refine core _ hh1 fun {cls d σ' H' μ S1 L1 L' S' cn fs fl} sr sl rx e kk => ?_
    obtain ⟨bb, g1, g2, g3⟩ := hand sr sl rx e kk
    exact ⟨bb, g1, fun hb a ha => g2 hb a En σ' sl (fun _ j hj => by cases hj) (fun H3 pp hl hc => hc μ H3 σ' pp (sl.mono pp.pre pp.tu)) rfl, g3⟩
  | some n0 =>
    have hs' : (if (nameOk n0 && decide (c.names.lookup n0 = some .local)) = true then (idx c.N n0).map some else none) = some i := hs
    by_cases q : (nameOk n0 && decide (c.names.lookup n0 = some .local)) = true
    · rw [if_pos q] at hs'
      obtain ⟨j, hj, rfl⟩ := map_some hs'
      obtain ⟨q1, q2⟩ := Bool.and_eq_true_iff.mp q
      have hln : X.env.kindOf n0 = some .local := by
        show X.env.scope.names.lookup n0 = _
        rw [F.names]
        exact of_decide_eq_true q2
      refine (ps_try_as (i := j) stk frm F.nd (F.slot hj) hln (hval_names F hg hv) tk body suite).imp fun En σ H hh1 => ?_
      refine core _ hh1 fun {cls d σ' H' μ S1 L1 L' S' cn fs fl} sr sl rx e kk => ?_
      obtain ⟨bb, g1, g2, g3⟩ := hand sr sl rx e kk
      refine ⟨bb, g1, fun hb a ha => g2 hb a _ (σ'.set j (some (.ref a))) (sl.hide j _) (fun hin j2 hj2 => by cases hj2; rw [List.getElem?_set_self (by rw [← sl.len]; exact of_decide_eq_true hin)]) (fun H3 pp hl hc => ?_) rfl, g3⟩
      show En.nx ((σ'.set j (some (.ref a))).set j none) H3
      rw [List.set_set]
      exact hc μ H3 _ pp ((sl.hide j none).mono pp.pre pp.tu)
    · rw [if_neg q] at hs'; cases hs'
end
end Dy

namespace Dy
open PySem PySem.Spec PyProof.Rows L2
section
variable {X : Cx} {P : Pm} {c : Cc} {k n : Nat} {W : WX}
theorem snd_never {st : Stmt} : PS X st (tS X.K X.mg W (ex P .stop)) := ps_never.imp fun D σ H ⟨μ, S, L, fl, L', S', sr, sl, e, kk⟩ => by cases e
theorem snd_s (I : SndS n) {st : Stmt} {x : C} (F : Fine X P c k) (tk : Takes X W) (h : cS (n + 1) c st = some x) : PS X st (tS X.K X.mg W (ex P x)) := by
  have stop : some C.stop = some x → PS X st (tS X.K X.mg W (ex P x)) := fun h => by cases h; exact snd_never
  cases st with
  | Expr e pos =>
    have h0 : (if isComp e = true then none else (cE n c e).map C.ex) = some x := h
    cases hc : isComp e with
    | true => rw [hc] at h0; cases h0
    | false =>
      rw [hc, if_neg Bool.false_ne_true] at h0
      obtain ⟨y, h1, rfl⟩ := map_some h0
      refine (ps_expr ((snd n).e F tk h1) (swap_none hc)).imp fun D σ H ⟨μ, S, L, fl, L', S', sr, sl, e0, kk⟩ => ?_
      refine rdS (m := ev P y) (f := fun _ S1 => some (.nx, L, S1)) sr sl e0 kk fun d S1 μ1 H1 v e1 sr1 sl1 p1 t1 rx k1 => ?_
      cases e1
      exact k1 μ1 H1 σ (.refl sr1) sl1
  | Assign ts e pos =>
    cases ts with
    | nil => exact stop h
    | cons t ts =>
      cases ts with
      | cons _ _ => exact stop h
      | nil =>
        have gen : (if asgOk c t e = true then o2 (cT n c t) (cE n c e) C.asg else none) = some x → PS X (.Assign [t] e pos) (tS X.K X.mg W (ex P x)) := fun h => by
          by_cases hok : asgOk c t e = true
          · rw [if_pos hok] at h
            obtain ⟨g, y, h1, h2, rfl⟩ := o2_ok h
            exact snd_asg F tk hok h1 h2
          · rw [if_neg hok] at h; cases h
        have gen2 : (match parOf c t e with
          | some (x, y, a, b) => (o2 (idx c.N x) (idx c.N y) Prod.mk).bind fun ij => o2 (cE n c a) (cE n c b) fun u v => C.par ij.1 ij.2 u v
          | none => if asgOk c t e = true then o2 (cT n c t) (cE n c e) C.asg else none) = some x → PS X (.Assign [t] e pos) (tS X.K X.mg W (ex P x)) := fun h0 => by
          cases q : parOf c t e with
          | none => rw [q] at h0; exact gen h0
          | some z =>
            obtain ⟨y1, y2, a, b⟩ := z
            rw [q] at h0
            obtain ⟨⟨i, j⟩, h1, h2⟩ := Option.bind_eq_some_iff.mp h0
            obtain ⟨i', j', h3, h4, h5⟩ := o2_ok h1
            cases h5
            obtain ⟨u, v, h6, h7, rfl⟩ := o2_ok h2
            exact snd_par F tk q h3 h4 h6 h7
        cases t with
        | Name y py =>
          have h0 : (if (lcSet c y py pos.line e && nameOk y) = true then o2 (idx c.N y) (cE n c e) fun i x => C.asg (.nm i) x
            else if asgOk c (.Name y py) e = true then o2 (cT n c (.Name y py)) (cE n c e) C.asg else none) = some x := h
          by_cases hl : (lcSet c y py pos.line e && nameOk y) = true
          · rw [if_pos hl] at h0
            obtain ⟨i, z, h1, h2, rfl⟩ := o2_ok h0
            exact snd_lcset F tk (Bool.and_eq_true_iff.mp hl).1 h1 h2
          · rw [if_neg hl] at h0
            exact gen h0
        | _ => exact gen2 h
  | AugAssign t op e pos =>
    cases t with
    | Name y py =>
      have h0 : (if nameOk y = true then (match c.names.lookup y with
        | some .local => o2 (idx c.N y) (cE n c e) fun i x => C.aug i op x
        | some .cell => if c.fcell.contains y then o2 (idx c.N y) (cE n c e) fun i x => C.aug i op x else none
        | _ => none) else none) = some x := h
      by_cases h1 : nameOk y = true
      · rw [if_pos h1] at h0
        cases q : c.names.lookup y with
        | none => rw [q] at h0; cases h0
        | some kd =>
          rw [q] at h0
          have hq : X.env.scope.names.lookup y = some kd := by rw [F.names]; exact q
          cases kd with
          | «local» =>
            obtain ⟨i, z, h2, h3, rfl⟩ := o2_ok h0
            exact snd_aug F tk h2 (.inl hq) (.inr hq) h3
          | cell =>
            dsimp only at h0
            by_cases hc : c.fcell.contains y = true
            · rw [if_pos hc] at h0
              obtain ⟨i, z, h2, h3, rfl⟩ := o2_ok h0
              exact snd_aug F tk h2 (.inr hq) (.inl (F.fn y hc)) h3
            · rw [if_neg hc] at h0; cases h0
          | _ => cases h0
      · rw [if_neg h1] at h0; cases h0
    | Attribute o f po =>
      have h0 : (if c.flds.contains f then o2 (cE n c o) (cE n c e) fun x y => C.augf x f op y else none) = some x := h
      by_cases hf : c.flds.contains f = true
      · rw [if_pos hf] at h0
        obtain ⟨x1, y1, h1, h2, rfl⟩ := o2_ok h0
        exact snd_augf F tk h1 h2
      · rw [if_neg hf] at h0; cases h0
    | _ => exact stop h
  | Return e pos =>
    cases e with
    | none =>
      cases h
      exact ps_retN.imp fun D σ H ⟨μ, S, L, fl, L', S', sr, sl, e0, kk⟩ => by
        cases e0
        exact kk μ H _ (.refl sr) .non
    | some e =>
      obtain ⟨y, h1, rfl⟩ := map_some (show (cE n c e).map C.ret = some x from h)
      refine (ps_ret ((snd n).e F tk h1)).imp fun D σ H ⟨μ, S, L, fl, L', S', sr, sl, e0, kk⟩ => ?_
      refine rdS (m := ev P y) (f := fun d S1 => some (.rt d, L, S1)) sr sl e0 kk fun d S1 μ1 H1 v e1 sr1 sl1 p1 t1 rx k1 => ?_
      cases e1
      exact k1 μ1 H1 v (.refl sr1) rx
  | If t a b pos =>
    obtain ⟨x1, y1, z1, h1, h2, h3, rfl⟩ := o3_ok (show o3 (cQ n c t) (cSs n c a) (cSs n c b) C.iff = some x from h)
    refine (ps_if ((snd n).q F tk h1) (I.ss F tk h2) (I.ss F tk h3)).imp fun D σ H ⟨μ, S, L, fl, L', S', sr, sl, e0, kk⟩ => ?_
    have e1 : (match tst P x1 L S with
      | none => none
      | some (.exc c fs, S1) => some (.exc c fs, L, S1)
      | some (.val true, S1) => exs P y1 L S1
      | some (.val false, S1) => exs P z1 L S1 : OutS) = some (fl, L', S') := e0
    cases q : tst P x1 L S with
    | none => rw [q] at e1; cases e1
    | some z =>
      obtain ⟨rb, S1⟩ := z
      rw [q] at e1
      cases rb with
      | exc cc fs =>
        cases e1
        exact ⟨μ, S, L, _, _, sr, sl, q, fun μ' H' cls dd p rx => kk μ' H' σ cls dd p (sl.mono p.pre p.tu) rx⟩
      | val b0 =>
        refine ⟨μ, S, L, _, _, sr, sl, q, fun μ1 H1 bb p1 hbb => ?_⟩
        subst hbb
        cases b0 with
        | true => exact ⟨μ1, S1, L, fl, L', S', p1.sr, sl.mono p1.pre p1.tu, e1, kk.mono p1⟩
        | false => exact ⟨μ1, S1, L, fl, L', S', p1.sr, sl.mono p1.pre p1.tu, e1, kk.mono p1⟩
  | While t b oe pos =>
    cases oe with
    | cons _ _ => exact stop h
    | nil =>
      obtain ⟨x1, y1, h1, h2, rfl⟩ := o2_ok (show o2 (cQ n c t) (cSs n c b) C.whl = some x from h)
      exact snd_whl I F tk h1 h2
  | For tg it b oe pos =>
    cases oe with
    | cons _ _ => exact stop h
    | nil =>
      obtain ⟨x1, y1, z1, h1, h2, h3, rfl⟩ := o3_ok (show o3 (cT n c tg) (cI n c tg it) (cSs n c b) C.fr = some x from h)
      exact snd_fr I F tk h1 h2 h3
  | Pass pos =>
    cases h
    exact ps_pass.imp fun D σ H ⟨μ, S, L, fl, L', S', sr, sl, e0, kk⟩ => by
      cases e0
      exact kk μ H σ (.refl sr) sl
  | Break pos =>
    cases h
    exact ps_break.imp fun D σ H ⟨μ, S, L, fl, L', S', sr, sl, e0, kk⟩ => by
      cases e0
      exact kk μ H σ (.refl sr) sl
  | Continue pos =>
    cases h
    exact ps_continue.imp fun D σ H ⟨μ, S, L, fl, L', S', sr, sl, e0, kk⟩ => by
      cases e0
      exact kk μ H σ (.refl sr) sl
  | Raise e cause pos =>
    cases e with
    | none => cases cause <;> exact stop h
    | some e =>
      cases cause with
      | some _ => exact stop h
      | none =>
        have h0 : (match raiseOk c e with
          | some (x, a) => (cE n c a).map (C.raise x)
          | none => some C.stop) = some x := h
        cases q : raiseOk c e with
        | none => rw [q] at h0; exact stop h0
        | some xa =>
          obtain ⟨y, a⟩ := xa
          rw [q] at h0
          obtain ⟨z, h1, rfl⟩ := map_some h0
          exact snd_raise F tk q h1
  | Try b hs oe fe pos =>
    have h0 : (match tryOf hs oe fe with
      | some (y, nm, s, r) => if (c.top && glob c y && c.hcl.contains y) = true then
          o3 (cSs n c b) (hSlot c nm) (cHCs n c nm (s :: r)) fun x i h => C.tryx x y i h
        else some C.stop
      | none => some C.stop) = some x := h
    cases q0 : tryOf hs oe fe with
    | none => rw [q0] at h0; exact stop h0
    | some z =>
      obtain ⟨y, nm, st, sts⟩ := z
      rw [q0] at h0
      obtain ⟨p, p2, rfl, rfl, rfl⟩ := tryOf_ok q0
      dsimp only at h0
      by_cases q : (c.top && glob c y && c.hcl.contains y) = true
      · rw [if_pos q] at h0
        obtain ⟨x1, y1, z1, h1, h2, h3, rfl⟩ := o3_ok h0
        obtain ⟨q, q3⟩ := Bool.and_eq_true_iff.mp q
        obtain ⟨q1, q2⟩ := Bool.and_eq_true_iff.mp q
        exact snd_try I F tk q1 q2 q3 h1 h2 h3
      · rw [if_neg q] at h0; exact stop h0
  | _ => exact stop h
theorem snd_ss (I : SndS n) {st : List Stmt} {x : Cs} (F : Fine X P c k) (tk : Takes X W) (h : cSs (n + 1) c st = some x) : PSs X st (tS X.K X.mg W (exs P x)) := by
  cases st with
  | nil =>
    cases h
    exact pss_nil.imp fun D σ H ⟨μ, S, L, fl, L', S', sr, sl, e0, kk⟩ => by
      cases e0
      exact kk μ H σ (.refl sr) sl
  | cons s st =>
    obtain ⟨x1, y1, h1, h2, rfl⟩ := o2_ok (show o2 (cS n c s) (cSs n c st) Cs.cons = some x from h)
    refine (pss_cons (I.s F tk h1) (I.ss F tk h2)).imp fun D σ H ⟨μ, S, L, fl, L', S', sr, sl, e0, kk⟩ => ?_
    have e1 : (match ex P x1 L S with
      | some (.nx, L1, S1) => exs P y1 L1 S1
      | o => o : OutS) = some (fl, L', S') := e0
    cases q : ex P x1 L S with
    | none => rw [q] at e1; cases e1
    | some z =>
      obtain ⟨f1, L1, S1⟩ := z
      rw [q] at e1
      refine ⟨μ, S, L, f1, L1, S1, sr, sl, q, ?_⟩
      cases f1 with
      | nx => exact fun μ' H' σ' p s => ⟨μ', S1, L1, fl, L', S', p.sr, s, e1, kk.mono p⟩
      | bk => cases e1; exact kk
      | ct => cases e1; exact kk
      | rt d => cases e1; exact kk
      | exc c fs => cases e1; exact kk
theorem sndS : ∀ n, SndS n := by
  intro n
  induction n with
  | zero => exact ⟨fun _ _ h => by simp [cS] at h, fun _ _ h => by simp [cSs] at h⟩
  | succ n ih => exact ⟨snd_s ih, snd_ss ih⟩
end
/-! ### defs -/
structure Fn where
  ps : List Str
  N : List Str
  dfl : List D
  body : Cs
/-- the written values and the defaults -/
def fill (fn : Fn) (ds : List D) : List D := ds ++ fn.dfl.drop (fn.dfl.length - (fn.ps.length - ds.length))
def arOk (fn : Fn) (a : Nat) : Bool := decide (a ≤ fn.ps.length) && decide (fn.ps.length ≤ a + fn.dfl.length)
def runFn (P : Pm) (fn : Fn) (ds : List D) (S : Sto) : Out D :=
  if (fill fn ds).length = fn.ps.length then match exs P fn.body ((fill fn ds).map some ++ List.replicate (fn.N.length - (fill fn ds).length) none) S with
    | some (.nx, _, S1) => some (.val .non, S1)
    | some (.rt d, _, S1) => some (.val d, S1)
    | some (.exc c fs, _, S1) => some (.exc c fs, S1)
    | _ => none
  else none
/-- the whole program: defs and methods by their keys, constants, written tables, the plain defs' names, methods (class, name) to keys, fields, classes that are made -/
structure Pr where
  fns : List (Str × Fn)
  cons : List (Str × D)
  kds : List (Str × List (List Nat × D)) := []
  pls : List Str
  mets : List ((Str × Str) × Str) := []
  flds : List (Str × Str) := []
  mks : List Str := []
  excs : List (Str × (Str × Bool)) := []
  hcl : List Str := []
  subs : List ((Str × Str) × Bool) := []
/-- an exception's fields, of one value: isI: a number, else a text -/
def excD (fl : Str) (isI : Bool) (d : D) : Option (List (Str × D)) := match isI, d with
  | true, .int i => if i.natAbs < 1152921504606846976 then some [(fl, .int i)] else none
  | false, .str z => if z.length ≤ 1000000 then some [(fl, .str z)] else none
  | _, _ => none
abbrev CalT := Str → List D → Sto → Out D
def arF (G : Pr) (key : Str) (a : Nat) : Bool := match G.fns.lookup key with
  | some fn => arOk fn a
  | none => false
def pm (G : Pr) (c1 c0 : CalT) : Pm where
  con := fun x => G.cons.lookup x
  kd := fun x => G.kds.lookup x
  fds := fun c f => G.flds.contains (c, f)
  mts := fun c m a => match G.mets.lookup (c, m) with
    | some key => arF G key (a + 1)
    | none => false
  cal := c1
  met := fun c m ds S => match G.mets.lookup (c, m) with
    | some key => c1 key ds S
    | none => none
  mak := fun c ds S => match G.mets.lookup (c, ("__init__" : Str)) with
    | some key => c0 key ds S
    | none => none
  exc := fun x d => match G.excs.lookup x with
    | some (fl, isI) => excD fl isI d
    | none => none
  sub := fun x y => G.subs.lookup (x, y)
def callF (G : Pr) : Nat → CalT
  | 0 => fun _ _ _ => none
  | 1 => fun f ds S => match G.fns.lookup f with
    | some fn => runFn (pm G (fun _ _ _ => none) (fun _ _ _ => none)) fn ds S
    | none => none
  | k + 2 => fun f ds S => match G.fns.lookup f with
    | some fn => runFn (pm G (callF G (k + 1)) (callF G k)) fn ds S
    | none => none
def pmOf (G : Pr) (k : Nat) : Pm := pm G (callF G k) (callF G (k - 1))
theorem callF_succ {G : Pr} {k : Nat} {f : Str} {fn : Fn} {ds : List D} {S : Sto} (h : G.fns.lookup f = some fn) : callF G (k + 1) f ds S = runFn (pmOf G k) fn ds S := by
  cases k with
  | zero =>
    show (match G.fns.lookup f with
      | some fn => runFn (pm G (fun _ _ _ => none) (fun _ _ _ => none)) fn ds S
      | none => none) = _
    rw [h]
    rfl
  | succ k =>
    show (match G.fns.lookup f with
      | some fn => runFn (pm G (callF G (k + 1)) (callF G k)) fn ds S
      | none => none) = _
    rw [h]
    rfl
theorem fill_full {fn : Fn} {ds : List D} (h : ds.length = fn.ps.length) : fill fn ds = ds := by
  unfold fill
  rw [h, Nat.sub_self, Nat.sub_zero, List.drop_length, List.append_nil]
theorem fill_fill {fn : Fn} {ds : List D} (h : arOk fn ds.length = true) : (fill fn ds).length = fn.ps.length := by
  obtain ⟨h1, h2⟩ := Bool.and_eq_true_iff.mp h
  have h3 := of_decide_eq_true h1
  have h4 := of_decide_eq_true h2
  unfold fill
  rw [List.length_append, List.length_drop]
  omega
/-- the numbers of values that a def may be called with -/
def arities (G : Pr) (key : Str) : List Nat := match G.fns.lookup key with
  | some fn => (List.range (fn.ps.length + 1)).filter (arOk fn)
  | none => []
def ccOf (G : Pr) (names : List (Str × NameKind)) (fn : Fn) : Cc where
  N := fn.N
  names := names
  fns := G.pls.flatMap fun x => (arities G x).map fun a => (x, a)
  cls := G.mks.flatMap fun c => match G.mets.lookup (c, ("__init__" : Str)) with
    | some key => ((arities G key).filter (fun a => decide (0 < a))).map fun a => (c, a - 1)
    | none => []
  cons := G.cons.map (·.1)
  kds := G.kds.map (·.1)
  mets := G.mets.flatMap fun q => match G.mets.lookup q.1 with
    | some key => ((arities G key).filter (fun a => decide (0 < a))).map fun a => (q.1.2, a - 1)
    | none => []
  flds := G.flds.map (·.2)
  excs := G.excs.map (·.1)
  hcl := G.hcl
  top := true
  fcell := cellsOf names
/-- what is known of the text: the def at f, its core text is its body's -/
structure DefT (K : PySem.W.Frag) (G : Pr) (fn : Fn) (f : Addr) : Prop where
  ex : ∃ (fd : FuncData) (nm qu : Str) (params : Arguments) (body : List Stmt) (scope : Scope) (dvs : List V) (kws : List (Str × V)) (n : Nat), FunD K nm qu params body scope dvs kws f fd ∧
    (∀ a, arOk fn a = true → ∃ ds dv, Vals dv ds ∧ Binds K fd fn.ps ds ∧ ∀ μ H, RDs K μ H (fn.dfl.drop (fn.dfl.length - (fn.ps.length - a))) dv) ∧
    (fn.dfl = [] → ∀ (s : Shared) (us : List Value), us.length = fn.ps.length → BindsTo s fd ⟨us, []⟩ (fn.ps.zip us)) ∧ FnScope fn.N fn.ps scope ∧ cSs n (ccOf G scope.names fn) body = some fn.body
structure Text (prog : Program) (w : World) (K : PySem.W.Frag) (mg : Str → Option Value) (G : Pr) : Prop where
  fn : ∀ x, G.pls.contains x = true → ∃ fn f, G.fns.lookup x = some fn ∧ mg x = some (.ref f) ∧ PySem.W.keepIn K (.ref f) = true ∧ DefT K G fn f
  met : ∀ c m key, G.mets.lookup (c, m) = some key → ∃ C f fn, mg c = some (.ref C) ∧ Cls K C ∧ Meth K C m f ∧ G.fns.lookup key = some fn ∧ DefT K G fn f
  fld : ∀ c f, G.flds.contains (c, f) = true → ∃ C, mg c = some (.ref C) ∧ Cls K C ∧ NoAttr K C f
  mkk : ∀ c, G.mks.contains c = true → ∃ C f key fn, mg c = some (.ref C) ∧ Mk K C f ∧ G.mets.lookup (c, ("__init__" : Str)) = some key ∧ G.fns.lookup key = some fn ∧ DefT K G fn f
  exc : ∀ x fl isI, G.excs.lookup x = some (fl, isI) → ∃ C fI m gs ok, mg x = some (.ref C) ∧ IniT prog K mg C fI fl m gs ∧ MsgOk prog w K mg fl m gs ok ∧ ∀ d fs, excD fl isI d = some fs → fs = [(fl, d)] ∧ ∀ μ H v, RD K μ H d v → ok v
  sub : ∀ x y b, G.subs.lookup (x, y) = some b → ∃ C cv, mg x = some (.ref C) ∧ HVal mg y cv ∧ PySem.W.exmOne K (.ref C) cv = some b ∧ PySem.W.kitOne K (.ref C) cv = some b ∧ ExcK K C
  hcl : ∀ y, G.hcl.contains y = true → ∃ cv, HVal mg y cv ∧ (y == ("__debug__" : Str)) = false
  con : ∀ x d, G.cons.lookup x = some d → ∃ u v, mg x = some u ∧ RelV v u ∧ ∀ μ H, RD K μ H d v
  kd : ∀ x kvs, G.kds.lookup x = some kvs → ∃ a es n, mg x = some (.ref a) ∧ KDict K w a es n ∧ (∀ z d, lookT z kvs = some d → ∃ u v, PySem.W.nsIn K a (stO z) = some (some u) ∧ RelV v u ∧ ∀ μ H, RD K μ H d v) ∧ (∀ z, lookT z kvs = none → PySem.W.nsIn K a (stO z) = some none)
  bi : ∀ x, biNames.contains x = true → mg x = none
  ty : ∀ x : String, tyNames.contains x = true → mg (Str.ofString x) = none
  isi : mg "isinstance" = none
  rng : mg "range" = none
  enu : mg "enumerate" = none
section
variable {P : Program} {w : World} {K : PySem.W.Frag} {mg : Str → Option Value} {base : Heap} {G : Pr}
theorem lookup_contains {α : Type} {x : Str} {l : List (Str × α)} (h : (l.map (·.1)).contains x = true) : ∃ a, l.lookup x = some a := by
  induction l with
  | nil => cases h
  | cons p l ih =>
    obtain ⟨y, a⟩ := p
    rw [List.lookup_cons]
    cases q : (x == y) with
    | true => exact ⟨a, rfl⟩
    | false =>
      simp only [List.map_cons, List.contains_cons, q, Bool.false_or] at h
      exact ih h
theorem lookup_mem {α β : Type} [BEq α] [LawfulBEq α] {x : α} {b : β} {l : List (α × β)} (h : (x, b) ∈ l) : ∃ b', l.lookup x = some b' := by
  induction l with
  | nil => cases h
  | cons p l ih =>
    obtain ⟨y, a⟩ := p
    rw [List.lookup_cons]
    cases q : (x == y) with
    | true => exact ⟨a, rfl⟩
    | false =>
      rcases List.mem_cons.mp h with e | e
      · cases e
        simp at q
      · exact ih e
theorem start_ok {μ : List Addr} {H : Hp} {ds : List D} {vs : List V} {N : List Str} (h : RDs K μ H ds vs) : SL K μ H (ds.map some ++ List.replicate (N.length - ds.length) none) (L2.start N vs) := by
  unfold L2.start
  refine ⟨by simp [h.length], fun i d e => ?_⟩
  by_cases hi : i < ds.length
  · rw [List.getElem?_append_left (by simpa using hi), List.getElem?_map] at e
    rw [List.getElem?_append_left (by simpa [← h.length] using hi), List.getElem?_map]
    obtain ⟨d', h1, h2⟩ := Option.map_eq_some_iff.mp e
    cases h2
    obtain ⟨v, h3, h4⟩ := h.get h1
    exact ⟨v, by rw [h3]; rfl, h4⟩
  · rw [List.getElem?_append_right (by simpa using hi)] at e
    rw [List.getElem?_replicate] at e
    split at e <;> cases e
/-- at level k + 1 the def keeps what callF tells at k -/
def FnAt (P : Program) (w : World) (K : PySem.W.Frag) (mg : Str → Option Value) (base : Heap) (G : Pr) (j k : Nat) : Prop := ∀ (key : Str) (fn : Fn) (f : Addr) (fd : FuncData) (nm qu : Str) (params : Arguments) (body : List Stmt) (scope : Scope) (dvs : List V) (kws : List (Str × V)) (n : Nat), G.fns.lookup key = some fn → FunD K nm qu params body scope dvs kws f fd → FnScope fn.N fn.ps scope → cSs n (ccOf G scope.names fn) body = some fn.body →
    FnOk P w K mg base (L2.CX P w) j f fd fn.ps (spF fn.ps.length (callF G k key) K mg)
theorem FnAt.zero {j : Nat} : FnAt P w K mg base G j 0 := by
  intro key fn f fd nm qu params body scope dvs kws n hx h2 h4 h5
  exact ⟨fun vs H Q E h => h.1, fun A outer s H args us vs Q E hr he hb hv ⟨_, _, _, _, _, _, _, _, e, _⟩ => by cases e⟩
theorem FnAt.defOk {j k a : Nat} {key : Str} {fn : Fn} {f : Addr} (F : FnAt P w K mg base G j k) (hx : G.fns.lookup key = some fn) (T : DefT K G fn f) (ha : arOk fn a = true) : DefOk P w K mg base j a f (callF G k key) := by
  obtain ⟨fd, nm, qu, params, body, scope, dvs, kws, n, g2, g3, _, g4, g5⟩ := T.ex
  obtain ⟨ds, dv, h1, h2, h3⟩ := g3 a ha
  obtain ⟨a1, a2⟩ := Bool.and_eq_true_iff.mp ha
  have a3 := of_decide_eq_true a1
  have a4 := of_decide_eq_true a2
  refine ⟨fd, fn.ps, ds, dv, _, _, F key fn f fd nm qu params body scope dvs kws n hx g2 g4 g5, h2, h1, h3, by rw [List.length_drop]; omega, fun xs S r e hl => ?_⟩
  subst hl
  cases k with
  | zero => cases e
  | succ k =>
    rw [callF_succ hx] at e ⊢
    have e2 : xs ++ fn.dfl.drop (fn.dfl.length - (fn.ps.length - xs.length)) = fill fn xs := rfl
    rw [e2]
    unfold runFn at e ⊢
    rw [fill_full (fill_fill ha)]
    exact e
theorem arities_mem {key : Str} {a : Nat} (h : a ∈ arities G key) : ∃ fn, G.fns.lookup key = some fn ∧ arOk fn a = true := by
  unfold arities at h
  cases q : G.fns.lookup key with
  | none => rw [q] at h; cases h
  | some fn =>
    rw [q] at h
    exact ⟨fn, rfl, (List.mem_filter.mp h).2⟩
theorem gf_ok (T : Text P w K mg G) {k : Nat} {names : List (Str × NameKind)} {fn : Fn} (F1 : FnAt P w K mg base G (k + 2) k) (F0 : FnAt P w K mg base G (k + 1) (k - 1)) : GF P w K mg base (pmOf G k) (ccOf G names fn) k where
  con := T.con
  fn := fun x a h => by
    obtain ⟨y, hy, h2⟩ := List.mem_flatMap.mp (List.contains_iff_mem.mp h)
    obtain ⟨b, hb, h3⟩ := List.mem_map.mp h2
    cases h3
    obtain ⟨fn', f, g1, g2, g3, g4⟩ := T.fn x (List.contains_iff_mem.mpr hy)
    obtain ⟨fn2, g5, g6⟩ := arities_mem hb
    rw [g1] at g5
    cases g5
    exact ⟨f, g2, g3, F1.defOk g1 g4 g6⟩
  fds := fun c f C h hm => by
    obtain ⟨C', g1, g2, g3⟩ := T.fld c f h
    rw [hm] at g1
    cases g1
    exact ⟨g2, g3⟩
  mts := fun c m a h => by
    have h' : (match G.mets.lookup (c, m) with
      | some key => arF G key (a + 1)
      | none => false) = true := h
    cases q : G.mets.lookup (c, m) with
    | none => rw [q] at h'; cases h'
    | some key =>
      rw [q] at h'
      obtain ⟨C, f, fn', g1, g2, g3, g4, g5⟩ := T.met c m key q
      have h2 : arF G key (a + 1) = true := h'
      unfold arF at h2
      rw [g4] at h2
      refine ⟨C, f, g1, g2, g3, ?_⟩
      have e : (pmOf G k).met c m = callF G k key := by
        funext ds S
        show (match G.mets.lookup (c, m) with
          | some key => callF G k key ds S
          | none => none) = _
        rw [q]
      rw [e]
      exact F1.defOk g4 g5 h2
  mex := fun m a h => by
    obtain ⟨⟨⟨c, m'⟩, key0⟩, hy, h2⟩ := List.mem_flatMap.mp (List.contains_iff_mem.mp h)
    have h2' : (m, a) ∈ (match G.mets.lookup (c, m') with
      | some key => ((arities G key).filter (fun a => decide (0 < a))).map fun a => (m', a - 1)
      | none => []) := h2
    cases q : G.mets.lookup (c, m') with
    | none => rw [q] at h2'; cases h2'
    | some key =>
      rw [q] at h2'
      obtain ⟨b, hb, h3⟩ := List.mem_map.mp h2'
      cases h3
      obtain ⟨hb1, hb2⟩ := List.mem_filter.mp hb
      have hb3 : 0 < b := of_decide_eq_true hb2
      obtain ⟨fn2, g5, g6⟩ := arities_mem hb1
      refine ⟨c, ?_⟩
      show (match G.mets.lookup (c, m) with
        | some key => arF G key (b - 1 + 1)
        | none => false) = true
      rw [q]
      have e2 : b - 1 + 1 = b := by omega
      show arF G key (b - 1 + 1) = true
      rw [e2]
      unfold arF
      rw [g5]
      exact g6
  mak := fun x a h => by
    obtain ⟨y, hy, h2⟩ := List.mem_flatMap.mp (List.contains_iff_mem.mp h)
    obtain ⟨C, f, key, fn', g1, g2, g3, g4, g5⟩ := T.mkk y (List.contains_iff_mem.mpr hy)
    have h2' : (x, a) ∈ (match G.mets.lookup (y, ("__init__" : Str)) with
      | some key => ((arities G key).filter (fun a => decide (0 < a))).map fun a => (y, a - 1)
      | none => []) := h2
    rw [g3] at h2'
    obtain ⟨b, hb, h3⟩ := List.mem_map.mp h2'
    cases h3
    obtain ⟨hb1, hb2⟩ := List.mem_filter.mp hb
    have hb3 : 0 < b := of_decide_eq_true hb2
    obtain ⟨fn2, g6, g7⟩ := arities_mem hb1
    rw [g4] at g6
    cases g6
    refine ⟨C, f, g1, g2, ?_⟩
    have e : (pmOf G k).mak x = callF G (k - 1) key := by
      funext ds S
      show (match G.mets.lookup (x, ("__init__" : Str)) with
        | some key => callF G (k - 1) key ds S
        | none => none) = _
      rw [g3]
    rw [e]
    have e2 : b - 1 + 1 = b := by omega
    rw [e2]
    exact F0.defOk g4 g5 g7
  exc := fun x h => by
    obtain ⟨⟨fl, isI⟩, hl⟩ := lookup_contains (l := G.excs) h
    obtain ⟨C, fI, m, gs, ok, g1, g2, g3, g4⟩ := T.exc x fl isI hl
    refine ⟨C, fI, fl, m, gs, ok, g1, g2, g3, fun d fs hd => ?_⟩
    have hd' : (match G.excs.lookup x with
      | some (fl, isI) => excD fl isI d
      | none => none) = some fs := hd
    rw [hl] at hd'
    exact g4 d fs hd'
  sub := T.sub
  hcl := T.hcl
  kd := T.kd
  kex := fun x h => lookup_contains (l := G.kds) h
  bi := T.bi
  ty := T.ty
  isi := T.isi
  rng := T.rng
  enu := T.enu
theorem fn_ok (T : Text P w K mg G) : ∀ (k : Nat), FnAt P w K mg base G (k + 2) k ∧ FnAt P w K mg base G (k + 1) (k - 1) := by
  intro k
  induction k with
  | zero => exact ⟨.zero, .zero⟩
  | succ k ih =>
    obtain ⟨ih1, ih0⟩ := ih
    refine ⟨?_, ih1⟩
    intro x fn f fd nm qu params body scope dvs kws n hx h2 h4 h5
    refine h2.ok h4 (fun vs H Q E h => h.1) (fun cdv A outer s H vs Q E hr hsp => ?_)
    have F : Fine (cxOf (L2.CX P w) P w K mg base fn.N qu scope f cdv A outer s H E) (pmOf G k) (ccOf G scope.names fn) k := {
      N := rfl
      names := rfl
      nd := h4.nd
      kind := h4.kind
      fn := fun _ _ => rfl
      calm := rfl
      room := hr
      pass := passes_of rfl
      stk := fun _ => ⟨rfl, rfl⟩
      g := gf_ok T ih1 ih0 }
    refine ⟨_, (sndS n).ss F (takes_of rfl rfl rfl rfl) h5, ?_⟩
    obtain ⟨hl, μ, S, ds, r, S', sr, rs, e, kk⟩ := hsp
    rw [callF_succ hx] at e
    have hlen : ds.length = fn.ps.length := by rw [rs.length]; exact hl
    unfold runFn at e
    rw [fill_full hlen, if_pos hlen] at e
    cases q : exs (pmOf G k) fn.body (ds.map some ++ List.replicate (fn.N.length - ds.length) none) S with
    | none => rw [q] at e; cases e
    | some z =>
      obtain ⟨fl, L', S1⟩ := z
      rw [q] at e
      refine ⟨μ, S, _, fl, L', S1, sr, start_ok rs, q, ?_⟩
      cases fl with
      | nx => cases e; exact fun μ' H' σ' p _ => kk μ' H' .non p .non
      | rt d => cases e; exact fun μ' H' v p rd => kk μ' H' v p rd
      | exc c fs => cases e; exact fun μ' H' σ' cls dd p _ rx => kk μ' H' cls dd p rx
      | bk => cases e
      | ct => cases e
end
end Dy

namespace Dy
open PySem PySem.Spec PyProof.Rows L2
/-- a look at the names of a def's scope -/
def scB (N P : List Str) (sc : Scope) : Bool :=
  decide (sc.kind = .function) && (!sc.isCoroutine && (!sc.isGenerator && (decide N.Nodup && (decide (N.take P.length = P) && (P.all (fun x => decide (sc.names.lookup x = some .local) || decide (sc.names.lookup x = some .cell)) && sc.names.all (fun y => !decide (y.2 = .free)))))))
theorem scB_ok {N P : List Str} {sc : Scope} (h : scB N P sc = true) : FnScope N P sc := by
  unfold scB at h
  simp only [Bool.and_eq_true, Bool.not_eq_true', decide_eq_true_eq, List.all_eq_true, Bool.or_eq_true, decide_eq_false_iff_not] at h
  obtain ⟨h1, h2, h3, h4, h5, h6, h7⟩ := h
  exact ⟨h1, h2, h3, h4, h5, h6, h7⟩
/-! ### the rows of a text -/
structure DRow where
  x : Str
  at_ : Str × Option Str
  nm : Str
  qu : Str
  fn : Fn
  st : Stmt
def dvOf : D → He.Dv
  | .bl b => .bl b
  | .int i => .int i
  | .str x => .str (stO x)
  | _ => .non
def scalB : D → Bool
  | .non => true
  | .bl _ => true
  | .int _ => true
  | .str _ => true
  | _ => false
theorem dv_rd {K : PySem.W.Frag} {μ : List Addr} {H : Hp} : ∀ {ds : List D}, ds.all scalB = true → RDs K μ H ds ((ds.map dvOf).map (He.Dv.v K))
  | [], _ => .nil
  | d :: ds, h => by
    obtain ⟨h1, h2⟩ := Bool.and_eq_true_iff.mp (show (scalB d && ds.all scalB) = true from h)
    refine .cons ?_ (dv_rd h2)
    cases d with
    | non => exact .non
    | bl b => exact .bl b
    | int i => exact .int i
    | str x => exact .str x
    | _ => cases h1
def DRow.d (r : DRow) : He.DefD := ⟨r.at_, r.nm, r.qu, defArgs r.st, defBody r.st, defScope r.st, r.fn.dfl.map dvOf, []⟩
/-- an exception class with its own __init__: its name, its field, whether it is a number, the __init__'s statement -/
structure ERow where
  x : Str
  fl : Str
  isI : Bool
  qu : Str
  st : Stmt
/-- what a text has beside its defs: written tables, fields of classes, classes that are made, exception classes, classes that are asked for, which stands under which, the file -/
structure Xs where
  kds : List (Str × List (List Nat × D)) := []
  flds : List (Str × Str) := []
  mks : List Str := []
  excs : List ERow := []
  hcl : List Str := []
  subs : List ((Str × Str) × Bool) := []
  file : Str := ""
def MsgShape (isI : Bool) (fl : Str) (m : Expr) (gs : List Str) : Prop := (isI = true ∧ gs = [("str" : Str)] ∧ ∃ (lit : Str) (kk : Nat) (p1 p2 p3 p4 p5 : Pos), m = .BinOp (.Constant (.str lit) kk p1) .Add (.Call (.Name "str" p2) [.Name fl p3] [] p4) p5 ∧ lit.length ≤ 1000) ∨
  (isI = false ∧ gs = [] ∧ ∃ (lit : Str) (kk : Nat) (p1 p2 p3 : Pos), m = .BinOp (.Constant (.str lit) kk p1) .Add (.Name fl p2) p3 ∧ lit.length ≤ 1000)
structure ERowOk (e : ERow) : Prop where
  ex : ∃ m gs, IniRow e.fl m gs "__init__" e.qu (defArgs e.st) (defBody e.st) (defScope e.st) ∧ MsgShape e.isI e.fl m gs
def AllE : List ERow → Prop
  | [] => True
  | r :: rs => ERowOk r ∧ AllE rs
theorem AllE.mem : ∀ {rs : List ERow} {r : ERow}, AllE rs → r ∈ rs → ERowOk r
  | _ :: _, r, ⟨h, t⟩, m => by
    rcases List.mem_cons.mp m with rfl | m
    · exact h
    · exact AllE.mem t m
def isPl (r : DRow) : Bool := match r.at_.2 with
  | none => true
  | some _ => false
def metOf (r : DRow) : Option ((Str × Str) × Str) := match r.at_.2 with
  | none => none
  | some m => some ((r.at_.1, m), r.x)
def prOf (rows : List DRow) (cons : List (Str × D)) (xs : Xs := {}) : Pr where
  fns := rows.map fun r => (r.x, r.fn)
  cons := cons
  kds := xs.kds
  pls := (rows.filter isPl).map fun r => r.x
  mets := rows.filterMap metOf
  flds := xs.flds
  mks := xs.mks
  excs := xs.excs.map fun e => (e.x, (e.fl, e.isI))
  hcl := xs.hcl
  subs := xs.subs
def AllA (Q : Nat → Prop) : List Nat → Prop
  | [] => True
  | a :: r => Q a ∧ AllA Q r
theorem AllA.mem {Q : Nat → Prop} : ∀ {l : List Nat} {a : Nat}, AllA Q l → a ∈ l → Q a
  | _ :: _, a, ⟨h, t⟩, m => by
    rcases List.mem_cons.mp m with rfl | m
    · exact h
    · exact AllA.mem t m
structure RowOk (G : Pr) (r : DRow) : Prop where
  sc : scB r.fn.N r.fn.ps (defScope r.st) = true
  comp : ∃ n, cSs n (ccOf G (defScope r.st).names r.fn) (defBody r.st) = some r.fn.body
  dfs : r.fn.dfl.all scalB = true
  one : isPl r = true → r.at_.1 = r.x
  bind : (r.fn.dfl = [] ∧ ∀ (kV doc pm : Value) (an : Option Addr) (cdv ct : Value) (us : List Value), us.length = r.fn.ps.length → bindArgs (PySem.W.fnOf r.nm r.qu (defArgs r.st) (defBody r.st) (defScope r.st) .none kV doc pm an cdv ct) ⟨us, []⟩ = pure (r.fn.ps.zip us)) ∨
    (r.fn.dfl ≠ [] ∧ AllA (fun a => ∀ (T : Addr) (kV doc pm : Value) (an : Option Addr) (cdv ct : Value) (us its : List Value), us.length = a → its.length = r.fn.dfl.length →
      ∃ k, bindArgs (PySem.W.fnOf r.nm r.qu (defArgs r.st) (defBody r.st) (defScope r.st) (.ref T) kV doc pm an cdv ct) ⟨us, []⟩ = seqItems? (.ref T) >>= k ∧ k (some its.toArray) = pure (r.fn.ps.zip (us ++ its.drop (r.fn.dfl.length - (r.fn.ps.length - a))))) ((List.range (r.fn.ps.length + 1)).filter (arOk r.fn)))
def AllR (Q : DRow → Prop) : List DRow → Prop
  | [] => True
  | r :: rs => Q r ∧ AllR Q rs
theorem AllR.mem {Q : DRow → Prop} : ∀ {rs : List DRow} {r : DRow}, AllR Q rs → r ∈ rs → Q r
  | _ :: _, r, ⟨h, t⟩, m => by
    rcases List.mem_cons.mp m with rfl | m
    · exact h
    · exact AllR.mem t m
theorem look_row {x : Str} {fn : Fn} : ∀ {rows : List DRow}, (rows.map fun r => (r.x, r.fn)).lookup x = some fn → ∃ r ∈ rows, r.x = x ∧ r.fn = fn
  | [], h => by cases h
  | r :: rs, h => by
    rw [List.map_cons, List.lookup_cons] at h
    cases q : (x == r.x) with
    | true =>
      rw [q] at h
      exact ⟨r, List.mem_cons_self, (beq_iff_eq.mp q).symm, Option.some.inj h⟩
    | false =>
      rw [q] at h
      obtain ⟨r', h1, h2⟩ := look_row h
      exact ⟨r', List.mem_cons_of_mem _ h1, h2⟩
/-- no key twice -/
theorem row_look : ∀ {rows : List DRow} {r : DRow}, (rows.map fun r => r.x).Nodup → r ∈ rows → (rows.map fun r => (r.x, r.fn)).lookup r.x = some r.fn
  | [], r, _, h => by cases h
  | q :: rs, r, hn, h => by
    rw [List.map_cons, List.nodup_cons] at hn
    rw [List.map_cons, List.lookup_cons]
    rcases List.mem_cons.mp h with rfl | h
    · simp
    · have hne : (r.x == q.x) = false := by
        cases z : (r.x == q.x) with
        | false => rfl
        | true => exact absurd (List.mem_map_of_mem (f := fun r : DRow => r.x) h) (by rw [beq_iff_eq.mp z]; exact hn.1)
      rw [hne]
      exact row_look hn.2 h
/-! ### constants of the top -/
mutual
def conB (K : PySem.W.Frag) : D → Value → Bool
  | .non, .none => true
  | .bl b, .bool c => b == c
  | .int i, .int j _ => decide (i = j)
  | .str x, .str y _ => decide (stO x = y)
  | .tup ds, .ref a => match K.lookup a with
    | some ⟨.type c, none, .seq its _, _⟩ => decide (c = "tuple") && (decide (its.size ≤ sizeLine) && conBs K ds its.toList)
    | _ => false
  | .kl ds, .ref a => match K.lookup a with
    | some ⟨.type c, none, .seq its _, _⟩ => decide (c = "list") && (decide (its.size ≤ sizeLine) && conBs K ds its.toList)
    | _ => false
  | _, _ => false
def conBs (K : PySem.W.Frag) : List D → List Value → Bool
  | [], [] => true
  | d :: ds, u :: us => conB K d u && conBs K ds us
  | _, _ => false
end
theorem seq_shape {K : PySem.W.Frag} {a : Addr} {ty : String} {ds : List D} (h : (match K.lookup a with
    | some ⟨.type c, none, .seq its _, _⟩ => decide (c = ty) && (decide (its.size ≤ sizeLine) && conBs K ds its.toList)
    | _ => false) = true) : ∃ o its n, K.lookup a = some o ∧ o.cls = .type ty ∧ o.dict = none ∧ o.data = .seq its n ∧ its.size ≤ sizeLine ∧ conBs K ds its.toList = true := by
  cases q : K.lookup a with
  | none => rw [q] at h; cases h
  | some o =>
    obtain ⟨oc, od, dt, osl⟩ := o
    rw [q] at h
    cases oc with
    | type c =>
      cases od with
      | none =>
        cases dt with
        | seq its n =>
          obtain ⟨h1, h2⟩ := Bool.and_eq_true_iff.mp h
          obtain ⟨h3, h4⟩ := Bool.and_eq_true_iff.mp h2
          exact ⟨_, its, n, rfl, congrArg Value.type (of_decide_eq_true h1), rfl, rfl, of_decide_eq_true h3, h4⟩
        | _ => cases h
      | some a => cases dt <;> cases h
    | _ => cases od <;> cases dt <;> cases h
mutual
theorem conB_ok {K : PySem.W.Frag} : ∀ {d : D} {u : Value}, conB K d u = true → ∃ v, RelV v u ∧ ∀ μ H, RD K μ H d v
  | .non, u, h => by
    cases u with
    | none => exact ⟨.non, rfl, fun _ _ => .non⟩
    | _ => cases h
  | .bl b, u, h => by
    cases u with
    | bool c =>
      have e : b = c := eq_of_beq (show (b == c) = true from h)
      subst e
      exact ⟨.bl b, rfl, fun _ _ => .bl b⟩
    | _ => cases h
  | .int i, u, h => by
    cases u with
    | int j t =>
      have e : i = j := of_decide_eq_true h
      subst e
      exact ⟨.int i, ⟨t, rfl⟩, fun _ _ => .int i⟩
    | _ => cases h
  | .str x, u, h => by
    cases u with
    | str y t =>
      have e : stO x = y := of_decide_eq_true h
      subst e
      exact ⟨.str (stO x), ⟨t, rfl⟩, fun _ _ => .str x⟩
    | _ => cases h
  | .tup ds, u, h => by
    cases u with
    | ref a =>
      obtain ⟨o, its, n, h1, h2, h3, h4, h5, h6⟩ := seq_shape (ty := "tuple") h
      obtain ⟨vs, h7, h8⟩ := conBs_ok h6
      exact ⟨.ref a, rfl, fun μ H => .tup (.inr ⟨o, its, n, h1, h2, h3, h4, h5, h7⟩) (h8 μ H)⟩
    | _ => cases h
  | .kl ds, u, h => by
    cases u with
    | ref a =>
      obtain ⟨o, its, n, h1, h2, h3, h4, h5, h6⟩ := seq_shape (ty := "list") h
      obtain ⟨vs, h7, h8⟩ := conBs_ok h6
      exact ⟨.ref a, rfl, fun μ H => .kl h1 h2 h3 h4 h5 h7 (h8 μ H)⟩
    | _ => cases h
  | .ref n, u, h => by cases u <;> cases h
theorem conBs_ok {K : PySem.W.Frag} : ∀ {ds : List D} {us : List Value}, conBs K ds us = true → ∃ vs, Vals vs us ∧ ∀ μ H, RDs K μ H ds vs
  | [], us, h => by
    cases us with
    | nil => exact ⟨[], .nil, fun _ _ => .nil⟩
    | cons _ _ => cases h
  | d :: ds, us, h => by
    cases us with
    | nil => cases h
    | cons u us =>
      obtain ⟨h1, h2⟩ := Bool.and_eq_true_iff.mp (show (conB K d u && conBs K ds us) = true from h)
      obtain ⟨v, r, hv⟩ := conB_ok h1
      obtain ⟨vs, rs, hvs⟩ := conBs_ok h2
      exact ⟨v :: vs, .cons r rs, fun μ H => .cons (hv μ H) (hvs μ H)⟩
end
def conK (cons : List (Str × D)) (K : PySem.W.Frag) : Bool := cons.all fun p => match PySem.W.nsIn K mainGlobals p.1 with
  | some (some u) => conB K p.2 u
  | _ => false
/-! ### the head's facts -/
def freeNames : List Str := biNames ++ tyNames.map Str.ofString ++ (["isinstance", "range", "enumerate"] : List Str)
def clsNames (rows : List DRow) : List Str := (rows.filterMap fun r => match r.at_.2 with
  | none => none
  | some _ => some r.at_.1).eraseDups
def veName : Str := "ValueError"
/-- the class handed over -/
def hclFa (y : Str) : He.Fa := if y = veName then .free y else .glo y
def hclV (K : PySem.W.Frag) (y : Str) : Value := if y = veName then .type "ValueError" else .ref (He.ga K y)
def excKB (K : PySem.W.Frag) (C : Addr) : Bool := (PySem.W.clsIn K C).isSome && (decide (PySem.W.findIn K (.ref C) "__getattribute__" = some (some (.builtin "BaseException.__getattribute__"))) && (decide (PySem.W.findIn K (.ref C) "__getattr__" = some none) &&
  (decide (PySem.W.subIn K (.ref C) (.type "BaseException") = some true) && (decide (PySem.W.findIn K (.ref C) "__class__" = some (some (.builtin "object.__class__"))) && (decide (PySem.W.specialIn K (.builtin "object.__class__") "__get__" = some (some (.builtin "getset_descriptor.__get__"))) &&
  (decide (PySem.W.takesIn K (.builtin "object.__class__") = some true) && (decide (PySem.W.mroIn K C (.type "object") = some true) && PySem.W.hasDictIn K C)))))))
theorem excKB_ok {K : PySem.W.Frag} {C : Addr} (h : excKB K C = true) : ExcK K C := by
  unfold excKB at h
  obtain ⟨h1, h⟩ := ba4 h
  obtain ⟨h2, h⟩ := ba4 h
  obtain ⟨h3, h⟩ := ba4 h
  obtain ⟨h4, h⟩ := ba4 h
  obtain ⟨h5, h⟩ := ba4 h
  obtain ⟨h6, h⟩ := ba4 h
  obtain ⟨h7, h⟩ := ba4 h
  obtain ⟨h8, h9⟩ := ba4 h
  exact ⟨h1, of_decide_eq_true h2, of_decide_eq_true h3, of_decide_eq_true h4, of_decide_eq_true h5, of_decide_eq_true h6, of_decide_eq_true h7, of_decide_eq_true h8, h9⟩
def subsB (xs : Xs) (K : PySem.W.Frag) : Bool := xs.subs.all fun q => xs.hcl.contains q.1.2 && (decide (PySem.W.exmOne K (.ref (He.ga K q.1.1)) (hclV K q.1.2) = some q.2) && (decide (PySem.W.kitOne K (.ref (He.ga K q.1.1)) (hclV K q.1.2) = some q.2) && excKB K (He.ga K q.1.1)))
def excsB (xs : Xs) (K : PySem.W.Frag) : Bool := xs.excs.all fun e => excB K xs.file e.x e.fl
def faOf (rows : List DRow) (xs : Xs := {}) : List He.Fa := (rows.filter isPl).map (fun r => .glo r.x) ++ (freeNames.map .free ++ ((clsNames rows ++ xs.mks ++ xs.flds.map (·.1)).flatMap (fun c => [.glo c, .cls c]) ++ ((rows.filterMap metOf).map (fun q => .meth q.1.1 q.1.2) ++
  (xs.flds.map (fun q => .noat q.1 q.2) ++ (xs.mks.map .mkr ++ (xs.kds.map (fun q => .glo q.1) ++ (.free "super" :: (xs.excs.map (fun e => .glo e.x) ++ (xs.hcl.map hclFa ++ xs.subs.map (fun q => .glo q.1.1))))))))))
/-- the values of a written table -/
def kdB (K : PySem.W.Frag) (a : Addr) (kvs : List (List Nat × D)) : Bool := kvs.all fun p => match PySem.W.nsIn K a (stO p.1) with
  | some (some u) => conB K p.2 u
  | _ => false
def kdsB (xs : Xs) (K : PySem.W.Frag) : Bool := xs.kds.all fun q => kdB K (He.ga K q.1) q.2
abbrev AlY : Type := He.AlD × (List (Option (List (Option (Str × Int)))) × List FnI)
def inis (xs : Xs) (K : PySem.W.Frag) : List FnI := xs.excs.map fun e => fnI K e.x
def iniV (xs : Xs) : List FnI := xs.excs.map fun e => some ("__init__", e.qu, defArgs e.st, .stmts (defBody e.st), defScope e.st, mainGlobals, builtinsNs)
def tabs (xs : Xs) (K : PySem.W.Frag) : List (Option (List (Option (Str × Int)))) := xs.kds.map fun q => He.dicW K (He.ga K q.1)
def tabV (xs : Xs) (w : World) : List (Option (List (Option (Str × Int)))) := xs.kds.map fun q => some (He.keysIn w.params (q.2.map fun p => stO p.1))
def obsK (fa : List He.Fa) (fn : List He.DefD) (ex : PySem.W.Frag → Bool) (xs : Xs) (K : PySem.W.Frag) : AlY := (((He.obsD fa fn K).1 && (ex K && (kdsB xs K && (excsB xs K && subsB xs K))), (He.obsD fa fn K).2), (tabs xs K, inis xs K))
def obsY (n : Nat) (fa : List He.Fa) (fn : List He.DefD) (ex : PySem.W.Frag → Bool) (xs : Xs) (g : Addr → Option Obj) : AlY := obsK fa fn ex xs (He.frG g (cStatics :: He.asD g n))
def SaysY (fa : List He.Fa) (fn : List He.DefD) (ex : PySem.W.Frag → Bool) (xs : Xs) (w : World) (K : PySem.W.Frag) : Prop := obsK fa fn ex xs K = (He.valD fn, (tabV xs w, iniV xs))
theorem saysY {fa : List He.Fa} {fn : List He.DefD} {ex : PySem.W.Frag → Bool} {xs : Xs} {w : World} {K : PySem.W.Frag} (e : SaysY fa fn ex xs w K) : He.SaysD fa fn K ∧ ex K = true ∧ kdsB xs K = true ∧ excsB xs K = true ∧ subsB xs K = true ∧ tabs xs K = tabV xs w ∧ inis xs K = iniV xs := by
  have e0 : ((He.obsD fa fn K).1 && (ex K && (kdsB xs K && (excsB xs K && subsB xs K))), (He.obsD fa fn K).2) = He.valD fn := congrArg Prod.fst e
  have e1 : ((He.obsD fa fn K).1 && (ex K && (kdsB xs K && (excsB xs K && subsB xs K)))) = true := congrArg Prod.fst e0
  have e2 : (He.obsD fa fn K).2 = fn.map He.DefD.val := congrArg Prod.snd e0
  obtain ⟨h1, h2⟩ := Bool.and_eq_true_iff.mp e1
  obtain ⟨h3, h4⟩ := Bool.and_eq_true_iff.mp h2
  obtain ⟨h4, h5⟩ := Bool.and_eq_true_iff.mp h4
  obtain ⟨h5, h6⟩ := Bool.and_eq_true_iff.mp h5
  have e5 : (tabs xs K, inis xs K) = (tabV xs w, iniV xs) := congrArg Prod.snd e
  refine ⟨?_, h3, h4, h5, h6, congrArg Prod.fst e5, congrArg Prod.snd e5⟩
  unfold He.SaysD He.valD
  rw [← e2, ← h1]
def hookY (n : Nat) (fa : List He.Fa) (fn : List He.DefD) (ex : PySem.W.Frag → Bool) (xs : Xs) : PySem.W.Hook where
  α := AlY
  obs := fun s => obsY n fa fn ex xs s.heap.get?
  val := fun w => (He.valD fn, (tabV xs w, iniV xs))
  says := fun w h => ∃ K : PySem.W.Frag, K.In h ∧ SaysY fa fn ex xs w K
  of := fun _ _ e => ⟨_, He.frG_in, e⟩
  keeps := fun _ _ _ ⟨K, hK, c⟩ k => ⟨K, PySem.W.Frag.In.keeps hK k, c⟩
theorem obsY_eq {n : Nat} {fa : List He.Fa} {fn : List He.DefD} {ex : PySem.W.Frag → Bool} {xs : Xs} {g : Addr → Option Obj} {s : Shared} (h : ∀ a, g a = s.heap.get? a) : obsY n fa fn ex xs g = (hookY n fa fn ex xs).obs s := by
  have e : g = s.heap.get? := funext h
  rw [e] <;> rfl
theorem says_facts {fa : List He.Fa} {fn : List He.DefD} {K : PySem.W.Frag} (c : He.SaysD fa fn K) {f : He.Fa} (h : f ∈ fa) : f.ok K = true := by
  obtain ⟨i, hi, e⟩ := List.mem_iff_getElem.mp h
  exact c.fact i (f := f) (by rw [List.getElem?_eq_getElem hi, e])
theorem says_defs {fa : List He.Fa} {fn : List He.DefD} {K : PySem.W.Frag} (c : He.SaysD fa fn K) {d : He.DefD} (h : d ∈ fn) : ∃ fd, FunD K d.name d.qual d.params d.body d.scope (d.dvs K) (d.kws K) (He.fAd K d.at_) fd := by
  obtain ⟨i, hi, e⟩ := List.mem_iff_getElem.mp h
  exact c.def_ i (d := d) (by rw [List.getElem?_eq_getElem hi, e])
theorem lit_look {es : List DictEntry} {P : Params} {ks : List Str} (h : es.map He.keyOf = He.keysIn P ks) (z : Str) (hz : z ∉ ks) : es.find? (·.key.isStr z) = none ∧ es.any (·.refKey) = false := by
  induction es generalizing ks with
  | nil => exact ⟨rfl, rfl⟩
  | cons e es ih =>
    cases ks with
    | nil => cases h
    | cons k ks =>
      have h1 : He.keyOf e :: es.map He.keyOf = some (k, PyData.keyHash P k) :: He.keysIn P ks := h
      injection h1 with h2 h3
      obtain ⟨i1, i2⟩ := ih h3 (fun m => hz (List.mem_cons_of_mem _ m))
      have hk : ∃ t, e.key = .str k t := by
        unfold He.keyOf at h2
        split at h2
        · rename_i x t q
          have h4 := Option.some.inj h2
          obtain ⟨h5, _⟩ := Prod.mk.inj h4
          exact ⟨t, by rw [q, h5]⟩
        · cases h2
      obtain ⟨t, ht⟩ := hk
      have hne : k ≠ z := fun e => hz (by rw [← e]; exact List.mem_cons_self)
      refine ⟨?_, ?_⟩
      · rw [List.find?_cons, ht]
        have e3 : (Value.str k t).isStr z = false := by
          show (k == z) = false
          simpa using hne
        rw [e3]
        exact i1
      · rw [List.any_cons, i2]
        unfold DictEntry.refKey
        rw [ht]
        rfl
theorem lookT_none {z : List Nat} : ∀ {kvs : List (List Nat × D)}, lookT z kvs = none → stO z ∉ kvs.map fun p => stO p.1
  | [], _, m => by cases m
  | (k, d) :: r, h, m => by
    unfold lookT at h
    by_cases e : k = z
    · rw [if_pos e] at h; cases h
    · rw [if_neg e] at h
      rcases List.mem_cons.mp m with q | q
      · exact e (stO_inj.mp q).symm
      · exact lookT_none h q
theorem lookT_mem {z : List Nat} {d : D} : ∀ {kvs : List (List Nat × D)}, lookT z kvs = some d → (z, d) ∈ kvs
  | [], h => by cases h
  | (k, e) :: r, h => by
    unfold lookT at h
    by_cases q : k = z
    · rw [if_pos q] at h; cases h; rw [q]; exact List.mem_cons_self
    · rw [if_neg q] at h; exact List.mem_cons_of_mem _ (lookT_mem h)
section
variable {K : PySem.W.Frag} {mg : Str → Option Value} {h : Heap} {rows : List DRow} {cons : List (Str × D)} {xs : Xs} {w : World}
theorem defT_of {r : DRow} (ok : RowOk (prOf rows cons xs) r) (c : He.SaysD (faOf rows xs) (rows.map DRow.d) K) (hr : r ∈ rows) : PySem.W.keepIn K (.ref (He.fAd K r.at_)) = true ∧ DefT K (prOf rows cons xs) r.fn (He.fAd K r.at_) := by
  obtain ⟨h1, ⟨n, h2⟩, hd, _, h3⟩ := ok
  obtain ⟨fd, hF⟩ := says_defs c (List.mem_map_of_mem (f := DRow.d) hr)
  have hF' : FunD K r.nm r.qu (defArgs r.st) (defBody r.st) (defScope r.st) ((r.fn.dfl.map dvOf).map (He.Dv.v K)) [] (He.fAd K r.at_) fd := hF
  refine ⟨hF'.kp, fd, _, _, _, _, _, _, _, n, hF', fun a ha => ?_, fun e => ?_, scB_ok h1, h2⟩
  · obtain ⟨a1, a2⟩ := Bool.and_eq_true_iff.mp ha
    have a3 := of_decide_eq_true a1
    have a4 := of_decide_eq_true a2
    rcases h3 with ⟨e, h3⟩ | ⟨e, h3⟩
    · rw [e] at hF'
      have hl : r.fn.ps.length = a := by rw [e] at a4; simp at a4; omega
      refine ⟨[], [], .nil, FunD.bindsN (ps := r.fn.ps) hF' h3, fun μ H => ?_⟩
      rw [e, List.drop_nil]
      exact .nil
    · have hne : (r.fn.dfl.map dvOf).map (He.Dv.v K) ≠ [] := by simp [e]
      have hlen : ((r.fn.dfl.map dvOf).map (He.Dv.v K)).length = r.fn.dfl.length := by simp
      obtain ⟨ds, g1, g2⟩ := FunD.binds1 (ps := r.fn.ps) hF' a (r.fn.dfl.length - (r.fn.ps.length - a)) hne (by rw [hlen]; omega) (fun T kV doc pm an cdv ct us its l1 l2 => h3.mem (List.mem_filter.mpr ⟨List.mem_range.mpr (by omega), ha⟩) T kV doc pm an cdv ct us its l1 (by rw [l2, hlen]))
      exact ⟨ds, _, g1, g2, fun μ H => (dv_rd hd).drop _⟩
  · rcases h3 with ⟨_, h3⟩ | ⟨e2, _⟩
    · rw [e] at hF'
      exact hF'.bindsA h3
    · exact absurd e e2
theorem text_ok (hnd : (rows.map fun r => r.x).Nodup) (hmk : xs.mks.all (fun c => ((rows.filterMap metOf).lookup (c, ("__init__" : Str))).isSome) = true) (ok : AllR (RowOk (prOf rows cons xs)) rows) (X : K.In h) (G : h.Ns mainGlobals mg) (c : He.SaysD (faOf rows xs) (rows.map DRow.d) K) (cc : conK cons K = true) (ck : kdsB xs K = true) (ct : tabs xs K = tabV xs w) (ce : excsB xs K = true) (cs : subsB xs K = true) (ci : inis xs K = iniV xs) (hE : AllE xs.excs) (hhd : xs.hcl.all (fun y => !(y == ("__debug__" : Str))) = true) {P : Program} (hsup : (P.main.scope.names.lookup ("super" : Str)).isSome = false) (hfile : P.main.file = xs.file) : Text P w K mg (prOf rows cons xs) := by
  have fact : ∀ f : He.Fa, f ∈ faOf rows xs → f.ok K = true := fun f hf => says_facts c hf
  have free : ∀ x, x ∈ freeNames → mg x = none := fun x hx => He.free_ok X G (fact _ (List.mem_append_right _ (List.mem_append_left _ (List.mem_map_of_mem hx))))
  have clsF : ∀ x, x ∈ clsNames rows ++ xs.mks ++ xs.flds.map (·.1) → mg x = some (.ref (He.ga K x)) ∧ Cls K (He.ga K x) := fun x hx => by
    have h1 : ∀ f, f ∈ ([.glo x, .cls x] : List He.Fa) → f ∈ faOf rows xs := fun f hf => List.mem_append_right _ (List.mem_append_right _ (List.mem_append_left _ (List.mem_flatMap.mpr ⟨x, hx, hf⟩)))
    exact ⟨He.glo_ok X G (fact _ (h1 _ (by simp))), He.cls_ok (fact _ (h1 _ (by simp)))⟩
  have inFa4 : ∀ {f : He.Fa}, f ∈ (.free "super" :: (xs.excs.map (fun e => He.Fa.glo e.x) ++ (xs.hcl.map hclFa ++ xs.subs.map (fun q => He.Fa.glo q.1.1))) : List He.Fa) → f ∈ faOf rows xs := fun {f} hf =>
    List.mem_append_right _ (List.mem_append_right _ (List.mem_append_right _ (List.mem_append_right _ (List.mem_append_right _ (List.mem_append_right _ (List.mem_append_right _ hf))))))
  have hclH : ∀ y, y ∈ xs.hcl → HVal mg y (hclV K y) := fun y hy => by
    have h1 : hclFa y ∈ faOf rows xs := inFa4 (List.mem_cons_of_mem _ (List.mem_append_right _ (List.mem_append_left _ (List.mem_map_of_mem hy))))
    have h2 := fact _ h1
    unfold hclFa at h2
    unfold hclV
    by_cases q : y = veName
    · rw [if_pos q] at h2 ⊢
      have h3 := He.free_ok X G h2
      subst q
      exact .inr ⟨h3, by decide +kernel, by decide, _, rfl⟩
    · rw [if_neg q] at h2 ⊢
      exact .inl ⟨He.glo_ok X G h2, _, rfl⟩
  have metF : ∀ cm m key, (rows.filterMap metOf).lookup (cm, m) = some key → ∃ fn, (prOf rows cons xs).fns.lookup key = some fn ∧ mg cm = some (.ref (He.ga K cm)) ∧ Cls K (He.ga K cm) ∧ Meth K (He.ga K cm) m (He.ma K (He.ga K cm) m) ∧ DefT K (prOf rows cons xs) fn (He.ma K (He.ga K cm) m) := fun cm m key hl => by
    have hmem : ((cm, m), key) ∈ rows.filterMap metOf := by
      have gen : ∀ {l : List ((Str × Str) × Str)}, l.lookup (cm, m) = some key → ((cm, m), key) ∈ l := fun {l} => by
        induction l with
        | nil => intro z; cases z
        | cons p l ih =>
          obtain ⟨y, e⟩ := p
          intro z
          rw [List.lookup_cons] at z
          cases q : ((cm, m) == y) with
          | true => rw [q] at z; cases z; rw [← beq_iff_eq.mp q]; exact List.mem_cons_self
          | false => rw [q] at z; exact List.mem_cons_of_mem _ (ih z)
      exact gen hl
    obtain ⟨r, hr, he⟩ := List.mem_filterMap.mp hmem
    have he' : (match r.at_.2 with
      | none => none
      | some m => some ((r.at_.1, m), r.x) : Option ((Str × Str) × Str)) = some ((cm, m), key) := he
    cases q : r.at_.2 with
    | none => rw [q] at he'; cases he'
    | some m' =>
      rw [q] at he'
      cases he'
      obtain ⟨_, hT⟩ := defT_of (ok.mem hr) c hr
      have hat : He.fAd K r.at_ = He.ma K (He.ga K r.at_.1) m := by
        unfold He.fAd
        rw [q]
      rw [hat] at hT
      have hcl : r.at_.1 ∈ clsNames rows := by
        unfold clsNames
        rw [List.mem_eraseDups]
        exact List.mem_filterMap.mpr ⟨r, hr, by rw [q]⟩
      obtain ⟨c1, c2⟩ := clsF _ (List.mem_append_left _ (List.mem_append_left _ hcl))
      refine ⟨r.fn, row_look hnd hr, c1, c2, He.meth_ok (fact (.meth r.at_.1 m) ?_), hT⟩
      exact List.mem_append_right _ (List.mem_append_right _ (List.mem_append_right _ (List.mem_append_left _ (List.mem_map.mpr ⟨_, hmem, rfl⟩))))
  refine ⟨fun x hx => ?_, fun cm m key hl => ?_, fun cm f hf => ?_, fun cm hc => ?_, fun x fl isI hx => ?_, fun x y b hx => ?_, fun y hy => ?_, fun x d hx => ?_, fun x kvs hx => ?_, fun x hx => free x ?_, fun x hx => free _ ?_, free _ ?_, free _ ?_, free _ ?_⟩
  · obtain ⟨r, hr, rfl⟩ := List.mem_map.mp (List.contains_iff_mem.mp hx)
    obtain ⟨hr1, hr2⟩ := List.mem_filter.mp hr
    have h1 := (ok.mem hr1).one hr2
    obtain ⟨kp, hT⟩ := defT_of (ok.mem hr1) c hr1
    have hat : He.fAd K r.at_ = He.ga K r.x := by
      unfold He.fAd
      unfold isPl at hr2
      cases q : r.at_.2 with
      | none => rw [← h1]
      | some _ => rw [q] at hr2; cases hr2
    rw [hat] at hT kp
    have hm : mg r.x = some (.ref (He.ga K r.x)) := He.glo_ok X G (fact _ (List.mem_append_left _ (List.mem_map_of_mem (f := fun r : DRow => He.Fa.glo r.x) hr)))
    exact ⟨r.fn, _, row_look hnd hr1, hm, kp, hT⟩
  · obtain ⟨fn, g1, g2, g3, g4, g5⟩ := metF cm m key hl
    exact ⟨_, _, fn, g2, g3, g4, g1, g5⟩
  · have hm : (cm, f) ∈ xs.flds := List.contains_iff_mem.mp hf
    obtain ⟨c1, c2⟩ := clsF cm (List.mem_append_right _ (List.mem_map.mpr ⟨_, hm, rfl⟩))
    refine ⟨_, c1, c2, He.noat_ok (fact (.noat cm f) ?_)⟩
    exact List.mem_append_right _ (List.mem_append_right _ (List.mem_append_right _ (List.mem_append_right _ (List.mem_append_left _ (List.mem_map.mpr ⟨_, hm, rfl⟩)))))
  · have hm : cm ∈ xs.mks := List.contains_iff_mem.mp hc
    have hs := List.all_eq_true.mp hmk cm hm
    obtain ⟨key, hk⟩ := Option.isSome_iff_exists.mp hs
    obtain ⟨fn, g1, g2, g3, g4, g5⟩ := metF cm _ key hk
    refine ⟨_, _, key, fn, g2, He.mkr_ok (fact (.mkr cm) ?_), hk, g1, g5⟩
    exact List.mem_append_right _ (List.mem_append_right _ (List.mem_append_right _ (List.mem_append_right _ (List.mem_append_right _ (List.mem_append_left _ (List.mem_map_of_mem hm))))))
  · obtain ⟨e, he, e1⟩ : ∃ e ∈ xs.excs, (e.x, (e.fl, e.isI)) = (x, (fl, isI)) := by
      have gen : ∀ {l : List ERow}, (l.map fun e => (e.x, (e.fl, e.isI))).lookup x = some (fl, isI) → ∃ e ∈ l, (e.x, (e.fl, e.isI)) = (x, (fl, isI)) := fun {l} => by
        induction l with
        | nil => intro z; cases z
        | cons p l ih =>
          intro z
          rw [List.map_cons, List.lookup_cons] at z
          cases q : (x == p.x) with
          | true =>
            rw [q] at z
            cases z
            exact ⟨p, List.mem_cons_self, by rw [beq_iff_eq.mp q]⟩
          | false =>
            rw [q] at z
            obtain ⟨e, h1, h2⟩ := ih z
            exact ⟨e, List.mem_cons_of_mem _ h1, h2⟩
      exact gen hx
    cases e1
    have hm : mg e.x = some (.ref (He.ga K e.x)) := He.glo_ok X G (fact (.glo e.x) (inFa4 (List.mem_cons_of_mem _ (List.mem_append_left _ (List.mem_map_of_mem (f := fun e : ERow => He.Fa.glo e.x) he)))))
    have hs : mg "super" = none := He.free_ok X G (fact (.free "super") (inFa4 List.mem_cons_self))
    have hB := List.all_eq_true.mp ce e he
    have hF : fnI K e.x = some (("__init__" : Str), e.qu, defArgs e.st, FuncBody.stmts (defBody e.st), defScope e.st, mainGlobals, builtinsNs) := by
      obtain ⟨j, hj, ej⟩ := List.mem_iff_getElem.mp he
      have e2 : (inis xs K)[j]? = (iniV xs)[j]? := by rw [ci]
      unfold inis iniV at e2
      rw [List.getElem?_map, List.getElem?_map, List.getElem?_eq_getElem hj, ej] at e2
      exact Option.some.inj e2
    obtain ⟨m, gs, hR, hM⟩ := (hE.mem he).ex
    have hT := iniT_of (P := P) (mg := mg) hB hF hR hs hsup hfile
    have hstr : mg "str" = none := free _ (List.mem_append_left _ (List.mem_append_left _ (by decide)))
    rcases hM with ⟨hI, rfl, lit, kk, p1, p2, p3, p4, p5, rfl, hl⟩ | ⟨hI, rfl, lit, kk, p1, p2, p3, rfl, hl⟩
    · refine ⟨_, _, _, _, okI, hm, hT, msg_int hstr hR.nodbg hl, fun d fs hd => ?_⟩
      rw [hI] at hd
      cases d with
      | int i =>
        have hd' : (if i.natAbs < 1152921504606846976 then some [(e.fl, D.int i)] else none) = some fs := hd
        by_cases q : i.natAbs < 1152921504606846976
        · rw [if_pos q] at hd'
          cases hd'
          exact ⟨rfl, fun μ H v hv => by cases hv; exact ⟨i, rfl, q⟩⟩
        · rw [if_neg q] at hd'; cases hd'
      | _ => cases hd
    · refine ⟨_, _, _, _, okS, hm, hT, msg_str hR.nodbg hl, fun d fs hd => ?_⟩
      rw [hI] at hd
      cases d with
      | str z =>
        have hd' : (if z.length ≤ 1000000 then some [(e.fl, D.str z)] else none) = some fs := hd
        by_cases q : z.length ≤ 1000000
        · rw [if_pos q] at hd'
          cases hd'
          exact ⟨rfl, fun μ H v hv => by cases hv; exact ⟨_, rfl, by rw [stO_len]; exact q⟩⟩
        · rw [if_neg q] at hd'; cases hd'
      | _ => cases hd
  · have hmem : ((x, y), b) ∈ xs.subs := by
      have gen : ∀ {l : List ((Str × Str) × Bool)}, l.lookup (x, y) = some b → ((x, y), b) ∈ l := fun {l} => by
        induction l with
        | nil => intro z; cases z
        | cons p l ih =>
          obtain ⟨q0, e⟩ := p
          intro z
          rw [List.lookup_cons] at z
          cases q : ((x, y) == q0) with
          | true => rw [q] at z; cases z; rw [← beq_iff_eq.mp q]; exact List.mem_cons_self
          | false => rw [q] at z; exact List.mem_cons_of_mem _ (ih z)
      exact gen hx
    have hB := List.all_eq_true.mp cs _ hmem
    obtain ⟨b1, hB⟩ := ba4 hB
    obtain ⟨b2, hB⟩ := ba4 hB
    obtain ⟨b3, b4⟩ := ba4 hB
    have hm : mg x = some (.ref (He.ga K x)) := He.glo_ok X G (fact (.glo x) (inFa4 (List.mem_cons_of_mem _ (List.mem_append_right _ (List.mem_append_right _ (List.mem_map.mpr ⟨_, hmem, rfl⟩))))))
    exact ⟨_, hclV K y, hm, hclH y (List.contains_iff_mem.mp b1), of_decide_eq_true b2, of_decide_eq_true b3, excKB_ok b4⟩
  · refine ⟨_, hclH y (List.contains_iff_mem.mp hy), ?_⟩
    have := List.all_eq_true.mp hhd y (List.contains_iff_mem.mp hy)
    simpa using this
  · have hmem : (x, d) ∈ cons := by
      have key : ∀ {l : List (Str × D)}, l.lookup x = some d → (x, d) ∈ l := fun {l} => by
        induction l with
        | nil => intro z; cases z
        | cons p l ih =>
          obtain ⟨y, e⟩ := p
          intro z
          rw [List.lookup_cons] at z
          cases q : (x == y) with
          | true =>
            rw [q] at z
            cases z
            rw [beq_iff_eq.mp q]
            exact List.mem_cons_self
          | false =>
            rw [q] at z
            exact List.mem_cons_of_mem _ (ih z)
      exact key hx
    have z := List.all_eq_true.mp cc _ hmem
    dsimp only at z
    cases q : PySem.W.nsIn K mainGlobals x with
    | none => rw [q] at z; cases z
    | some o =>
      cases o with
      | none => rw [q] at z; cases z
      | some u =>
        rw [q] at z
        obtain ⟨v, h1, h2⟩ := conB_ok z
        exact ⟨u, v, PySem.W.mg_of X G q, h1, h2⟩
  · have hmem : (x, kvs) ∈ xs.kds := by
      have key : ∀ {l : List (Str × List (List Nat × D))}, l.lookup x = some kvs → (x, kvs) ∈ l := fun {l} => by
        induction l with
        | nil => intro z; cases z
        | cons p l ih =>
          obtain ⟨y, e⟩ := p
          intro z
          rw [List.lookup_cons] at z
          cases q : (x == y) with
          | true =>
            rw [q] at z
            cases z
            rw [beq_iff_eq.mp q]
            exact List.mem_cons_self
          | false =>
            rw [q] at z
            exact List.mem_cons_of_mem _ (ih z)
      exact key hx
    have hm : mg x = some (.ref (He.ga K x)) := He.glo_ok X G (fact (.glo x) (List.mem_append_right _ (List.mem_append_right _ (List.mem_append_right _ (List.mem_append_right _ (List.mem_append_right _ (List.mem_append_right _ (List.mem_append_left _ (List.mem_map.mpr ⟨_, hmem, rfl⟩)))))))))
    have hv := List.all_eq_true.mp ck _ hmem
    have ht : He.dicW K (He.ga K x) = some (He.keysIn w.params (kvs.map fun p => stO p.1)) := by
      obtain ⟨i, hi, e⟩ := List.mem_iff_getElem.mp hmem
      have e1 : (tabs xs K)[i]? = (tabV xs w)[i]? := by rw [ct]
      unfold tabs tabV at e1
      rw [List.getElem?_map, List.getElem?_map, List.getElem?_eq_getElem hi, e] at e1
      exact Option.some.inj e1
    obtain ⟨es, n, KD⟩ := He.dicW_ok ht
    refine ⟨_, es, n, hm, KD, fun z d hz => ?_, fun z hz => ?_⟩
    · have q1 := List.all_eq_true.mp hv _ (lookT_mem hz)
      dsimp only at q1
      cases q : PySem.W.nsIn K (He.ga K x) (stO z) with
      | none => rw [q] at q1; cases q1
      | some o =>
        cases o with
        | none => rw [q] at q1; cases q1
        | some u =>
          rw [q] at q1
          obtain ⟨v, h1, h2⟩ := conB_ok q1
          exact ⟨u, v, rfl, h1, h2⟩
    · have hes : es.toList.map He.keyOf = He.keysIn w.params (kvs.map fun p => stO p.1) := by
        have z := ht
        unfold He.dicW at z
        rw [KD.at_] at z
        have z' : (match decide ("dict" = "dict") && ((#[] : Array (Option Value)).isEmpty && !(He.ga K x == sysModules)) with
          | true => some (es.toList.map He.keyOf)
          | false => none) = some (He.keysIn w.params (kvs.map fun p => stO p.1)) := z
        rw [KD.low] at z'
        exact Option.some.inj z'
      obtain ⟨l1, l2⟩ := lit_look hes (stO z) (lookT_none hz)
      unfold PySem.W.nsIn
      rw [KD.at_]
      dsimp only
      rw [l1]
      dsimp only
      rw [l2]
      rfl
  · exact List.mem_append_left _ (List.mem_append_left _ (List.contains_iff_mem.mp hx))
  · exact List.mem_append_left _ (List.mem_append_right _ (List.mem_map_of_mem (List.contains_iff_mem.mp hx)))
  · exact List.mem_append_right _ (by simp)
  · exact List.mem_append_right _ (by simp)
  · exact List.mem_append_right _ (by simp)
end
/-! ### the law's end -/
/-- what is asked of the core text: the law at the script, whether it is a list of its own or of the text's -/
def LawOk (G : Pr) (k : Nat) (ns : List Int) : Prop := (∃ S', callF G k "law" [.ref 0] [.fro (ns.map D.int)] = some (.val (.bl true), S')) ∧ ∃ S', callF G k "law" [.kl (ns.map D.int)] [] = some (.val (.bl true), S')
theorem ints_rd {K : PySem.W.Frag} {μ : List Addr} {H : Hp} : ∀ ns : List Int, RDs K μ H (ns.map D.int) (ns.map V.int)
  | [] => .nil
  | n :: ns => .cons (.int n) (ints_rd ns)
theorem law_sp {K : PySem.W.Frag} {mg : Str → Option Value} {G : Pr} {k : Nat} {ns : List Int} {H : Hp} {a : Addr} (L : LawOk G k ns) (hO : Only H) (hS : SqL K H a (ns.map V.int)) : spF 1 (callF G k "law") K mg [.ref a] H (fun v _ => v = .bl true) fun _ _ _ => False := by
  refine ⟨rfl, ?_⟩
  obtain ⟨⟨S1, h1⟩, ⟨S2, h2⟩⟩ := L
  rcases hS with (hS | ⟨o, hS⟩) | ⟨o, its, n, g1, g2, g3, g4, g5, g6⟩
  · rcases hO a with z | ⟨o, xs, z⟩
    · rw [hS] at z; cases z
    · rw [hS] at z; cases z
  · refine ⟨[a], [.fro (ns.map D.int)], [.ref 0], _, _, ⟨rfl, fun n m b e1 e2 => ?_, fun n b u e1 e2 => ?_⟩, .cons (.ref rfl) .nil, h1, ?_⟩
    · have l1 := (List.getElem?_eq_some_iff.mp e1).1
      have l2 := (List.getElem?_eq_some_iff.mp e2).1
      simp at l1 l2
      omega
    · have l1 := (List.getElem?_eq_some_iff.mp e1).1
      simp at l1
      subst l1
      cases e1
      cases e2
      exact ⟨o, _, hS, ints_rd ns⟩
    · intro μ' H' v p r
      cases r
      rfl
  · refine ⟨[], [], [.kl (ns.map D.int)], _, _, ⟨rfl, fun n m b e1 e2 => ?_, fun n b u e1 e2 => ?_⟩, .cons (.kl g1 g2 g3 g4 g5 g6 (ints_rd ns)) .nil, h2, ?_⟩
    · simp at e1
    · simp at e1
    · intro μ' H' v p r
      cases r
      rfl
/-- what a law's end wants of its text -/
theorem law_end {l : PySem.W.OpenLaw} {q : Program} {loose : List Str} {XP : (Str → Option Value) → Heap → Prop} {d : DefRec} {rows : List DRow} {cons : List (Str × D)} {xs : Xs} {n k : Nat} {fn : Fn} {x : Str}
    (hn : l.most = some 63) (hdf : d.params.defaults = []) (hname : d.name = "law") (hr : Room (k + 2) callerA) (hnd : (rows.map fun r => r.x).Nodup) (hmk : xs.mks.all (fun c => ((rows.filterMap metOf).lookup (c, ("__init__" : Str))).isSome) = true) (hlaw : (prOf rows cons xs).pls.contains "law" = true)
    (hE : AllE xs.excs) (hhd : xs.hcl.all (fun y => !(y == ("__debug__" : Str))) = true) (hsup : (l.prog.main.scope.names.lookup ("super" : Str)).isSome = false) (hfile : l.prog.main.file = xs.file)
    (ok : AllR (RowOk (prOf rows cons xs)) rows) (hl : (prOf rows cons xs).fns.lookup ("law" : Str) = some fn) (hp : fn.ps = [x]) (hdl : fn.dfl = [])
    (L : ∀ ns : List Int, ns.length ≤ 63 → LawOk (prOf rows cons xs) k ns) :
    PySem.W.WalkO q loose XP (hookY n (faOf rows xs) (rows.map DRow.d) (conK cons) xs).says l.row.toRowW d [] (fun f vs => PySem.call f vs) := by
  refine Att.attach_call hn hdf fun w s₀ s₁ mg mb fa o pm cd doc a vs ns G Y ho hd hcd hmg hobj hints hlen hg => ?_
  obtain ⟨K, KX, cY⟩ := Y
  obtain ⟨c, cc, ck, ce, cs, ct, ci⟩ := saysY cY
  have T := text_ok (P := l.prog) hnd hmk ok KX G.T.g c cc ck ct ce cs ci hE hhd hsup hfile
  rw [hname] at hmg
  obtain ⟨fn2, f, g0, h0, _, hT⟩ := T.fn _ hlaw
  rw [hl] at g0
  cases g0
  rw [hmg] at h0
  cases h0
  obtain ⟨fd, nm, qu, params, body, scope, dvs, kws, n, h2, _, h3, h4, h5⟩ := hT.ex
  have hF : ∀ base : Heap, K.In base → base.Ns mainGlobals mg → FnOk l.prog w K mg base (L2.CX l.prog w) (k + 2) fa fd [x] (spF 1 (callF (prOf rows cons xs) k "law") K mg) := fun base hb1 hb2 => by
    have z := (fn_ok (P := l.prog) (w := w) (base := base) T k).1 _ fn fa fd nm qu params body scope dvs kws n hl h2 h4 h5
    rw [hp] at z
    exact z
  exact law_call KX G.T.g G.T.b G.T.builtins G.T.nolimit hg hobj hints (Nat.le_trans hlen (by decide)) hr hF (fun s u => by
    have h3' := h3 hdl
    rw [hp] at h3'
    exact h3' s [u] rfl) (fun H hO hS => law_sp (L ns hlen) hO hS) fun H e s' hC => by
      obtain ⟨_, _, _, _, _, _, _, _, _, _, _, _, z⟩ := hC
      exact z
end Dy

namespace Dy
open PySem PySem.Spec PyProof.Rows L2
/-! ### what is wanted of an evaluation -/
abbrev Xk := Str → List (Str × D) → Sto → Prop
def wO {α : Type} (o : Out α) (Q : α → Sto → Prop) (X : Xk) : Prop := match o with
  | some (.val a, S) => Q a S
  | some (.exc c fs, S) => X c fs S
  | none => False
def wS (o : OutS) (Q : Fl → Lo → Sto → Prop) : Prop := match o with
  | some (fl, L, S) => Q fl L S
  | none => False
def wA (o : Option (Lo × Sto)) (Q : Lo → Sto → Prop) : Prop := match o with
  | some (L, S) => Q L S
  | none => False
/-- how a statement's value goes on -/
def sX (Q : Fl → Lo → Sto → Prop) (L : Lo) : Xk := fun c fs S => Q (.exc c fs) L S
def sN (P : Pm) (r : Cs) (Q : Fl → Lo → Sto → Prop) : Fl → Lo → Sto → Prop := fun fl L S => match fl with
  | .nx => wS (exs P r L S) Q
  | fl => Q fl L S
section
variable {P : Pm} {L : Lo} {S : Sto} {X : Xk} {α β : Type} {Q : D → Sto → Prop} {R : Fl → Lo → Sto → Prop}
theorem wO_imp {o : Out α} {Q Q' : α → Sto → Prop} {X X' : Xk} (h : wO o Q X) (h1 : ∀ a S, Q a S → Q' a S) (h2 : ∀ c fs S, X c fs S → X' c fs S) : wO o Q' X' := by
  cases o with
  | none => exact h
  | some z => obtain ⟨r, S⟩ := z; cases r with
    | val a => exact h1 _ _ h
    | exc c fs => exact h2 _ _ _ h
theorem wS_imp {o : OutS} {Q Q' : Fl → Lo → Sto → Prop} (h : wS o Q) (h1 : ∀ fl L S, Q fl L S → Q' fl L S) : wS o Q' := by
  cases o with
  | none => exact h
  | some z => obtain ⟨fl, L, S⟩ := z; exact h1 _ _ _ h
theorem wO_ex {o : Out α} {Q : α → Sto → Prop} (h : wO o Q fun _ _ _ => False) : ∃ a S, o = some (.val a, S) ∧ Q a S := by
  cases o with
  | none => exact h.elim
  | some z => obtain ⟨r, S⟩ := z; cases r with
    | val a => exact ⟨a, S, rfl, h⟩
    | exc c fs => exact h.elim
theorem wO_of {o : Out α} {Q : α → Sto → Prop} {a : α} {S : Sto} (e : o = some (.val a, S)) (h : Q a S) : wO o Q X := by rw [e]; exact h
theorem w_then {m : Out α} {f : α → Sto → Out β} {Q : β → Sto → Prop} (h : wO m (fun a S1 => wO (f a S1) Q X) X) : wO (m.andThen f) Q X := by
  cases m with
  | none => exact h
  | some z => obtain ⟨r, S⟩ := z; cases r <;> exact h
theorem w_opt {o : Option α} {a : α} {Q : α → Sto → Prop} (e : o = some a) (h : Q a S) : wO (optO S o) Q X := by rw [e]; exact h
/-! ### expressions -/
theorem w_lit {d : D} (h : Q d S) : wO (ev P (.lit d) L S) Q X := h
theorem w_var {i : Nat} {d : D} (e : L[i]? = some (some d)) (h : Q d S) : wO (ev P (.var i) L S) Q X := by
  show wO (match L[i]? with | some (some d) => some (Res.val d, S) | _ => none) Q X
  rw [e]; exact h
theorem w_con {x : Str} {d : D} (e : P.con x = some d) (h : Q d S) : wO (ev P (.con x) L S) Q X := w_opt e h
theorem w_bin {op : Operator} {a b : E} (h : wO (ev P a L S) (fun x S1 => wO (ev P b L S1) (fun y S2 => wO (binD op x y S2) Q X) X) X) : wO (ev P (.bin op a b) L S) Q X := w_then (wO_imp h (fun _ _ h => w_then h) fun _ _ _ h => h)
theorem w_neg {a : E} (h : wO (ev P a L S) (fun x S1 => ∃ i, x = .int i ∧ Q (.int (-i)) S1) X) : wO (ev P (.neg a) L S) Q X := w_then (wO_imp h (fun x S1 ⟨i, e, q⟩ => by subst e; exact q) fun _ _ _ h => h)
theorem w_cmp {op : CmpOp} {a b : E} (h : wO (ev P a L S) (fun x S1 => wO (ev P b L S1) (fun y S2 => ∃ r, cmpD op S2 x y = some r ∧ Q (.bl r) S2) X) X) : wO (ev P (.cmp op a b) L S) Q X :=
  w_then (wO_imp h (fun _ _ h => w_then (wO_imp h (fun _ _ ⟨r, e, q⟩ => w_opt (by rw [e]; rfl) q) fun _ _ _ h => h)) fun _ _ _ h => h)
theorem w_chain {o p : CmpOp} {a b c : E} (h : wO (ev P a L S) (fun x S1 => wO (ev P b L S1) (fun y S2 => ∃ r, cmpD o S2 x y = some r ∧ (r = true → wO (ev P c L S2) (fun z S3 => ∃ q, cmpD p S3 y z = some q ∧ Q (.bl q) S3) X) ∧ (r = false → Q (.bl false) S2)) X) X) :
    wO (ev P (.chain o p a b c) L S) Q X := by
  refine w_then (wO_imp h (fun x S1 h => w_then (wO_imp h (fun y S2 ⟨r, e, q1, q2⟩ => ?_) fun _ _ _ h => h)) fun _ _ _ h => h)
  simp only [e]
  cases r with
  | true => exact w_then (wO_imp (q1 rfl) (fun _ _ ⟨r, e, q⟩ => w_opt (by rw [e]; rfl) q) fun _ _ _ h => h)
  | false => exact q2 rfl
theorem w_nt {a : E} (h : wO (ev P a L S) (fun x S1 => ∃ r, truD S1 x = some r ∧ Q (.bl (!r)) S1) X) : wO (ev P (.nt a) L S) Q X := w_then (wO_imp h (fun _ _ ⟨r, e, q⟩ => w_opt (by rw [e]; rfl) q) fun _ _ _ h => h)
theorem w_and {a b : E} (h : wO (ev P a L S) (fun x S1 => ∃ r, truD S1 x = some r ∧ (r = true → wO (ev P b L S1) Q X) ∧ (r = false → Q x S1)) X) : wO (ev P (.bo .And a b) L S) Q X := by
  refine w_then (wO_imp h (fun x S1 ⟨r, e, q1, q2⟩ => ?_) fun _ _ _ h => h)
  simp only [e]
  cases r with
  | true => exact q1 rfl
  | false => exact q2 rfl
theorem w_or {a b : E} (h : wO (ev P a L S) (fun x S1 => ∃ r, truD S1 x = some r ∧ (r = false → wO (ev P b L S1) Q X) ∧ (r = true → Q x S1)) X) : wO (ev P (.bo .Or a b) L S) Q X := by
  refine w_then (wO_imp h (fun x S1 ⟨r, e, q1, q2⟩ => ?_) fun _ _ _ h => h)
  simp only [e]
  cases r with
  | true => exact q2 rfl
  | false => exact q1 rfl
theorem w_ite {t : T} {a b : E} (h : wO (tst P t L S) (fun c S1 => (c = true → wO (ev P a L S1) Q X) ∧ (c = false → wO (ev P b L S1) Q X)) X) : wO (ev P (.ite t a b) L S) Q X :=
  w_then (wO_imp h (fun c S1 q => by cases c with | true => exact q.1 rfl | false => exact q.2 rfl) fun _ _ _ h => h)
theorem w_tup {es : Es} (h : wO (evs P es L S) (fun ds S1 => ds.length ≤ sizeLine ∧ Q (.tup ds) S1) X) : wO (ev P (.tup es) L S) Q X := w_then (wO_imp h (fun ds S1 ⟨c, q⟩ => by rw [if_pos c]; exact q) fun _ _ _ h => h)
theorem w_lst {es : Es} (h : wO (evs P es L S) (fun ds S1 => ds.length ≤ sizeLine ∧ Q (.ref S1.length) (S1 ++ [.lst ds])) X) : wO (ev P (.lst es) L S) Q X := w_then (wO_imp h (fun ds S1 ⟨c, q⟩ => by rw [if_pos c]; exact q) fun _ _ _ h => h)
theorem w_ix {a i : E} (h : wO (ev P a L S) (fun x S1 => wO (ev P i L S1) (fun y S2 => ∃ d, ixD x y S2 = some d ∧ Q d S2) X) X) : wO (ev P (.ix a i) L S) Q X := w_then (wO_imp h (fun _ _ h => w_then (wO_imp h (fun _ _ ⟨r, e, q⟩ => w_opt e q) fun _ _ _ h => h)) fun _ _ _ h => h)
theorem w_sl {a : E} {lo hi : Oe} (h : wO (ev P a L S) (fun x S1 => wO (evo P lo L S1) (fun l S2 => wO (evo P hi L S2) (fun u S3 => wO (slD x l u S3) Q X) X) X) X) : wO (ev P (.sl a lo hi) L S) Q X := w_then (wO_imp h (fun _ _ h => w_then (wO_imp h (fun _ _ h => w_then h) fun _ _ _ h => h)) fun _ _ _ h => h)
theorem w_no {Q : Option Int → Sto → Prop} (h : Q none S) : wO (evo P .no L S) Q X := h
theorem w_so {e : E} {Q : Option Int → Sto → Prop} (h : wO (ev P e L S) (fun d S1 => ∃ i, d = .int i ∧ Q (some i) S1) X) : wO (evo P (.so e) L S) Q X := w_then (wO_imp h (fun x S1 ⟨i, e, q⟩ => by subst e; exact q) fun _ _ _ h => h)
theorem w_call {f : Str} {es : Es} (h : wO (evs P es L S) (fun ds S1 => wO (P.cal f ds S1) Q X) X) : wO (ev P (.call f es) L S) Q X := w_then h
theorem w_bi {f : Str} {es : Es} (h : wO (evs P es L S) (fun ds S1 => wO (biD f ds S1) Q X) X) : wO (ev P (.bi f es) L S) Q X := w_then h
theorem w_bm {m : Str} {o : E} {es : Es} (h : wO (ev P o L S) (fun x S1 => tyD S1 x = some (bmTy m) ∧ wO (evs P es L S1) (fun ds S2 => wO (bmD m x ds S2) Q X) X) X) : wO (ev P (.bm m o es) L S) Q X :=
  w_then (wO_imp h (fun x S1 ⟨c, q⟩ => by rw [if_pos c]; exact w_then q) fun _ _ _ h => h)
theorem w_isi {e : E} {cs : List String} (h : wO (ev P e L S) (fun x S1 => ∃ r, isD S1 x cs = some r ∧ Q (.bl r) S1) X) : wO (ev P (.isi e cs) L S) Q X := w_then (wO_imp h (fun _ _ ⟨r, e, q⟩ => w_opt (by rw [e]; rfl) q) fun _ _ _ h => h)
theorem w_nil {Q : List D → Sto → Prop} (h : Q [] S) : wO (evs P .nil L S) Q X := h
theorem w_cons {e : E} {r : Es} {Q : List D → Sto → Prop} (h : wO (ev P e L S) (fun d S1 => wO (evs P r L S1) (fun ds S2 => Q (d :: ds) S2) X) X) : wO (evs P (.cons e r) L S) Q X := w_then (wO_imp h (fun _ _ h => w_then h) fun _ _ _ h => h)
/-! ### tests -/
theorem w_of {e : E} {Q : Bool → Sto → Prop} (h : wO (ev P e L S) (fun x S1 => ∃ r, truD S1 x = some r ∧ Q r S1) X) : wO (tst P (.of e) L S) Q X := w_then (wO_imp h (fun _ _ ⟨r, e, q⟩ => w_opt e q) fun _ _ _ h => h)
theorem w_tnt {t : T} {Q : Bool → Sto → Prop} (h : wO (tst P t L S) (fun c S1 => Q (!c) S1) X) : wO (tst P (.nt t) L S) Q X := w_then h
theorem w_tand {t u : T} {Q : Bool → Sto → Prop} (h : wO (tst P t L S) (fun c S1 => (c = true → wO (tst P u L S1) Q X) ∧ (c = false → Q false S1)) X) : wO (tst P (.bo .And t u) L S) Q X :=
  w_then (wO_imp h (fun c S1 q => by cases c with | true => exact q.1 rfl | false => exact q.2 rfl) fun _ _ _ h => h)
theorem w_tor {t u : T} {Q : Bool → Sto → Prop} (h : wO (tst P t L S) (fun c S1 => (c = false → wO (tst P u L S1) Q X) ∧ (c = true → Q true S1)) X) : wO (tst P (.bo .Or t u) L S) Q X :=
  w_then (wO_imp h (fun c S1 q => by cases c with | true => exact q.2 rfl | false => exact q.1 rfl) fun _ _ _ h => h)
theorem w_yes {Q : Bool → Sto → Prop} (h : Q true S) : wO (tsts P .yes L S) Q X := h
theorem w_if1 {t : T} {Q : Bool → Sto → Prop} (h : wO (tst P t L S) Q X) : wO (tsts P (.so t) L S) Q X := h
/-! ### what a loop goes over -/
theorem w_seq {e : E} {Q : Wk → Sto → Prop} (h : wO (ev P e L S) (fun d S1 => ∃ w, walkOf S1 d = some w ∧ Q w S1) X) : wO (evi P (.seq e) L S) Q X := w_then (wO_imp h (fun _ _ ⟨r, e, q⟩ => w_opt e q) fun _ _ _ h => h)
theorem w_rng1 {e : E} {Q : Wk → Sto → Prop} (h : wO (ev P e L S) (fun d S1 => ∃ j, d = .int j ∧ small62 j = true ∧ Q (.rg 0 j.toNat) S1) X) : wO (evi P (.rng1 e) L S) Q X := w_then (wO_imp h (fun d S1 ⟨j, e, c, q⟩ => by subst e; show wO (if small62 j = true then _ else _) Q X; rw [if_pos c]; exact q) fun _ _ _ h => h)
theorem w_rng2 {a b : E} {Q : Wk → Sto → Prop} (h : wO (ev P a L S) (fun x S1 => wO (ev P b L S1) (fun y S2 => ∃ i j, x = .int i ∧ y = .int j ∧ (small62 i && small62 j) = true ∧ Q (.rg i (j - i).toNat) S2) X) X) : wO (evi P (.rng2 a b) L S) Q X :=
  w_then (wO_imp h (fun x S1 h => w_then (wO_imp h (fun y S2 ⟨i, j, e1, e2, c, q⟩ => by subst e1; subst e2; show wO (if (small62 i && small62 j) = true then _ else _) Q X; rw [if_pos c]; exact q) fun _ _ _ h => h)) fun _ _ _ h => h)
theorem w_enum {e : E} {Q : Wk → Sto → Prop} (h : wO (ev P e L S) (fun d S1 => ∃ xs, seqL S1 d = some xs ∧ Q (.en d) S1) X) : wO (evi P (.enum e) L S) Q X := w_then (wO_imp h (fun _ _ ⟨xs, e, q⟩ => w_then (w_opt e q)) fun _ _ _ h => h)
/-! ### targets -/
theorem w_nm {i : Nat} {d : D} {Q : Lo → Sto → Prop} (h : Q (L.set i (some d)) S) : wA (asg P (.nm i) d L S) Q := h
theorem w_tp {ts : Tgs} {ds : List D} {Q : Lo → Sto → Prop} (h : wA (asgs P ts ds L S) Q) : wA (asg P (.tp ts) (.tup ds) L S) Q := h
theorem w_tnil {Q : Lo → Sto → Prop} (h : Q L S) : wA (asgs P .nil [] L S) Q := h
theorem w_tcons {t : Tg} {r : Tgs} {d : D} {ds : List D} {Q : Lo → Sto → Prop} (h : wA (asg P t d L S) fun L1 S1 => wA (asgs P r ds L1 S1) Q) : wA (asgs P (.cons t r) (d :: ds) L S) Q := by
  show wA (match asg P t d L S with | some (L1, S1) => asgs P r ds L1 S1 | none => none) Q
  cases q : asg P t d L S with
  | none => rw [q] at h; exact h
  | some z => rw [q] at h; exact h
theorem w_sub {o i : E} {d : D} {Q : Lo → Sto → Prop} (h : wO (ev P o L S) (fun x S1 => ∃ n, x = .ref n ∧ wO (ev P i L S1) (fun y S2 => ∃ k xs j, y = .int k ∧ S2[n]? = some (.lst xs) ∧ ixN xs.length k = some j ∧ Q L (S2.set n (.lst (xs.set j d)))) fun _ _ _ => False) fun _ _ _ => False) : wA (asg P (.sub o i) d L S) Q := by
  obtain ⟨x, S1, e1, n, rfl, h⟩ := wO_ex h
  obtain ⟨y, S2, e2, k, xs, j, rfl, e3, e4, h⟩ := wO_ex h
  show wA (match ev P o L S with
    | some (.val (.ref n), S1) => match ev P i L S1 with
      | some (.val (.int k), S2) => match S2[n]? with
        | some (.lst xs) => match ixN xs.length k with
          | some j => some (L, S2.set n (.lst (xs.set j d)))
          | none => none
        | _ => none
      | _ => none
    | _ => none) Q
  simp only [e1, e2, e3, e4]
  exact h
/-! ### statements -/
theorem w_val {m : Out α} {f : α → Sto → OutS} (h : wO m (fun a S1 => wS (f a S1) R) (sX R L)) : wS (valS L m f) R := by
  cases m with
  | none => exact h
  | some z => obtain ⟨r, S⟩ := z; cases r <;> exact h
theorem w_ex {e : E} (h : wO (ev P e L S) (fun _ S1 => R .nx L S1) (sX R L)) : wS (ex P (.ex e) L S) R := w_val h
theorem w_asg {t : Tg} {e : E} (h : wO (ev P e L S) (fun d S1 => wA (asg P t d L S1) fun L2 S2 => R .nx L2 S2) (sX R L)) : wS (ex P (.asg t e) L S) R := w_val (wO_imp h (fun d S1 h => by
  cases q : asg P t d L S1 with
  | none => rw [q] at h; exact h.elim
  | some z => rw [q] at h; exact h) fun _ _ _ h => h)
theorem w_aug {i : Nat} {op : Operator} {e : E} {x : D} (hx : L[i]? = some (some x)) (h : wO (ev P e L S) (fun y S1 => ∃ z, augD op x y = some z ∧ R .nx (L.set i (some z)) S1) (sX R L)) : wS (ex P (.aug i op e) L S) R := by
  show wS (match L[i]? with
    | some (some x) => valS L (ev P e L S) fun y S1 => match augD op x y with
      | some z => some (.nx, L.set i (some z), S1)
      | none => none
    | _ => none) R
  rw [hx]
  exact w_val (wO_imp h (fun y S1 ⟨z, e, q⟩ => by simp only [e]; exact q) fun _ _ _ h => h)
theorem w_ret {e : E} (h : wO (ev P e L S) (fun d S1 => R (.rt d) L S1) (sX R L)) : wS (ex P (.ret e) L S) R := w_val h
theorem w_retn (h : R (.rt .non) L S) : wS (ex P .retn L S) R := h
theorem w_pass (h : R .nx L S) : wS (ex P .pass L S) R := h
theorem w_brk (h : R .bk L S) : wS (ex P .brk L S) R := h
theorem w_cont (h : R .ct L S) : wS (ex P .cont L S) R := h
theorem w_iff {t : T} {a b : Cs} (h : wO (tst P t L S) (fun c S1 => (c = true → wS (exs P a L S1) R) ∧ (c = false → wS (exs P b L S1) R)) (sX R L)) : wS (ex P (.iff t a b) L S) R := by
  show wS (match tst P t L S with
    | none => none
    | some (.exc c fs, S1) => some (.exc c fs, L, S1)
    | some (.val true, S1) => exs P a L S1
    | some (.val false, S1) => exs P b L S1) R
  cases q : tst P t L S with
  | none => rw [q] at h; exact h.elim
  | some z =>
    obtain ⟨r, S1⟩ := z
    rw [q] at h
    cases r with
    | exc c fs => exact h
    | val c => cases c with
      | true => exact h.1 rfl
      | false => exact h.2 rfl
theorem w_snil (h : R .nx L S) : wS (exs P .nil L S) R := h
theorem w_scons {s : C} {r : Cs} (h : wS (ex P s L S) (sN P r R)) : wS (exs P (.cons s r) L S) R := by
  show wS (match ex P s L S with | some (.nx, L1, S1) => exs P r L1 S1 | o => o) R
  cases q : ex P s L S with
  | none => rw [q] at h; exact h.elim
  | some z =>
    obtain ⟨fl, L1, S1⟩ := z
    rw [q] at h
    cases fl <;> exact h
/-- a while, by a word and a measure -/
theorem w_whl {t : T} {b : Cs} (I : Lo → Sto → Prop) (m : Lo → Sto → Nat) (h0 : I L S) (st : ∀ L S, I L S → wO (tst P t L S) (fun c S1 => (c = true → wS (exs P b L S1) fun fl L2 S2 => match fl with
    | .nx => I L2 S2 ∧ m L2 S2 < m L S
    | .ct => I L2 S2 ∧ m L2 S2 < m L S
    | .bk => R .nx L2 S2
    | fl => R fl L2 S2) ∧ (c = false → R .nx L S1)) (sX R L)) : wS (ex P (.whl t b) L S) R := by
  show wS (loopF (whStep (fun L S => tst P t L S) (fun L S => exs P b L S)) (L, S)) R
  have main : ∀ (n : Nat) (L : Lo) (S : Sto), m L S ≤ n → I L S → wS (loopF (whStep (fun L S => tst P t L S) (fun L S => exs P b L S)) (L, S)) R := by
    intro n
    induction n with
    | zero =>
      intro L S hn hi
      have h := st L S hi
      rw [loopF_eq]
      unfold whStep
      dsimp only
      cases q : tst P t L S with
      | none => rw [q] at h; exact h.elim
      | some z =>
        obtain ⟨r, S1⟩ := z
        rw [q] at h
        cases r with
        | exc c fs => exact h
        | val c => cases c with
          | false => exact h.2 rfl
          | true =>
            have h1 := h.1 rfl
            dsimp only
            cases q2 : exs P b L S1 with
            | none => rw [q2] at h1; exact h1.elim
            | some z2 =>
              obtain ⟨fl, L2, S2⟩ := z2
              rw [q2] at h1
              cases fl with
              | nx => exact absurd h1.2 (by omega)
              | ct => exact absurd h1.2 (by omega)
              | bk => exact h1
              | rt d => exact h1
              | exc c fs => exact h1
    | succ n ih =>
      intro L S hn hi
      have h := st L S hi
      rw [loopF_eq]
      unfold whStep
      dsimp only
      cases q : tst P t L S with
      | none => rw [q] at h; exact h.elim
      | some z =>
        obtain ⟨r, S1⟩ := z
        rw [q] at h
        cases r with
        | exc c fs => exact h
        | val c => cases c with
          | false => exact h.2 rfl
          | true =>
            have h1 := h.1 rfl
            dsimp only
            cases q2 : exs P b L S1 with
            | none => rw [q2] at h1; exact h1.elim
            | some z2 =>
              obtain ⟨fl, L2, S2⟩ := z2
              rw [q2] at h1
              cases fl with
              | nx => exact ih L2 S2 (by have := h1.2; omega) h1.1
              | ct => exact ih L2 S2 (by have := h1.2; omega) h1.1
              | bk => exact h1
              | rt d => exact h1
              | exc c fs => exact h1
  exact main _ L S (Nat.le_refl _) h0
/-- a for over a walk of N items, by a word of the turn -/
theorem w_for {g : Tg} {b : Cs} {w : Wk} (N : Nat) (I : Nat → Lo → Sto → Prop) (h0 : I 0 L S) (hd : ∀ L S, I N L S → w.at S N = some none ∧ R .nx L S) (st : ∀ i L S, i < N → I i L S → ∃ d, w.at S i = some (some d) ∧ wA (asg P g d L S) fun L1 S1 => wS (exs P b L1 S1) fun fl L2 S2 => match fl with
    | .nx => I (i + 1) L2 S2
    | .ct => I (i + 1) L2 S2
    | .bk => R .nx L2 S2
    | fl => R fl L2 S2) : wS (loopF (frStep w (fun d L S => asg P g d L S) (fun L S => exs P b L S)) (0, L, S)) R := by
  have main : ∀ (n i : Nat) (L : Lo) (S : Sto), i + n = N → I i L S → wS (loopF (frStep w (fun d L S => asg P g d L S) (fun L S => exs P b L S)) (i, L, S)) R := by
    intro n
    induction n with
    | zero =>
      intro i L S hn hi
      have e : i = N := by omega
      subst e
      obtain ⟨h1, h2⟩ := hd L S hi
      rw [loopF_eq]
      unfold frStep
      dsimp only
      rw [h1]
      exact h2
    | succ n ih =>
      intro i L S hn hi
      obtain ⟨d, h1, h⟩ := st i L S (by omega) hi
      rw [loopF_eq]
      unfold frStep
      dsimp only
      rw [h1]
      dsimp only
      cases q : asg P g d L S with
      | none => rw [q] at h; exact h.elim
      | some z =>
        obtain ⟨L1, S1⟩ := z
        rw [q] at h
        have h1 : wS (exs P b L1 S1) _ := h
        dsimp only
        cases q2 : exs P b L1 S1 with
        | none => rw [q2] at h1; exact h1.elim
        | some z2 =>
          obtain ⟨fl, L2, S2⟩ := z2
          rw [q2] at h1
          cases fl with
          | nx => exact ih (i + 1) L2 S2 (by omega) h1
          | ct => exact ih (i + 1) L2 S2 (by omega) h1
          | bk => exact h1
          | rt d => exact h1
          | exc c fs => exact h1
  exact main N 0 L S (by omega) h0
theorem w_fr {g : Tg} {it : Ie} {b : Cs} (h : wO (evi P it L S) (fun w S1 => wS (loopF (frStep w (fun d L S => asg P g d L S) (fun L S => exs P b L S)) (0, L, S1)) R) (sX R L)) : wS (ex P (.fr g it b) L S) R := by
  show wS (match evi P it L S with
    | none => none
    | some (.exc c fs, S1) => some (.exc c fs, L, S1)
    | some (.val w, S1) => loopF (frStep w (fun d L S => asg P g d L S) (fun L S => exs P b L S)) (0, L, S1)) R
  cases q : evi P it L S with
  | none => rw [q] at h; exact h.elim
  | some z => obtain ⟨r, S1⟩ := z; rw [q] at h; cases r <;> exact h
/-- a comprehension over a walk of N items -/
theorem w_lc {elt : E} {g : Tg} {it : Ie} {ifs : To} {own : List Nat} (h : wO (evi P it L S) (fun w S1 => ∃ (N : Nat) (I : Nat → Sto → Prop), I 0 (S1 ++ [.lst []]) ∧ (∀ S, I N S → w.at S N = some none ∧ Q (.ref S1.length) S) ∧
      ∀ i S, i < N → I i S → ∃ d, w.at S i = some (some d) ∧ wA (asg P g d (wipeL L own) S) fun L2 S2 => wO (tsts P ifs L2 S2) (fun c S3 => (c = false → I (i + 1) S3) ∧ (c = true → wO (ev P elt L2 S3) (fun y S4 => ∃ acc, S4[S1.length]? = some (.lst acc) ∧ acc.length < sizeLine ∧ I (i + 1) (S4.set S1.length (.lst (acc ++ [y])))) fun _ _ _ => False)) fun _ _ _ => False) X) :
    wO (ev P (.lc elt g it ifs own) L S) Q X := by
  refine w_then (wO_imp h (fun w S1 ⟨N, I, h0, hd, st⟩ => ?_) fun _ _ _ h => h)
  have main : ∀ (n i : Nat) (S : Sto), i + n = N → I i S → ∃ S', loopF (lcStep w S1.length (fun d S2 => asg P g d (wipeL L own) S2) (fun L2 S2 => tsts P ifs L2 S2) (fun L2 S2 => ev P elt L2 S2)) (i, S) = some S' ∧ Q (.ref S1.length) S' := by
    intro n
    induction n with
    | zero =>
      intro i S hn hi
      have e : i = N := by omega
      subst e
      obtain ⟨h1, h2⟩ := hd S hi
      refine ⟨S, ?_, h2⟩
      rw [loopF_eq]
      unfold lcStep
      dsimp only
      rw [h1]
    | succ n ih =>
      intro i S hn hi
      obtain ⟨d, h1, h⟩ := st i S (by omega) hi
      rw [loopF_eq]
      unfold lcStep
      dsimp only
      rw [h1]
      dsimp only
      cases q : asg P g d (wipeL L own) S with
      | none => rw [q] at h; exact h.elim
      | some z =>
        obtain ⟨L2, S2⟩ := z
        rw [q] at h
        obtain ⟨c, S3, e3, h3, h4⟩ := wO_ex h
        simp only [e3]
        cases c with
        | false => exact ih (i + 1) S3 (by omega) (h3 rfl)
        | true =>
          obtain ⟨y, S4, e4, acc, h5, h6, h7⟩ := wO_ex (h4 rfl)
          simp only [e4, h5, if_pos h6]
          exact ih (i + 1) _ (by omega) h7
  obtain ⟨S', e, q⟩ := main N 0 _ (by omega) h0
  rw [e]
  exact q
/-! ### raise, try -/
theorem w_raise {c : Str} {e : E} (h : wO (ev P e L S) (fun d S1 => ∃ fs, P.exc c d = some fs ∧ R (.exc c fs) L S1) (sX R L)) : wS (ex P (.raise c e) L S) R :=
  w_val (wO_imp h (fun d S1 ⟨fs, e, q⟩ => by simp only [e]; exact q) fun _ _ _ h => h)
/-- how a try goes on behind its body -/
def tQ (P : Pm) (y : Str) (i : Option Nat) (h : HCs) (R : Fl → Lo → Sto → Prop) : Fl → Lo → Sto → Prop := fun fl L S => match fl with
  | .exc c fs => wS (tryH P y i h c fs L S) R
  | fl => R fl L S
theorem w_tryx {b : Cs} {y : Str} {i : Option Nat} {h : HCs} (q : wS (exs P b L S) (tQ P y i h R)) : wS (ex P (.tryx b y i h) L S) R := by
  show wS (match exs P b L S with
    | some (.exc c fs, L1, S1) => tryH P y i h c fs L1 S1
    | o => o) R
  cases e : exs P b L S with
  | none => rw [e] at q; exact q
  | some z =>
    obtain ⟨fl, L1, S1⟩ := z
    rw [e] at q
    cases fl <;> exact q
theorem w_hand {y : Str} {i : Option Nat} {h : HCs} {c : Str} {fs : List (Str × D)} {fl : Fl} (e : P.sub c y = some true) (hi : slotIn L i = true) (hh : hCs P c fs S h (hideL L i) = some fl) (q : (fl = .nx ∧ R .nx (hideL L i) S) ∨ ∃ d, fl = .rt d ∧ R (.rt d) (hideL L i) S) : wS (tryH P y i h c fs L S) R := by
  unfold tryH
  rw [e]
  dsimp only
  rw [if_pos hi, hh]
  rcases q with ⟨rfl, q⟩ | ⟨d, rfl, q⟩ <;> exact q
/-! ### fields, methods, making, written tables -/
theorem w_fld {o : E} {f : Str} (h : wO (ev P o L S) (fun x S1 => ∃ n c fs d, x = .ref n ∧ S1[n]? = some (.ins c fs) ∧ P.fds c f = true ∧ fs.lookup f = some d ∧ Q d S1) X) : wO (ev P (.fld o f) L S) Q X :=
  w_then (wO_imp h (fun x S1 ⟨n, c, fs, d, e1, e2, e3, e4, q⟩ => by subst e1; simp only [e2, e3, if_true]; exact w_opt e4 q) fun _ _ _ h => h)
theorem w_meth {m : Str} {o : E} {es : Es} (h : wO (ev P o L S) (fun x S1 => ∃ n c fs, x = .ref n ∧ S1[n]? = some (.ins c fs) ∧ fs.lookup m = none ∧ P.mts c m (lenEs es) = true ∧ wO (evs P es L S1) (fun ds S2 => wO (P.met c m (.ref n :: ds) S2) Q X) X) X) : wO (ev P (.meth m o es) L S) Q X :=
  w_then (wO_imp h (fun x S1 ⟨n, c, fs, e1, e2, e3, e4, q⟩ => by subst e1; simp only [e2, e3, e4, if_true]; exact w_then q) fun _ _ _ h => h)
theorem w_mk {c : Str} {es : Es} (h : wO (evs P es L S) (fun ds S1 => wO (P.mak c (.ref S1.length :: ds) (S1 ++ [.ins c []])) (fun d S2 => d = .non ∧ Q (.ref S1.length) S2) X) X) : wO (ev P (.mk c es) L S) Q X :=
  w_then (wO_imp h (fun ds S1 q => w_then (wO_imp q (fun d S2 ⟨e, q⟩ => by subst e; exact q) fun _ _ _ h => h)) fun _ _ _ h => h)
theorem w_kix {x : Str} {e : E} (h : wO (ev P e L S) (fun y S1 => ∃ z d, y = .str z ∧ (P.kd x).bind (lookT z) = some d ∧ Q d S1) X) : wO (ev P (.kix x e) L S) Q X :=
  w_then (wO_imp h (fun y S1 ⟨z, d, e1, e2, q⟩ => by subst e1; exact w_opt e2 q) fun _ _ _ h => h)
theorem w_kin {n : Bool} {x : Str} {e : E} (h : wO (ev P e L S) (fun y S1 => ∃ z kvs, y = .str z ∧ P.kd x = some kvs ∧ Q (.bl (xor n (lookT z kvs).isSome)) S1) X) : wO (ev P (.kin n x e) L S) Q X :=
  w_then (wO_imp h (fun y S1 ⟨z, kvs, e1, e2, q⟩ => by subst e1; exact w_opt (by rw [e2]; rfl) q) fun _ _ _ h => h)
theorem w_sfld {o : E} {f : Str} {d : D} {Q : Lo → Sto → Prop} (h : wO (ev P o L S) (fun x S1 => ∃ n c fs, x = .ref n ∧ S1[n]? = some (.ins c fs) ∧ (P.fds c f = true ∧ fs.length < 1000) ∧ Q L (S1.set n (.ins c (putD f d fs)))) fun _ _ _ => False) : wA (asg P (.fld o f) d L S) Q := by
  obtain ⟨x, S1, e1, n, c, fs, rfl, e3, e4, h⟩ := wO_ex h
  show wA (match ev P o L S with
    | some (.val (.ref n), S1) => match S1[n]? with
      | some (.ins c fs) => if P.fds c f = true ∧ fs.length < 1000 then some (L, S1.set n (.ins c (putD f d fs))) else none
      | _ => none
    | _ => none) Q
  simp only [e1, e3]
  rw [if_pos e4]
  exact h
theorem w_augf {o e : E} {f : Str} {op : Operator} (h : wO (ev P o L S) (fun x S1 => ∃ n c fs v, x = .ref n ∧ S1[n]? = some (.ins c fs) ∧ fs.lookup f = some v ∧ P.fds c f = true ∧ wO (ev P e L S1) (fun y S2 => ∃ z fs2, augD op v y = some z ∧ S2[n]? = some (.ins c fs2) ∧ fs2.length < 1000 ∧ R .nx L (S2.set n (.ins c (putD f z fs2)))) (sX R L)) (sX R L)) : wS (ex P (.augf o f op e) L S) R := by
  refine w_val (wO_imp h (fun x S1 ⟨n, c, fs, v, e1, e2, e3, e4, q⟩ => ?_) fun _ _ _ h => h)
  subst e1
  simp only [e2, e3, e4, if_true]
  refine w_val (wO_imp q (fun y S2 ⟨z, fs2, e5, e6, e7, q⟩ => ?_) fun _ _ _ h => h)
  simp only [e5, e6, decide_true, Bool.true_and, e7, if_true]
  exact q
/-! ### defs -/
theorem w_defD {G : Pr} {k : Nat} {f : Str} {fn : Fn} {ds ds' : List D} (hf : G.fns.lookup f = some fn) (he : fill fn ds = ds') (hl : ds'.length = fn.ps.length)
    (h : wS (exs (pmOf G k) fn.body (ds'.map some ++ List.replicate (fn.N.length - ds'.length) none) S) fun fl _ S1 => match fl with
      | .nx => Q .non S1
      | .rt d => Q d S1
      | .exc c fs => X c fs S1
      | _ => False) : wO (callF G (k + 1) f ds S) Q X := by
  rw [callF_succ hf]
  unfold runFn
  rw [he, if_pos hl]
  cases q : exs (pmOf G k) fn.body (ds'.map some ++ List.replicate (fn.N.length - ds'.length) none) S with
  | none => rw [q] at h; exact h.elim
  | some z => obtain ⟨fl, L, S1⟩ := z; rw [q] at h; cases fl <;> exact h
theorem w_def {G : Pr} {k : Nat} {f : Str} {fn : Fn} {ds : List D} (hf : G.fns.lookup f = some fn) (hl : ds.length = fn.ps.length)
    (h : wS (exs (pmOf G k) fn.body (ds.map some ++ List.replicate (fn.N.length - ds.length) none) S) fun fl _ S1 => match fl with
      | .nx => Q .non S1
      | .rt d => Q d S1
      | .exc c fs => X c fs S1
      | _ => False) : wO (callF G (k + 1) f ds S) Q X := by
  rw [callF_succ hf]
  unfold runFn
  rw [fill_full hl, if_pos hl]
  cases q : exs (pmOf G k) fn.body (ds.map some ++ List.replicate (fn.N.length - ds.length) none) S with
  | none => rw [q] at h; exact h.elim
  | some z => obtain ⟨fl, L, S1⟩ := z; rw [q] at h; cases fl <;> exact h
end
end Dy

namespace Dy
open PySem PySem.Spec PyProof.Rows L2
section
variable {P : Pm} {L : Lo} {S : Sto} {X : Xk} {Q : D → Sto → Prop} {R : Fl → Lo → Sto → Prop}
theorem sN_nx {r : Cs} (h : wS (exs P r L S) R) : sN P r R .nx L S := h
theorem sN_rt {r : Cs} {d : D} (h : R (.rt d) L S) : sN P r R (.rt d) L S := h
theorem sN_bk {r : Cs} (h : R .bk L S) : sN P r R .bk L S := h
theorem sN_ct {r : Cs} (h : R .ct L S) : sN P r R .ct L S := h
theorem sN_exc {r : Cs} {c : Str} {fs : List (Str × D)} (h : R (.exc c fs) L S) : sN P r R (.exc c fs) L S := h
theorem sX_i {c : Str} {fs : List (Str × D)} (h : R (.exc c fs) L S) : sX R L c fs S := h
theorem w_vari {i : Nat} (h : ∃ d, L[i]? = some (some d) ∧ Q d S) : wO (ev P (.var i) L S) Q X := by
  obtain ⟨d, e, q⟩ := h
  exact w_var e q
/-! ### operations on what is known -/
theorem o_add {i j : Int} (q : Q (.int (i + j)) S) : wO (binD .Add (.int i) (.int j) S) Q X := q
theorem o_adds {a b : List Nat} (c : a.length + b.length ≤ sizeLine) (q : Q (.str (a ++ b)) S) : wO (binD .Add (.str a) (.str b) S) Q X := by
  show wO (if a.length + b.length ≤ sizeLine then _ else _) Q X
  rw [if_pos c]; exact q
theorem o_sub {i j : Int} (q : Q (.int (i - j)) S) : wO (binD .Sub (.int i) (.int j) S) Q X := q
theorem o_mulL {i j : Int} (c : -18446744073709551616 < i ∧ i < 18446744073709551616) (q : Q (.int (i * j)) S) : wO (binD .Mult (.int i) (.int j) S) Q X := by
  show wO (if _ then _ else _) Q X
  rw [if_pos (.inl (.inl (by omega)))]; exact q
theorem o_mulR {i j : Int} (c : -18446744073709551616 < j ∧ j < 18446744073709551616) (q : Q (.int (i * j)) S) : wO (binD .Mult (.int i) (.int j) S) Q X := by
  show wO (if _ then _ else _) Q X
  rw [if_pos (.inl (.inr (by omega)))]; exact q
theorem o_mulS {a : List Nat} {j : Int} (c : j < 16777216 ∧ -16777216 < j ∧ a.length * j.toNat ≤ sizeLine) (q : Q (.str (List.replicate j.toNat a).flatten) S) : wO (binD .Mult (.str a) (.int j) S) Q X := by
  show wO (if _ then _ else _) Q X
  rw [if_pos c]; exact q
theorem o_mod {i j : Int} (c : 0 < j) (q : Q (.int (i % j)) S) : wO (binD .Mod (.int i) (.int j) S) Q X := by
  show wO (if _ then _ else _) Q X
  rw [if_pos c]; exact q
theorem o_div {i j : Int} (c : 0 < j) (c2 : j < 9223372036854775808) (q : Q (.int (i / j)) S) : wO (binD .FloorDiv (.int i) (.int j) S) Q X := by
  show wO (if _ then _ else _) Q X
  rw [if_pos ⟨c, Nat.lt_of_le_of_lt (Nat.log2_lt (by omega) |>.mpr (by omega : j.natAbs < 2 ^ 63) |> Nat.le_of_lt) (by decide)⟩]; exact q
theorem o_pow {i j : Int} (c : 0 ≤ j ∧ j ≤ 1000000 ∧ i.natAbs < 18446744073709551616) (q : Q (.int (i ^ j.toNat)) S) : wO (binD .Pow (.int i) (.int j) S) Q X := by
  show wO (if _ then _ else _) Q X
  rw [if_pos c]; exact q
theorem c_lt {i j : Int} {Q : Bool → Prop} (q : Q (decide (i < j))) : ∃ r, cmpD .Lt S (.int i) (.int j) = some r ∧ Q r := ⟨_, rfl, q⟩
theorem c_le {i j : Int} {Q : Bool → Prop} (q : Q (decide (i ≤ j))) : ∃ r, cmpD .LtE S (.int i) (.int j) = some r ∧ Q r := ⟨_, rfl, q⟩
theorem c_gt {i j : Int} {Q : Bool → Prop} (q : Q (decide (j < i))) : ∃ r, cmpD .Gt S (.int i) (.int j) = some r ∧ Q r := ⟨_, rfl, q⟩
theorem c_ge {i j : Int} {Q : Bool → Prop} (q : Q (decide (j ≤ i))) : ∃ r, cmpD .GtE S (.int i) (.int j) = some r ∧ Q r := ⟨_, rfl, q⟩
theorem c_eqi {i j : Int} {Q : Bool → Prop} (q : Q (decide (i = j))) : ∃ r, cmpD .Eq S (.int i) (.int j) = some r ∧ Q r := ⟨_, rfl, q⟩
theorem c_nei {i j : Int} {Q : Bool → Prop} (q : Q (!decide (i = j))) : ∃ r, cmpD .NotEq S (.int i) (.int j) = some r ∧ Q r := ⟨_, rfl, q⟩
theorem c_eqs {i j : List Nat} {Q : Bool → Prop} (q : Q (decide (i = j))) : ∃ r, cmpD .Eq S (.str i) (.str j) = some r ∧ Q r := ⟨_, rfl, q⟩
theorem t_bl {b : Bool} {Q : Bool → Prop} (q : Q b) : ∃ r, truD S (.bl b) = some r ∧ Q r := ⟨_, rfl, q⟩
theorem neg_i {j : Int} {Q : Int → Prop} (q : Q j) : ∃ i, D.int j = .int i ∧ Q i := ⟨_, rfl, q⟩
theorem so_i {j : Int} {Q : Int → Prop} (q : Q j) : ∃ i, D.int j = .int i ∧ Q i := ⟨_, rfl, q⟩
theorem b_int {i : Int} (q : Q (.int i) S) : wO (biD "int" [.int i] S) Q X := q
theorem b_lenT {xs : List D} (q : Q (.int xs.length) S) : wO (biD "len" [.tup xs] S) Q X := q
theorem b_tupT {xs : List D} (q : Q (.tup xs) S) : wO (biD "tuple" [.tup xs] S) Q X := q
theorem b_lstT {xs : List D} (q : Q (.ref S.length) (S ++ [.lst xs])) : wO (biD "list" [.tup xs] S) Q X := q
theorem b_lenS {x : List Nat} (c : x.length ≤ sizeLine) (q : Q (.int x.length) S) : wO (biD "len" [.str x] S) Q X := by
  have e : biD "len" [.str x] S = if x.length ≤ sizeLine then some (Res.val (D.int x.length), S) else none := rfl
  rw [e, if_pos c]; exact q
theorem seq_r {n : Nat} {xs : List D} (h : S[n]? = some (.lst xs)) : seqL S (.ref n) = some xs := by
  show (match S[n]? with | some (.lst xs) => some xs | some (.fro xs) => some xs | _ => none) = _
  rw [h]
theorem seq_f {n : Nat} {xs : List D} (h : S[n]? = some (.fro xs)) : seqL S (.ref n) = some xs := by
  show (match S[n]? with | some (.lst xs) => some xs | some (.fro xs) => some xs | _ => none) = _
  rw [h]
theorem b_lenQ {n : Nat} {xs : List D} (h : seqL S (.ref n) = some xs) (q : Q (.int xs.length) S) : wO (biD "len" [.ref n] S) Q X := by
  show wO (match seqL S (.ref n) with | some xs => some (Res.val (D.int xs.length), S) | none => none) Q X
  rw [h]; exact q
theorem b_lenR {n : Nat} {xs : List D} (h : S[n]? = some (.lst xs)) (q : Q (.int xs.length) S) : wO (biD "len" [.ref n] S) Q X := b_lenQ (seq_r h) q
theorem b_listQ {d : D} {xs : List D} (h : seqL S d = some xs) (q : Q (.ref S.length) (S ++ [.lst xs])) : wO (biD "list" [d] S) Q X := by
  have e : biD "list" [d] S = match seqL S d with | some xs => some (Res.val (D.ref S.length), S ++ [.lst xs]) | none => none := by
    cases d <;> first | rfl | cases h
  rw [e, h]; exact q
theorem b_tupQ {n : Nat} {xs : List D} (h : seqL S (.ref n) = some xs) (q : Q (.tup xs) S) : wO (biD "tuple" [.ref n] S) Q X := by
  show wO (match seqL S (.ref n) with | some xs => some (Res.val (D.tup xs), S) | none => none) Q X
  rw [h]; exact q
theorem x_tup {xs : List D} {i : Int} {d : D} {Q : D → Prop} (e : atI xs i = some d) (q : Q d) : ∃ d, ixD (.tup xs) (.int i) S = some d ∧ Q d := ⟨d, e, q⟩
theorem x_str {xs : List Nat} {i : Int} {c : Nat} {Q : D → Prop} (l : xs.length ≤ sizeLine) (e : atI xs i = some c) (q : Q (.str [c])) : ∃ d, ixD (.str xs) (.int i) S = some d ∧ Q d := ⟨.str [c], by
  show (if _ then _ else _) = _
  rw [if_pos l, e]; rfl, q⟩
theorem x_seq {n : Nat} {xs : List D} {i : Int} {d : D} {Q : D → Prop} (h : seqL S (.ref n) = some xs) (e : atI xs i = some d) (q : Q d) : ∃ d, ixD (.ref n) (.int i) S = some d ∧ Q d := ⟨d, by
  show (match seqL S (.ref n) with | some xs => atI xs i | none => none) = _
  rw [h]; exact e, q⟩
theorem x_ref {n : Nat} {xs : List D} {i : Int} {d : D} {Q : D → Prop} (h : S[n]? = some (.lst xs)) (e : atI xs i = some d) (q : Q d) : ∃ d, ixD (.ref n) (.int i) S = some d ∧ Q d := x_seq (seq_r h) e q
theorem x_refi {n : Nat} {i : Int} {Q : D → Prop} (h : ∃ xs, S[n]? = some (.lst xs) ∧ ∃ d, atI xs i = some d ∧ Q d) : ∃ d, ixD (.ref n) (.int i) S = some d ∧ Q d := by
  obtain ⟨xs, h, d, e, q⟩ := h
  exact x_ref h e q
theorem b_lenRi {n : Nat} (h : ∃ xs, S[n]? = some (.lst xs) ∧ Q (.int xs.length) S) : wO (biD "len" [.ref n] S) Q X := by
  obtain ⟨xs, h, q⟩ := h
  exact b_lenR h q
theorem at_nat {α : Type} {xs : List α} {i : Int} {j : Nat} {d : α} (e : i = j) (h : xs[j]? = some d) : atI xs i = some d := by
  subst e
  have l : j < xs.length := (List.getElem?_eq_some_iff.mp h).1
  unfold atI ixN
  rw [if_pos (by omega), if_pos (by omega)]
  exact h
theorem at_in {α : Type} {xs : List α} {i : Int} (h0 : 0 ≤ i) (h1 : i < xs.length) : ∃ d, atI xs i = some d ∧ d ∈ xs := by
  refine ⟨xs[i.toNat]'(by omega), at_nat (j := i.toNat) (by omega) (List.getElem?_eq_getElem (by omega)), List.getElem_mem _⟩
theorem u_ref {n : Nat} {Q : Nat → Prop} (q : Q n) : ∃ m, D.ref n = .ref m ∧ Q m := ⟨_, rfl, q⟩
/-- one object has been written -/
def Upd (n : Nat) (S S' : Sto) : Prop := S'.length = S.length ∧ ∀ i, i ≠ n → S'[i]? = S[i]?
/-- old objects but one stand as they stood -/
def Keep (n : Nat) (S S' : Sto) : Prop := S.length ≤ S'.length ∧ ∀ i, i < S.length → i ≠ n → S'[i]? = S[i]?
theorem Upd.refl (n : Nat) (S : Sto) : Upd n S S := ⟨rfl, fun _ _ => rfl⟩
theorem Upd.trans {n : Nat} {S S1 S2 : Sto} (a : Upd n S S1) (b : Upd n S1 S2) : Upd n S S2 := ⟨b.1.trans a.1, fun i h => (b.2 i h).trans (a.2 i h)⟩
theorem Upd.keep {n : Nat} {S S1 : Sto} (a : Upd n S S1) : Keep n S S1 := ⟨Nat.le_of_eq a.1.symm, fun i _ h => a.2 i h⟩
theorem Keep.refl (n : Nat) (S : Sto) : Keep n S S := ⟨Nat.le_refl _, fun _ _ _ => rfl⟩
theorem Keep.trans {n : Nat} {S S1 S2 : Sto} (a : Keep n S S1) (b : Keep n S1 S2) : Keep n S S2 := ⟨Nat.le_trans a.1 b.1, fun i h h1 => (b.2 i (Nat.lt_of_lt_of_le h a.1) h1).trans (a.2 i h h1)⟩
theorem Keep.new {n : Nat} {S : Sto} (T : Sto) : Keep n S (S ++ T) := ⟨by simp, fun i h _ => List.getElem?_append_left h⟩
/-- a write to an object that is no old one -/
theorem Keep.upd {n f : Nat} {S S1 S2 : Sto} (a : Keep n S S1) (u : Upd f S1 S2) (hf : S.length ≤ f) : Keep n S S2 := ⟨by rw [u.1]; exact a.1, fun i h h1 => (u.2 i (by omega)).trans (a.2 i h h1)⟩
theorem Upd.of {n : Nat} (S : Sto) (o : O) : Upd n S (S.set n o) := ⟨List.length_set, fun i h => List.getElem?_set_ne (Ne.symm h)⟩
theorem u_set {n : Nat} {k : Int} {xs : List D} {j : Nat} {d : D} {Q : Lo → Sto → Prop} (h : S[n]? = some (.lst xs)) (e : ixN xs.length k = some j) (q : ∀ S', S'[n]? = some (.lst (xs.set j d)) → Upd n S S' → Q L S') :
    ∃ k' ys j', D.int k = .int k' ∧ S[n]? = some (.lst ys) ∧ ixN ys.length k' = some j' ∧ Q L (S.set n (.lst (ys.set j' d))) :=
  ⟨k, xs, j, rfl, h, e, q _ (by rw [List.getElem?_set_self (List.getElem?_eq_some_iff.mp h).1]) (Upd.of _ _)⟩
theorem small_i {j : Int} (a : -4611686018427387904 ≤ j) (b : j < 4611686018427387904) : small62 j = true := by
  unfold small62
  rw [decide_eq_true (show -(2 ^ 62) ≤ j by omega), decide_eq_true (show j < 2 ^ 62 by omega)]
  rfl
theorem rg2_small {i j : Int} (a : -4611686018427387904 ≤ i) (b : i < 4611686018427387904) (c : -4611686018427387904 ≤ j) (d : j < 4611686018427387904) : (small62 i && small62 j) = true := by rw [small_i a b, small_i c d]; rfl
theorem rg2_i {x y : Int} {Q : Int → Int → Prop} (c : (small62 x && small62 y) = true) (q : Q x y) : ∃ i j, D.int x = .int i ∧ D.int y = .int j ∧ (small62 i && small62 j) = true ∧ Q i j := ⟨x, y, rfl, rfl, c, q⟩
theorem sm_i {j : Int} {Q : Prop} (c : small62 j = true) (q : Q) : small62 j = true ∧ Q := ⟨c, q⟩
theorem m_app {n : Nat} {xs : List D} {d : D} (h : S[n]? = some (.lst xs)) (c : xs.length < sizeLine) (q : ∀ S', S'[n]? = some (.lst (xs ++ [d])) → Upd n S S' → Q .non S') : tyD S (.ref n) = some "list" ∧ wO (bmD "append" (.ref n) [d] S) Q X := by
  refine ⟨by show (match S[n]? with | some (.lst _) => some "list" | some (.fro _) => some "list" | some (.dct _) => some "dict" | _ => none) = _; rw [h], ?_⟩
  have e : bmD "append" (.ref n) [d] S = match S[n]? with
    | some (.lst xs) => if xs.length < sizeLine then some (Res.val D.non, S.set n (.lst (xs ++ [d]))) else none
    | _ => none := rfl
  rw [e]
  simp only [h]
  rw [if_pos c]
  exact q _ (by rw [List.getElem?_set_self (List.getElem?_eq_some_iff.mp h).1]) (Upd.of _ _)
end
/-! ### named ends -/
def dQ (Q : D → Sto → Prop) (X : Xk) : Fl → Lo → Sto → Prop := fun fl _ S1 => match fl with
  | .nx => Q .non S1
  | .rt d => Q d S1
  | .exc c fs => X c fs S1
  | _ => False
def lQ (R : Fl → Lo → Sto → Prop) (N : Lo → Sto → Prop) : Fl → Lo → Sto → Prop := fun fl L S => match fl with
  | .nx => N L S
  | .ct => N L S
  | .bk => R .nx L S
  | fl => R fl L S
theorem dQ_nx {Q : D → Sto → Prop} {X : Xk} {L : Lo} {S : Sto} (h : Q .non S) : dQ Q X .nx L S := h
theorem dQ_rt {Q : D → Sto → Prop} {X : Xk} {L : Lo} {S : Sto} {d : D} (h : Q d S) : dQ Q X (.rt d) L S := h
theorem lQ_nx {R : Fl → Lo → Sto → Prop} {N : Lo → Sto → Prop} {L : Lo} {S : Sto} (h : N L S) : lQ R N .nx L S := h
theorem lQ_ct {R : Fl → Lo → Sto → Prop} {N : Lo → Sto → Prop} {L : Lo} {S : Sto} (h : N L S) : lQ R N .ct L S := h
theorem lQ_bk {R : Fl → Lo → Sto → Prop} {N : Lo → Sto → Prop} {L : Lo} {S : Sto} (h : R .nx L S) : lQ R N .bk L S := h
theorem lQ_rt {R : Fl → Lo → Sto → Prop} {N : Lo → Sto → Prop} {L : Lo} {S : Sto} {d : D} (h : R (.rt d) L S) : lQ R N (.rt d) L S := h
theorem w_dfn {G : Pr} {k : Nat} {f : Str} {fn : Fn} {ds : List D} {S : Sto} {Q : D → Sto → Prop} {X : Xk} (hf : G.fns.lookup f = some fn) (hl : ds.length = fn.ps.length)
    (h : wS (exs (pmOf G k) fn.body (ds.map some ++ List.replicate (fn.N.length - ds.length) none) S) (dQ Q X)) : wO (callF G (k + 1) f ds S) Q X :=
  w_def hf hl (wS_imp h fun fl _ _ h => by cases fl <;> exact h)
theorem w_loop {P : Pm} {g : Tg} {b : Cs} {w : Wk} {L : Lo} {S : Sto} {R : Fl → Lo → Sto → Prop} (N : Nat) (I : Nat → Lo → Sto → Prop) (h0 : I 0 L S) (hd : ∀ L S, I N L S → w.at S N = some none ∧ R .nx L S) (st : ∀ i L S, i < N → I i L S → ∃ d, w.at S i = some (some d) ∧ wA (asg P g d L S) fun L1 S1 => wS (exs P b L1 S1) (lQ R (I (i + 1)))) : wS (loopF (frStep w (fun d L S => asg P g d L S) (fun L S => exs P b L S)) (0, L, S)) R :=
  w_for N I h0 hd fun i L S hi h => by
    obtain ⟨d, e, q⟩ := st i L S hi h
    refine ⟨d, e, ?_⟩
    cases z : asg P g d L S with
    | none => rw [z] at q; exact q.elim
    | some y => rw [z] at q; exact wS_imp q fun fl _ _ h => by cases fl <;> exact h
end Dy

namespace Dy
open PySem PySem.Spec PyProof.Rows L2
/-! ### what every law draws with -/
def drawA : Cs :=
  (.cons (.iff (.of (.cmp .GtE (.ix (.var 0) (.lit (.int 1))) (.bi "len" (.cons (.ix (.var 0) (.lit (.int 0))) .nil)))) (.cons (.ret (.lit (.int 0)))
  .nil) .nil)
  (.cons (.asg (.nm 2) (.ix (.ix (.var 0) (.lit (.int 0))) (.ix (.var 0) (.lit (.int 1)))))
  (.cons (.iff (.of (.cmp .Lt (.var 2) (.lit (.int 0)))) (.cons (.asg (.nm 2) (.bin .Sub (.neg (.lit (.int 1))) (.var 2)))
  .nil) .nil)
  (.cons (.asg (.sub (.var 0) (.lit (.int 1))) (.bin .Add (.ix (.var 0) (.lit (.int 1))) (.lit (.int 1))))
  (.cons (.asg (.sub (.var 0) (.lit (.int 2))) (.var 2))
  (.cons (.asg (.sub (.var 0) (.lit (.int 4))) (.cmp .GtE (.var 2) (.bin .Pow (.lit (.int 10)) (.lit (.int 18)))))
  (.cons (.asg (.sub (.var 0) (.lit (.int 3))) (.lit (.int 6)))
  (.cons (.iff (.of (.ix (.var 0) (.lit (.int 4)))) (.cons (.asg (.sub (.var 0) (.lit (.int 3))) (.lit (.int 60)))
  .nil) .nil)
  .nil))))))))
def drawB : Cs :=
  (.cons (.asg (.sub (.var 0) (.lit (.int 3))) (.bin .Sub (.ix (.var 0) (.lit (.int 3))) (.lit (.int 1))))
  (.cons (.iff (.of (.ix (.var 0) (.lit (.int 4)))) (.cons (.asg (.nm 3) (.bin .Mod (.bi "int" (.cons (.ix (.var 0) (.lit (.int 2))) .nil)) (.var 1)))
  (.cons (.asg (.sub (.var 0) (.lit (.int 2))) (.bin .FloorDiv (.ix (.var 0) (.lit (.int 2))) (.var 1)))
  (.cons (.iff (.of (.cmp .Eq (.ix (.var 0) (.lit (.int 2))) (.lit (.int 0)))) (.cons (.asg (.sub (.var 0) (.lit (.int 3))) (.lit (.int 0)))
  .nil) .nil)
  (.cons (.ret (.var 3))
  .nil)))) .nil)
  (.cons (.asg (.nm 4) (.bin .Mod (.bi "int" (.cons (.bin .Add (.bin .Add (.bin .Mult (.ix (.var 0) (.lit (.int 2))) (.lit (.int 48271))) (.bin .Mult (.ix (.var 0) (.lit (.int 3))) (.lit (.int 69621)))) (.lit (.int 7))) .nil)) (.lit (.int 2147483647))))
  (.cons (.asg (.nm 4) (.bin .Mod (.bi "int" (.cons (.bin .Add (.bin .Add (.bin .Mult (.var 4) (.var 4)) (.bin .Mult (.ix (.var 0) (.lit (.int 2))) (.lit (.int 31)))) (.ix (.var 0) (.lit (.int 3)))) .nil)) (.lit (.int 1000003))))
  (.cons (.ret (.bin .Mod (.bi "int" (.cons (.var 4) .nil)) (.var 1)))
  .nil)))))
def drawF : Fn := ⟨["_law_state_here", "_law_limit"], ["_law_state_here", "_law_limit", "_law_cell", "_law_digit", "_law_mixed"], [], .cons (.iff (.of (.cmp .Eq (.ix (.var 0) (.lit (.int 3))) (.lit (.int 0)))) drawA .nil) drawB⟩
def lstateF : Fn := ⟨["_law_script"], ["_law_script"], [], 
  (.cons (.ret (.lst (.cons (.bi "list" (.cons (.var 0) .nil)) (.cons (.lit (.int 0)) (.cons (.lit (.int 0)) (.cons (.lit (.int 0)) (.cons (.lit (.bl false)) (.cons (.lit (.int 500)) .nil))))))))
  .nil)⟩
def lwordsF : Fn := ⟨[], ["_law_words_here"], [], 
  (.cons (.asg (.nm 0) (.lst (.cons (.lit (.str [109, 101, 116, 104, 111, 100])) (.cons (.lit (.str [118, 97, 114])) (.cons (.lit (.str [101, 110, 100])) (.cons (.lit (.str [103, 105, 118, 101])) (.cons (.lit (.str [102, 97, 105, 108])) (.cons (.lit (.str [105, 102])) (.cons (.lit (.str [116, 104, 101, 110])) (.cons (.lit (.str [101, 108, 115, 101])) (.cons (.lit (.str [119, 104, 105, 108, 101])) (.cons (.lit (.str [100, 111])) (.cons (.lit (.str [116, 114, 121])) (.cons (.lit (.str [99, 97, 116, 99, 104])) (.cons (.lit (.str [107, 101, 101, 112])) .nil)))))))))))))))
  (.cons (.ret (.bin .Add (.var 0) (.lst (.cons (.lit (.str [97, 108, 119, 97, 121, 115])) (.cons (.lit (.str [110, 111, 110, 101])) (.cons (.lit (.str [116, 114, 117, 101])) (.cons (.lit (.str [102, 97, 108, 115, 101])) (.cons (.lit (.str [115, 101, 108, 102])) (.cons (.lit (.str [115, 117, 112, 101, 114])) (.cons (.lit (.str [110, 101, 119])) (.cons (.lit (.str [110, 111, 116])) (.cons (.lit (.str [97, 110, 100])) (.cons (.lit (.str [111, 114])) .nil)))))))))))))
  .nil))⟩
def lrunT : Cs := (.cons (.asg (.sub (.var 0) (.lit (.int 5))) (.bin .Sub (.ix (.var 0) (.lit (.int 5))) (.bi "len" (.cons (.var 4) .nil))))
  (.cons (.ret (.var 4))
  .nil))
def lrunF : Fn := ⟨["_law_state_here", "_law_first"], ["_law_state_here", "_law_first", "_law_other", "_law_number", "_law_run_here", "_law_tail"], [], 
  (.cons (.asg (.nm 2) (.lit (.str [97, 98, 99, 100, 101, 102, 103, 104, 105, 106, 107, 108, 109, 110, 111, 112, 113, 114, 115, 116, 117, 118, 119, 120, 121, 122, 65, 66, 67, 68, 69, 70, 71, 72, 73, 74, 75, 76, 77, 78, 79, 80, 81, 82, 83, 84, 85, 86, 87, 88, 89, 90, 48, 49, 50, 51, 52, 53, 54, 55, 56, 57])))
  (.cons (.asg (.nm 3) (.call "_law_draw" (.cons (.var 0) (.cons (.lit (.int 399776)) .nil))))
  (.cons (.asg (.nm 4) (.ix (.var 1) (.bin .Mod (.bi "int" (.cons (.bin .FloorDiv (.var 3) (.lit (.int 4))) .nil)) (.lit (.int 26)))))
  (.cons (.asg (.nm 5) (.bin .Add (.bin .Add (.ix (.var 2) (.bin .Mod (.bi "int" (.cons (.bin .FloorDiv (.var 3) (.lit (.int 104))) .nil)) (.lit (.int 62)))) (.ix (.var 2) (.bin .Mod (.bi "int" (.cons (.bin .FloorDiv (.var 3) (.lit (.int 6448))) .nil)) (.lit (.int 62))))) (.ix (.var 2) (.bin .Mod (.bi "int" (.cons (.var 3) .nil)) (.lit (.int 61))))))
  (.cons (.iff (.of (.cmp .Eq (.call "_law_draw" (.cons (.var 0) (.cons (.lit (.int 9)) .nil))) (.lit (.int 8)))) (.cons (.asg (.nm 4) (.sl (.bin .Add (.var 4) (.bin .Mult (.var 5) (.lit (.int 7)))) .no (.so (.bin .Add (.lit (.int 5)) (.call "_law_draw" (.cons (.var 0) (.cons (.lit (.int 16)) .nil)))))))
  .nil) (.cons (.asg (.nm 4) (.bin .Add (.var 4) (.sl (.var 5) .no (.so (.bin .Mod (.bi "int" (.cons (.var 3) .nil)) (.lit (.int 4)))))))
  .nil))
  lrunT)))))⟩
def lnameF : Fn := ⟨["_law_state_here"], ["_law_state_here", "_law_name_here"], [], 
  (.cons (.asg (.nm 1) (.call "_law_run" (.cons (.var 0) (.cons (.lit (.str [97, 98, 99, 100, 101, 102, 103, 104, 105, 106, 107, 108, 109, 110, 111, 112, 113, 114, 115, 116, 117, 118, 119, 120, 121, 122])) .nil))))
  (.cons (.iff (.of (.cmp .In (.var 1) (.call "_law_words" .nil))) (.cons (.ret (.bin .Add (.var 1) (.lit (.str [49]))))
  .nil) .nil)
  (.cons (.ret (.var 1))
  .nil)))⟩
def lsameF : Fn := ⟨["_law_one", "_law_two"], ["_law_one", "_law_two", "_law_k"], [], 
  (.cons (.iff (.bo .Or (.of (.isi (.var 0) ["tuple"])) (.of (.isi (.var 1) ["tuple"]))) (.cons (.iff (.bo .Or (.nt (.of (.isi (.var 0) ["tuple"]))) (.bo .Or (.nt (.of (.isi (.var 1) ["tuple"]))) (.of (.cmp .NotEq (.bi "len" (.cons (.var 0) .nil)) (.bi "len" (.cons (.var 1) .nil)))))) (.cons (.ret (.lit (.bl false)))
  .nil) .nil)
  (.cons (.ret (.cmp .Eq (.bi "len" (.cons (.lc (.var 2) (.nm 2) (.rng1 (.bi "len" (.cons (.var 0) .nil))) (.so (.nt (.of (.call "_law_same" (.cons (.ix (.var 0) (.var 2)) (.cons (.ix (.var 1) (.var 2)) .nil)))))) [2]) .nil)) (.lit (.int 0))))
  .nil)) .nil)
  (.cons (.iff (.bo .Or (.of (.cmp .Is (.var 0) (.lit .non))) (.of (.cmp .Is (.var 1) (.lit .non)))) (.cons (.ret (.bo .And (.cmp .Is (.var 0) (.lit .non)) (.cmp .Is (.var 1) (.lit .non))))
  .nil) .nil)
  (.cons (.iff (.bo .Or (.of (.isi (.var 0) ["bool"])) (.of (.isi (.var 1) ["bool"]))) (.cons (.ret (.bo .And (.isi (.var 0) ["bool"]) (.bo .And (.isi (.var 1) ["bool"]) (.cmp .Eq (.var 0) (.var 1)))))
  .nil) .nil)
  (.cons (.iff (.of (.isi (.var 0) ["int"])) (.cons (.ret (.bo .And (.isi (.var 1) ["int"]) (.cmp .Eq (.var 0) (.var 1))))
  .nil) .nil)
  (.cons (.ret (.bo .And (.isi (.var 0) ["str"]) (.bo .And (.isi (.var 1) ["str"]) (.cmp .Eq (.var 0) (.var 1)))))
  .nil)))))⟩
local macro_rules | `(tactic| walk_at "go") => `(tactic| repeat first
  | with_reducible refine w_scons ?_
  | with_reducible refine sN_nx ?_
  | with_reducible refine w_asg ?_
  | with_reducible refine w_nm ?_
  | with_reducible refine w_lit ?_
  | ((with_reducible refine w_vari ?_); (refine ⟨_, rfl, ?_⟩))
  | with_reducible refine w_bin ?_
  | with_reducible refine w_neg ?_
  | with_reducible refine w_cmp ?_
  | with_reducible refine w_chain ?_
  | with_reducible refine w_nt ?_
  | with_reducible refine w_and ?_
  | with_reducible refine w_or ?_
  | with_reducible refine w_ite ?_
  | with_reducible refine w_tup ?_
  | with_reducible refine w_lst ?_
  | with_reducible refine w_ix ?_
  | with_reducible refine w_sl ?_
  | with_reducible refine w_no ?_
  | with_reducible refine w_so ?_
  | with_reducible refine w_call ?_
  | with_reducible refine w_bi ?_
  | with_reducible refine w_bm ?_
  | with_reducible refine w_isi ?_
  | with_reducible refine w_nil ?_
  | with_reducible refine w_cons ?_
  | with_reducible refine w_of ?_
  | with_reducible refine w_tnt ?_
  | with_reducible refine w_tand ?_
  | with_reducible refine w_tor ?_
  | with_reducible refine w_yes ?_
  | with_reducible refine w_if1 ?_
  | with_reducible refine w_seq ?_
  | with_reducible refine w_rng1 ?_
  | with_reducible refine w_rng2 ?_
  | with_reducible refine w_enum ?_
  | with_reducible refine w_tp ?_
  | with_reducible refine w_tnil ?_
  | with_reducible refine w_tcons ?_
  | with_reducible refine w_sub ?_
  | with_reducible refine w_ex ?_
  | with_reducible refine w_ret ?_
  | with_reducible refine w_retn ?_
  | with_reducible refine w_pass ?_
  | with_reducible refine w_brk ?_
  | with_reducible refine w_cont ?_
  | with_reducible refine w_iff ?_
  | with_reducible refine w_snil ?_
  | with_reducible refine w_fr ?_
  | with_reducible refine sN_rt ?_
  | with_reducible refine sN_bk ?_
  | with_reducible refine sN_ct ?_
  | with_reducible refine sX_i ?_
  | with_reducible refine dQ_nx ?_
  | with_reducible refine dQ_rt ?_
  | with_reducible refine lQ_nx ?_
  | with_reducible refine lQ_ct ?_
  | with_reducible refine lQ_bk ?_
  | with_reducible refine lQ_rt ?_
  | with_reducible refine o_add ?_
  | with_reducible refine o_sub ?_
  | ((with_reducible refine o_mulL ?_ ?_); · omega)
  | ((with_reducible refine o_mulR ?_ ?_); · omega)
  | ((with_reducible refine o_mod ?_ ?_); · omega)
  | ((with_reducible refine o_div ?_ ?_ ?_); · omega
     · omega)
  | with_reducible refine c_lt ?_
  | with_reducible refine c_le ?_
  | with_reducible refine c_gt ?_
  | with_reducible refine c_ge ?_
  | with_reducible refine c_eqi ?_
  | with_reducible refine c_eqs ?_
  | with_reducible refine c_nei ?_
  | with_reducible refine t_bl ?_
  | with_reducible refine b_int ?_
  | with_reducible refine b_lenT ?_
  | with_reducible refine b_tupT ?_
  | with_reducible refine b_lstT ?_
  | ((with_reducible refine b_lenRi ?_); (refine ⟨_, by assumption, ?_⟩))
  | ((with_reducible refine x_refi ?_); (refine ⟨_, by assumption, ?_⟩); (refine ⟨_, rfl, ?_⟩))
  | (with_reducible refine u_ref ?_)
  | ((with_reducible refine sm_i ?_ ?_); · exact small_i (by omega) (by omega))
  | ((with_reducible refine rg2_i ?_ ?_); · exact rg2_small (by omega) (by omega) (by omega) (by omega))
  | with_reducible refine neg_i ?_
  )
/-- the drawing state: the list at n, whose source is the list at m -/
structure Dr (n m : Nat) (S : Sto) : Prop where
  ne : m ≠ n
  st : ∃ p cell left big room, S[n]? = some (.lst [.ref m, .int p, .int cell, .int left, .bl big, .int room]) ∧ 0 ≤ p
  src : ∃ xs : List Int, S[m]? = some (.lst (xs.map D.int))
theorem getE_lt {S : Sto} {n : Nat} {o : O} (h : S[n]? = some o) : n < S.length := (List.getElem?_eq_some_iff.mp h).1
theorem Dr.lt {n m : Nat} {S : Sto} (h : Dr n m S) : n < S.length ∧ m < S.length := by
  obtain ⟨_, ⟨_, _, _, _, _, h1, _⟩, ⟨_, h2⟩⟩ := h
  exact ⟨getE_lt h1, getE_lt h2⟩
theorem Dr.upd {n m f : Nat} {S S' : Sto} (h : Dr n m S) (u : Upd f S S') (h1 : n ≠ f) (h2 : m ≠ f) : Dr n m S' := by
  obtain ⟨ne, ⟨p, c, l, b, r, g, hp⟩, ⟨xs, gx⟩⟩ := h
  exact ⟨ne, ⟨p, c, l, b, r, by rw [u.2 n h1]; exact g, hp⟩, ⟨xs, by rw [u.2 m h2]; exact gx⟩⟩
theorem Dr.app {n m : Nat} {S : Sto} (h : Dr n m S) (T : Sto) : Dr n m (S ++ T) := by
  obtain ⟨ne, ⟨p, c, l, b, r, g, hp⟩, ⟨xs, gx⟩⟩ := h
  exact ⟨ne, ⟨p, c, l, b, r, by rw [List.getElem?_append_left (getE_lt g)]; exact g, hp⟩, ⟨xs, by rw [List.getElem?_append_left (getE_lt gx)]; exact gx⟩⟩
theorem drawB_w {P : Pm} {S : Sto} {n m : Nat} {p cell left room lim : Int} {big : Bool} {x y z : Option D} {Q : D → Sto → Prop} {X : Xk} (hS : S[n]? = some (.lst [.ref m, .int p, .int cell, .int left, .bl big, .int room])) (hl : 0 < lim) (hl2 : lim < 9223372036854775808)
    (q : ∀ v S' cell' left', 0 ≤ v → v < lim → Upd n S S' → S'[n]? = some (.lst [.ref m, .int p, .int cell', .int left', .bl big, .int room]) → Q (.int v) S') : wS (exs P drawB [some (.ref n), some (.int lim), x, y, z] S) (dQ Q X) := by
  unfold drawB
  walk_at "go"
  refine u_set (j := 3) hS rfl fun S1 h1 u1 => ?_
  dsimp only [List.set] at h1
  walk_at "go"
  refine ⟨fun hb => ?_, fun hb => ?_⟩
  · walk_at "go"
    refine u_set (j := 2) h1 rfl fun S2 h2 u2 => ?_
    dsimp only [List.set] at h2
    walk_at "go"
    refine ⟨fun hb => ?_, fun hb => ?_⟩
    · walk_at "go"
      refine u_set (j := 3) h2 rfl fun S3 h3 u3 => ?_
      dsimp only [List.set] at h3
      walk_at "go"
      exact q _ _ _ _ (Int.emod_nonneg _ (by omega)) (Int.emod_lt_of_pos _ hl) ((u1.trans u2).trans u3) h3
    · walk_at "go"
      exact q _ _ _ _ (Int.emod_nonneg _ (by omega)) (Int.emod_lt_of_pos _ hl) (u1.trans u2) h2
  · walk_at "go"
    have hm : 0 ≤ (cell * 48271 + (left - 1) * 69621 + 7) % 2147483647 ∧ (cell * 48271 + (left - 1) * 69621 + 7) % 2147483647 < 2147483647 := ⟨Int.emod_nonneg _ (by omega), Int.emod_lt_of_pos _ (by omega)⟩
    walk_at "go"
    exact q _ _ _ _ (Int.emod_nonneg _ (by omega)) (Int.emod_lt_of_pos _ hl) u1 h1
theorem draw_w {G : Pr} {k : Nat} {S : Sto} {n m : Nat} {lim : Int} {Q : D → Sto → Prop} {X : Xk} (hf : G.fns.lookup ("_law_draw" : Str) = some drawF) (h : Dr n m S) (hl : 0 < lim) (hl2 : lim < 9223372036854775808)
    (q : ∀ v S', 0 ≤ v → v < lim → Dr n m S' → Upd n S S' → Q (.int v) S') : wO (callF G (k + 1) ("_law_draw" : Str) [.ref n, .int lim] S) Q X := by
  obtain ⟨ne, ⟨p, c, l, b, r, g, hp⟩, ⟨xs, gx⟩⟩ := id h
  refine w_dfn hf rfl ?_
  show wS (exs (pmOf G k) (.cons (.iff (.of (.cmp .Eq (.ix (.var 0) (.lit (.int 3))) (.lit (.int 0)))) drawA .nil) drawB) [some (.ref n), some (.int lim), none, none, none] S) (dQ Q X)
  walk_at "go"
  refine ⟨fun hb => ?_, fun hb => ?_⟩
  · unfold drawA
    walk_at "go"
    refine ⟨fun hb => ?_, fun hb => ?_⟩
    · walk_at "go"
      exact q _ _ (by omega) hl h (Upd.refl _ _)
    · have hb : p < (xs.length : Int) := by simpa using hb
      walk_at "go"
      obtain ⟨d, e, hd⟩ := at_in (xs := xs.map D.int) hp (by simpa using hb)
      obtain ⟨i, -, rfl⟩ := List.mem_map.mp hd
      refine x_ref gx e ?_
      walk_at "go"
      refine ⟨fun hb => ?_, fun hb => ?_⟩ <;>
      · walk_at "go"
        refine u_set (j := 1) g rfl fun S1 h1 u1 => ?_
        dsimp only [List.set] at h1
        walk_at "go"
        refine u_set (j := 2) h1 rfl fun S2 h2 u2 => ?_
        dsimp only [List.set] at h2
        walk_at "go"
        refine o_pow (by decide) ?_
        walk_at "go"
        refine u_set (j := 4) h2 rfl fun S3 h3 u3 => ?_
        dsimp only [List.set] at h3
        walk_at "go"
        refine u_set (j := 3) h3 rfl fun S4 h4 u4 => ?_
        dsimp only [List.set] at h4
        walk_at "go"
        have u := ((u1.trans u2).trans u3).trans u4
        refine ⟨fun hb => ?_, fun hb => ?_⟩
        · walk_at "go"
          refine u_set (j := 3) h4 rfl fun S5 h5 u5 => ?_
          dsimp only [List.set] at h5
          walk_at "go"
          exact drawB_w h5 hl hl2 fun v S' c' l' v0 v1 u' g' => q v S' v0 v1 ⟨ne, ⟨_, _, _, _, _, g', by omega⟩, ⟨xs, by rw [((u.trans u5).trans u').2 m ne]; exact gx⟩⟩ ((u.trans u5).trans u')
        · walk_at "go"
          exact drawB_w h4 hl hl2 fun v S' c' l' v0 v1 u' g' => q v S' v0 v1 ⟨ne, ⟨_, _, _, _, _, g', by omega⟩, ⟨xs, by rw [(u.trans u').2 m ne]; exact gx⟩⟩ (u.trans u')
  · walk_at "go"
    exact drawB_w g hl hl2 fun v S' c' l' v0 v1 u' g' => q v S' v0 v1 ⟨ne, ⟨_, _, _, _, _, g', hp⟩, ⟨xs, by rw [u'.2 m ne]; exact gx⟩⟩ u'
end Dy

namespace Dy
open PySem PySem.Spec PyProof.Rows L2
local macro_rules | `(tactic| walk_at "go") => `(tactic| repeat first
  | with_reducible refine w_scons ?_
  | with_reducible refine sN_nx ?_
  | with_reducible refine w_asg ?_
  | with_reducible refine w_nm ?_
  | with_reducible refine w_lit ?_
  | ((with_reducible refine w_vari ?_); (refine ⟨_, rfl, ?_⟩))
  | with_reducible refine w_bin ?_
  | with_reducible refine w_neg ?_
  | with_reducible refine w_cmp ?_
  | with_reducible refine w_chain ?_
  | with_reducible refine w_nt ?_
  | with_reducible refine w_and ?_
  | with_reducible refine w_or ?_
  | with_reducible refine w_ite ?_
  | with_reducible refine w_tup ?_
  | with_reducible refine w_lst ?_
  | with_reducible refine w_ix ?_
  | with_reducible refine w_sl ?_
  | with_reducible refine w_no ?_
  | with_reducible refine w_so ?_
  | with_reducible refine w_call ?_
  | with_reducible refine w_bi ?_
  | with_reducible refine w_bm ?_
  | with_reducible refine w_isi ?_
  | with_reducible refine w_nil ?_
  | with_reducible refine w_cons ?_
  | with_reducible refine w_of ?_
  | with_reducible refine w_tnt ?_
  | with_reducible refine w_tand ?_
  | with_reducible refine w_tor ?_
  | with_reducible refine w_yes ?_
  | with_reducible refine w_if1 ?_
  | with_reducible refine w_seq ?_
  | with_reducible refine w_rng1 ?_
  | with_reducible refine w_rng2 ?_
  | with_reducible refine w_enum ?_
  | with_reducible refine w_tp ?_
  | with_reducible refine w_tnil ?_
  | with_reducible refine w_tcons ?_
  | with_reducible refine w_sub ?_
  | with_reducible refine w_ex ?_
  | with_reducible refine w_ret ?_
  | with_reducible refine w_retn ?_
  | with_reducible refine w_pass ?_
  | with_reducible refine w_brk ?_
  | with_reducible refine w_cont ?_
  | with_reducible refine w_iff ?_
  | with_reducible refine w_snil ?_
  | with_reducible refine w_fr ?_
  | with_reducible refine sN_rt ?_
  | with_reducible refine sN_bk ?_
  | with_reducible refine sN_ct ?_
  | with_reducible refine sX_i ?_
  | with_reducible refine dQ_nx ?_
  | with_reducible refine dQ_rt ?_
  | with_reducible refine lQ_nx ?_
  | with_reducible refine lQ_ct ?_
  | with_reducible refine lQ_bk ?_
  | with_reducible refine lQ_rt ?_
  | with_reducible refine o_add ?_
  | with_reducible refine o_sub ?_
  | ((with_reducible refine o_mulL ?_ ?_); · omega)
  | ((with_reducible refine o_mulR ?_ ?_); · omega)
  | ((with_reducible refine o_mod ?_ ?_); · omega)
  | ((with_reducible refine o_div ?_ ?_ ?_); · omega
     · omega)
  | with_reducible refine c_lt ?_
  | with_reducible refine c_le ?_
  | with_reducible refine c_gt ?_
  | with_reducible refine c_ge ?_
  | with_reducible refine c_eqi ?_
  | with_reducible refine c_eqs ?_
  | with_reducible refine c_nei ?_
  | with_reducible refine t_bl ?_
  | with_reducible refine b_int ?_
  | with_reducible refine b_lenT ?_
  | with_reducible refine b_tupT ?_
  | with_reducible refine b_lstT ?_
  | ((with_reducible refine b_lenRi ?_); (refine ⟨_, by assumption, ?_⟩))
  | ((with_reducible refine x_refi ?_); (refine ⟨_, by assumption, ?_⟩); (refine ⟨_, rfl, ?_⟩))
  | (with_reducible refine u_ref ?_)
  | ((with_reducible refine sm_i ?_ ?_); · exact small_i (by omega) (by omega))
  | ((with_reducible refine rg2_i ?_ ?_); · exact rg2_small (by omega) (by omega) (by omega) (by omega))
  | with_reducible refine neg_i ?_
  )
/-! ### texts, membership, equality -/
/-- a text without trouble: short, with plain signs -/
def NS (n : Nat) (x : List Nat) : Prop := x.length ≤ n ∧ ∀ c ∈ x, c < 256
theorem NS.mono {n m : Nat} {x : List Nat} (h : NS n x) (l : n ≤ m) : NS m x := ⟨Nat.le_trans h.1 l, h.2⟩
theorem NS.app {n m : Nat} {x y : List Nat} (h : NS n x) (g : NS m y) : NS (n + m) (x ++ y) := ⟨by rw [List.length_append]; exact Nat.add_le_add h.1 g.1, fun c hc => (List.mem_append.mp hc).elim (h.2 c) (g.2 c)⟩
theorem NS.cut {n : Nat} {x : List Nat} (h : NS n x) (lo hi : Option Int) : NS n (cutL x lo hi) :=
  ⟨Nat.le_trans (List.length_take_le' _ _) (Nat.le_trans (by rw [List.length_drop]; omega) h.1), fun c hc => h.2 c (List.mem_of_mem_drop (List.mem_of_mem_take hc))⟩
theorem NS.line {n : Nat} {x : List Nat} (h : NS n x) (l : n ≤ 10000) : x.length ≤ sizeLine := Nat.le_trans (Nat.le_trans h.1 l) (by decide)
theorem stO_eq {x y : List Nat} : (stO x == stO y) = decide (x = y) := by
  by_cases h : x = y
  · subst h; simp
  · rw [decide_eq_false h]
    exact beq_eq_false_iff_ne.mpr fun e => h (stO_inj.mp e)
theorem flats_str : ∀ ys : List (List Nat), flats (ys.map D.str) = some (ys.map fun y => V.str (stO y))
  | [] => rfl
  | y :: ys => by
    show (match flatD (.str y), flats (ys.map D.str) with | some v, some vs => some (v :: vs) | _, _ => none) = _
    rw [flats_str ys]; rfl
theorem inV_str (x : List Nat) : ∀ ys : List (List Nat), inV (.str (stO x)) (ys.map fun y => V.str (stO y)) = decide (x ∈ ys)
  | [] => by simp [inV]
  | y :: ys => by
    have e : inV (.str (stO x)) ((y :: ys).map fun y => V.str (stO y)) = ((stO y == stO x) || inV (.str (stO x)) (ys.map fun y => V.str (stO y))) := rfl
    rw [e, inV_str x ys, stO_eq]
    by_cases h : x = y
    · subst h; simp
    · have h' : ¬ y = x := fun e => h e.symm
      simp [h, h']
section
variable {S : Sto} {X : Xk} {Q : D → Sto → Prop}
theorem inT {x : List Nat} {ys : List (List Nat)} : inD S (.str x) (.tup (ys.map D.str)) = some (decide (x ∈ ys)) := by
  show (match flatD (.str x), flats (ys.map D.str) with | some v, some vs => some (inV v vs) | _, _ => none) = _
  rw [flats_str]
  exact congrArg some (inV_str x ys)
theorem inR {x : List Nat} {ys : List (List Nat)} {n : Nat} (h : S[n]? = some (.lst (ys.map D.str))) : inD S (.str x) (.ref n) = some (decide (x ∈ ys)) := by
  have e : inD S (.str x) (.ref n) = match S[n]? with
    | some (.lst ys) => match flatD (.str x), flats ys with
      | some v, some vs => some (inV v vs)
      | _, _ => none
    | some (.fro ys) => match flatD (.str x), flats ys with
      | some v, some vs => some (inV v vs)
      | _, _ => none
    | _ => none := rfl
  rw [e, h]
  simp only [flats_str]
  exact congrArg some (inV_str x ys)
theorem c_inT {x : List Nat} {ys : List (List Nat)} {Q : Bool → Prop} (q : Q (decide (x ∈ ys))) : ∃ r, cmpD .In S (.str x) (.tup (ys.map D.str)) = some r ∧ Q r := ⟨_, inT (S := S), q⟩
theorem c_inR {x : List Nat} {ys : List (List Nat)} {n : Nat} {Q : Bool → Prop} (h : S[n]? = some (.lst (ys.map D.str))) (q : Q (decide (x ∈ ys))) : ∃ r, cmpD .In S (.str x) (.ref n) = some r ∧ Q r := ⟨_, inR h, q⟩
theorem c_ninT {x : List Nat} {ys : List (List Nat)} {Q : Bool → Prop} (q : Q (!decide (x ∈ ys))) : ∃ r, cmpD .NotIn S (.str x) (.tup (ys.map D.str)) = some r ∧ Q r := ⟨_, by show (inD S _ _).map _ = _; rw [inT]; rfl, q⟩
theorem c_ninR {x : List Nat} {ys : List (List Nat)} {n : Nat} {Q : Bool → Prop} (h : S[n]? = some (.lst (ys.map D.str))) (q : Q (!decide (x ∈ ys))) : ∃ r, cmpD .NotIn S (.str x) (.ref n) = some r ∧ Q r := ⟨_, by show (inD S _ _).map _ = _; rw [inR h]; rfl, q⟩
theorem o_addR {n m : Nat} {a b : List D} (h : S[n]? = some (.lst a)) (h2 : S[m]? = some (.lst b)) (c : a.length + b.length ≤ sizeLine) (q : Q (.ref S.length) (S ++ [.lst (a ++ b)])) : wO (binD .Add (.ref n) (.ref m) S) Q X := by
  have e : binD .Add (.ref n) (.ref m) S = match S[n]?, S[m]? with
      | some (.lst a), some (.lst b) => if a.length + b.length ≤ sizeLine then some (.val (.ref S.length), S ++ [.lst (a ++ b)]) else none
      | _, _ => none := rfl
  rw [e, h, h2]
  simp only [if_pos c]
  exact q
theorem o_slS {z : List Nat} {lo hi : Option Int} (c : z.length ≤ sizeLine) (q : Q (.str (cutL z lo hi)) S) : wO (slD (.str z) lo hi S) Q X := by
  show wO (if _ then _ else _) Q X
  rw [if_pos c]; exact q
theorem get_new {o : O} : (S ++ [o])[S.length]? = some o := by simp
theorem get_old {T : Sto} {i : Nat} {o : O} (h : S[i]? = some o) : (S ++ T)[i]? = some o := by rw [List.getElem?_append_left (getE_lt h)]; exact h
end
theorem Keep.get {n i : Nat} {S S' : Sto} {o : O} (k : Keep n S S') (h : S[i]? = some o) (hi : i ≠ n) : S'[i]? = some o := by rw [k.2 i (getE_lt h) hi]; exact h
theorem Upd.get {n i : Nat} {S S' : Sto} {o : O} (k : Upd n S S') (h : S[i]? = some o) (hi : i ≠ n) : S'[i]? = some o := by rw [k.2 i hi]; exact h
theorem Dr.keep {n m b : Nat} {S S' : Sto} (h : Dr n m S) (k : Keep b S S') (h1 : n ≠ b) (h2 : m ≠ b) : Dr n m S' := by
  obtain ⟨ne, ⟨p, c, l, b, r, g, hp⟩, ⟨xs, gx⟩⟩ := h
  exact ⟨ne, ⟨p, c, l, b, r, k.get g h1, hp⟩, ⟨xs, k.get gx h2⟩⟩
/-- the data of a list of texts -/
def pStr (y : List Nat) : PyData := .str (stO y)
theorem pyDs_str (S : Sto) : ∀ (ys : List (List Nat)) (n : Nat), ys.length + 2 ≤ n → pyDs n S (ys.map D.str) = some (ys.map pStr)
  | [], n + 1, _ => rfl
  | y :: ys, n + 1, h => by
    have h2 : ys.length + 2 ≤ n := by simp at h; omega
    show (match pyD n S (.str y), pyDs n S (ys.map D.str) with | some p, some ps => some (p :: ps) | _, _ => none) = _
    rw [pyDs_str S ys n h2]
    cases n with
    | zero => omega
    | succ n => rfl
theorem strOk_NS {n : Nat} {x : List Nat} (h : NS n x) : PyData.strOk (stO x) = true := by
  have h2 := h.2
  simp only [PyData.strOk, stO, Array.all_eq_true', List.mem_toArray, decide_eq_true_eq]
  intro c hc
  have := h2 c hc
  omega
theorem lay_str {n : Nat} : ∀ {ys : List (List Nat)}, (∀ y ∈ ys, NS n y) → PyData.canLayAll0 (ys.map pStr) = true ∧ PyData.depthAll (ys.map pStr) = 0
  | [], _ => ⟨by simp [PyData.canLayAll0], by simp [PyData.depthAll]⟩
  | y :: ys, h => by
    obtain ⟨a, b⟩ := lay_str (ys := ys) fun z hz => h z (List.mem_cons_of_mem _ hz)
    exact ⟨by simp [PyData.canLayAll0, pStr, PyData.canLay0]; exact ⟨strOk_NS (h y List.mem_cons_self), a⟩, by simp [PyData.depthAll, pStr, PyData.depth]; exact b⟩
end Dy

namespace Dy
open PySem PySem.Spec PyProof.Rows L2
local macro_rules | `(tactic| walk_at "go") => `(tactic| repeat first
  | with_reducible refine w_scons ?_
  | with_reducible refine sN_nx ?_
  | with_reducible refine w_asg ?_
  | with_reducible refine w_nm ?_
  | with_reducible refine w_lit ?_
  | ((with_reducible refine w_vari ?_); (refine ⟨_, rfl, ?_⟩))
  | with_reducible refine w_bin ?_
  | with_reducible refine w_neg ?_
  | with_reducible refine w_cmp ?_
  | with_reducible refine w_chain ?_
  | with_reducible refine w_nt ?_
  | with_reducible refine w_and ?_
  | with_reducible refine w_or ?_
  | with_reducible refine w_ite ?_
  | with_reducible refine w_tup ?_
  | with_reducible refine w_lst ?_
  | with_reducible refine w_ix ?_
  | with_reducible refine w_sl ?_
  | with_reducible refine w_no ?_
  | with_reducible refine w_so ?_
  | with_reducible refine w_call ?_
  | with_reducible refine w_bi ?_
  | with_reducible refine w_bm ?_
  | with_reducible refine w_isi ?_
  | with_reducible refine w_nil ?_
  | with_reducible refine w_cons ?_
  | with_reducible refine w_of ?_
  | with_reducible refine w_tnt ?_
  | with_reducible refine w_tand ?_
  | with_reducible refine w_tor ?_
  | with_reducible refine w_yes ?_
  | with_reducible refine w_if1 ?_
  | with_reducible refine w_seq ?_
  | with_reducible refine w_rng1 ?_
  | with_reducible refine w_rng2 ?_
  | with_reducible refine w_enum ?_
  | with_reducible refine w_tp ?_
  | with_reducible refine w_tnil ?_
  | with_reducible refine w_tcons ?_
  | with_reducible refine w_sub ?_
  | with_reducible refine w_ex ?_
  | with_reducible refine w_ret ?_
  | with_reducible refine w_retn ?_
  | with_reducible refine w_pass ?_
  | with_reducible refine w_brk ?_
  | with_reducible refine w_cont ?_
  | with_reducible refine w_iff ?_
  | with_reducible refine w_snil ?_
  | with_reducible refine w_fr ?_
  | with_reducible refine sN_rt ?_
  | with_reducible refine sN_bk ?_
  | with_reducible refine sN_ct ?_
  | with_reducible refine sX_i ?_
  | with_reducible refine dQ_nx ?_
  | with_reducible refine dQ_rt ?_
  | with_reducible refine lQ_nx ?_
  | with_reducible refine lQ_ct ?_
  | with_reducible refine lQ_bk ?_
  | with_reducible refine lQ_rt ?_
  | with_reducible refine o_add ?_
  | with_reducible refine o_sub ?_
  | ((with_reducible refine o_mulL ?_ ?_); · omega)
  | ((with_reducible refine o_mulR ?_ ?_); · omega)
  | ((with_reducible refine o_mod ?_ ?_); · omega)
  | ((with_reducible refine o_div ?_ ?_ ?_); · omega
     · omega)
  | with_reducible refine c_lt ?_
  | with_reducible refine c_le ?_
  | with_reducible refine c_gt ?_
  | with_reducible refine c_ge ?_
  | with_reducible refine c_eqi ?_
  | with_reducible refine c_eqs ?_
  | with_reducible refine c_nei ?_
  | with_reducible refine t_bl ?_
  | with_reducible refine b_int ?_
  | with_reducible refine b_lenT ?_
  | with_reducible refine b_tupT ?_
  | with_reducible refine b_lstT ?_
  | ((with_reducible refine b_lenRi ?_); (refine ⟨_, by assumption, ?_⟩))
  | ((with_reducible refine x_refi ?_); (refine ⟨_, by assumption, ?_⟩); (refine ⟨_, rfl, ?_⟩))
  | (with_reducible refine u_ref ?_)
  | ((with_reducible refine sm_i ?_ ?_); · exact small_i (by omega) (by omega))
  | ((with_reducible refine rg2_i ?_ ?_); · exact rg2_small (by omega) (by omega) (by omega) (by omega))
  | with_reducible refine neg_i ?_
  )
theorem lstate_w {G : Pr} {k : Nat} {S : Sto} {d : D} {ns : List Int} {Q : D → Sto → Prop} {X : Xk} (hf : G.fns.lookup ("_law_state" : Str) = some lstateF) (hd : seqL S d = some (ns.map D.int))
    (q : ∀ S', Dr (S.length + 1) S.length S' → S'.length = S.length + 2 → Q (.ref (S.length + 1)) S') : wO (callF G (k + 1) ("_law_state" : Str) [d] S) Q X := by
  refine w_dfn hf rfl ?_
  show wS (exs (pmOf G k) lstateF.body [some d] S) (dQ Q X)
  unfold lstateF
  dsimp only
  walk_at "go"
  refine b_listQ hd ?_
  walk_at "go"
  refine ⟨by show 6 ≤ _; decide, ?_⟩
  walk_at "go"
  have e : (S ++ [O.lst (ns.map D.int)]).length = S.length + 1 := by simp
  rw [e]
  refine q _ ⟨by omega, ⟨0, 0, 0, false, 500, ?_, by omega⟩, ⟨ns, ?_⟩⟩ (by simp)
  · rw [← e]; exact get_new
  · exact get_old get_new
def keyWords : List (List Nat) := [[109, 101, 116, 104, 111, 100], [118, 97, 114], [101, 110, 100], [103, 105, 118, 101], [102, 97, 105, 108], [105, 102], [116, 104, 101, 110], [101, 108, 115, 101], [119, 104, 105, 108, 101], [100, 111], [116, 114, 121], [99, 97, 116, 99, 104], [107, 101, 101, 112], [97, 108, 119, 97, 121, 115], [110, 111, 110, 101], [116, 114, 117, 101], [102, 97, 108, 115, 101], [115, 101, 108, 102], [115, 117, 112, 101, 114], [110, 101, 119], [110, 111, 116], [97, 110, 100], [111, 114]]
theorem lwords_w {G : Pr} {k : Nat} {S : Sto} {Q : D → Sto → Prop} {X : Xk} (hf : G.fns.lookup ("_law_words" : Str) = some lwordsF)
    (q : ∀ r S', (∀ n, Keep n S S') → S'[r]? = some (.lst (keyWords.map D.str)) → Q (.ref r) S') : wO (callF G (k + 1) ("_law_words" : Str) [] S) Q X := by
  refine w_dfn hf rfl ?_
  show wS (exs (pmOf G k) lwordsF.body [none] S) (dQ Q X)
  unfold lwordsF
  dsimp only
  walk_at "go"
  refine ⟨by decide, ?_⟩
  walk_at "go"
  refine ⟨by decide, ?_⟩
  refine o_addR (get_old get_new) get_new (by decide) ?_
  walk_at "go"
  exact q _ _ (fun n => ((Keep.new _).trans (Keep.new _)).trans (Keep.new _)) get_new
theorem len_NS {n : Nat} {x : List Nat} (h : NS n x) : (x.length : Int) ≤ n := Int.ofNat_le.mpr h.1
theorem NS.pick {z : List Nat} (hz : ∀ c ∈ z, c < 256) {c : Nat} (h : c ∈ z) : NS 1 [c] := ⟨Nat.le_refl _, fun d hd => by rw [List.mem_singleton.mp hd]; exact hz c h⟩
theorem flat_len (n : Nat) (x : List Nat) : (List.replicate n x).flatten.length = n * x.length := by simp
theorem NS.rep {n : Nat} {x : List Nat} (h : NS n x) (k : Nat) : NS (k * n) (List.replicate k x).flatten := ⟨by rw [flat_len]; exact Nat.mul_le_mul_left _ h.1, fun c hc => by
  obtain ⟨l, h1, h2⟩ := List.mem_flatten.mp hc
  rw [(List.mem_replicate.mp h1).2] at h2
  exact h.2 c h2⟩
theorem NS.le {n m : Nat} {x : List Nat} (h : NS n x) (l : x.length ≤ m) : NS m x := ⟨l, h.2⟩
theorem cut_le {α : Type} (z : List α) (u : Int) (h0 : 0 ≤ u) (k : Nat) (hk : u ≤ k) : (cutL z none (some u)).length ≤ k := by
  obtain ⟨j, rfl⟩ := Int.eq_ofNat_of_zero_le h0
  unfold cutL
  have e : HT.sIx z.length z.length (some (j : Int)) = min j z.length := HT.sIx_nat _ _ _
  have e2 : HT.sIx z.length 0 none = 0 := rfl
  have h3 : j ≤ k := by omega
  refine Nat.le_trans (List.length_take_le _ _) ?_
  have e3 : HT.sIx z.length z.length (some (Int.ofNat j)) = min j z.length := e
  omega
theorem lrun_w {G : Pr} {k : Nat} {S : Sto} {n m : Nat} {first : List Nat} {Q : D → Sto → Prop} {X : Xk} (hd : G.fns.lookup ("_law_draw" : Str) = some drawF) (hf : G.fns.lookup ("_law_run" : Str) = some lrunF) (h : Dr n m S) (h26 : first.length = 26) (hz : ∀ c ∈ first, c < 256)
    (q : ∀ x S', NS 22 x → Dr n m S' → Upd n S S' → Q (.str x) S') : wO (callF G (k + 2) ("_law_run" : Str) [.ref n, .str first] S) Q X := by
  refine w_dfn hf rfl ?_
  show wS (exs (pmOf G (k + 1)) lrunF.body [some (.ref n), some (.str first), none, none, none, none] S) (dQ Q X)
  unfold lrunF
  dsimp only
  walk_at "go"
  refine draw_w hd h (by omega) (by omega) fun v S1 v0 v1 D1 U1 => ?_
  walk_at "go"
  obtain ⟨c1, e1, m1⟩ := at_in (xs := first) (i := v / 4 % 26) (by omega) (by omega)
  refine x_str (by rw [h26]; decide) e1 ?_
  walk_at "go"
  obtain ⟨c2, e2, m2⟩ := at_in (xs := [97, 98, 99, 100, 101, 102, 103, 104, 105, 106, 107, 108, 109, 110, 111, 112, 113, 114, 115, 116, 117, 118, 119, 120, 121, 122, 65, 66, 67, 68, 69, 70, 71, 72, 73, 74, 75, 76, 77, 78, 79, 80, 81, 82, 83, 84, 85, 86, 87, 88, 89, 90, 48, 49, 50, 51, 52, 53, 54, 55, 56, 57]) (i := v / 104 % 62) (by omega) (by show _ < ((62 : Nat) : Int); omega)
  refine x_str (by decide) e2 ?_
  walk_at "go"
  obtain ⟨c3, e3, m3⟩ := at_in (xs := [97, 98, 99, 100, 101, 102, 103, 104, 105, 106, 107, 108, 109, 110, 111, 112, 113, 114, 115, 116, 117, 118, 119, 120, 121, 122, 65, 66, 67, 68, 69, 70, 71, 72, 73, 74, 75, 76, 77, 78, 79, 80, 81, 82, 83, 84, 85, 86, 87, 88, 89, 90, 48, 49, 50, 51, 52, 53, 54, 55, 56, 57]) (i := v / 6448 % 62) (by omega) (by show _ < ((62 : Nat) : Int); omega)
  refine x_str (by decide) e3 ?_
  refine o_adds (by show 1 + 1 ≤ _; decide) ?_
  walk_at "go"
  obtain ⟨c4, e4, m4⟩ := at_in (xs := [97, 98, 99, 100, 101, 102, 103, 104, 105, 106, 107, 108, 109, 110, 111, 112, 113, 114, 115, 116, 117, 118, 119, 120, 121, 122, 65, 66, 67, 68, 69, 70, 71, 72, 73, 74, 75, 76, 77, 78, 79, 80, 81, 82, 83, 84, 85, 86, 87, 88, 89, 90, 48, 49, 50, 51, 52, 53, 54, 55, 56, 57]) (i := v % 61) (by omega) (by show _ < ((62 : Nat) : Int); omega)
  refine x_str (by decide) e4 ?_
  refine o_adds (by show 2 + 1 ≤ _; decide) ?_
  have hzz : ∀ c ∈ [97, 98, 99, 100, 101, 102, 103, 104, 105, 106, 107, 108, 109, 110, 111, 112, 113, 114, 115, 116, 117, 118, 119, 120, 121, 122, 65, 66, 67, 68, 69, 70, 71, 72, 73, 74, 75, 76, 77, 78, 79, 80, 81, 82, 83, 84, 85, 86, 87, 88, 89, 90, 48, 49, 50, 51, 52, 53, 54, 55, 56, 57], c < 256 := by decide
  have ht : NS 3 ([c2] ++ [c3] ++ [c4]) := ((NS.pick hzz m2).app (NS.pick hzz m3)).app (NS.pick hzz m4)
  have hr : NS 1 [c1] := NS.pick hz m1
  clear hzz e1 e2 e3 e4 m1 m2 m3 m4
  generalize ([c2] ++ [c3] ++ [c4]) = tl at ht ⊢
  generalize [c1] = rn at hr ⊢
  walk_at "go"
  refine draw_w hd D1 (by omega) (by omega) fun v2 S2 v20 v21 D2 U2 => ?_
  walk_at "go"
  have fin : ∀ (x : List Nat) S3, NS 22 x → Dr n m S3 → Upd n S S3 → wS (exs (pmOf G (k + 1)) lrunT (([some (.ref n), some (.str first), some (.str [97, 98, 99, 100, 101, 102, 103, 104, 105, 106, 107, 108, 109, 110, 111, 112, 113, 114, 115, 116, 117, 118, 119, 120, 121, 122, 65, 66, 67, 68, 69, 70, 71, 72, 73, 74, 75, 76, 77, 78, 79, 80, 81, 82, 83, 84, 85, 86, 87, 88, 89, 90, 48, 49, 50, 51, 52, 53, 54, 55, 56, 57]), some (.int v), some (.str x), some (.str tl)])) S3) (dQ Q X) := by
    intro x S3 hx D3 U3
    unfold lrunT
    walk_at "go"
    obtain ⟨ne, ⟨p, c, l, b, r, g, hp⟩, ⟨xs, gx⟩⟩ := D3
    walk_at "go"
    refine b_lenS (hx.line (by decide)) ?_
    walk_at "go"
    refine u_set (j := 5) g rfl fun S4 h4 u4 => ?_
    dsimp only [List.set] at h4
    walk_at "go"
    exact q x S4 hx ⟨ne, ⟨_, _, _, _, _, h4, hp⟩, ⟨xs, u4.get gx ne⟩⟩ (U3.trans u4)
  refine ⟨fun hb => ?_, fun hb => ?_⟩
  · walk_at "go"
    refine o_mulS ⟨by decide, by decide, by rw [show (7 : Int).toNat = 7 from rfl]; have := ht.1; exact Nat.le_trans (Nat.mul_le_mul_right 7 this) (by decide)⟩ ?_
    have h21 := ht.rep 7
    refine o_adds (Nat.le_trans (Nat.add_le_add hr.1 h21.1) (by decide)) ?_
    walk_at "go"
    refine draw_w hd D2 (by omega) (by omega) fun v3 S3 v30 v31 D3 U3 => ?_
    walk_at "go"
    refine o_slS (Nat.le_trans (by rw [List.length_append]; exact Nat.add_le_add hr.1 h21.1) (by decide)) ?_
    walk_at "go"
    exact fin _ S3 (((hr.app h21).cut _ _).le (cut_le _ _ (by omega) 22 (by omega))) D3 ((U1.trans U2).trans U3)
  · walk_at "go"
    refine o_slS (ht.line (by decide)) ?_
    walk_at "go"
    have hc := ht.cut none (some (v % 4))
    refine o_adds (Nat.le_trans (Nat.add_le_add hr.1 hc.1) (by decide)) ?_
    walk_at "go"
    exact fin _ S2 ((hr.app hc).mono (by decide)) D2 (U1.trans U2)
theorem lname_w {G : Pr} {k : Nat} {S : Sto} {n m : Nat} {Q : D → Sto → Prop} {X : Xk} (hd : G.fns.lookup ("_law_draw" : Str) = some drawF) (hr : G.fns.lookup ("_law_run" : Str) = some lrunF) (hw : G.fns.lookup ("_law_words" : Str) = some lwordsF) (hf : G.fns.lookup ("_law_name" : Str) = some lnameF) (h : Dr n m S)
    (q : ∀ x S', NS 24 x → Dr n m S' → Keep n S S' → Q (.str x) S') : wO (callF G (k + 3) ("_law_name" : Str) [.ref n] S) Q X := by
  refine w_dfn hf rfl ?_
  show wS (exs (pmOf G (k + 2)) lnameF.body [some (.ref n), none] S) (dQ Q X)
  unfold lnameF
  dsimp only
  walk_at "go"
  refine lrun_w hd hr h rfl (by decide) fun x S1 hx D1 U1 => ?_
  walk_at "go"
  refine lwords_w hw fun r S2 K2 g2 => ?_
  refine c_inR g2 ?_
  have D2 : Dr n m S2 := D1.keep (K2 (S1.length)) (by have := D1.lt; omega) (by have := D1.lt; omega)
  walk_at "go"
  refine ⟨fun hb => ?_, fun hb => ?_⟩
  · walk_at "go"
    refine o_adds (Nat.le_trans (Nat.add_le_add hx.1 (Nat.le_refl 1)) (by decide)) ?_
    walk_at "go"
    exact q _ S2 ((hx.app (m := 1) ⟨Nat.le_refl _, by decide⟩).mono (by decide)) D2 (U1.keep.trans (K2 n))
  · walk_at "go"
    exact q _ S2 (hx.mono (by decide)) D2 (U1.keep.trans (K2 n))
end Dy

namespace Dy
open PySem PySem.Spec PyProof.Rows L2
local macro_rules | `(tactic| walk_at "go") => `(tactic| repeat first
  | with_reducible refine w_scons ?_
  | with_reducible refine sN_nx ?_
  | with_reducible refine w_asg ?_
  | with_reducible refine w_nm ?_
  | with_reducible refine w_lit ?_
  | ((with_reducible refine w_vari ?_); (refine ⟨_, rfl, ?_⟩))
  | with_reducible refine w_bin ?_
  | with_reducible refine w_neg ?_
  | with_reducible refine w_cmp ?_
  | with_reducible refine w_chain ?_
  | with_reducible refine w_nt ?_
  | with_reducible refine w_and ?_
  | with_reducible refine w_or ?_
  | with_reducible refine w_ite ?_
  | with_reducible refine w_tup ?_
  | with_reducible refine w_lst ?_
  | with_reducible refine w_ix ?_
  | with_reducible refine w_sl ?_
  | with_reducible refine w_no ?_
  | with_reducible refine w_so ?_
  | with_reducible refine w_call ?_
  | with_reducible refine w_bi ?_
  | with_reducible refine w_bm ?_
  | with_reducible refine w_isi ?_
  | with_reducible refine w_nil ?_
  | with_reducible refine w_cons ?_
  | with_reducible refine w_of ?_
  | with_reducible refine w_tnt ?_
  | with_reducible refine w_tand ?_
  | with_reducible refine w_tor ?_
  | with_reducible refine w_yes ?_
  | with_reducible refine w_if1 ?_
  | with_reducible refine w_seq ?_
  | with_reducible refine w_rng1 ?_
  | with_reducible refine w_rng2 ?_
  | with_reducible refine w_enum ?_
  | with_reducible refine w_tp ?_
  | with_reducible refine w_tnil ?_
  | with_reducible refine w_tcons ?_
  | with_reducible refine w_sub ?_
  | with_reducible refine w_ex ?_
  | with_reducible refine w_ret ?_
  | with_reducible refine w_retn ?_
  | with_reducible refine w_pass ?_
  | with_reducible refine w_brk ?_
  | with_reducible refine w_cont ?_
  | with_reducible refine w_iff ?_
  | with_reducible refine w_snil ?_
  | with_reducible refine w_fr ?_
  | with_reducible refine sN_rt ?_
  | with_reducible refine sN_bk ?_
  | with_reducible refine sN_ct ?_
  | with_reducible refine sX_i ?_
  | with_reducible refine dQ_nx ?_
  | with_reducible refine dQ_rt ?_
  | with_reducible refine lQ_nx ?_
  | with_reducible refine lQ_ct ?_
  | with_reducible refine lQ_bk ?_
  | with_reducible refine lQ_rt ?_
  | with_reducible refine o_add ?_
  | with_reducible refine o_sub ?_
  | ((with_reducible refine o_mulL ?_ ?_); · omega)
  | ((with_reducible refine o_mulR ?_ ?_); · omega)
  | ((with_reducible refine o_mod ?_ ?_); · omega)
  | ((with_reducible refine o_div ?_ ?_ ?_); · omega
     · omega)
  | with_reducible refine c_lt ?_
  | with_reducible refine c_le ?_
  | with_reducible refine c_gt ?_
  | with_reducible refine c_ge ?_
  | with_reducible refine c_eqi ?_
  | with_reducible refine c_eqs ?_
  | with_reducible refine c_nei ?_
  | with_reducible refine t_bl ?_
  | with_reducible refine b_int ?_
  | with_reducible refine b_lenT ?_
  | with_reducible refine b_tupT ?_
  | with_reducible refine b_lstT ?_
  | ((with_reducible refine b_lenRi ?_); (refine ⟨_, by assumption, ?_⟩))
  | ((with_reducible refine x_refi ?_); (refine ⟨_, by assumption, ?_⟩); (refine ⟨_, rfl, ?_⟩))
  | (with_reducible refine u_ref ?_)
  | ((with_reducible refine sm_i ?_ ?_); · exact small_i (by omega) (by omega))
  | ((with_reducible refine rg2_i ?_ ?_); · exact rg2_small (by omega) (by omega) (by omega) (by omega))
  | with_reducible refine neg_i ?_
  )
/-! ### loops' turns -/
section
variable {S : Sto} {X : Xk} {Q : D → Sto → Prop}
theorem at_rg {lo : Int} {i n : Nat} (h : i < n) : Wk.at S i (.rg lo n) = some (some (.int (lo + i))) := by
  show some (if i < n then some _ else none) = _
  rw [if_pos h]
theorem at_rg_end {lo : Int} {n : Nat} : Wk.at S n (.rg lo n) = some none := by
  show some (if n < n then some _ else none) = _
  rw [if_neg (Nat.lt_irrefl n)]
theorem at_en {d x : D} {xs : List D} {i : Nat} (h : seqL S d = some xs) (e : xs[i]? = some x) : Wk.at S i (.en d) = some (some (.tup [.int i, x])) := by
  show (seqL S d).map _ = _
  rw [h]
  show some ((xs[i]?).map _) = _
  rw [e]; rfl
theorem at_en_end {d : D} {xs : List D} (h : seqL S d = some xs) : Wk.at S xs.length (.en d) = some none := by
  show (seqL S d).map _ = _
  rw [h]
  show some ((xs[xs.length]?).map _) = _
  rw [List.getElem?_eq_none (Nat.le_refl _)]; rfl
theorem enum_w {n : Nat} {xs : List D} {Q : Prop} (h : S[n]? = some (.lst xs)) (q : Q) : ∃ xs, seqL S (.ref n) = some xs ∧ Q := ⟨xs, seq_r h, q⟩
/-! ### tests of kind -/
theorem isi_i {d : D} {cs : List String} {r : Bool} {Q : Bool → Prop} (e : isD S d cs = some r) (q : Q r) : ∃ r, isD S d cs = some r ∧ Q r := ⟨r, e, q⟩
theorem isn_i {d : D} {r : Bool} {Q : Bool → Prop} (e : cmpD .Is S d .non = some r) (q : Q r) : ∃ r, cmpD .Is S d .non = some r ∧ Q r := ⟨r, e, q⟩
theorem tru_i {d : D} {r : Bool} {Q : Bool → Prop} (e : truD S d = some r) (q : Q r) : ∃ r, truD S d = some r ∧ Q r := ⟨r, e, q⟩
theorem strsOf_map : ∀ ys : List (List Nat), strsOf (ys.map D.str) = some ys
  | [] => rfl
  | y :: ys => by
    show (strsOf (ys.map D.str)).map _ = _
    rw [strsOf_map ys]; rfl
theorem posOf_mem {z : List Nat} : ∀ {ys : List (List Nat)}, z ∈ ys → ∃ j, posOf z ys = some j ∧ ys[j]? = some z
  | y :: ys, h => by
    by_cases e : y = z
    · exact ⟨0, by show (if y = z then _ else _) = _; rw [if_pos e], by subst e; rfl⟩
    · obtain ⟨j, h1, h2⟩ := posOf_mem (z := z) (ys := ys) ((List.mem_cons.mp h).resolve_left fun e2 => e e2.symm)
      exact ⟨j + 1, by show (if y = z then _ else _) = _; rw [if_neg e, h1]; rfl, by simpa using h2⟩
theorem m_index {z : List Nat} {ys : List (List Nat)} {j : Nat} (e : posOf z ys = some j) (q : Q (.int (j : Int)) S) : wO (bmD "index" (.tup (ys.map D.str)) [.str z] S) Q X := by
  have h : bmD "index" (.tup (ys.map D.str)) [.str z] S = match strsOf (ys.map D.str) with
      | some ys => (posOf z ys).map fun j => (.val (.int (j : Nat)), S)
      | none => none := rfl
  rw [h, strsOf_map]
  simp only [e]
  exact q
end
/-! ### the same, at itself -/
theorem same_int {G : Pr} {k : Nat} {S : Sto} {i : Int} {Q : D → Sto → Prop} {X : Xk} (hf : G.fns.lookup ("_law_same" : Str) = some lsameF) (q : Q (.bl true) S) : wO (callF G (k + 1) ("_law_same" : Str) [.int i, .int i] S) Q X := by
  refine w_dfn hf rfl ?_
  show wS (exs (pmOf G k) lsameF.body [some (.int i), some (.int i), none] S) (dQ Q X)
  unfold lsameF
  dsimp only
  walk_at "go"
  refine isi_i (r := false) rfl ?_
  walk_at "go"
  refine ⟨fun _ => ?_, fun h => (nomatch h)⟩
  walk_at "go"
  refine isi_i (r := false) rfl ?_
  walk_at "go"
  refine ⟨fun h => (nomatch h), fun _ => ?_⟩
  walk_at "go"
  refine isn_i (r := false) rfl ?_
  walk_at "go"
  refine ⟨fun _ => ?_, fun h => (nomatch h)⟩
  walk_at "go"
  refine isn_i (r := false) rfl ?_
  walk_at "go"
  refine ⟨fun h => (nomatch h), fun _ => ?_⟩
  walk_at "go"
  refine isi_i (r := false) rfl ?_
  walk_at "go"
  refine ⟨fun _ => ?_, fun h => (nomatch h)⟩
  walk_at "go"
  refine isi_i (r := false) rfl ?_
  walk_at "go"
  refine ⟨fun h => (nomatch h), fun _ => ?_⟩
  walk_at "go"
  refine isi_i (r := true) rfl ?_
  walk_at "go"
  refine ⟨fun _ => ?_, fun h => (nomatch h)⟩
  walk_at "go"
  refine isi_i (r := true) rfl ?_
  walk_at "go"
  refine ⟨fun _ => ?_, fun h => (nomatch h)⟩
  walk_at "go"
  rw [decide_eq_true (rfl : i = i)]
  exact q
theorem same_str {G : Pr} {k : Nat} {S : Sto} {x : List Nat} {Q : D → Sto → Prop} {X : Xk} (hf : G.fns.lookup ("_law_same" : Str) = some lsameF) (q : Q (.bl true) S) : wO (callF G (k + 1) ("_law_same" : Str) [.str x, .str x] S) Q X := by
  refine w_dfn hf rfl ?_
  show wS (exs (pmOf G k) lsameF.body [some (.str x), some (.str x), none] S) (dQ Q X)
  unfold lsameF
  dsimp only
  walk_at "go"
  refine isi_i (r := false) rfl ?_
  walk_at "go"
  refine ⟨fun _ => ?_, fun h => (nomatch h)⟩
  walk_at "go"
  refine isi_i (r := false) rfl ?_
  walk_at "go"
  refine ⟨fun h => (nomatch h), fun _ => ?_⟩
  walk_at "go"
  refine isn_i (r := false) rfl ?_
  walk_at "go"
  refine ⟨fun _ => ?_, fun h => (nomatch h)⟩
  walk_at "go"
  refine isn_i (r := false) rfl ?_
  walk_at "go"
  refine ⟨fun h => (nomatch h), fun _ => ?_⟩
  walk_at "go"
  refine isi_i (r := false) rfl ?_
  walk_at "go"
  refine ⟨fun _ => ?_, fun h => (nomatch h)⟩
  walk_at "go"
  refine isi_i (r := false) rfl ?_
  walk_at "go"
  refine ⟨fun h => (nomatch h), fun _ => ?_⟩
  walk_at "go"
  refine isi_i (r := false) rfl ?_
  walk_at "go"
  refine ⟨fun h => (nomatch h), fun _ => ?_⟩
  walk_at "go"
  refine isi_i (r := true) rfl ?_
  walk_at "go"
  refine ⟨fun _ => ?_, fun h => (nomatch h)⟩
  walk_at "go"
  refine isi_i (r := true) rfl ?_
  walk_at "go"
  refine ⟨fun _ => ?_, fun h => (nomatch h)⟩
  walk_at "go"
  rw [decide_eq_true (rfl : x = x)]
  exact q
/-- numbers and texts -/
inductive Fla : D → Prop where
  | int (i : Int) : Fla (.int i)
  | str (x : List Nat) : Fla (.str x)
theorem same_fla {G : Pr} {k : Nat} {S : Sto} {d : D} {Q : D → Sto → Prop} {X : Xk} (hf : G.fns.lookup ("_law_same" : Str) = some lsameF) (h : Fla d) (q : Q (.bl true) S) : wO (callF G (k + 1) ("_law_same" : Str) [d, d] S) Q X := by
  cases h with
  | int i => exact same_int hf q
  | str x => exact same_str hf q
theorem same_tup {G : Pr} {k : Nat} {S : Sto} {ds : List D} {Q : D → Sto → Prop} {X : Xk} (hf : G.fns.lookup ("_law_same" : Str) = some lsameF) (hl : ds.length ≤ 1000) (h : ∀ d ∈ ds, Fla d) (q : ∀ S', (∀ n, Keep n S S') → Q (.bl true) S') : wO (callF G (k + 2) ("_law_same" : Str) [.tup ds, .tup ds] S) Q X := by
  refine w_dfn hf rfl ?_
  show wS (exs (pmOf G (k + 1)) lsameF.body [some (.tup ds), some (.tup ds), none] S) (dQ Q X)
  unfold lsameF
  dsimp only
  walk_at "go"
  refine isi_i (r := true) rfl ?_
  walk_at "go"
  refine ⟨fun h => (nomatch h), fun _ => ?_⟩
  walk_at "go"
  refine ⟨fun _ => ?_, fun h => (nomatch h)⟩
  walk_at "go"
  refine isi_i (r := true) rfl ?_
  walk_at "go"
  refine ⟨fun _ => ?_, fun h => (nomatch h)⟩
  walk_at "go"
  refine isi_i (r := true) rfl ?_
  walk_at "go"
  refine ⟨fun _ => ?_, fun h => (nomatch h)⟩
  walk_at "go"
  refine ⟨fun h => absurd h (by rw [decide_eq_true (rfl : (ds.length : Int) = ds.length)]; exact Bool.noConfusion), fun _ => ?_⟩
  with_reducible refine w_snil ?_
  with_reducible refine sN_nx ?_
  with_reducible refine w_scons ?_
  with_reducible refine w_ret ?_
  with_reducible refine w_cmp ?_
  with_reducible refine w_bi ?_
  with_reducible refine w_cons ?_
  with_reducible refine w_lc ?_
  walk_at "go"
  refine ⟨ds.length, fun i S' => S'[S.length]? = some (.lst []) ∧ ∀ n, Keep n S S', ⟨get_new, fun n => Keep.new _⟩, fun S' ⟨g, K⟩ => ⟨?_, ?_⟩, fun i S' hi ⟨g, K⟩ => ⟨_, at_rg (by rw [Int.toNat_natCast]; exact hi), ?_⟩⟩
  · rw [Int.toNat_natCast]; exact at_rg_end
  · walk_at "go"
    exact q _ K
  · have e : wipeL [some (.tup ds), some (.tup ds), none] [2] = [some (.tup ds), some (.tup ds), none] := rfl
    rw [e]
    walk_at "go"
    refine x_tup (at_nat (j := i) (by omega) (List.getElem?_eq_getElem hi)) ?_
    walk_at "go"
    refine x_tup (at_nat (j := i) (by omega) (List.getElem?_eq_getElem hi)) ?_
    walk_at "go"
    refine same_fla hf (h _ (List.getElem_mem hi)) ?_
    walk_at "go"
    exact ⟨fun _ => ⟨g, K⟩, fun h => (nomatch h)⟩
end Dy

namespace Dy
open PySem PySem.Spec PyProof.Rows L2
local macro_rules | `(tactic| walk_at "go") => `(tactic| repeat first
  | with_reducible refine w_scons ?_
  | with_reducible refine sN_nx ?_
  | with_reducible refine w_asg ?_
  | with_reducible refine w_nm ?_
  | with_reducible refine w_lit ?_
  | ((with_reducible refine w_vari ?_); (refine ⟨_, rfl, ?_⟩))
  | with_reducible refine w_bin ?_
  | with_reducible refine w_neg ?_
  | with_reducible refine w_cmp ?_
  | with_reducible refine w_chain ?_
  | with_reducible refine w_nt ?_
  | with_reducible refine w_and ?_
  | with_reducible refine w_or ?_
  | with_reducible refine w_ite ?_
  | with_reducible refine w_tup ?_
  | with_reducible refine w_lst ?_
  | with_reducible refine w_ix ?_
  | with_reducible refine w_sl ?_
  | with_reducible refine w_no ?_
  | with_reducible refine w_so ?_
  | with_reducible refine w_call ?_
  | with_reducible refine w_bi ?_
  | with_reducible refine w_bm ?_
  | with_reducible refine w_isi ?_
  | with_reducible refine w_nil ?_
  | with_reducible refine w_cons ?_
  | with_reducible refine w_of ?_
  | with_reducible refine w_tnt ?_
  | with_reducible refine w_tand ?_
  | with_reducible refine w_tor ?_
  | with_reducible refine w_yes ?_
  | with_reducible refine w_if1 ?_
  | with_reducible refine w_seq ?_
  | with_reducible refine w_rng1 ?_
  | with_reducible refine w_rng2 ?_
  | with_reducible refine w_enum ?_
  | with_reducible refine w_tp ?_
  | with_reducible refine w_tnil ?_
  | with_reducible refine w_tcons ?_
  | with_reducible refine w_sub ?_
  | with_reducible refine w_ex ?_
  | with_reducible refine w_ret ?_
  | with_reducible refine w_retn ?_
  | with_reducible refine w_pass ?_
  | with_reducible refine w_brk ?_
  | with_reducible refine w_cont ?_
  | with_reducible refine w_iff ?_
  | with_reducible refine w_snil ?_
  | with_reducible refine w_fr ?_
  | with_reducible refine sN_rt ?_
  | with_reducible refine sN_bk ?_
  | with_reducible refine sN_ct ?_
  | with_reducible refine sX_i ?_
  | with_reducible refine dQ_nx ?_
  | with_reducible refine dQ_rt ?_
  | with_reducible refine lQ_nx ?_
  | with_reducible refine lQ_ct ?_
  | with_reducible refine lQ_bk ?_
  | with_reducible refine lQ_rt ?_
  | with_reducible refine o_add ?_
  | with_reducible refine o_sub ?_
  | ((with_reducible refine o_mulL ?_ ?_); · omega)
  | ((with_reducible refine o_mulR ?_ ?_); · omega)
  | ((with_reducible refine o_mod ?_ ?_); · omega)
  | ((with_reducible refine o_div ?_ ?_ ?_); · omega
     · omega)
  | with_reducible refine c_lt ?_
  | with_reducible refine c_le ?_
  | with_reducible refine c_gt ?_
  | with_reducible refine c_ge ?_
  | with_reducible refine c_eqi ?_
  | with_reducible refine c_eqs ?_
  | with_reducible refine c_nei ?_
  | with_reducible refine t_bl ?_
  | with_reducible refine b_int ?_
  | with_reducible refine b_lenT ?_
  | with_reducible refine b_tupT ?_
  | with_reducible refine b_lstT ?_
  | ((with_reducible refine b_lenRi ?_); (refine ⟨_, by assumption, ?_⟩))
  | ((with_reducible refine x_refi ?_); (refine ⟨_, by assumption, ?_⟩); (refine ⟨_, rfl, ?_⟩))
  | (with_reducible refine u_ref ?_)
  | ((with_reducible refine sm_i ?_ ?_); · exact small_i (by omega) (by omega))
  | ((with_reducible refine rg2_i ?_ ?_); · exact rg2_small (by omega) (by omega) (by omega) (by omega))
  | with_reducible refine neg_i ?_
  )
section
variable {S : Sto} {X : Xk} {Q : D → Sto → Prop}
theorem is_non_tuple {Q : Bool → Prop} (q : Q false) : ∃ r, isD S .non ["tuple"] = some r ∧ Q r := ⟨_, rfl, q⟩
theorem is_non_bool {Q : Bool → Prop} (q : Q false) : ∃ r, isD S .non ["bool"] = some r ∧ Q r := ⟨_, rfl, q⟩
theorem is_non_int {Q : Bool → Prop} (q : Q false) : ∃ r, isD S .non ["int"] = some r ∧ Q r := ⟨_, rfl, q⟩
theorem is_non_str {Q : Bool → Prop} (q : Q false) : ∃ r, isD S .non ["str"] = some r ∧ Q r := ⟨_, rfl, q⟩
theorem is_non_list {Q : Bool → Prop} (q : Q false) : ∃ r, isD S .non ["list"] = some r ∧ Q r := ⟨_, rfl, q⟩
theorem isn_non {Q : Bool → Prop} (q : Q true) : ∃ r, cmpD .Is S .non .non = some r ∧ Q r := ⟨_, rfl, q⟩
theorem isnn_non {Q : Bool → Prop} (q : Q false) : ∃ r, cmpD .IsNot S .non .non = some r ∧ Q r := ⟨_, rfl, q⟩
theorem is_bl_tuple {b : Bool} {Q : Bool → Prop} (q : Q false) : ∃ r, isD S (.bl b) ["tuple"] = some r ∧ Q r := ⟨_, rfl, q⟩
theorem is_bl_bool {b : Bool} {Q : Bool → Prop} (q : Q true) : ∃ r, isD S (.bl b) ["bool"] = some r ∧ Q r := ⟨_, rfl, q⟩
theorem is_bl_int {b : Bool} {Q : Bool → Prop} (q : Q true) : ∃ r, isD S (.bl b) ["int"] = some r ∧ Q r := ⟨_, rfl, q⟩
theorem is_bl_str {b : Bool} {Q : Bool → Prop} (q : Q false) : ∃ r, isD S (.bl b) ["str"] = some r ∧ Q r := ⟨_, rfl, q⟩
theorem is_bl_list {b : Bool} {Q : Bool → Prop} (q : Q false) : ∃ r, isD S (.bl b) ["list"] = some r ∧ Q r := ⟨_, rfl, q⟩
theorem isn_bl {b : Bool} {Q : Bool → Prop} (q : Q false) : ∃ r, cmpD .Is S (.bl b) .non = some r ∧ Q r := ⟨_, rfl, q⟩
theorem isnn_bl {b : Bool} {Q : Bool → Prop} (q : Q true) : ∃ r, cmpD .IsNot S (.bl b) .non = some r ∧ Q r := ⟨_, rfl, q⟩
theorem is_int_tuple {i : Int} {Q : Bool → Prop} (q : Q false) : ∃ r, isD S (.int i) ["tuple"] = some r ∧ Q r := ⟨_, rfl, q⟩
theorem is_int_bool {i : Int} {Q : Bool → Prop} (q : Q false) : ∃ r, isD S (.int i) ["bool"] = some r ∧ Q r := ⟨_, rfl, q⟩
theorem is_int_int {i : Int} {Q : Bool → Prop} (q : Q true) : ∃ r, isD S (.int i) ["int"] = some r ∧ Q r := ⟨_, rfl, q⟩
theorem is_int_str {i : Int} {Q : Bool → Prop} (q : Q false) : ∃ r, isD S (.int i) ["str"] = some r ∧ Q r := ⟨_, rfl, q⟩
theorem is_int_list {i : Int} {Q : Bool → Prop} (q : Q false) : ∃ r, isD S (.int i) ["list"] = some r ∧ Q r := ⟨_, rfl, q⟩
theorem isn_int {i : Int} {Q : Bool → Prop} (q : Q false) : ∃ r, cmpD .Is S (.int i) .non = some r ∧ Q r := ⟨_, rfl, q⟩
theorem isnn_int {i : Int} {Q : Bool → Prop} (q : Q true) : ∃ r, cmpD .IsNot S (.int i) .non = some r ∧ Q r := ⟨_, rfl, q⟩
theorem is_str_tuple {x : List Nat} {Q : Bool → Prop} (q : Q false) : ∃ r, isD S (.str x) ["tuple"] = some r ∧ Q r := ⟨_, rfl, q⟩
theorem is_str_bool {x : List Nat} {Q : Bool → Prop} (q : Q false) : ∃ r, isD S (.str x) ["bool"] = some r ∧ Q r := ⟨_, rfl, q⟩
theorem is_str_int {x : List Nat} {Q : Bool → Prop} (q : Q false) : ∃ r, isD S (.str x) ["int"] = some r ∧ Q r := ⟨_, rfl, q⟩
theorem is_str_str {x : List Nat} {Q : Bool → Prop} (q : Q true) : ∃ r, isD S (.str x) ["str"] = some r ∧ Q r := ⟨_, rfl, q⟩
theorem is_str_list {x : List Nat} {Q : Bool → Prop} (q : Q false) : ∃ r, isD S (.str x) ["list"] = some r ∧ Q r := ⟨_, rfl, q⟩
theorem isn_str {x : List Nat} {Q : Bool → Prop} (q : Q false) : ∃ r, cmpD .Is S (.str x) .non = some r ∧ Q r := ⟨_, rfl, q⟩
theorem isnn_str {x : List Nat} {Q : Bool → Prop} (q : Q true) : ∃ r, cmpD .IsNot S (.str x) .non = some r ∧ Q r := ⟨_, rfl, q⟩
theorem is_tup_tuple {ds : List D} {Q : Bool → Prop} (q : Q true) : ∃ r, isD S (.tup ds) ["tuple"] = some r ∧ Q r := ⟨_, rfl, q⟩
theorem is_tup_bool {ds : List D} {Q : Bool → Prop} (q : Q false) : ∃ r, isD S (.tup ds) ["bool"] = some r ∧ Q r := ⟨_, rfl, q⟩
theorem is_tup_int {ds : List D} {Q : Bool → Prop} (q : Q false) : ∃ r, isD S (.tup ds) ["int"] = some r ∧ Q r := ⟨_, rfl, q⟩
theorem is_tup_str {ds : List D} {Q : Bool → Prop} (q : Q false) : ∃ r, isD S (.tup ds) ["str"] = some r ∧ Q r := ⟨_, rfl, q⟩
theorem is_tup_list {ds : List D} {Q : Bool → Prop} (q : Q false) : ∃ r, isD S (.tup ds) ["list"] = some r ∧ Q r := ⟨_, rfl, q⟩
theorem isn_tup {ds : List D} {Q : Bool → Prop} (q : Q false) : ∃ r, cmpD .Is S (.tup ds) .non = some r ∧ Q r := ⟨_, rfl, q⟩
theorem isnn_tup {ds : List D} {Q : Bool → Prop} (q : Q true) : ∃ r, cmpD .IsNot S (.tup ds) .non = some r ∧ Q r := ⟨_, rfl, q⟩
theorem is_kl_tuple {ds : List D} {Q : Bool → Prop} (q : Q false) : ∃ r, isD S (.kl ds) ["tuple"] = some r ∧ Q r := ⟨_, rfl, q⟩
theorem is_kl_bool {ds : List D} {Q : Bool → Prop} (q : Q false) : ∃ r, isD S (.kl ds) ["bool"] = some r ∧ Q r := ⟨_, rfl, q⟩
theorem is_kl_int {ds : List D} {Q : Bool → Prop} (q : Q false) : ∃ r, isD S (.kl ds) ["int"] = some r ∧ Q r := ⟨_, rfl, q⟩
theorem is_kl_str {ds : List D} {Q : Bool → Prop} (q : Q false) : ∃ r, isD S (.kl ds) ["str"] = some r ∧ Q r := ⟨_, rfl, q⟩
theorem is_kl_list {ds : List D} {Q : Bool → Prop} (q : Q true) : ∃ r, isD S (.kl ds) ["list"] = some r ∧ Q r := ⟨_, rfl, q⟩
theorem isn_kl {ds : List D} {Q : Bool → Prop} (q : Q false) : ∃ r, cmpD .Is S (.kl ds) .non = some r ∧ Q r := ⟨_, rfl, q⟩
theorem isnn_kl {ds : List D} {Q : Bool → Prop} (q : Q true) : ∃ r, cmpD .IsNot S (.kl ds) .non = some r ∧ Q r := ⟨_, rfl, q⟩
theorem spA0 {A B : Prop} (h : A) : (true = true → A) ∧ (true = false → B) := ⟨fun e => h, fun e => (nomatch e)⟩
theorem spB0 {A B : Prop} (h : B) : (true = false → A) ∧ (true = true → B) := ⟨fun e => (nomatch e), fun e => h⟩
theorem spA1 {A B : Prop} (h : B) : (false = true → A) ∧ (false = false → B) := ⟨fun e => (nomatch e), fun e => h⟩
theorem spB1 {A B : Prop} (h : A) : (false = false → A) ∧ (false = true → B) := ⟨fun e => h, fun e => (nomatch e)⟩
theorem spA2 {A B : Prop} (h : B) : ((!true) = true → A) ∧ ((!true) = false → B) := ⟨fun e => (nomatch e), fun e => h⟩
theorem spB2 {A B : Prop} (h : A) : ((!true) = false → A) ∧ ((!true) = true → B) := ⟨fun e => h, fun e => (nomatch e)⟩
theorem spA3 {A B : Prop} (h : A) : ((!false) = true → A) ∧ ((!false) = false → B) := ⟨fun e => h, fun e => (nomatch e)⟩
theorem spB3 {A B : Prop} (h : B) : ((!false) = false → A) ∧ ((!false) = true → B) := ⟨fun e => (nomatch e), fun e => h⟩
theorem c_eqb {i j : Bool} {Q : Bool → Prop} (q : Q (decide (i = j))) : ∃ r, cmpD .Eq S (.bl i) (.bl j) = some r ∧ Q r := ⟨_, rfl, q⟩
theorem c_neb {i j : Bool} {Q : Bool → Prop} (q : Q (!decide (i = j))) : ∃ r, cmpD .NotEq S (.bl i) (.bl j) = some r ∧ Q r := ⟨_, rfl, q⟩
theorem c_nes {i j : List Nat} {Q : Bool → Prop} (q : Q (!decide (i = j))) : ∃ r, cmpD .NotEq S (.str i) (.str j) = some r ∧ Q r := ⟨_, rfl, q⟩
theorem c_lts {i j : List Nat} {Q : Bool → Prop} (q : Q (ltL i j)) : ∃ r, cmpD .Lt S (.str i) (.str j) = some r ∧ Q r := ⟨_, rfl, q⟩
theorem c_les {i j : List Nat} {Q : Bool → Prop} (q : Q (!ltL j i)) : ∃ r, cmpD .LtE S (.str i) (.str j) = some r ∧ Q r := ⟨_, rfl, q⟩
theorem o_divN {i j : Int} (c : j < 0) (c2 : -1073741824 < j) (q : Q (.int (i.fdiv j)) S) : wO (binD .FloorDiv (.int i) (.int j) S) Q X := by
  show wO (if _ then _ else _) Q X
  rw [if_neg (by omega), if_pos (by omega)]; exact q
theorem b_abs {i : Int} (q : Q (.int (if i < 0 then -i else i)) S) : wO (biD "abs" [.int i] S) Q X := q
theorem seq_cases {d : D} {xs : List D} (h : seqL S d = some xs) : (∃ n, d = .ref n) ∨ ∃ ys, d = .kl ys := by
  cases d with
  | ref n => exact .inl ⟨n, rfl⟩
  | kl ys => exact .inr ⟨ys, rfl⟩
  | _ => cases h
theorem b_lenD {d : D} {xs : List D} (h : seqL S d = some xs) (q : Q (.int xs.length) S) : wO (biD "len" [d] S) Q X := by
  have e : biD "len" [d] S = match seqL S d with | some xs => some (Res.val (D.int xs.length), S) | none => none := by
    rcases seq_cases h with ⟨n, rfl⟩ | ⟨ys, rfl⟩ <;> rfl
  rw [e, h]; exact q
theorem x_seqD {d : D} {xs : List D} {i : Int} {e : D} {Q : D → Prop} (h : seqL S d = some xs) (hi : atI xs i = some e) (q : Q e) : ∃ r, ixD d (.int i) S = some r ∧ Q r := ⟨e, by
  have z : ixD d (.int i) S = match seqL S d with | some xs => atI xs i | none => none := by
    rcases seq_cases h with ⟨n, rfl⟩ | ⟨ys, rfl⟩ <;> rfl
  rw [z, h]; exact hi, q⟩
theorem b_allR {n : Nat} {bs : List Bool} (h : S[n]? = some (.lst (bs.map D.bl))) (q : Q (.bl (bs.all id)) S) : wO (biD "all" [.ref n] S) Q X := by
  have e : biD "all" [.ref n] S = match seqL S (.ref n) with
      | some xs => (blsOf xs).map fun bs => (.val (.bl (bs.all id)), S)
      | none => none := rfl
  have z : ∀ bs : List Bool, blsOf (bs.map D.bl) = some bs := fun bs => by
    induction bs with
    | nil => rfl
    | cons b bs ih =>
      show (blsOf (bs.map D.bl)).map _ = _
      rw [ih]; rfl
  rw [e, seq_r h]
  simp only [z]
  exact q
theorem b_anyR {n : Nat} {bs : List Bool} (h : S[n]? = some (.lst (bs.map D.bl))) (q : Q (.bl (bs.any id)) S) : wO (biD "any" [.ref n] S) Q X := by
  have e : biD "any" [.ref n] S = match seqL S (.ref n) with
      | some xs => (blsOf xs).map fun bs => (.val (.bl (bs.any id)), S)
      | none => none := rfl
  have z : ∀ bs : List Bool, blsOf (bs.map D.bl) = some bs := fun bs => by
    induction bs with
    | nil => rfl
    | cons b bs ih =>
      show (blsOf (bs.map D.bl)).map _ = _
      rw [ih]; rfl
  rw [e, seq_r h]
  simp only [z]
  exact q
theorem kspT {c : Bool} {A B : Prop} (hc : c = true) (h : A) : (c = true → A) ∧ (c = false → B) := ⟨fun _ => h, fun e => (by rw [hc] at e; exact nomatch e)⟩
theorem kspF {c : Bool} {A B : Prop} (hc : c = false) (h : B) : (c = true → A) ∧ (c = false → B) := ⟨fun e => (by rw [hc] at e; exact nomatch e), fun _ => h⟩
theorem kspT2 {c : Bool} {A B : Prop} (hc : c = true) (h : B) : (c = false → A) ∧ (c = true → B) := ⟨fun e => (by rw [hc] at e; exact nomatch e), fun _ => h⟩
theorem kspF2 {c : Bool} {A B : Prop} (hc : c = false) (h : A) : (c = false → A) ∧ (c = true → B) := ⟨fun _ => h, fun e => (by rw [hc] at e; exact nomatch e)⟩
end
end Dy

namespace Dy
open PySem PySem.Spec PyProof.Rows L2
/-! ### one turn of a loop; ends by an exception -/
section
variable {P : Pm} {L : Lo} {S : Sto} {X : Xk} {R : Fl → Lo → Sto → Prop} {c : Str} {fs : List (Str × D)}
theorem w_whl1 {t : T} {b : Cs} (h : wO (tst P t L S) (fun c S1 => (c = true → wS (exs P b L S1) (lQ R fun L2 S2 => wS (ex P (.whl t b) L2 S2) R)) ∧ (c = false → R .nx L S1)) (sX R L)) : wS (ex P (.whl t b) L S) R := by
  show wS (loopF (whStep (fun L S => tst P t L S) (fun L S => exs P b L S)) (L, S)) R
  rw [loopF_eq]
  unfold whStep
  dsimp only
  cases q : tst P t L S with
  | none => rw [q] at h; exact h.elim
  | some z =>
    obtain ⟨r, S1⟩ := z
    rw [q] at h
    cases r with
    | exc c fs => exact h
    | val c => cases c with
      | false => exact h.2 rfl
      | true =>
        have h2 := h.1 rfl
        dsimp only
        cases q2 : exs P b L S1 with
        | none => rw [q2] at h2; exact h2.elim
        | some z2 =>
          obtain ⟨fl, L2, S2⟩ := z2
          rw [q2] at h2
          cases fl <;> exact h2
theorem w_for1 {g : Tg} {b : Cs} {w : Wk} {i : Nat} (h : (w.at S i = some none ∧ R .nx L S) ∨ ∃ d, w.at S i = some (some d) ∧ wA (asg P g d L S) fun L1 S1 => wS (exs P b L1 S1) (lQ R fun L2 S2 => wS (loopF (frStep w (fun d L S => asg P g d L S) (fun L S => exs P b L S)) (i + 1, L2, S2)) R)) :
    wS (loopF (frStep w (fun d L S => asg P g d L S) (fun L S => exs P b L S)) (i, L, S)) R := by
  rw [loopF_eq]
  unfold frStep
  dsimp only
  rcases h with ⟨e, h⟩ | ⟨d, e, h⟩
  · rw [e]; exact h
  · rw [e]
    dsimp only
    cases q : asg P g d L S with
    | none => rw [q] at h; exact h.elim
    | some z =>
      obtain ⟨L1, S1⟩ := z
      rw [q] at h
      dsimp only
      cases q2 : exs P b L1 S1 with
      | none =>
        have h : wS (exs P b L1 S1) _ := h
        rw [q2] at h; exact h.elim
      | some z2 =>
        obtain ⟨fl, L2, S2⟩ := z2
        have h : wS (exs P b L1 S1) _ := h
        rw [q2] at h
        cases fl <;> exact h
theorem sN_ex {r : Cs} (h : R (.exc c fs) L S) : sN P r R (.exc c fs) L S := h
theorem dQ_ex {Q : D → Sto → Prop} (h : X c fs S) : dQ Q X (.exc c fs) L S := h
theorem lQ_ex {N : Lo → Sto → Prop} (h : R (.exc c fs) L S) : lQ R N (.exc c fs) L S := h
end
/-- an own error's fields -/
theorem exc_at {G : Pr} {k : Nat} {x fl : Str} (h : G.excs.lookup x = some (fl, true)) {i : Int} (hi : i.natAbs < 1152921504606846976) {L : Lo} {S : Sto} {R : Fl → Lo → Sto → Prop} (q : R (.exc x [(fl, .int i)]) L S) : ∃ fs, (pmOf G k).exc x (.int i) = some fs ∧ R (.exc x fs) L S := by
  refine ⟨[(fl, .int i)], ?_, q⟩
  show (match G.excs.lookup x with | some (fl, isI) => excD fl isI (.int i) | none => none) = _
  rw [h]
  show (if i.natAbs < 1152921504606846976 then some [(fl, D.int i)] else none) = _
  rw [if_pos hi]
theorem exc_str {G : Pr} {k : Nat} {x fl : Str} (h : G.excs.lookup x = some (fl, false)) {z : List Nat} (hi : z.length ≤ 1000000) {L : Lo} {S : Sto} {R : Fl → Lo → Sto → Prop} (q : R (.exc x [(fl, .str z)]) L S) : ∃ fs, (pmOf G k).exc x (.str z) = some fs ∧ R (.exc x fs) L S := by
  refine ⟨[(fl, .str z)], ?_, q⟩
  show (match G.excs.lookup x with | some (fl, isI) => excD fl isI (.str z) | none => none) = _
  rw [h]
  show (if z.length ≤ 1000000 then some [(fl, D.str z)] else none) = _
  rw [if_pos hi]
theorem con_of {G : Pr} {k : Nat} {x : Str} {d : D} (h : G.cons.lookup x = some d) : (pmOf G k).con x = some d := h
end Dy

namespace Dy
open PySem PySem.Spec PyProof.Rows L2
def smallL : List Nat := [97, 98, 99, 100, 101, 102, 103, 104, 105, 106, 107, 108, 109, 110, 111, 112, 113, 114, 115, 116, 117, 118, 119, 120, 121, 122]
def capL : List Nat := [65, 66, 67, 68, 69, 70, 71, 72, 73, 74, 75, 76, 77, 78, 79, 80, 81, 82, 83, 84, 85, 86, 87, 88, 89, 90]
def digL : List Nat := [48, 49, 50, 51, 52, 53, 54, 55, 56, 57]
def markL : List Nat := [40, 41, 123, 125, 44, 59, 46, 124, 61, 60, 43, 45, 42, 47]
def alT (e : E) : T := .bo .Or (.of (.cmp .In e (.con "SMALL"))) (.bo .Or (.of (.cmp .In e (.con "CAPITAL"))) (.of (.cmp .In e (.con "DIGITS"))))
def runEndFC : Cs :=
  (.cons (.asg (.nm 2) (.var 1))
  (.cons (.whl (.bo .And (.of (.cmp .Lt (.var 2) (.bi "len" (.cons (.var 0) .nil)))) (alT (.ix (.var 0) (.var 2)))) (.cons (.aug 2 .Add (.lit (.int 1)))
  .nil))
  (.cons (.ret (.var 2))
  .nil)))
def runEndF : Fn := ⟨["text", "start"], ["text", "start", "end"], [], runEndFC⟩
def numT : Cs :=
  (.cons (.asg (.nm 3) (.bi "int" (.cons (.var 0) .nil)))
  (.cons (.iff (.of (.cmp .Gt (.var 3) (.con "MOST_NUMBER"))) (.cons (.raise "SourceError" (.var 1))
  .nil) .nil)
  (.cons (.ret (.tup (.cons (.lit (.str [110, 117, 109, 98, 101, 114])) (.cons (.var 3) (.cons (.var 1) .nil)))))
  .nil)))
def numberFC : Cs :=
  (.cons (.fr (.nm 2) (.seq (.var 0)) (.cons (.iff (.of (.cmp .NotIn (.var 2) (.con "DIGITS"))) (.cons (.raise "SourceError" (.var 1))
  .nil) .nil)
  .nil))
  (.cons (.iff (.bo .Or (.of (.cmp .Gt (.bi "len" (.cons (.var 0) .nil)) (.lit (.int 10)))) (.bo .And (.of (.cmp .Eq (.ix (.var 0) (.lit (.int 0))) (.lit (.str [48])))) (.of (.cmp .Gt (.bi "len" (.cons (.var 0) .nil)) (.lit (.int 1)))))) (.cons (.raise "SourceError" (.var 1))
  .nil) .nil)
  numT))
def numberF : Fn := ⟨["run", "start"], ["run", "start", "char", "value"], [], numberFC⟩
def runFC : Cs :=
  (.cons (.iff (.of (.cmp .In (.ix (.var 0) (.lit (.int 0))) (.con "DIGITS"))) (.cons (.ret (.call "number_token" (.cons (.var 0) (.cons (.var 1) .nil))))
  .nil) .nil)
  (.cons (.iff (.of (.cmp .Gt (.bi "len" (.cons (.var 0) .nil)) (.con "MOST_LETTERS"))) (.cons (.raise "SourceError" (.var 1))
  .nil) .nil)
  (.cons (.iff (.of (.cmp .In (.ix (.var 0) (.lit (.int 0))) (.con "CAPITAL"))) (.cons (.ret (.tup (.cons (.lit (.str [99, 108, 97, 115, 115])) (.cons (.var 0) (.cons (.var 1) .nil)))))
  .nil) .nil)
  (.cons (.iff (.of (.cmp .In (.var 0) (.con "WORDS"))) (.cons (.ret (.tup (.cons (.lit (.str [119, 111, 114, 100])) (.cons (.var 0) (.cons (.var 1) .nil)))))
  .nil) .nil)
  (.cons (.ret (.tup (.cons (.lit (.str [110, 97, 109, 101])) (.cons (.var 0) (.cons (.var 1) .nil)))))
  .nil)))))
def runF : Fn := ⟨["run", "start"], ["run", "start"], [], runFC⟩
def textFC : Cs :=
  (.cons (.asg (.nm 2) (.bm "find" (.var 0) (.cons (.lit (.str [39])) (.cons (.bin .Add (.var 1) (.lit (.int 1))) .nil))))
  (.cons (.iff (.bo .Or (.of (.cmp .Lt (.var 2) (.lit (.int 0)))) (.of (.cmp .Gt (.bin .Sub (.bin .Sub (.var 2) (.var 1)) (.lit (.int 1))) (.con "MOST_TEXT")))) (.cons (.raise "SourceError" (.var 1))
  .nil) .nil)
  (.cons (.ret (.tup (.cons (.lit (.str [116, 101, 120, 116])) (.cons (.sl (.var 0) (.so (.bin .Add (.var 1) (.lit (.int 1)))) (.so (.var 2))) (.cons (.var 1) .nil)))))
  .nil)))
def textF : Fn := ⟨["text", "start"], ["text", "start", "end"], [], textFC⟩
def tokB : Cs :=
  (.cons (.asg (.nm 3) (.ix (.var 0) (.var 2)))
  (.cons (.iff (.of (.cmp .Eq (.var 3) (.lit (.str [32])))) (.cons (.aug 2 .Add (.lit (.int 1)))
  .nil) (.cons (.iff (.of (.cmp .Eq (.var 3) (.lit (.str [39])))) (.cons (.ex (.bm "append" (.var 1) (.cons (.call "text_token" (.cons (.var 0) (.cons (.var 2) .nil))) .nil)))
  (.cons (.aug 2 .Add (.bin .Add (.bi "len" (.cons (.ix (.ix (.var 1) (.neg (.lit (.int 1)))) (.lit (.int 1))) .nil)) (.lit (.int 2))))
  .nil)) (.cons (.iff (alT (.var 3)) (.cons (.asg (.nm 4) (.call "run_end" (.cons (.var 0) (.cons (.var 2) .nil))))
  (.cons (.ex (.bm "append" (.var 1) (.cons (.call "run_token" (.cons (.sl (.var 0) (.so (.var 2)) (.so (.var 4))) (.cons (.var 2) .nil))) .nil)))
  (.cons (.asg (.nm 2) (.var 4))
  .nil))) (.cons (.iff (.of (.cmp .In (.sl (.var 0) (.so (.var 2)) (.so (.bin .Add (.var 2) (.lit (.int 2))))) (.con "PAIRS"))) (.cons (.ex (.bm "append" (.var 1) (.cons (.tup (.cons (.lit (.str [109, 97, 114, 107])) (.cons (.sl (.var 0) (.so (.var 2)) (.so (.bin .Add (.var 2) (.lit (.int 2))))) (.cons (.var 2) .nil)))) .nil)))
  (.cons (.aug 2 .Add (.lit (.int 2)))
  .nil)) (.cons (.iff (.of (.cmp .In (.var 3) (.con "MARKS"))) (.cons (.ex (.bm "append" (.var 1) (.cons (.tup (.cons (.lit (.str [109, 97, 114, 107])) (.cons (.var 3) (.cons (.var 2) .nil)))) .nil)))
  (.cons (.aug 2 .Add (.lit (.int 1)))
  .nil)) (.cons (.raise "SourceError" (.var 2))
  .nil))
  .nil))
  .nil))
  .nil))
  .nil))
  .nil))
def tokenizeC : Cs :=
  (.cons (.asg (.nm 1) (.lst .nil))
  (.cons (.asg (.nm 2) (.lit (.int 0)))
  (.cons (.whl (.of (.cmp .Lt (.var 2) (.bi "len" (.cons (.var 0) .nil)))) tokB)
  (.cons (.ret (.var 1))
  .nil))))
def tokenizeF : Fn := ⟨["text"], ["text", "found", "at", "char", "end"], [], tokenizeC⟩
local macro_rules | `(tactic| walk_at "go") => `(tactic| repeat first
  | with_reducible refine w_scons ?_
  | with_reducible refine sN_nx ?_
  | with_reducible refine w_asg ?_
  | with_reducible refine w_nm ?_
  | with_reducible refine w_lit ?_
  | ((with_reducible refine w_vari ?_); (refine ⟨_, rfl, ?_⟩))
  | with_reducible refine w_bin ?_
  | with_reducible refine w_neg ?_
  | with_reducible refine w_cmp ?_
  | with_reducible refine w_chain ?_
  | with_reducible refine w_nt ?_
  | with_reducible refine w_and ?_
  | with_reducible refine w_or ?_
  | with_reducible refine w_ite ?_
  | with_reducible refine w_tup ?_
  | with_reducible refine w_lst ?_
  | with_reducible refine w_ix ?_
  | with_reducible refine w_sl ?_
  | with_reducible refine w_no ?_
  | with_reducible refine w_so ?_
  | with_reducible refine w_call ?_
  | with_reducible refine w_bi ?_
  | with_reducible refine w_bm ?_
  | with_reducible refine w_isi ?_
  | with_reducible refine w_nil ?_
  | with_reducible refine w_cons ?_
  | with_reducible refine w_of ?_
  | with_reducible refine w_tnt ?_
  | with_reducible refine w_tand ?_
  | with_reducible refine w_tor ?_
  | with_reducible refine w_yes ?_
  | with_reducible refine w_if1 ?_
  | with_reducible refine w_seq ?_
  | with_reducible refine w_rng1 ?_
  | with_reducible refine w_rng2 ?_
  | with_reducible refine w_enum ?_
  | with_reducible refine w_tp ?_
  | with_reducible refine w_tnil ?_
  | with_reducible refine w_tcons ?_
  | with_reducible refine w_sub ?_
  | with_reducible refine w_ex ?_
  | with_reducible refine w_ret ?_
  | with_reducible refine w_retn ?_
  | with_reducible refine w_pass ?_
  | with_reducible refine w_brk ?_
  | with_reducible refine w_cont ?_
  | with_reducible refine w_iff ?_
  | with_reducible refine w_snil ?_
  | with_reducible refine w_fr ?_
  | with_reducible refine sN_rt ?_
  | with_reducible refine sN_bk ?_
  | with_reducible refine sN_ct ?_
  | with_reducible refine sX_i ?_
  | with_reducible refine dQ_nx ?_
  | with_reducible refine dQ_rt ?_
  | with_reducible refine lQ_nx ?_
  | with_reducible refine lQ_ct ?_
  | with_reducible refine lQ_bk ?_
  | with_reducible refine lQ_rt ?_
  | with_reducible refine o_add ?_
  | with_reducible refine o_sub ?_
  | ((with_reducible refine o_mulL ?_ ?_); · omega)
  | ((with_reducible refine o_mulR ?_ ?_); · omega)
  | ((with_reducible refine o_mod ?_ ?_); · omega)
  | ((with_reducible refine o_div ?_ ?_ ?_); · omega
     · omega)
  | with_reducible refine c_lt ?_
  | with_reducible refine c_le ?_
  | with_reducible refine c_gt ?_
  | with_reducible refine c_ge ?_
  | with_reducible refine c_eqi ?_
  | with_reducible refine c_eqs ?_
  | with_reducible refine c_nei ?_
  | with_reducible refine t_bl ?_
  | with_reducible refine b_int ?_
  | with_reducible refine b_lenT ?_
  | with_reducible refine b_tupT ?_
  | with_reducible refine b_lstT ?_
  | ((with_reducible refine b_lenRi ?_); (refine ⟨_, by assumption, ?_⟩))
  | ((with_reducible refine x_refi ?_); (refine ⟨_, by assumption, ?_⟩); (refine ⟨_, rfl, ?_⟩))
  | (with_reducible refine u_ref ?_)
  | ((with_reducible refine sm_i ?_ ?_); · exact small_i (by omega) (by omega))
  | ((with_reducible refine rg2_i ?_ ?_); · exact rg2_small (by omega) (by omega) (by omega) (by omega))
  | with_reducible refine neg_i ?_
  | with_reducible refine is_non_tuple ?_
  | with_reducible refine is_non_bool ?_
  | with_reducible refine is_non_int ?_
  | with_reducible refine is_non_str ?_
  | with_reducible refine is_non_list ?_
  | with_reducible refine isn_non ?_
  | with_reducible refine isnn_non ?_
  | with_reducible refine is_bl_tuple ?_
  | with_reducible refine is_bl_bool ?_
  | with_reducible refine is_bl_int ?_
  | with_reducible refine is_bl_str ?_
  | with_reducible refine is_bl_list ?_
  | with_reducible refine isn_bl ?_
  | with_reducible refine isnn_bl ?_
  | with_reducible refine is_int_tuple ?_
  | with_reducible refine is_int_bool ?_
  | with_reducible refine is_int_int ?_
  | with_reducible refine is_int_str ?_
  | with_reducible refine is_int_list ?_
  | with_reducible refine isn_int ?_
  | with_reducible refine isnn_int ?_
  | with_reducible refine is_str_tuple ?_
  | with_reducible refine is_str_bool ?_
  | with_reducible refine is_str_int ?_
  | with_reducible refine is_str_str ?_
  | with_reducible refine is_str_list ?_
  | with_reducible refine isn_str ?_
  | with_reducible refine isnn_str ?_
  | with_reducible refine is_tup_tuple ?_
  | with_reducible refine is_tup_bool ?_
  | with_reducible refine is_tup_int ?_
  | with_reducible refine is_tup_str ?_
  | with_reducible refine is_tup_list ?_
  | with_reducible refine isn_tup ?_
  | with_reducible refine isnn_tup ?_
  | with_reducible refine is_kl_tuple ?_
  | with_reducible refine is_kl_bool ?_
  | with_reducible refine is_kl_int ?_
  | with_reducible refine is_kl_str ?_
  | with_reducible refine is_kl_list ?_
  | with_reducible refine isn_kl ?_
  | with_reducible refine isnn_kl ?_
  | with_reducible refine spA0 ?_
  | with_reducible refine spB0 ?_
  | with_reducible refine spA1 ?_
  | with_reducible refine spB1 ?_
  | with_reducible refine spA2 ?_
  | with_reducible refine spB2 ?_
  | with_reducible refine spA3 ?_
  | with_reducible refine spB3 ?_
  | with_reducible refine c_eqb ?_
  | with_reducible refine c_neb ?_
  | with_reducible refine c_nes ?_
  | with_reducible refine c_lts ?_
  | with_reducible refine c_les ?_
  | with_reducible refine b_abs ?_
  | ((with_reducible refine kspT ?_ ?_); · exact rfl)
  | ((with_reducible refine kspF ?_ ?_); · exact rfl)
  | ((with_reducible refine kspT2 ?_ ?_); · exact rfl)
  | ((with_reducible refine kspF2 ?_ ?_); · exact rfl)
    | with_reducible refine w_raise ?_
  | with_reducible refine sN_ex ?_
  | with_reducible refine dQ_ex ?_
  | with_reducible refine lQ_ex ?_
  )
/-! ### single signs in texts -/
section
variable {S : Sto} {X : Xk} {Q : D → Sto → Prop}
theorem sub_one (c : Nat) (y : List Nat) : subL [c] y = decide (c ∈ y) := by
  unfold subL
  have h := StrLaws.found_one (stO y) c
  have e : (stO y).length = y.length := by simp [stO, Str.length]
  rw [e] at h
  exact h
theorem c_in1 {c : Nat} {y : List Nat} {Q : Bool → Prop} (q : Q (decide (c ∈ y))) : ∃ r, cmpD .In S (.str [c]) (.str y) = some r ∧ Q r := ⟨_, congrArg some (sub_one c y), q⟩
theorem c_nin1 {c : Nat} {y : List Nat} {Q : Bool → Prop} (q : Q (!decide (c ∈ y))) : ∃ r, cmpD .NotIn S (.str [c]) (.str y) = some r ∧ Q r := ⟨_, congrArg (fun b => some (!b)) (sub_one c y), q⟩
theorem at_sg {x : List Nat} {i c : Nat} (h : x[i]? = some c) : Wk.at S i (.sg x) = some (some (.str [c])) := by
  show some ((x[i]?).map _) = _
  rw [h]; rfl
theorem at_sg_end {x : List Nat} : Wk.at S x.length (.sg x) = some none := by
  show some ((x[x.length]?).map _) = _
  rw [List.getElem?_eq_none (Nat.le_refl _)]; rfl
theorem b_intS {x : List Nat} {n : Int} (h : PySem.intText? (stO x) = some n) (l : x.length ≤ 640) (q : Q (.int n) S) : wO (biD "int" [.str x] S) Q X := by
  have e : biD "int" [.str x] S = if x.length ≤ 640 then (PySem.intText? (stO x)).map fun n => (.val (.int n), S) else none := rfl
  rw [e, if_pos l, h]
  exact q
theorem walk_s {x : List Nat} {Q : Wk → Prop} (q : Q (.sg x)) : ∃ w, walkOf S (.str x) = some w ∧ Q w := ⟨_, rfl, q⟩
end
/-- what the reading of tokens wants of a text -/
structure TokG (G : Pr) : Prop where
  run_end : G.fns.lookup ("run_end" : Str) = some runEndF
  number : G.fns.lookup ("number_token" : Str) = some numberF
  run : G.fns.lookup ("run_token" : Str) = some runF
  text : G.fns.lookup ("text_token" : Str) = some textF
  tokenize : G.fns.lookup ("tokenize" : Str) = some tokenizeF
  small : G.cons.lookup ("SMALL" : Str) = some (.str smallL)
  capital : G.cons.lookup ("CAPITAL" : Str) = some (.str capL)
  digits : G.cons.lookup ("DIGITS" : Str) = some (.str digL)
  words : G.cons.lookup ("WORDS" : Str) = some (.tup (keyWords.map D.str))
  pairs : G.cons.lookup ("PAIRS" : Str) = some (.tup ([[58, 61], [60, 61]].map D.str))
  marks : G.cons.lookup ("MARKS" : Str) = some (.str markL)
  letters : G.cons.lookup ("MOST_LETTERS" : Str) = some (.int 20)
  most : G.cons.lookup ("MOST_NUMBER" : Str) = some (.int 1000000000)
  mtext : G.cons.lookup ("MOST_TEXT" : Str) = some (.int 200)
  exc : G.excs.lookup ("SourceError" : Str) = some (("at" : Str), true)
def isAl (c : Nat) : Prop := c ∈ smallL ∨ c ∈ capL ∨ c ∈ digL
instance (c : Nat) : Decidable (isAl c) := inferInstanceAs (Decidable (_ ∨ _ ∨ _))
abbrev BigT (x : List Nat) : Prop := x.length ≤ 1000000
theorem BigT.line {x : List Nat} (h : BigT x) : x.length ≤ sizeLine := Nat.le_trans h (by decide)
theorem alT_w {G : Pr} (T : TokG G) {k c : Nat} {e : E} {L : Lo} {S : Sto} {Q : Bool → Sto → Prop} {X : Xk} (he : ∀ {Q : D → Sto → Prop} {X : Xk}, Q (.str [c]) S → wO (ev (pmOf G k) e L S) Q X) (q : ∀ b, (b = true ↔ isAl c) → Q b S) : wO (tst (pmOf G k) (alT e) L S) Q X := by
  unfold alT
  have q : Q (decide (isAl c)) S := q _ decide_eq_true_iff
  walk_at "go"
  refine he ?_
  refine w_con (con_of T.small) ?_
  refine c_in1 ?_
  walk_at "go"
  refine ⟨fun h => ?_, fun h => ?_⟩
  · have h := of_decide_eq_false h
    walk_at "go"
    refine he ?_
    refine w_con (con_of T.capital) ?_
    refine c_in1 ?_
    walk_at "go"
    refine ⟨fun h2 => ?_, fun h2 => ?_⟩
    · have h2 := of_decide_eq_false h2
      walk_at "go"
      refine he ?_
      refine w_con (con_of T.digits) ?_
      refine c_in1 ?_
      walk_at "go"
      have e : decide (isAl c) = decide (c ∈ digL) := decide_eq_decide.mpr ⟨fun z => z.elim (fun z => absurd z h) fun z => z.elim (fun z => absurd z h2) id, fun z => .inr (.inr z)⟩
      rw [e] at q
      exact q
    · have h2 := of_decide_eq_true h2
      rw [decide_eq_true (show isAl c from .inr (.inl h2))] at q
      exact q
  · have h := of_decide_eq_true h
    rw [decide_eq_true (show isAl c from .inl h)] at q
    exact q
theorem run_end_w {G : Pr} (T : TokG G) {k : Nat} {S : Sto} {p r t : List Nat} {Q : D → Sto → Prop} {X : Xk} (hb : BigT (p ++ (r ++ t))) (hr : ∀ c ∈ r, isAl c) (ht : ∀ c, t.head? = some c → ¬ isAl c)
    (q : Q (.int ((p.length + r.length : Nat) : Int)) S) : wO (callF G (k + 1) ("run_end" : Str) [.str (p ++ (r ++ t)), .int (p.length : Int)] S) Q X := by
  refine w_dfn T.run_end rfl ?_
  show wS (exs (pmOf G k) runEndFC [some (.str (p ++ (r ++ t))), some (.int (p.length : Int)), none] S) (dQ Q X)
  unfold runEndFC
  have hlen : (p ++ (r ++ t)).length = p.length + (r.length + t.length) := by simp
  walk_at "go"
  refine w_whl (fun L S' => S' = S ∧ ∃ i : Nat, i ≤ r.length ∧ L = [some (.str (p ++ (r ++ t))), some (.int (p.length : Int)), some (.int ((p.length + i : Nat) : Int))]) (fun L _ => match L with | [_, _, some (.int j)] => (p.length + r.length - j.toNat) | _ => 0) ⟨rfl, 0, Nat.zero_le _, rfl⟩ ?_
  rintro L S' ⟨rfl, i, hi, rfl⟩
  walk_at "go"
  refine b_lenS hb.line ?_
  walk_at "go"
  have stop : wS (exs (pmOf G k) (.cons (.ret (.var 2)) .nil) [some (.str (p ++ (r ++ t))), some (.int (p.length : Int)), some (.int ((p.length + r.length : Nat) : Int))] S') (dQ Q X) := by
    walk_at "go"
    exact q
  refine ⟨fun h => ?_, fun h => ?_⟩
  · have h : p.length + i < p.length + (r.length + t.length) := by
      have := of_decide_eq_true h
      rw [hlen] at this
      omega
    walk_at "go"
    have ex : ∃ c, (p ++ (r ++ t))[p.length + i]? = some c ∧ ((i < r.length ∧ isAl c) ∨ (i = r.length ∧ ¬ isAl c)) := by
      rw [List.getElem?_append_right (by omega), Nat.add_sub_cancel_left]
      by_cases l : i < r.length
      · exact ⟨r[i], by rw [List.getElem?_append_left l, List.getElem?_eq_getElem l], .inl ⟨l, hr _ (List.getElem_mem l)⟩⟩
      · have e : i = r.length := by omega
        subst e
        rw [List.getElem?_append_right (Nat.le_refl _), Nat.sub_self]
        cases t with
        | nil => simp at h
        | cons c t => exact ⟨c, rfl, .inr ⟨rfl, ht c rfl⟩⟩
    obtain ⟨c, e, hc⟩ := ex
    have e' : atI (p ++ (r ++ t)) (((p.length + i : Nat) : Int)) = some c := at_nat rfl e
    have more : isAl c → wS (exs (pmOf G k) (.cons (.aug 2 .Add (.lit (.int 1))) .nil) [some (.str (p ++ (r ++ t))), some (.int (p.length : Int)), some (.int ((p.length + i : Nat) : Int))] S') fun fl L2 S2 => match fl with
      | .nx => (S2 = S' ∧ ∃ i : Nat, i ≤ r.length ∧ L2 = [some (.str (p ++ (r ++ t))), some (.int (p.length : Int)), some (.int ((p.length + i : Nat) : Int))]) ∧ (match L2 with | [_, _, some (.int j)] => (p.length + r.length - j.toNat) | _ => 0) < (p.length + r.length - (p.length + i))
      | .ct => False
      | .bk => False
      | _ => False := by
      intro ha
      have l : i < r.length := by
        rcases hc with ⟨l, _⟩ | ⟨_, n⟩
        · exact l
        · exact absurd ha n
      refine w_scons ?_
      refine w_aug (x := .int ((p.length + i : Nat) : Int)) rfl ?_
      walk_at "go"
      refine ⟨_, rfl, ?_⟩
      walk_at "go"
      refine ⟨⟨rfl, i + 1, l, by simp; omega⟩, ?_⟩
      show p.length + r.length - (((p.length + i : Nat) : Int) + 1).toNat < _
      omega
    refine alT_w T (c := c) (fun q => ?_) fun b hb2 => ?_
    · walk_at "go"
      refine x_str hb.line e' ?_
      exact q
    · refine ⟨fun h1 => ?_, fun h1 => ?_⟩
      · exact wS_imp (more (hb2.mp h1)) fun fl L2 S2 z => by
          cases fl with
          | nx => exact z
          | _ => exact z.elim
      · rcases hc with ⟨l, ha⟩ | ⟨rfl, n⟩
        · rw [hb2.mpr ha] at h1; cases h1
        · walk_at "go"
          exact stop
  · have h := of_decide_eq_false h
    rw [hlen] at h
    have e : i = r.length := by omega
    subst e
    walk_at "go"
    exact stop
/-! ### one token -/
theorem dig_mem {c : Nat} (h : 48 ≤ c ∧ c ≤ 57) : c ∈ digL := by
  obtain ⟨h1, h2⟩ := h
  have : c = 48 ∨ c = 49 ∨ c = 50 ∨ c = 51 ∨ c = 52 ∨ c = 53 ∨ c = 54 ∨ c = 55 ∨ c = 56 ∨ c = 57 := by omega
  unfold digL
  simpa using this
theorem numL_dig {n c : Nat} (h : c ∈ TL.numL n) : c ∈ digL := dig_mem (TL.numL_digits n c h)
theorem numL_head0 : ∀ n : Nat, 10 ≤ n → (TL.numL n)[0]? ≠ some 48 := by
  intro n
  induction n using Nat.strongRecOn with
  | ind n ih =>
    intro h
    rw [TL.numL_step h]
    have hne := TL.numL_ne (n / 10)
    have e : (TL.numL (n / 10) ++ [48 + n % 10])[0]? = (TL.numL (n / 10))[0]? := List.getElem?_append_left (List.length_pos_iff.mpr hne)
    rw [e]
    by_cases h2 : 10 ≤ n / 10
    · exact ih (n / 10) (by omega) h2
    · rw [TL.numL_lt (by omega)]
      intro z
      have : 48 + n / 10 = 48 := by simpa using z
      omega
theorem num_stO (n : Nat) : Str.ofString (toString ((n : Nat) : Int)) = stO (TL.numL n) := by
  have e : stO (TL.tl (Str.ofString (toString ((n : Nat) : Int)))) = Str.ofString (toString ((n : Nat) : Int)) := by simp [stO, TL.tl]
  rw [TL.tl_num n] at e
  exact e.symm
abbrev tk (k : List Nat) (v : D) (at' : Int) : D := .tup [.str k, v, .int at']
abbrev numK : List Nat := [110, 117, 109, 98, 101, 114]
abbrev classK : List Nat := [99, 108, 97, 115, 115]
abbrev wordK : List Nat := [119, 111, 114, 100]
abbrev nameK : List Nat := [110, 97, 109, 101]
abbrev textK : List Nat := [116, 101, 120, 116]
abbrev markK : List Nat := [109, 97, 114, 107]
theorem three_le : 3 ≤ sizeLine := by decide
theorem dig_not {c : Nat} (h : c ∈ smallL ∨ c ∈ capL) : c ∉ digL := by
  intro z
  have a : ∀ c ∈ smallL, ¬ c ∈ digL := by decide
  have b : ∀ c ∈ capL, ¬ c ∈ digL := by decide
  rcases h with h | h
  · exact a c h z
  · exact b c h z
theorem cap_not {c : Nat} (h : c ∈ smallL) : c ∉ capL := by
  have a : ∀ c ∈ smallL, ¬ c ∈ capL := by decide
  exact a c h
/-- the kind of a run of letters -/
def runK (c : Nat) (x : List Nat) : List Nat := if c ∈ capL then classK else if x ∈ keyWords then wordK else nameK

/-! ### tokens, as a function -/
def digB (c : Nat) : Bool := decide (c ∈ digL)
def alB (c : Nat) : Bool := decide (isAl c)
def numV (w : List Nat) : Nat := w.foldl (fun a c => 10 * a + (c - 48)) 0
def numOkB (w : List Nat) : Bool := w.all digB && (decide (w.length ≤ 10) && (!(decide (w[0]? = some 48) && decide (1 < w.length)) && decide (numV w ≤ 1000000000)))
theorem numV_app (w : List Nat) (d : Nat) : numV (w ++ [d]) = 10 * numV w + (d - 48) := by simp [numV]
theorem dig_rng {c : Nat} (h : c ∈ digL) : 48 ≤ c ∧ c ≤ 57 := by
  have a : ∀ c ∈ digL, 48 ≤ c ∧ c ≤ 57 := by decide
  exact a c h
theorem numL_numV : ∀ (n : Nat) (w : List Nat), w.length ≤ n → w ≠ [] → w.all digB = true → (1 < w.length → w[0]? ≠ some 48) → TL.numL (numV w) = w := by
  intro n
  induction n with
  | zero => intro w hn hne; exact absurd (List.length_eq_zero_iff.mp (Nat.le_zero.mp hn)) hne
  | succ n ih =>
    intro w hn hne hall h0
    rcases List.eq_nil_or_concat w with rfl | ⟨w', d, rfl⟩
    · exact absurd rfl hne
    rw [List.concat_eq_append] at *
    rw [List.all_append] at hall
    obtain ⟨ha, hd⟩ := Bool.and_eq_true_iff.mp hall
    have hd : d ∈ digL := of_decide_eq_true (by simpa [digB] using hd)
    have hd := dig_rng hd
    rw [numV_app]
    by_cases hw : w' = []
    · subst hw
      show TL.numL (10 * 0 + (d - 48)) = _
      rw [TL.numL_lt (by omega), show 48 + (10 * 0 + (d - 48)) = d by omega]
      rfl
    · have hp : 0 < w'.length := List.length_pos_iff.mpr hw
      have hl : (w' ++ [d]).length = w'.length + 1 := by simp
      have g0 : (w' ++ [d])[0]? = w'[0]? := List.getElem?_append_left hp
      have h1 : w'[0]? ≠ some 48 := by rw [← g0]; exact h0 (by omega)
      have e := ih w' (by omega) hw ha (fun _ => h1)
      have m1 : 1 ≤ numV w' := by
        rcases Nat.eq_zero_or_pos (numV w') with z | z
        · rw [z] at e
          rw [← e, TL.numL_lt (by omega)] at h1
          exact absurd rfl h1
        · exact z
      rw [TL.numL_step (by omega), show (10 * numV w' + (d - 48)) / 10 = numV w' by omega, e, show 48 + (10 * numV w' + (d - 48)) % 10 = d by omega]
theorem numV_numL' {n : Nat} : numV (TL.numL n) = n := by
  induction n using Nat.strongRecOn with
  | ind n ih =>
    by_cases h : 10 ≤ n
    · rw [TL.numL_step h, numV_app, ih _ (by omega)]; omega
    · rw [TL.numL_lt (by omega)]
      show 10 * 0 + (48 + n - 48) = n
      omega
theorem int_dig {w : List Nat} (hne : w ≠ []) (hall : w.all digB = true) (h0 : 1 < w.length → w[0]? ≠ some 48) (hl : w.length ≤ 10) : PySem.intText? (stO w) = some (numV w : Int) := by
  have e := numL_numV w.length w (Nat.le_refl _) hne hall h0
  have z := TL.int_num (n := numV w) (by rw [e]; omega)
  rw [num_stO, e] at z
  exact z
theorem number_w {G : Pr} (T : TokG G) {k : Nat} {w : List Nat} {S : Sto} {s : Int} {Q : D → Sto → Prop} {X : Xk} (hne : w ≠ []) (hw : BigT w) (hs : s.natAbs < 1152921504606846976) (qo : numOkB w = true → Q (tk numK (.int (numV w)) s) S) (qx : numOkB w = false → X "SourceError" [("at", .int s)] S) : wO (callF G (k + 1) ("number_token" : Str) [.str w, .int s] S) Q X := by
  refine w_dfn T.number rfl ?_
  show wS (exs (pmOf G k) numberFC [some (.str w), some (.int s), none, none] S) (dQ Q X)
  unfold numberFC
  have hl : w.length ≤ sizeLine := hw.line
  have hpos : 0 < w.length := List.length_pos_iff.mpr hne
  walk_at "go"
  refine walk_s ?_
  refine w_loop w.length (fun i L S' => S' = S ∧ (∀ j, j < i → ∃ c, w[j]? = some c ∧ c ∈ digL) ∧ ∃ o, L = [some (.str w), some (.int s), o, none]) ⟨rfl, fun j h => absurd h (Nat.not_lt_zero _), none, rfl⟩ ?_ ?_
  · rintro L S2 ⟨rfl, hd, o, rfl⟩
    have hall : w.all digB = true := by
      rw [List.all_eq_true]
      intro c hc
      obtain ⟨j, hj, e⟩ := List.getElem_of_mem hc
      obtain ⟨c', e', h'⟩ := hd j hj
      rw [List.getElem?_eq_getElem hj, e] at e'
      cases e'
      exact decide_eq_true h'
    refine ⟨at_sg_end, ?_⟩
    walk_at "go"
    refine b_lenS hl ?_
    walk_at "go"
    have bad : (10 < w.length ∨ (w[0]? = some 48 ∧ 1 < w.length) ∨ 1000000000 < numV w) → numOkB w = false := by
      intro h
      unfold numOkB
      rw [hall]
      rcases h with h | ⟨h, h2⟩ | h
      · rw [decide_eq_false (by omega : ¬ w.length ≤ 10)]; rfl
      · rw [decide_eq_true h, decide_eq_true h2]; simp
      · rw [decide_eq_false (by omega : ¬ numV w ≤ 1000000000)]; simp
    refine ⟨fun h => ?_, fun h => ?_⟩
    rotate_left
    · have h := of_decide_eq_true h
      walk_at "go"
      refine exc_at T.exc hs ?_
      walk_at "go"
      exact qx (bad (.inl (by omega)))
    have h10 := of_decide_eq_false h
    walk_at "go"
    obtain ⟨c, ec, hc⟩ := at_in (xs := w) (i := 0) (by omega) (by omega)
    have e0 : w[0]? = some c := by
      unfold atI ixN at ec
      rw [if_pos (by omega), if_pos (by omega)] at ec
      exact ec
    refine x_str hl ec ?_
    walk_at "go"
    have tail : (1 < w.length → w[0]? ≠ some 48) → wS (exs (pmOf G k) numT [some (.str w), some (.int s), o, none] S2) (dQ Q X) := by
      intro h0
      unfold numT
      walk_at "go"
      refine b_intS (int_dig hne hall h0 (by omega)) (by omega) ?_
      walk_at "go"
      refine w_con (con_of T.most) ?_
      walk_at "go"
      refine ⟨fun h => ?_, fun h => ?_⟩
      · have h := of_decide_eq_true h
        walk_at "go"
        refine exc_at T.exc hs ?_
        walk_at "go"
        exact qx (bad (.inr (.inr (by omega))))
      · have h := of_decide_eq_false h
        walk_at "go"
        refine ⟨three_le, ?_⟩
        walk_at "go"
        refine qo ?_
        unfold numOkB
        rw [hall, decide_eq_true (by omega : w.length ≤ 10), decide_eq_true (by omega : numV w ≤ 1000000000)]
        by_cases z : 1 < w.length
        · rw [decide_eq_false (h0 z)]; rfl
        · rw [decide_eq_false z]; simp
    refine ⟨fun h => ?_, fun h => ?_⟩
    · have h : ([c] : List Nat) = [48] := of_decide_eq_true h
      cases h
      walk_at "go"
      refine b_lenS hl ?_
      walk_at "go"
      refine ⟨fun h => ?_, fun h => ?_⟩
      · have h := of_decide_eq_true h
        walk_at "go"
        refine exc_at T.exc hs ?_
        walk_at "go"
        exact qx (bad (.inr (.inl ⟨e0, by omega⟩)))
      · have h := of_decide_eq_false h
        walk_at "go"
        exact tail fun z => absurd z (by omega)
    · have h := of_decide_eq_false h
      walk_at "go"
      exact tail fun _ z => h (by rw [e0] at z; cases z; rfl)
  · rintro i L S2 hi ⟨rfl, hd, o, rfl⟩
    refine ⟨_, at_sg (List.getElem?_eq_getElem hi), ?_⟩
    walk_at "go"
    refine w_con (con_of T.digits) ?_
    refine c_nin1 ?_
    walk_at "go"
    refine ⟨fun h => ?_, fun h => ?_⟩
    · have h : w[i] ∉ digL := by simpa using h
      walk_at "go"
      refine exc_at T.exc hs ?_
      walk_at "go"
      refine qx ?_
      have : w.all digB = false := by
        rw [List.all_eq_false]
        exact ⟨w[i], List.getElem_mem hi, by simp [digB, h]⟩
      unfold numOkB
      rw [this]; rfl
    · have h : w[i] ∈ digL := by simpa using h
      walk_at "go"
      refine ⟨rfl, fun j hj => ?_, _, rfl⟩
      rcases Nat.lt_succ_iff_lt_or_eq.mp hj with z | rfl
      · exact hd j z
      · exact ⟨_, List.getElem?_eq_getElem hi, h⟩
def runTok (w : List Nat) (s : Int) : Option D := match w with
  | [] => none
  | c :: _ => if digB c = true then (if numOkB w = true then some (tk numK (.int (numV w)) s) else none) else if w.length ≤ 20 then some (tk (runK c w) (.str w) s) else none
theorem run_w {G : Pr} (T : TokG G) {k c : Nat} {x : List Nat} {S : Sto} {s : Int} {Q : D → Sto → Prop} {X : Xk} (hw : BigT (c :: x)) (hs : s.natAbs < 1152921504606846976) (qo : ∀ d, runTok (c :: x) s = some d → Q d S) (qx : runTok (c :: x) s = none → X "SourceError" [("at", .int s)] S) : wO (callF G (k + 2) ("run_token" : Str) [.str (c :: x), .int s] S) Q X := by
  refine w_dfn T.run rfl ?_
  show wS (exs (pmOf G (k + 1)) runFC [some (.str (c :: x)), some (.int s)] S) (dQ Q X)
  have hll : (c :: x).length ≤ sizeLine := hw.line
  have ec : atI (c :: x) 0 = some c := at_nat (j := 0) rfl rfl
  unfold runFC
  unfold runTok at qo qx
  dsimp only at qo qx
  walk_at "go"
  refine x_str hll ec ?_
  refine w_con (con_of T.digits) ?_
  refine c_in1 ?_
  walk_at "go"
  refine ⟨fun h => ?_, fun h => ?_⟩
  · have e : digB c = true := h
    rw [if_pos e] at qo qx
    walk_at "go"
    refine number_w T (List.cons_ne_nil _ _) hw hs (fun z => ?_) (fun z => ?_)
    · rw [if_pos z] at qo
      walk_at "go"
      exact qo _ rfl
    · rw [if_neg (by rw [z]; decide)] at qx
      walk_at "go"
      exact qx rfl
  have e : ¬ digB c = true := by unfold digB; rw [h]; decide
  rw [if_neg e] at qo qx
  walk_at "go"
  refine b_lenS hll ?_
  refine w_con (con_of T.letters) ?_
  walk_at "go"
  refine ⟨fun h => ?_, fun h => ?_⟩
  · have h := of_decide_eq_true h
    rw [if_neg (by omega)] at qx
    walk_at "go"
    refine exc_at T.exc hs ?_
    walk_at "go"
    exact qx rfl
  have h := of_decide_eq_false h
  rw [if_pos (by omega)] at qo
  walk_at "go"
  refine x_str hll ec ?_
  refine w_con (con_of T.capital) ?_
  refine c_in1 ?_
  walk_at "go"
  unfold runK at qo
  refine ⟨fun h => ?_, fun h => ?_⟩
  · rw [if_pos (of_decide_eq_true h)] at qo
    walk_at "go"
    refine ⟨three_le, ?_⟩
    walk_at "go"
    exact qo _ rfl
  rw [if_neg (of_decide_eq_false h)] at qo
  walk_at "go"
  refine w_con (con_of T.words) ?_
  refine c_inT ?_
  walk_at "go"
  refine ⟨fun h => ?_, fun h => ?_⟩
  · rw [if_pos (of_decide_eq_true h)] at qo
    walk_at "go"
    refine ⟨three_le, ?_⟩
    walk_at "go"
    exact qo _ rfl
  rw [if_neg (of_decide_eq_false h)] at qo
  walk_at "go"
  refine ⟨three_le, ?_⟩
  walk_at "go"
  exact qo _ rfl
end Dy

namespace Dy
open PySem PySem.Spec PyProof.Rows L2
local macro_rules | `(tactic| walk_at "go") => `(tactic| repeat first
  | with_reducible refine w_scons ?_
  | with_reducible refine sN_nx ?_
  | with_reducible refine w_asg ?_
  | with_reducible refine w_nm ?_
  | with_reducible refine w_lit ?_
  | ((with_reducible refine w_vari ?_); (refine ⟨_, rfl, ?_⟩))
  | with_reducible refine w_bin ?_
  | with_reducible refine w_neg ?_
  | with_reducible refine w_cmp ?_
  | with_reducible refine w_chain ?_
  | with_reducible refine w_nt ?_
  | with_reducible refine w_and ?_
  | with_reducible refine w_or ?_
  | with_reducible refine w_ite ?_
  | with_reducible refine w_tup ?_
  | with_reducible refine w_lst ?_
  | with_reducible refine w_ix ?_
  | with_reducible refine w_sl ?_
  | with_reducible refine w_no ?_
  | with_reducible refine w_so ?_
  | with_reducible refine w_call ?_
  | with_reducible refine w_bi ?_
  | with_reducible refine w_bm ?_
  | with_reducible refine w_isi ?_
  | with_reducible refine w_nil ?_
  | with_reducible refine w_cons ?_
  | with_reducible refine w_of ?_
  | with_reducible refine w_tnt ?_
  | with_reducible refine w_tand ?_
  | with_reducible refine w_tor ?_
  | with_reducible refine w_yes ?_
  | with_reducible refine w_if1 ?_
  | with_reducible refine w_seq ?_
  | with_reducible refine w_rng1 ?_
  | with_reducible refine w_rng2 ?_
  | with_reducible refine w_enum ?_
  | with_reducible refine w_tp ?_
  | with_reducible refine w_tnil ?_
  | with_reducible refine w_tcons ?_
  | with_reducible refine w_sub ?_
  | with_reducible refine w_ex ?_
  | with_reducible refine w_ret ?_
  | with_reducible refine w_retn ?_
  | with_reducible refine w_pass ?_
  | with_reducible refine w_brk ?_
  | with_reducible refine w_cont ?_
  | with_reducible refine w_iff ?_
  | with_reducible refine w_snil ?_
  | with_reducible refine w_fr ?_
  | with_reducible refine sN_rt ?_
  | with_reducible refine sN_bk ?_
  | with_reducible refine sN_ct ?_
  | with_reducible refine sX_i ?_
  | with_reducible refine dQ_nx ?_
  | with_reducible refine dQ_rt ?_
  | with_reducible refine lQ_nx ?_
  | with_reducible refine lQ_ct ?_
  | with_reducible refine lQ_bk ?_
  | with_reducible refine lQ_rt ?_
  | with_reducible refine o_add ?_
  | with_reducible refine o_sub ?_
  | ((with_reducible refine o_mulL ?_ ?_); · omega)
  | ((with_reducible refine o_mulR ?_ ?_); · omega)
  | ((with_reducible refine o_mod ?_ ?_); · omega)
  | ((with_reducible refine o_div ?_ ?_ ?_); · omega
     · omega)
  | with_reducible refine c_lt ?_
  | with_reducible refine c_le ?_
  | with_reducible refine c_gt ?_
  | with_reducible refine c_ge ?_
  | with_reducible refine c_eqi ?_
  | with_reducible refine c_eqs ?_
  | with_reducible refine c_nei ?_
  | with_reducible refine t_bl ?_
  | with_reducible refine b_int ?_
  | with_reducible refine b_lenT ?_
  | with_reducible refine b_tupT ?_
  | with_reducible refine b_lstT ?_
  | ((with_reducible refine b_lenRi ?_); (refine ⟨_, by assumption, ?_⟩))
  | ((with_reducible refine x_refi ?_); (refine ⟨_, by assumption, ?_⟩); (refine ⟨_, rfl, ?_⟩))
  | (with_reducible refine u_ref ?_)
  | ((with_reducible refine sm_i ?_ ?_); · exact small_i (by omega) (by omega))
  | ((with_reducible refine rg2_i ?_ ?_); · exact rg2_small (by omega) (by omega) (by omega) (by omega))
  | with_reducible refine neg_i ?_
  | with_reducible refine is_non_tuple ?_
  | with_reducible refine is_non_bool ?_
  | with_reducible refine is_non_int ?_
  | with_reducible refine is_non_str ?_
  | with_reducible refine is_non_list ?_
  | with_reducible refine isn_non ?_
  | with_reducible refine isnn_non ?_
  | with_reducible refine is_bl_tuple ?_
  | with_reducible refine is_bl_bool ?_
  | with_reducible refine is_bl_int ?_
  | with_reducible refine is_bl_str ?_
  | with_reducible refine is_bl_list ?_
  | with_reducible refine isn_bl ?_
  | with_reducible refine isnn_bl ?_
  | with_reducible refine is_int_tuple ?_
  | with_reducible refine is_int_bool ?_
  | with_reducible refine is_int_int ?_
  | with_reducible refine is_int_str ?_
  | with_reducible refine is_int_list ?_
  | with_reducible refine isn_int ?_
  | with_reducible refine isnn_int ?_
  | with_reducible refine is_str_tuple ?_
  | with_reducible refine is_str_bool ?_
  | with_reducible refine is_str_int ?_
  | with_reducible refine is_str_str ?_
  | with_reducible refine is_str_list ?_
  | with_reducible refine isn_str ?_
  | with_reducible refine isnn_str ?_
  | with_reducible refine is_tup_tuple ?_
  | with_reducible refine is_tup_bool ?_
  | with_reducible refine is_tup_int ?_
  | with_reducible refine is_tup_str ?_
  | with_reducible refine is_tup_list ?_
  | with_reducible refine isn_tup ?_
  | with_reducible refine isnn_tup ?_
  | with_reducible refine is_kl_tuple ?_
  | with_reducible refine is_kl_bool ?_
  | with_reducible refine is_kl_int ?_
  | with_reducible refine is_kl_str ?_
  | with_reducible refine is_kl_list ?_
  | with_reducible refine isn_kl ?_
  | with_reducible refine isnn_kl ?_
  | with_reducible refine spA0 ?_
  | with_reducible refine spB0 ?_
  | with_reducible refine spA1 ?_
  | with_reducible refine spB1 ?_
  | with_reducible refine spA2 ?_
  | with_reducible refine spB2 ?_
  | with_reducible refine spA3 ?_
  | with_reducible refine spB3 ?_
  | with_reducible refine c_eqb ?_
  | with_reducible refine c_neb ?_
  | with_reducible refine c_nes ?_
  | with_reducible refine c_lts ?_
  | with_reducible refine c_les ?_
  | with_reducible refine b_abs ?_
  | ((with_reducible refine kspT ?_ ?_); · exact rfl)
  | ((with_reducible refine kspF ?_ ?_); · exact rfl)
  | ((with_reducible refine kspT2 ?_ ?_); · exact rfl)
  | ((with_reducible refine kspF2 ?_ ?_); · exact rfl)
    | with_reducible refine w_raise ?_
  | with_reducible refine sN_ex ?_
  | with_reducible refine dQ_ex ?_
  | with_reducible refine lQ_ex ?_
  )
theorem cutL_at {p r : List Nat} {n : Nat} {i j : Int} (hi : i = p.length) (hj : j = i + n) : cutL (p ++ r) (some i) (some j) = r.take n := by
  subst hj
  subst hi
  unfold cutL
  have e1 : HT.sIx (p ++ r).length 0 (some (p.length : Int)) = p.length := by
    rw [HT.sIx_nat, List.length_append]; omega
  have e2 : HT.sIx (p ++ r).length (p ++ r).length (some ((p.length : Int) + (n : Int))) = min (p.length + n) (p.length + r.length) := by
    rw [show ((p.length : Int) + (n : Int)) = ((p.length + n : Nat) : Int) by omega, HT.sIx_nat, List.length_append]
  rw [e1, e2, List.drop_left]
  by_cases h : n ≤ r.length
  · rw [show min (p.length + n) (p.length + r.length) - p.length = n by omega]
  · rw [show min (p.length + n) (p.length + r.length) - p.length = r.length by omega, List.take_length, List.take_of_length_le (by omega)]
theorem getD_stO {x : List Nat} {v : Nat} : (stO x).cps.getD v 0 = x.getD v 0 := by
  simp [stO, Array.getD, List.getD]
  by_cases h : v < x.length <;> simp [h]
theorem find_quote {p b r : List Nat} (hb : 39 ∉ b) : PySem.Txt.find3 (stO (p ++ (39 :: (b ++ 39 :: r)))) (stO [39]) ((p.length : Int) + 1) = ((p.length + 1 + b.length : Nat) : Int) := by
  have sp := StrLaws.find3_spec (stO (p ++ (39 :: (b ++ 39 :: r)))) 39 ((p.length : Int) + 1)
  have hlen : (stO (p ++ (39 :: (b ++ 39 :: r)))).length = p.length + 1 + b.length + 1 + r.length := by simp [stO, Str.length]; omega
  have hf : PySem.fromIndex (stO (p ++ (39 :: (b ++ 39 :: r)))).length ((p.length : Int) + 1) = p.length + 1 := by
    rw [hlen]
    unfold PySem.fromIndex
    omega
  have g : ∀ v, v ≤ b.length → (p ++ (39 :: (b ++ 39 :: r))).getD (p.length + 1 + v) 0 = (b ++ 39 :: r).getD v 0 := by
    intro v hv
    rw [List.getD_eq_getElem?_getD, List.getD_eq_getElem?_getD, List.getElem?_append_right (by omega), show p.length + 1 + v - p.length = v + 1 by omega, List.getElem?_cons_succ]
  have gb : (b ++ 39 :: r).getD b.length 0 = 39 := by simp [List.getD_eq_getElem?_getD]
  have gn : ∀ v, v < b.length → (b ++ 39 :: r).getD v 0 ≠ 39 := by
    intro v hv e
    rw [List.getD_eq_getElem?_getD, List.getElem?_append_left hv, List.getElem?_eq_getElem hv] at e
    exact hb (e ▸ List.getElem_mem hv)
  rw [hf, hlen] at sp
  rcases sp with ⟨_, h⟩ | ⟨k, h1, h2, h3, h4, h5⟩
  · exfalso
    refine h (p.length + 1 + b.length) (by omega) (by omega) ?_
    rw [getD_stO, g _ (Nat.le_refl _)]
    exact gb
  · refine h1.trans ?_
    rw [getD_stO] at h4
    have : k = p.length + 1 + b.length := by
      rcases Nat.lt_trichotomy k (p.length + 1 + b.length) with l | e | l
      · exfalso
        have z := g (k - (p.length + 1)) (by omega)
        rw [show p.length + 1 + (k - (p.length + 1)) = k by omega, h4] at z
        exact gn (k - (p.length + 1)) (by omega) z.symm
      · exact e
      · exfalso
        refine h5 (p.length + 1 + b.length) (by omega) l ?_
        rw [getD_stO, g _ (Nat.le_refl _)]
        exact gb
    rw [this]
theorem b_find {S : Sto} {a b : List Nat} {i : Int} {Q : D → Sto → Prop} {X : Xk} (q : Q (.int (PySem.Txt.find3 (stO a) (stO b) i)) S) : wO (bmD "find" (.str a) [.str b, .int i] S) Q X := q
theorem ty_lst {S : Sto} {n : Nat} {xs : List D} (h : S[n]? = some (.lst xs)) : tyD S (.ref n) = some (bmTy ("append" : Str)) := by
  show (match S[n]? with | some (.lst _) => some "list" | some (.fro _) => some "list" | some (.dct _) => some "dict" | _ => none) = _
  rw [h]; rfl
theorem b_app {S : Sto} {n : Nat} {xs : List D} {d : D} {Q : D → Sto → Prop} {X : Xk} (h : S[n]? = some (.lst xs)) (c : xs.length < sizeLine) (q : ∀ S', S'[n]? = some (.lst (xs ++ [d])) → Upd n S S' → Q .non S') : wO (bmD "append" (.ref n) [d] S) Q X := (m_app h c q).2
/-- the marks' own list of the text, at every step -/
theorem BigT.app {p r : List Nat} (h : BigT (p ++ r)) : p.length + r.length ≤ 1000000 := by rw [← List.length_append]; exact h
theorem at_last {α : Type} {xs : List α} {d : α} : atI (xs ++ [d]) (-1) = some d := by
  have hl : (xs ++ [d]).length = xs.length + 1 := by simp
  unfold atI ixN
  rw [hl, if_neg (by decide), if_pos (by omega)]
  show (xs ++ [d])[((-1 : Int) + ((xs.length + 1 : Nat) : Int)).toNat]? = some d
  rw [show ((-1 : Int) + ((xs.length + 1 : Nat) : Int)).toNat = xs.length by omega]
  simp
theorem one_ne {c d : Nat} (h : c ≠ d) : decide (([c] : List Nat) = [d]) = false := decide_eq_false fun z => h (by simpa using z)
theorem al_ne {c d : Nat} (h : isAl c) (hd : ¬ isAl d) : decide (([c] : List Nat) = [d]) = false := one_ne fun z => hd (z ▸ h)
theorem mark_not {c : Nat} (h : c ∈ markL) : ¬ isAl c := by
  have a : ∀ c ∈ markL, ¬ isAl c := by decide
  exact a c h
theorem mark_ne {c : Nat} (h : c ∈ markL) : c ≠ 32 ∧ c ≠ 39 := by
  have a : ∀ c ∈ markL, c ≠ 32 ∧ c ≠ 39 := by decide
  exact a c h
theorem ksp {c : Bool} {A B : Prop} (hc : c = false) (h : B) : (c = true → A) ∧ (c = false → B) := kspF hc h
theorem ksp2 {c : Bool} {A B : Prop} (hc : c = true) (h : A) : (c = true → A) ∧ (c = false → B) := kspT hc h

/-! ### a quoted text -/
def qLen : List Nat → Option Nat
  | [] => none
  | c :: r => if c = 39 then some 0 else (qLen r).map (· + 1)
theorem qLen_none : ∀ {r : List Nat}, qLen r = none → 39 ∉ r
  | [], _ => by simp
  | c :: r, h => by
    unfold qLen at h
    by_cases e : c = 39
    · rw [if_pos e] at h; cases h
    · rw [if_neg e] at h
      have h2 : qLen r = none := by simpa using h
      intro z
      rcases List.mem_cons.mp z with z | z
      · exact e z.symm
      · exact qLen_none h2 z
theorem qLen_some : ∀ {r : List Nat} {n : Nat}, qLen r = some n → ∃ b t, r = b ++ 39 :: t ∧ 39 ∉ b ∧ b.length = n
  | [], _, h => by cases h
  | c :: r, n, h => by
    unfold qLen at h
    by_cases e : c = 39
    · rw [if_pos e] at h
      cases h
      exact ⟨[], r, by rw [e]; rfl, by simp, rfl⟩
    · rw [if_neg e] at h
      obtain ⟨m, hm, rfl⟩ := Option.map_eq_some_iff.mp h
      obtain ⟨b, t, rfl, hb, rfl⟩ := qLen_some hm
      exact ⟨c :: b, t, rfl, by simp only [List.mem_cons, not_or]; exact ⟨fun z => e z.symm, hb⟩, rfl⟩
theorem find_none {p r : List Nat} (hr : 39 ∉ r) : PySem.Txt.find3 (stO (p ++ (39 :: r))) (stO [39]) ((p.length : Int) + 1) = -1 := by
  have sp := StrLaws.find3_spec (stO (p ++ (39 :: r))) 39 ((p.length : Int) + 1)
  have hlen : (stO (p ++ (39 :: r))).length = p.length + 1 + r.length := by simp [stO, Str.length]; omega
  have hf : PySem.fromIndex (stO (p ++ (39 :: r))).length ((p.length : Int) + 1) = p.length + 1 := by
    rw [hlen]
    unfold PySem.fromIndex
    omega
  rw [hf, hlen] at sp
  rcases sp with ⟨h, _⟩ | ⟨k, h1, h2, h3, h4, h5⟩
  · exact h
  · exfalso
    rw [getD_stO, List.getD_eq_getElem?_getD, List.getElem?_append_right (by omega)] at h4
    obtain ⟨v, rfl⟩ : ∃ v, k = p.length + (v + 1) := ⟨k - (p.length + 1), by omega⟩
    rw [show p.length + (v + 1) - p.length = v + 1 by omega, List.getElem?_cons_succ, List.getElem?_eq_getElem (by omega)] at h4
    exact hr (h4 ▸ List.getElem_mem _)
def quoteTok (r : List Nat) (a : Int) : Option (D × Nat) := match qLen r with
  | some n => if n ≤ 200 then some (tk textK (.str (r.take n)) a, n + 2) else none
  | none => none
theorem text_w {G : Pr} (T : TokG G) {k : Nat} {S : Sto} {p r : List Nat} {Q : D → Sto → Prop} {X : Xk} (hbg : BigT (p ++ (39 :: r))) (qo : ∀ b t, r = b ++ 39 :: t → b.length ≤ 200 → quoteTok r p.length = some (tk textK (.str b) p.length, b.length + 2) → Q (tk textK (.str b) p.length) S) (qx : quoteTok r p.length = none → X "SourceError" [("at", .int p.length)] S) :
    wO (callF G (k + 1) ("text_token" : Str) [.str (p ++ (39 :: r)), .int (p.length : Int)] S) Q X := by
  refine w_dfn T.text rfl ?_
  show wS (exs (pmOf G k) textFC [some (.str (p ++ (39 :: r))), some (.int (p.length : Int)), none] S) (dQ Q X)
  have hs : ((p.length : Nat) : Int).natAbs < 1152921504606846976 := by
    have := hbg.app
    omega
  unfold textFC
  walk_at "go"
  refine ⟨rfl, ?_⟩
  walk_at "go"
  refine b_find ?_
  cases hq : qLen r with
  | none =>
    rw [find_none (qLen_none hq)]
    walk_at "go"
    refine exc_at T.exc hs ?_
    walk_at "go"
    exact qx (by unfold quoteTok; rw [hq])
  | some n =>
    obtain ⟨b, t, rfl, hb, rfl⟩ := qLen_some hq
    rw [find_quote hb]
    walk_at "go"
    refine w_con (con_of T.mtext) ?_
    walk_at "go"
    refine ⟨fun h => ?_, fun h => ?_⟩
    · have h := of_decide_eq_true h
      walk_at "go"
      refine exc_at T.exc hs ?_
      walk_at "go"
      exact qx (by unfold quoteTok; rw [hq]; dsimp only; rw [if_neg (by omega)])
    · have h := of_decide_eq_false h
      walk_at "go"
      refine o_slS hbg.line ?_
      have e3 : cutL (p ++ (39 :: (b ++ 39 :: t))) (some ((p.length : Int) + 1)) (some (((p.length + 1 + b.length : Nat) : Int))) = b := by
        have z := cutL_at (p := p ++ [39]) (r := b ++ 39 :: t) (n := b.length) (i := (p.length : Int) + 1) (j := ((p.length + 1 + b.length : Nat) : Int)) (by simp) (by omega)
        rw [List.take_left, List.append_assoc] at z
        exact z
      rw [e3]
      walk_at "go"
      refine ⟨three_le, ?_⟩
      walk_at "go"
      exact qo b t rfl (by omega) (by unfold quoteTok; rw [hq]; dsimp only; rw [if_pos (by omega), List.take_left])
/-! ### one step -/
def pairsL : List (List Nat) := [[58, 61], [60, 61]]
def stepT (a : Nat) : List Nat → Option (List D × Nat)
  | [] => none
  | c :: r =>
    if c = 32 then some ([], 1)
    else if c = 39 then (quoteTok r a).map fun z => ([z.1], z.2)
    else if alB c = true then (runTok ((c :: r).takeWhile alB) a).map fun d => ([d], ((c :: r).takeWhile alB).length)
    else if (c :: r).take 2 ∈ pairsL then some ([tk markK (.str ((c :: r).take 2)) a], 2)
    else if c ∈ markL then some ([tk markK (.str [c]) a], 1)
    else none
theorem stepT_len {a : Nat} {r : List Nat} {ts : List D} {n : Nat} (h : stepT a r = some (ts, n)) : 1 ≤ n ∧ n ≤ r.length ∧ ts.length ≤ n := by
  cases r with
  | nil => cases h
  | cons c r =>
    unfold stepT at h
    dsimp only at h
    by_cases h1 : c = 32
    · rw [if_pos h1] at h; cases h; simp
    rw [if_neg h1] at h
    by_cases h2 : c = 39
    · rw [if_pos h2] at h
      obtain ⟨⟨d, m⟩, e, e2⟩ := Option.map_eq_some_iff.mp h
      unfold quoteTok at e
      cases hq : qLen r with
      | none => rw [hq] at e; cases e
      | some q =>
        rw [hq] at e
        dsimp only at e
        by_cases l : q ≤ 200
        · rw [if_pos l] at e
          cases e
          cases e2
          obtain ⟨b, t, rfl, hb, rfl⟩ := qLen_some hq
          simp <;> omega
        · rw [if_neg l] at e; cases e
    rw [if_neg h2] at h
    by_cases h3 : alB c = true
    · rw [if_pos h3] at h
      obtain ⟨d, e, e2⟩ := Option.map_eq_some_iff.mp h
      cases e2
      have l1 : ((c :: r).takeWhile alB).length = (r.takeWhile alB).length + 1 := by rw [List.takeWhile_cons_of_pos h3]; rfl
      have l2 : (r.takeWhile alB).length ≤ r.length := (List.takeWhile_prefix _).length_le
      simp only [l1, List.length_cons]
      exact ⟨by omega, by omega, by simp⟩
    rw [if_neg h3] at h
    by_cases h4 : (c :: r).take 2 ∈ pairsL
    · rw [if_pos h4] at h
      cases h
      refine ⟨by omega, ?_, by simp⟩
      cases r with
      | nil => exact absurd h4 (by simp [pairsL])
      | cons d r => simp
    rw [if_neg h4] at h
    by_cases h5 : c ∈ markL
    · rw [if_pos h5] at h; cases h; simp
    · rw [if_neg h5] at h; cases h
theorem mem_tw {f : Nat → Bool} {c : Nat} : ∀ {l : List Nat}, c ∈ l.takeWhile f → f c = true
  | [], h => by cases h
  | d :: l, h => by
    by_cases e : f d = true
    · rw [List.takeWhile_cons_of_pos e] at h
      rcases List.mem_cons.mp h with rfl | h
      · exact e
      · exact mem_tw h
    · rw [List.takeWhile_cons_of_neg e] at h
      cases h
theorem tokB_w {G : Pr} (T : TokG G) {k f : Nat} {S : Sto} {x : List Nat} {p r : List Nat} {done : List D} {o3 o4 : Option D} {R : Fl → Lo → Sto → Prop} (hx : BigT x) (ex : x = p ++ r) (hr : 0 < r.length) (g : S[f]? = some (.lst done)) (hd : done.length ≤ p.length)
    (qo : ∀ ts n o3 o4 S', stepT p.length r = some (ts, n) → S'[f]? = some (.lst (done ++ ts)) → Upd f S S' → R .nx [some (.str x), some (.ref f), some (.int ((p.length + n : Nat) : Int)), o3, o4] S')
    (qx : ∀ L, stepT p.length r = none → R (.exc "SourceError" [("at", .int p.length)]) L S) : wS (exs (pmOf G (k + 3)) tokB [some (.str x), some (.ref f), some (.int (p.length : Int)), o3, o4] S) R := by
  subst ex
  have hb := hx.app
  have hs : ((p.length : Nat) : Int).natAbs < 1152921504606846976 := by omega
  have dl : done.length < sizeLine := Nat.lt_of_le_of_lt (Nat.le_trans hd (show p.length ≤ 1000000 by omega)) (by decide)
  cases r with
  | nil => exact absurd hr (Nat.lt_irrefl _)
  | cons c r =>
  have at0 : atI (p ++ c :: r) (p.length : Int) = some c := at_nat rfl (by simp)
  have slice2 : cutL (p ++ c :: r) (some (p.length : Int)) (some ((p.length : Int) + 2)) = (c :: r).take 2 := cutL_at rfl rfl
  unfold stepT at qo qx
  dsimp only at qo qx
  unfold tokB
  walk_at "go"
  refine x_str hx.line at0 ?_
  walk_at "go"
  refine ⟨fun h => ?_, fun h => ?_⟩
  · have h : c = 32 := by simpa using h
    rw [if_pos h] at qo
    walk_at "go"
    refine w_aug (x := .int (p.length : Int)) rfl ?_
    walk_at "go"
    refine ⟨_, rfl, ?_⟩
    walk_at "go"
    exact qo [] 1 _ _ _ rfl (by rw [List.append_nil]; exact g) (Upd.refl _ _)
  have h32 : ¬ c = 32 := by simpa using h
  rw [if_neg h32] at qo qx
  walk_at "go"
  refine ⟨fun h => ?_, fun h => ?_⟩
  · have h : c = 39 := by simpa using h
    subst h
    rw [if_pos rfl] at qo qx
    walk_at "go"
    refine ⟨ty_lst g, ?_⟩
    walk_at "go"
    refine text_w (k := k + 2) T hx (fun b t et hl eq => ?_) (fun eq => ?_)
    · rw [eq] at qo
      walk_at "go"
      refine b_app g dl fun S2 g2 U2 => ?_
      walk_at "go"
      refine w_aug (x := .int (p.length : Int)) rfl ?_
      walk_at "go"
      refine x_ref g2 (d := tk textK (.str b) p.length) ?_ ?_
      · exact at_last
      walk_at "go"
      refine x_tup (d := .str b) rfl ?_
      walk_at "go"
      refine b_lenS (Nat.le_trans hl (by decide)) ?_
      walk_at "go"
      refine ⟨_, rfl, ?_⟩
      walk_at "go"
      have z := qo _ _ o3 o4 S2 rfl g2 U2
      exact qo _ _ _ _ S2 rfl g2 U2
    · rw [eq] at qx
      walk_at "go"
      exact qx _ rfl
  have h39 : ¬ c = 39 := by simpa using h
  rw [if_neg h39] at qo qx
  walk_at "go"
  refine alT_w T (c := c) (fun q => ?_) fun b2 hb2 => ?_
  · walk_at "go"
    exact q
  refine ⟨fun h => ?_, fun h => ?_⟩
  · have hc : isAl c := hb2.mp h
    have e3 : alB c = true := decide_eq_true hc
    rw [if_pos e3] at qo qx
    have tw : (c :: r).takeWhile alB = c :: r.takeWhile alB := List.takeWhile_cons_of_pos e3
    have sp : c :: r = (c :: r).takeWhile alB ++ (c :: r).dropWhile alB := (List.takeWhile_append_dropWhile).symm
    walk_at "go"
    have hx2 : BigT (p ++ ((c :: r).takeWhile alB ++ (c :: r).dropWhile alB)) := by rw [← sp]; exact hx
    have re : ∀ {Q : D → Sto → Prop} {X : Xk}, Q (.int ((p.length + ((c :: r).takeWhile alB).length : Nat) : Int)) S → wO (callF G (k + 3) ("run_end" : Str) [.str (p ++ c :: r), .int (p.length : Int)] S) Q X := by
      intro Q X q
      have z := run_end_w (k := k + 2) T (S := S) (Q := Q) (X := X) hx2 (fun c hc => of_decide_eq_true (mem_tw hc)) (fun d hd => ?_) q
      · rw [← sp] at z
        exact z
      · intro z
        have := List.head?_dropWhile_not alB (c :: r)
        rw [hd] at this
        exact absurd (decide_eq_true z) (by simpa [alB] using this)
    refine re ?_
    walk_at "go"
    refine ⟨ty_lst g, ?_⟩
    walk_at "go"
    refine o_slS hx.line ?_
    have e4 : cutL (p ++ c :: r) (some (p.length : Int)) (some ((p.length + ((c :: r).takeWhile alB).length : Nat) : Int)) = (c :: r).takeWhile alB := by
      rw [cutL_at (n := ((c :: r).takeWhile alB).length) rfl (by omega)]
      exact (List.prefix_iff_eq_take.mp (List.takeWhile_prefix _)).symm
    rw [e4]
    walk_at "go"
    have hl2 : (r.takeWhile alB).length ≤ r.length := (List.takeWhile_prefix _).length_le
    have bw : BigT (c :: r.takeWhile alB) := by
      show (r.takeWhile alB).length + 1 ≤ 1000000
      have : (c :: r).length = r.length + 1 := rfl
      omega
    rw [tw] at qo qx ⊢
    refine run_w (k := k + 1) T bw hs (fun d e => ?_) (fun e => ?_)
    · rw [e] at qo
      walk_at "go"
      refine b_app g dl fun S2 g2 U2 => ?_
      walk_at "go"
      exact qo _ _ _ _ S2 rfl g2 U2
    · rw [e] at qx
      walk_at "go"
      exact qx _ rfl
  have hc : ¬ isAl c := fun z => by rw [hb2.mpr z] at h; cases h
  rw [if_neg (show ¬ alB c = true from fun z => hc (of_decide_eq_true z))] at qo qx
  walk_at "go"
  refine o_slS hx.line ?_
  rw [slice2]
  refine w_con (con_of T.pairs) ?_
  refine c_inT ?_
  walk_at "go"
  refine ⟨fun h => ?_, fun h => ?_⟩
  · have h : (c :: r).take 2 ∈ pairsL := of_decide_eq_true h
    rw [if_pos h] at qo
    walk_at "go"
    refine ⟨ty_lst g, ?_⟩
    walk_at "go"
    refine o_slS hx.line ?_
    rw [slice2]
    walk_at "go"
    refine ⟨three_le, ?_⟩
    walk_at "go"
    refine b_app g dl fun S2 g2 U2 => ?_
    walk_at "go"
    refine w_aug (x := .int (p.length : Int)) rfl ?_
    walk_at "go"
    refine ⟨_, rfl, ?_⟩
    walk_at "go"
    exact qo _ 2 _ _ S2 rfl g2 U2
  have h : ¬ (c :: r).take 2 ∈ pairsL := of_decide_eq_false h
  rw [if_neg h] at qo qx
  walk_at "go"
  refine w_con (con_of T.marks) ?_
  refine c_in1 ?_
  walk_at "go"
  refine ⟨fun h => ?_, fun h => ?_⟩
  · rw [if_pos (of_decide_eq_true h)] at qo
    walk_at "go"
    refine ⟨ty_lst g, ?_⟩
    walk_at "go"
    refine ⟨three_le, ?_⟩
    walk_at "go"
    refine b_app g dl fun S2 g2 U2 => ?_
    walk_at "go"
    refine w_aug (x := .int (p.length : Int)) rfl ?_
    walk_at "go"
    refine ⟨_, rfl, ?_⟩
    walk_at "go"
    exact qo _ 1 _ _ S2 rfl g2 U2
  · rw [if_neg (of_decide_eq_false h)] at qx
    walk_at "go"
    refine exc_at T.exc hs ?_
    walk_at "go"
    exact qx _ rfl
def tokF : Nat → Nat → List Nat → List D × Option Nat
  | 0, _, _ => ([], none)
  | _ + 1, _, [] => ([], none)
  | n + 1, a, c :: r => match stepT a (c :: r) with
    | none => ([], some a)
    | some (ts, k) => (ts ++ (tokF n (a + k) ((c :: r).drop k)).1, (tokF n (a + k) ((c :: r).drop k)).2)
theorem tokL_w {G : Pr} (T : TokG G) {k f : Nat} {x : List Nat} {S0 : Sto} {R : Fl → Lo → Sto → Prop} (hx : BigT x) (hf : S0.length ≤ f) :
    ∀ (n : Nat) (p r : List Nat) (done : List D) (o3 o4 : Option D) (S : Sto), r.length ≤ n → x = p ++ r → S[f]? = some (.lst done) → done.length ≤ p.length → (∀ m, Keep m S0 S) →
    (∀ ts L S', tokF n p.length r = (ts, none) → L[1]? = some (some (.ref f)) → S'[f]? = some (.lst (done ++ ts)) → (∀ m, Keep m S0 S') → R .nx L S') →
    (∀ ts q L S', tokF n p.length r = (ts, some q) → q ≤ x.length → (∀ m, Keep m S0 S') → R (.exc "SourceError" [("at", .int (q : Int))]) L S') →
    wS (ex (pmOf G (k + 3)) (.whl (.of (.cmp .Lt (.var 2) (.bi "len" (.cons (.var 0) .nil)))) tokB) [some (.str x), some (.ref f), some (.int (p.length : Int)), o3, o4] S) R := by
  intro n
  induction n with
  | zero =>
    intro p r done o3 o4 S hn ex g hd K qo qx
    have er : r = [] := List.length_eq_zero_iff.mp (Nat.le_zero.mp hn)
    subst er
    have hl : x.length = p.length := by rw [ex]; simp
    refine w_whl1 ?_
    walk_at "go"
    refine b_lenS hx.line ?_
    walk_at "go"
    refine ksp (decide_eq_false (by omega)) ?_
    exact qo [] _ _ rfl rfl (by rw [List.append_nil]; exact g) K
  | succ n ih =>
    intro p r done o3 o4 S hn ex g hd K qo qx
    have hl : x.length = p.length + r.length := by rw [ex]; simp
    refine w_whl1 ?_
    walk_at "go"
    refine b_lenS hx.line ?_
    walk_at "go"
    cases r with
    | nil =>
      refine ksp (decide_eq_false (by simp at hl; omega)) ?_
      exact qo [] _ _ rfl rfl (by rw [List.append_nil]; exact g) K
    | cons c r =>
      refine ksp2 (decide_eq_true (by simp at hl; omega)) ?_
      refine tokB_w T hx ex (by simp) g hd (fun ts m o3 o4 S' e g' U => ?_) (fun L e => ?_)
      · obtain ⟨m1, m2, m3⟩ := stepT_len e
        unfold tokF at qo qx
        rw [e] at qo qx
        dsimp only at qo qx
        refine lQ_nx ?_
        have pl : (p ++ (c :: r).take m).length = p.length + m := by rw [List.length_append, List.length_take]; omega
        have dlen : ((c :: r).drop m).length = (c :: r).length - m := List.length_drop
        have z := ih (p ++ (c :: r).take m) ((c :: r).drop m) (done ++ ts) o3 o4 S' (by rw [dlen]; simp at hn ⊢; omega) (by rw [ex, List.append_assoc, List.take_append_drop]) g' (by rw [List.length_append, pl]; omega) (fun q => (K q).upd U hf)
        rw [pl] at z
        refine z (fun ts2 L S2 e2 e3 e4 e5 => ?_) (fun ts2 q L S2 e2 e3 e4 => ?_)
        · refine qo (ts ++ ts2) L S2 ?_ e3 (by rw [← List.append_assoc]; exact e4) e5
          rw [e2]
        · refine qx (ts ++ ts2) q L S2 ?_ e3 e4
          rw [e2]
      · unfold tokF at qx
        rw [e] at qx
        refine lQ_ex ?_
        exact qx [] p.length L S rfl (by omega) K
/-- the tokens of any text, or the place of its first wrong token -/
abbrev tokA (x : List Nat) : List D × Option Nat := tokF x.length 0 x
theorem tokenize_w {G : Pr} (T : TokG G) {k : Nat} {S : Sto} {x : List Nat} {Q : D → Sto → Prop} {X : Xk} (hx : BigT x)
    (qo : ∀ ts f S', tokA x = (ts, none) → S.length ≤ f → S'[f]? = some (.lst ts) → (∀ n, Keep n S S') → Q (.ref f) S')
    (qx : ∀ ts p S', tokA x = (ts, some p) → p ≤ x.length → (∀ n, Keep n S S') → X "SourceError" [("at", .int (p : Int))] S') : wO (callF G (k + 4) ("tokenize" : Str) [.str x] S) Q X := by
  refine w_dfn T.tokenize rfl ?_
  show wS (exs (pmOf G (k + 3)) tokenizeC [some (.str x), none, none, none, none] S) (dQ Q X)
  unfold tokenizeC
  walk_at "go"
  refine ⟨by decide, ?_⟩
  walk_at "go"
  refine tokL_w T hx (f := S.length) (S0 := S) (Nat.le_refl _) x.length [] x [] none none _ (Nat.le_refl _) rfl get_new (Nat.le_refl _) (fun n => Keep.new _) (fun ts L S' e e2 g K => ?_) (fun ts q L S' e h K => ?_)
  · walk_at "go"
    refine w_vari ⟨_, e2, ?_⟩
    walk_at "go"
    exact qo ts _ S' e (Nat.le_refl _) g K
  · walk_at "go"
    exact qx ts q S' e h K
end Dy

namespace Dy
open PySem PySem.Spec PyProof.Rows L2
theorem b_strI {S : Sto} {n : Nat} {Q : D → Sto → Prop} {X : Xk} (h : n ≤ 2000000000) (q : Q (.str (TL.numL n)) S) : wO (biD "str" [.int n] S) Q X := by
  have e : biD "str" [.int (n : Int)] S = if (n : Int).natAbs.log2 < 1920 then some (.val (.str (Str.ofString (toString (n : Int))).cps.toList), S) else none := rfl
  have l : (n : Int).natAbs.log2 < 1920 := by
    rw [Int.natAbs_natCast]
    have z : n.log2 ≤ n := Nat.log2_le_self n
    by_cases h0 : n = 0
    · subst h0; decide
    · exact Nat.lt_of_lt_of_le ((Nat.log2_lt h0).mpr (show n < 2 ^ 31 by omega)) (by decide)
  rw [e, if_pos l, num_stO n]
  exact q
/-- a token as data -/
def TkS (d : D) : Prop := ∃ k v a, d = tk k v a ∧ NS 10 k ∧ ((∃ x, v = .str x ∧ NS 300 x) ∨ ∃ i, v = .int i)
def pyTk : D → PyData
  | .tup [.str k, .str x, .int a] => .tuple [.str (stO k), .str (stO x), .int a]
  | .tup [.str k, .int i, .int a] => .tuple [.str (stO k), .int i, .int a]
  | _ => .none
theorem pyDs_tk (S : Sto) : ∀ (ds : List D) (n : Nat), ds.length + 20 ≤ n → (∀ d ∈ ds, TkS d) → pyDs n S ds = some (ds.map pyTk)
  | [], n + 1, _, _ => rfl
  | d :: ds, n + 1, h, hd => by
    have h2 : ds.length + 20 ≤ n := by simp at h; omega
    show (match pyD n S d, pyDs n S ds with | some p, some ps => some (p :: ps) | _, _ => none) = _
    rw [pyDs_tk S ds n h2 fun z hz => hd z (List.mem_cons_of_mem _ hz)]
    obtain ⟨m, rfl⟩ : ∃ m, n = m + 10 := ⟨n - 10, by omega⟩
    obtain ⟨k, v, a, rfl, -, hv⟩ := hd d List.mem_cons_self
    rcases hv with ⟨x, rfl, -⟩ | ⟨i, rfl⟩ <;> rfl
theorem lay_tk : ∀ {ds : List D}, (∀ d ∈ ds, TkS d) → PyData.canLayAll0 (ds.map pyTk) = true ∧ PyData.depthAll (ds.map pyTk) ≤ 1
  | [], _ => ⟨by simp [PyData.canLayAll0], by simp [PyData.depthAll]⟩
  | d :: ds, h => by
    obtain ⟨a, b⟩ := lay_tk (ds := ds) fun z hz => h z (List.mem_cons_of_mem _ hz)
    obtain ⟨k, v, at', rfl, hk, hv⟩ := h d List.mem_cons_self
    have s1 := strOk_NS hk
    rcases hv with ⟨x, rfl, hx⟩ | ⟨i, rfl⟩
    · have s2 := strOk_NS hx
      refine ⟨?_, ?_⟩
      · show PyData.canLayAll0 (PyData.tuple [.str (stO k), .str (stO x), .int at'] :: ds.map pyTk) = true
        simp only [PyData.canLayAll0, PyData.canLay0, s1, s2, a, Bool.and_self]
      · show PyData.depthAll (PyData.tuple [.str (stO k), .str (stO x), .int at'] :: ds.map pyTk) ≤ 1
        simp only [PyData.depthAll, PyData.depth]
        omega
    · refine ⟨?_, ?_⟩
      · show PyData.canLayAll0 (PyData.tuple [.str (stO k), .int i, .int at'] :: ds.map pyTk) = true
        simp only [PyData.canLayAll0, PyData.canLay0, s1, a, Bool.and_self]
      · show PyData.depthAll (PyData.tuple [.str (stO k), .int i, .int at'] :: ds.map pyTk) ≤ 1
        simp only [PyData.depthAll, PyData.depth]
        omega
theorem eq_tk0 {S : Sto} {f g : Nat} {ds : List D} (hf : S[f]? = some (.lst ds)) (hg : S[g]? = some (.lst ds)) (hl : ds.length ≤ 4000) (hd : ∀ d ∈ ds, TkS d) : eqD S (.ref f) (.ref g) = some true := by
  have py : ∀ i, S[i]? = some (.lst ds) → pyD 5000 S (.ref i) = some (.list (ds.map pyTk)) := fun i hi => by
    show (match S[i]? with | some (.lst xs) => (pyDs 4999 S xs).map PyData.list | some (.fro xs) => (pyDs 4999 S xs).map PyData.list | _ => none) = _
    rw [hi]
    show (pyDs 4999 S ds).map _ = _
    rw [pyDs_tk S ds 4999 (by omega) hd]; rfl
  obtain ⟨c1, c2⟩ := lay_tk hd
  have sh : SeqAt.shaped (.list (ds.map pyTk)) = true := by
    unfold SeqAt.shaped
    rw [show PyData.canLay0 (.list (ds.map pyTk)) = true by simp only [PyData.canLay0]; exact c1]
    exact decide_eq_true (by simp only [PyData.depth]; omega)
  unfold eqD
  show (match pyD 5000 S (.ref f), pyD 5000 S (.ref g) with | some p, some q => if SeqAt.shaped p = true ∧ SeqAt.shaped q = true then some (p.eqv q) else none | _, _ => none) = some true
  rw [py f hf, py g hg]
  show (if _ then _ else _) = some true
  rw [if_pos ⟨sh, sh⟩, SeqAt.eqv_refl _ (SeqAt.canLay_of_shaped sh)]

abbrev Kp (S S' : Sto) : Prop := ∀ m, Keep m S S'
theorem Kp.refl (S : Sto) : Kp S S := fun m => Keep.refl m S
theorem Kp.trans {S S1 S2 : Sto} (a : Kp S S1) (b : Kp S1 S2) : Kp S S2 := fun m => (a m).trans (b m)
theorem Kp.get {S S' : Sto} {i : Nat} {o : O} (k : Kp S S') (h : S[i]? = some o) : S'[i]? = some o := (k (i + 1)).get h (by omega)
theorem Kp.new {S : Sto} (T : Sto) : Kp S (S ++ T) := fun m => Keep.new T
theorem Kp.upd {f : Nat} {S S1 S2 : Sto} (a : Kp S S1) (u : Upd f S1 S2) (hf : S.length ≤ f) : Kp S S2 := fun m => (a m).upd u hf
theorem Kp.len {S S' : Sto} (k : Kp S S') : S.length ≤ S'.length := (k 0).1
/-- a comprehension whose parts change nothing that was there: filterMap -/
theorem w_lcK {P : Pm} {L : Lo} {S : Sto} {X : Xk} {Q : D → Sto → Prop} {elt : E} {g : Tg} {it : Ie} {ifs : To} {own : List Nat} (items : List D) (f : D → Option D) (hl : items.length ≤ 1000000)
    (h : wO (evi P it L S) (fun w S1 => (∀ i S', Kp S1 S' → w.at S' i = some items[i]?) ∧ (∀ (i : Nat) d S', items[i]? = some d → Kp S1 S' → wA (asg P g d (wipeL L own) S') fun L2 S2 => wO (tsts P ifs L2 S2) (fun c S3 => Kp S' S3 ∧ (c = false → f d = none) ∧ (c = true → wO (ev P elt L2 S3) (fun y S4 => Kp S' S4 ∧ f d = some y) fun _ _ _ => False)) fun _ _ _ => False) ∧
      ∀ S', Kp S1 S' → S'[S1.length]? = some (.lst (items.filterMap f)) → Q (.ref S1.length) S') X) : wO (ev P (.lc elt g it ifs own) L S) Q X := by
  refine w_lc (wO_imp h (fun w S1 ⟨h1, h2, h3⟩ => ?_) fun _ _ _ h => h)
  refine ⟨items.length, fun i S' => Kp S1 S' ∧ S'[S1.length]? = some (.lst ((items.take i).filterMap f)), ⟨Kp.new _, get_new⟩, fun S' ⟨K, gg⟩ => ⟨?_, ?_⟩, fun i S' hi ⟨K, gg⟩ => ⟨items[i], ?_, ?_⟩⟩
  · rw [h1 _ _ K, List.getElem?_eq_none (Nat.le_refl _)]
  · rw [List.take_length] at gg
    exact h3 S' K gg
  · rw [h1 _ _ K, List.getElem?_eq_getElem hi]
  · have z := h2 i items[i] S' (List.getElem?_eq_getElem hi) K
    have tk : (items.take (i + 1)).filterMap f = (items.take i).filterMap f ++ (match f items[i] with | some y => [y] | none => []) := by
      rw [List.take_succ, List.getElem?_eq_getElem hi, List.filterMap_append]
      congr 1
      show List.filterMap f [items[i]] = _
      cases e : f items[i] <;> simp [List.filterMap, e]
    have nl : ((items.take i).filterMap f).length ≤ items.length := Nat.le_trans (List.length_filterMap_le _ _) (by rw [List.length_take]; omega)
    have imp : ∀ L2 S2, wO (tsts P ifs L2 S2) (fun c S3 => Kp S' S3 ∧ (c = false → f items[i] = none) ∧ (c = true → wO (ev P elt L2 S3) (fun y S4 => Kp S' S4 ∧ f items[i] = some y) fun _ _ _ => False)) (fun _ _ _ => False) → wO (tsts P ifs L2 S2) (fun c S3 => (c = false → Kp S1 S3 ∧ S3[S1.length]? = some (.lst ((items.take (i + 1)).filterMap f))) ∧ (c = true → wO (ev P elt L2 S3) (fun y S4 => ∃ acc, S4[S1.length]? = some (.lst acc) ∧ acc.length < sizeLine ∧ (Kp S1 (S4.set S1.length (.lst (acc ++ [y]))) ∧ (S4.set S1.length (.lst (acc ++ [y])))[S1.length]? = some (.lst ((items.take (i + 1)).filterMap f)))) fun _ _ _ => False)) fun _ _ _ => False := by
      intro L2 S2 z
      refine wO_imp z (fun c S3 ⟨k3, z1, z2⟩ => ⟨fun e => ?_, fun e => ?_⟩) fun _ _ _ h => h
      · rw [tk, z1 e, List.append_nil]
        exact ⟨K.trans k3, k3.get gg⟩
      · refine wO_imp (z2 e) (fun y S4 ⟨k4, e4⟩ => ?_) fun _ _ _ h => h
        have g4 := k4.get gg
        refine ⟨_, g4, Nat.lt_of_le_of_lt (Nat.le_trans nl hl) (by decide), (K.trans k4).upd (Upd.of _ _) (Nat.le_refl _), ?_⟩
        rw [tk, e4, List.getElem?_set_self (getE_lt g4)]
    cases q : asg P g items[i] (wipeL L own) S' with
    | none => rw [q] at z; exact z.elim
    | some y =>
      obtain ⟨L2, S2⟩ := y
      rw [q] at z
      exact imp L2 S2 z
theorem x_t0 {S : Sto} {a : D} {r : List D} {Q : D → Prop} (q : Q a) : ∃ d, ixD (.tup (a :: r)) (.int 0) S = some d ∧ Q d := x_tup (at_nat (j := 0) rfl rfl) q
theorem x_t1 {S : Sto} {a b : D} {r : List D} {Q : D → Prop} (q : Q b) : ∃ d, ixD (.tup (a :: b :: r)) (.int 1) S = some d ∧ Q d := x_tup (at_nat (j := 1) rfl rfl) q
theorem x_t2 {S : Sto} {a b c : D} {r : List D} {Q : D → Prop} (q : Q c) : ∃ d, ixD (.tup (a :: b :: c :: r)) (.int 2) S = some d ∧ Q d := x_tup (at_nat (j := 2) rfl rfl) q
theorem x_t3 {S : Sto} {a b c e : D} {r : List D} {Q : D → Prop} (q : Q e) : ∃ d, ixD (.tup (a :: b :: c :: e :: r)) (.int 3) S = some d ∧ Q d := x_tup (at_nat (j := 3) rfl rfl) q
theorem x_t4 {S : Sto} {a b c e f : D} {r : List D} {Q : D → Prop} (q : Q f) : ∃ d, ixD (.tup (a :: b :: c :: e :: f :: r)) (.int 4) S = some d ∧ Q d := x_tup (at_nat (j := 4) rfl rfl) q
theorem tQ_ex {P : Pm} {y : Str} {i : Option Nat} {h : HCs} {R : Fl → Lo → Sto → Prop} {c : Str} {fs : List (Str × D)} {L : Lo} {S : Sto} (q : wS (tryH P y i h c fs L S) R) : tQ P y i h R (.exc c fs) L S := q
theorem tQ_rt {P : Pm} {y : Str} {i : Option Nat} {h : HCs} {R : Fl → Lo → Sto → Prop} {d : D} {L : Lo} {S : Sto} (q : R (.rt d) L S) : tQ P y i h R (.rt d) L S := q
theorem tQ_nx {P : Pm} {y : Str} {i : Option Nat} {h : HCs} {R : Fl → Lo → Sto → Prop} {L : Lo} {S : Sto} (q : R .nx L S) : tQ P y i h R .nx L S := q
theorem NS_num {n : Nat} (h : n < 10000000000) : NS 10 (TL.numL n) := ⟨TL.numL_len (k := 10) (by decide) h, fun c hc => by have := TL.numL_digits n c hc; omega⟩
/-! ### tokens told -/
theorem runTok_ok {w : List Nat} {a : Int} {d : D} (h : runTok w a = some d) (hw : ∀ c ∈ w, c < 256) : TkS d := by
  unfold runTok at h
  cases w with
  | nil => cases h
  | cons c w =>
    dsimp only at h
    by_cases e1 : digB c = true
    · rw [if_pos e1] at h
      by_cases e2 : numOkB (c :: w) = true
      · rw [if_pos e2] at h
        cases h
        exact ⟨_, _, _, rfl, ⟨by decide, by decide⟩, .inr ⟨_, rfl⟩⟩
      · rw [if_neg e2] at h; cases h
    · rw [if_neg e1] at h
      by_cases e2 : (c :: w).length ≤ 20
      · rw [if_pos e2] at h
        cases h
        refine ⟨_, _, _, rfl, ?_, .inl ⟨_, rfl, ⟨by omega, hw⟩⟩⟩
        unfold runK
        split
        · exact ⟨by decide, by decide⟩
        · split <;> exact ⟨by decide, by decide⟩
      · rw [if_neg e2] at h; cases h
theorem stepT_ok {a : Nat} {r : List Nat} {ts : List D} {n : Nat} (h : stepT a r = some (ts, n)) (hr : ∀ c ∈ r, c < 256) : ∀ d ∈ ts, TkS d := by
  cases r with
  | nil => cases h
  | cons c r =>
    unfold stepT at h
    dsimp only at h
    by_cases h1 : c = 32
    · rw [if_pos h1] at h; cases h; intro d hd; cases hd
    rw [if_neg h1] at h
    by_cases h2 : c = 39
    · rw [if_pos h2] at h
      obtain ⟨⟨d, m⟩, e, e2⟩ := Option.map_eq_some_iff.mp h
      cases e2
      intro d' hd'
      rw [List.mem_singleton.mp hd']
      unfold quoteTok at e
      cases hq : qLen r with
      | none => rw [hq] at e; cases e
      | some q =>
        rw [hq] at e
        dsimp only at e
        by_cases l : q ≤ 200
        · rw [if_pos l] at e
          cases e
          refine ⟨_, _, _, rfl, ⟨by decide, by decide⟩, .inl ⟨_, rfl, ⟨by rw [List.length_take]; omega, fun c hc => hr c (List.mem_cons_of_mem _ (List.mem_of_mem_take hc))⟩⟩⟩
        · rw [if_neg l] at e; cases e
    rw [if_neg h2] at h
    by_cases h3 : alB c = true
    · rw [if_pos h3] at h
      obtain ⟨d, e, e2⟩ := Option.map_eq_some_iff.mp h
      cases e2
      intro d' hd'
      rw [List.mem_singleton.mp hd']
      exact runTok_ok e fun x hx => hr x ((List.takeWhile_sublist _).subset hx)
    rw [if_neg h3] at h
    by_cases h4 : (c :: r).take 2 ∈ pairsL
    · rw [if_pos h4] at h
      cases h
      intro d' hd'
      rw [List.mem_singleton.mp hd']
      exact ⟨_, _, _, rfl, ⟨by decide, by decide⟩, .inl ⟨_, rfl, ⟨by rw [List.length_take]; omega, fun c hc => hr c (List.mem_of_mem_take hc)⟩⟩⟩
    rw [if_neg h4] at h
    by_cases h5 : c ∈ markL
    · rw [if_pos h5] at h
      cases h
      intro d' hd'
      rw [List.mem_singleton.mp hd']
      exact ⟨_, _, _, rfl, ⟨by decide, by decide⟩, .inl ⟨_, rfl, ⟨by simp, fun d hd => by rw [List.mem_singleton.mp hd]; exact hr c List.mem_cons_self⟩⟩⟩
    · rw [if_neg h5] at h; cases h
theorem tokF_ok : ∀ (n a : Nat) (r : List Nat), (∀ c ∈ r, c < 256) → ∀ d ∈ (tokF n a r).1, TkS d
  | 0, _, _, _, d, hd => by cases hd
  | _ + 1, _, [], _, d, hd => by cases hd
  | n + 1, a, c :: r, hr, d, hd => by
    unfold tokF at hd
    cases e : stepT a (c :: r) with
    | none => rw [e] at hd; cases hd
    | some z =>
      obtain ⟨ts, k⟩ := z
      rw [e] at hd
      dsimp only at hd
      rcases List.mem_append.mp hd with h | h
      · exact stepT_ok e hr d h
      · exact tokF_ok n _ _ (fun c hc => hr c (List.mem_of_mem_drop hc)) d h
theorem tokF_len : ∀ (n a : Nat) (r : List Nat), (tokF n a r).1.length ≤ r.length
  | 0, _, _ => Nat.zero_le _
  | _ + 1, _, [] => Nat.zero_le _
  | n + 1, a, c :: r => by
    unfold tokF
    cases e : stepT a (c :: r) with
    | none => exact Nat.zero_le _
    | some z =>
      obtain ⟨ts, k⟩ := z
      obtain ⟨h1, h2, h3⟩ := stepT_len e
      have := tokF_len n (a + k) ((c :: r).drop k)
      dsimp only
      rw [List.length_append]
      rw [List.length_drop] at this
      omega
/-- a text and a list of tokens, twice -/
theorem eq_told {S : Sto} {f g : Nat} {x : List Nat} {ds : List D} (hx : NS 10 x) (hf : S[f]? = some (.lst ds)) (hg : S[g]? = some (.lst ds)) (hl : ds.length ≤ 4000) (hd : ∀ d ∈ ds, TkS d) : eqD S (.tup [.str x, .ref f]) (.tup [.str x, .ref g]) = some true := by
  have py : ∀ i, S[i]? = some (.lst ds) → pyD 5000 S (.tup [.str x, .ref i]) = some (.tuple [.str (stO x), .list (ds.map pyTk)]) := fun i hi => by
    have e2 : pyD 4997 S (.ref i) = some (.list (ds.map pyTk)) := by
      show (match S[i]? with | some (.lst xs) => (pyDs 4996 S xs).map PyData.list | some (.fro xs) => (pyDs 4996 S xs).map PyData.list | _ => none) = _
      rw [hi]
      show (pyDs 4996 S ds).map _ = _
      rw [pyDs_tk S ds 4996 (by omega) hd]; rfl
    show (pyDs 4999 S [.str x, .ref i]).map PyData.tuple = _
    have e3 : pyDs 4999 S [.str x, .ref i] = some [.str (stO x), .list (ds.map pyTk)] := by
      show (match pyD 4998 S (.str x), pyDs 4998 S [.ref i] with | some p, some ps => some (p :: ps) | _, _ => none) = _
      have e4 : pyDs 4998 S [.ref i] = some [.list (ds.map pyTk)] := by
        show (match pyD 4997 S (.ref i), pyDs 4997 S [] with | some p, some ps => some (p :: ps) | _, _ => none) = _
        rw [e2]; rfl
      rw [e4]; rfl
    rw [e3]; rfl
  obtain ⟨c1, c2⟩ := lay_tk hd
  have s1 := strOk_NS hx
  have sh : SeqAt.shaped (.tuple [.str (stO x), .list (ds.map pyTk)]) = true := by
    unfold SeqAt.shaped
    rw [show PyData.canLay0 (.tuple [.str (stO x), .list (ds.map pyTk)]) = true by simp only [PyData.canLay0, PyData.canLayAll0, s1, c1, Bool.and_self]]
    exact decide_eq_true (by simp only [PyData.depth, PyData.depthAll]; omega)
  unfold eqD
  show (match pyD 5000 S (.tup [.str x, .ref f]), pyD 5000 S (.tup [.str x, .ref g]) with | some p, some q => if SeqAt.shaped p = true ∧ SeqAt.shaped q = true then some (p.eqv q) else none | _, _ => none) = some true
  rw [py f hf, py g hg]
  show (if _ then _ else _) = some true
  rw [if_pos ⟨sh, sh⟩, SeqAt.eqv_refl _ (SeqAt.canLay_of_shaped sh)]
end Dy

namespace K02
open PySem PySem.Spec PyProof.Rows L2 Dy
def topS (i : Nat) : Stmt := PySem.Challenge.pw_livestead_k02_any_text.main.body.getD i (.Pass ⟨0, 0, 0, 0⟩)

def c_run_end : Cs :=
  (.cons (.asg (.nm 2) (.var 1))
  (.cons (.whl (.bo .And (.of (.cmp .Lt (.var 2) (.bi "len" (.cons (.var 0) .nil)))) (.bo .Or (.of (.cmp .In (.ix (.var 0) (.var 2)) (.con "SMALL"))) (.bo .Or (.of (.cmp .In (.ix (.var 0) (.var 2)) (.con "CAPITAL"))) (.of (.cmp .In (.ix (.var 0) (.var 2)) (.con "DIGITS")))))) (.cons (.aug 2 .Add (.lit (.int 1)))
  .nil))
  (.cons (.ret (.var 2))
  .nil)))
def r_c_run_end : DRow := ⟨"run_end", ("run_end", none), "run_end", "run_end", ⟨["text", "start"], ["text", "start", "end"], [], c_run_end⟩, topS 14⟩

def c_number_token : Cs :=
  (.cons (.fr (.nm 2) (.seq (.var 0)) (.cons (.iff (.of (.cmp .NotIn (.var 2) (.con "DIGITS"))) (.cons (.raise "SourceError" (.var 1))
  .nil) .nil)
  .nil))
  (.cons (.iff (.bo .Or (.of (.cmp .Gt (.bi "len" (.cons (.var 0) .nil)) (.lit (.int 10)))) (.bo .And (.of (.cmp .Eq (.ix (.var 0) (.lit (.int 0))) (.lit (.str [48])))) (.of (.cmp .Gt (.bi "len" (.cons (.var 0) .nil)) (.lit (.int 1)))))) (.cons (.raise "SourceError" (.var 1))
  .nil) .nil)
  (.cons (.asg (.nm 3) (.bi "int" (.cons (.var 0) .nil)))
  (.cons (.iff (.of (.cmp .Gt (.var 3) (.con "MOST_NUMBER"))) (.cons (.raise "SourceError" (.var 1))
  .nil) .nil)
  (.cons (.ret (.tup (.cons (.lit (.str [110, 117, 109, 98, 101, 114])) (.cons (.var 3) (.cons (.var 1) .nil)))))
  .nil)))))
def r_c_number_token : DRow := ⟨"number_token", ("number_token", none), "number_token", "number_token", ⟨["run", "start"], ["run", "start", "char", "value"], [], c_number_token⟩, topS 15⟩

def c_run_token : Cs :=
  (.cons (.iff (.of (.cmp .In (.ix (.var 0) (.lit (.int 0))) (.con "DIGITS"))) (.cons (.ret (.call "number_token" (.cons (.var 0) (.cons (.var 1) .nil))))
  .nil) .nil)
  (.cons (.iff (.of (.cmp .Gt (.bi "len" (.cons (.var 0) .nil)) (.con "MOST_LETTERS"))) (.cons (.raise "SourceError" (.var 1))
  .nil) .nil)
  (.cons (.iff (.of (.cmp .In (.ix (.var 0) (.lit (.int 0))) (.con "CAPITAL"))) (.cons (.ret (.tup (.cons (.lit (.str [99, 108, 97, 115, 115])) (.cons (.var 0) (.cons (.var 1) .nil)))))
  .nil) .nil)
  (.cons (.iff (.of (.cmp .In (.var 0) (.con "WORDS"))) (.cons (.ret (.tup (.cons (.lit (.str [119, 111, 114, 100])) (.cons (.var 0) (.cons (.var 1) .nil)))))
  .nil) .nil)
  (.cons (.ret (.tup (.cons (.lit (.str [110, 97, 109, 101])) (.cons (.var 0) (.cons (.var 1) .nil)))))
  .nil)))))
def r_c_run_token : DRow := ⟨"run_token", ("run_token", none), "run_token", "run_token", ⟨["run", "start"], ["run", "start"], [], c_run_token⟩, topS 16⟩

def c_text_token : Cs :=
  (.cons (.asg (.nm 2) (.bm "find" (.var 0) (.cons (.lit (.str [39])) (.cons (.bin .Add (.var 1) (.lit (.int 1))) .nil))))
  (.cons (.iff (.bo .Or (.of (.cmp .Lt (.var 2) (.lit (.int 0)))) (.of (.cmp .Gt (.bin .Sub (.bin .Sub (.var 2) (.var 1)) (.lit (.int 1))) (.con "MOST_TEXT")))) (.cons (.raise "SourceError" (.var 1))
  .nil) .nil)
  (.cons (.ret (.tup (.cons (.lit (.str [116, 101, 120, 116])) (.cons (.sl (.var 0) (.so (.bin .Add (.var 1) (.lit (.int 1)))) (.so (.var 2))) (.cons (.var 1) .nil)))))
  .nil)))
def r_c_text_token : DRow := ⟨"text_token", ("text_token", none), "text_token", "text_token", ⟨["text", "start"], ["text", "start", "end"], [], c_text_token⟩, topS 17⟩

def c_tokenize : Cs :=
  (.cons (.asg (.nm 1) (.lst .nil))
  (.cons (.asg (.nm 2) (.lit (.int 0)))
  (.cons (.whl (.of (.cmp .Lt (.var 2) (.bi "len" (.cons (.var 0) .nil)))) (.cons (.asg (.nm 3) (.ix (.var 0) (.var 2)))
  (.cons (.iff (.of (.cmp .Eq (.var 3) (.lit (.str [32])))) (.cons (.aug 2 .Add (.lit (.int 1)))
  .nil) (.cons (.iff (.of (.cmp .Eq (.var 3) (.lit (.str [39])))) (.cons (.ex (.bm "append" (.var 1) (.cons (.call "text_token" (.cons (.var 0) (.cons (.var 2) .nil))) .nil)))
  (.cons (.aug 2 .Add (.bin .Add (.bi "len" (.cons (.ix (.ix (.var 1) (.neg (.lit (.int 1)))) (.lit (.int 1))) .nil)) (.lit (.int 2))))
  .nil)) (.cons (.iff (.bo .Or (.of (.cmp .In (.var 3) (.con "SMALL"))) (.bo .Or (.of (.cmp .In (.var 3) (.con "CAPITAL"))) (.of (.cmp .In (.var 3) (.con "DIGITS"))))) (.cons (.asg (.nm 4) (.call "run_end" (.cons (.var 0) (.cons (.var 2) .nil))))
  (.cons (.ex (.bm "append" (.var 1) (.cons (.call "run_token" (.cons (.sl (.var 0) (.so (.var 2)) (.so (.var 4))) (.cons (.var 2) .nil))) .nil)))
  (.cons (.asg (.nm 2) (.var 4))
  .nil))) (.cons (.iff (.of (.cmp .In (.sl (.var 0) (.so (.var 2)) (.so (.bin .Add (.var 2) (.lit (.int 2))))) (.con "PAIRS"))) (.cons (.ex (.bm "append" (.var 1) (.cons (.tup (.cons (.lit (.str [109, 97, 114, 107])) (.cons (.sl (.var 0) (.so (.var 2)) (.so (.bin .Add (.var 2) (.lit (.int 2))))) (.cons (.var 2) .nil)))) .nil)))
  (.cons (.aug 2 .Add (.lit (.int 2)))
  .nil)) (.cons (.iff (.of (.cmp .In (.var 3) (.con "MARKS"))) (.cons (.ex (.bm "append" (.var 1) (.cons (.tup (.cons (.lit (.str [109, 97, 114, 107])) (.cons (.var 3) (.cons (.var 2) .nil)))) .nil)))
  (.cons (.aug 2 .Add (.lit (.int 1)))
  .nil)) (.cons (.raise "SourceError" (.var 2))
  .nil))
  .nil))
  .nil))
  .nil))
  .nil))
  .nil)))
  (.cons (.ret (.var 1))
  .nil))))
def r_c_tokenize : DRow := ⟨"tokenize", ("tokenize", none), "tokenize", "tokenize", ⟨["text"], ["text", "found", "at", "char", "end"], [], c_tokenize⟩, topS 18⟩

def c_l_state : Cs :=
  (.cons (.ret (.lst (.cons (.bi "list" (.cons (.var 0) .nil)) (.cons (.lit (.int 0)) (.cons (.lit (.int 0)) (.cons (.lit (.int 0)) (.cons (.lit (.bl false)) (.cons (.lit (.int 500)) .nil))))))))
  .nil)
def r_c_l_state : DRow := ⟨"_law_state", ("_law_state", none), "_law_state", "_law_state", ⟨["_law_script"], ["_law_script"], [], c_l_state⟩, topS 20⟩

def c_l_draw : Cs :=
  (.cons (.iff (.of (.cmp .Eq (.ix (.var 0) (.lit (.int 3))) (.lit (.int 0)))) (.cons (.iff (.of (.cmp .GtE (.ix (.var 0) (.lit (.int 1))) (.bi "len" (.cons (.ix (.var 0) (.lit (.int 0))) .nil)))) (.cons (.ret (.lit (.int 0)))
  .nil) .nil)
  (.cons (.asg (.nm 2) (.ix (.ix (.var 0) (.lit (.int 0))) (.ix (.var 0) (.lit (.int 1)))))
  (.cons (.iff (.of (.cmp .Lt (.var 2) (.lit (.int 0)))) (.cons (.asg (.nm 2) (.bin .Sub (.neg (.lit (.int 1))) (.var 2)))
  .nil) .nil)
  (.cons (.asg (.sub (.var 0) (.lit (.int 1))) (.bin .Add (.ix (.var 0) (.lit (.int 1))) (.lit (.int 1))))
  (.cons (.asg (.sub (.var 0) (.lit (.int 2))) (.var 2))
  (.cons (.asg (.sub (.var 0) (.lit (.int 4))) (.cmp .GtE (.var 2) (.bin .Pow (.lit (.int 10)) (.lit (.int 18)))))
  (.cons (.asg (.sub (.var 0) (.lit (.int 3))) (.lit (.int 6)))
  (.cons (.iff (.of (.ix (.var 0) (.lit (.int 4)))) (.cons (.asg (.sub (.var 0) (.lit (.int 3))) (.lit (.int 60)))
  .nil) .nil)
  .nil)))))))) .nil)
  (.cons (.asg (.sub (.var 0) (.lit (.int 3))) (.bin .Sub (.ix (.var 0) (.lit (.int 3))) (.lit (.int 1))))
  (.cons (.iff (.of (.ix (.var 0) (.lit (.int 4)))) (.cons (.asg (.nm 3) (.bin .Mod (.bi "int" (.cons (.ix (.var 0) (.lit (.int 2))) .nil)) (.var 1)))
  (.cons (.asg (.sub (.var 0) (.lit (.int 2))) (.bin .FloorDiv (.ix (.var 0) (.lit (.int 2))) (.var 1)))
  (.cons (.iff (.of (.cmp .Eq (.ix (.var 0) (.lit (.int 2))) (.lit (.int 0)))) (.cons (.asg (.sub (.var 0) (.lit (.int 3))) (.lit (.int 0)))
  .nil) .nil)
  (.cons (.ret (.var 3))
  .nil)))) .nil)
  (.cons (.asg (.nm 4) (.bin .Mod (.bi "int" (.cons (.bin .Add (.bin .Add (.bin .Mult (.ix (.var 0) (.lit (.int 2))) (.lit (.int 48271))) (.bin .Mult (.ix (.var 0) (.lit (.int 3))) (.lit (.int 69621)))) (.lit (.int 7))) .nil)) (.lit (.int 2147483647))))
  (.cons (.asg (.nm 4) (.bin .Mod (.bi "int" (.cons (.bin .Add (.bin .Add (.bin .Mult (.var 4) (.var 4)) (.bin .Mult (.ix (.var 0) (.lit (.int 2))) (.lit (.int 31)))) (.ix (.var 0) (.lit (.int 3)))) .nil)) (.lit (.int 1000003))))
  (.cons (.ret (.bin .Mod (.bi "int" (.cons (.var 4) .nil)) (.var 1)))
  .nil))))))
def r_c_l_draw : DRow := ⟨"_law_draw", ("_law_draw", none), "_law_draw", "_law_draw", ⟨["_law_state_here", "_law_limit"], ["_law_state_here", "_law_limit", "_law_cell", "_law_digit", "_law_mixed"], [], c_l_draw⟩, topS 21⟩

def c_l_words : Cs :=
  (.cons (.asg (.nm 0) (.lst (.cons (.lit (.str [109, 101, 116, 104, 111, 100])) (.cons (.lit (.str [118, 97, 114])) (.cons (.lit (.str [101, 110, 100])) (.cons (.lit (.str [103, 105, 118, 101])) (.cons (.lit (.str [102, 97, 105, 108])) (.cons (.lit (.str [105, 102])) (.cons (.lit (.str [116, 104, 101, 110])) (.cons (.lit (.str [101, 108, 115, 101])) (.cons (.lit (.str [119, 104, 105, 108, 101])) (.cons (.lit (.str [100, 111])) (.cons (.lit (.str [116, 114, 121])) (.cons (.lit (.str [99, 97, 116, 99, 104])) (.cons (.lit (.str [107, 101, 101, 112])) .nil)))))))))))))))
  (.cons (.ret (.bin .Add (.var 0) (.lst (.cons (.lit (.str [97, 108, 119, 97, 121, 115])) (.cons (.lit (.str [110, 111, 110, 101])) (.cons (.lit (.str [116, 114, 117, 101])) (.cons (.lit (.str [102, 97, 108, 115, 101])) (.cons (.lit (.str [115, 101, 108, 102])) (.cons (.lit (.str [115, 117, 112, 101, 114])) (.cons (.lit (.str [110, 101, 119])) (.cons (.lit (.str [110, 111, 116])) (.cons (.lit (.str [97, 110, 100])) (.cons (.lit (.str [111, 114])) .nil)))))))))))))
  .nil))
def r_c_l_words : DRow := ⟨"_law_words", ("_law_words", none), "_law_words", "_law_words", ⟨[], ["_law_words_here"], [], c_l_words⟩, topS 22⟩

def c_l_signs : Cs :=
  (.cons (.asg (.nm 0) (.lit (.str [32, 33, 34, 35, 36, 38, 39, 40, 41, 42, 43, 44, 45, 46, 47, 48, 49, 50, 51, 52, 53, 54, 55, 56, 57, 58, 59, 60, 61, 62, 63, 64, 65, 66, 67, 68, 69, 70, 71, 72, 73, 74, 75, 76, 77, 78, 79, 80, 81, 82, 83, 84, 85, 86, 87, 88, 89, 90, 91, 92, 93, 94, 95, 96, 97, 98, 99, 100, 101, 102, 103, 104, 105, 106, 107, 108, 109, 110, 111, 112, 113, 114, 115, 116, 117, 118, 119, 120, 121, 122, 123, 124, 125, 126])))
  (.cons (.ret (.var 0))
  .nil))
def r_c_l_signs : DRow := ⟨"_law_signs", ("_law_signs", none), "_law_signs", "_law_signs", ⟨[], ["_law_signs_here"], [], c_l_signs⟩, topS 23⟩

def c_l_piece : Cs :=
  (.cons (.asg (.nm 1) (.call "_law_draw" (.cons (.var 0) (.cons (.lit (.int 12)) .nil))))
  (.cons (.iff (.of (.cmp .Eq (.var 1) (.lit (.int 0)))) (.cons (.ret (.bi "str" (.cons (.bin .Add (.lit (.int 999999995)) (.call "_law_draw" (.cons (.var 0) (.cons (.lit (.int 12)) .nil)))) .nil)))
  .nil) .nil)
  (.cons (.iff (.of (.cmp .Eq (.var 1) (.lit (.int 1)))) (.cons (.ret (.bin .Add (.bin .Mult (.lit (.str [48])) (.call "_law_draw" (.cons (.var 0) (.cons (.lit (.int 3)) .nil)))) (.bi "str" (.cons (.call "_law_draw" (.cons (.var 0) (.cons (.lit (.int 1000)) .nil))) .nil))))
  .nil) .nil)
  (.cons (.iff (.of (.cmp .Eq (.var 1) (.lit (.int 2)))) (.cons (.asg (.nm 2) (.ix (.call "_law_signs" .nil) (.call "_law_draw" (.cons (.var 0) (.cons (.lit (.int 94)) .nil)))))
  (.cons (.ret (.sl (.bin .Add (.var 2) (.bin .Mult (.lit (.str [97, 66, 57, 120, 89, 48])) (.lit (.int 4)))) .no (.so (.bin .Add (.lit (.int 18)) (.call "_law_draw" (.cons (.var 0) (.cons (.lit (.int 6)) .nil)))))))
  .nil)) .nil)
  (.cons (.iff (.of (.cmp .Eq (.var 1) (.lit (.int 3)))) (.cons (.asg (.nm 3) (.bin .Add (.lit (.int 197)) (.call "_law_draw" (.cons (.var 0) (.cons (.lit (.int 6)) .nil)))))
  (.cons (.ret (.bin .Add (.bin .Add (.lit (.str [39])) (.bin .Mult (.ix (.call "_law_signs" .nil) (.bin .Add (.lit (.int 8)) (.call "_law_draw" (.cons (.var 0) (.cons (.lit (.int 86)) .nil))))) (.var 3))) (.lit (.str [39]))))
  .nil)) .nil)
  (.cons (.iff (.of (.cmp .Eq (.var 1) (.lit (.int 4)))) (.cons (.ret (.ix (.call "_law_words" .nil) (.call "_law_draw" (.cons (.var 0) (.cons (.lit (.int 23)) .nil)))))
  .nil) .nil)
  (.cons (.iff (.of (.cmp .Eq (.var 1) (.lit (.int 5)))) (.cons (.ret (.ix (.lst (.cons (.lit (.str [58, 61])) (.cons (.lit (.str [60, 61])) (.cons (.lit (.str [60])) (.cons (.lit (.str [61])) (.cons (.lit (.str [39, 39])) (.cons (.lit (.str [39, 97, 39])) (.cons (.lit (.str [32])) (.cons (.lit (.str [120, 49])) .nil))))))))) (.call "_law_draw" (.cons (.var 0) (.cons (.lit (.int 8)) .nil)))))
  .nil) .nil)
  (.cons (.ret (.ix (.call "_law_signs" .nil) (.call "_law_draw" (.cons (.var 0) (.cons (.lit (.int 94)) .nil)))))
  .nil))))))))
def r_c_l_piece : DRow := ⟨"_law_piece", ("_law_piece", none), "_law_piece", "_law_piece", ⟨["_law_state_here"], ["_law_state_here", "_law_kind", "_law_first", "_law_size"], [], c_l_piece⟩, topS 24⟩

def c_l_digits : Cs :=
  (.cons (.ret (.cmp .Eq (.bi "len" (.cons (.lc (.var 1) (.nm 1) (.seq (.var 0)) (.so (.of (.cmp .NotIn (.var 1) (.lit (.str [48, 49, 50, 51, 52, 53, 54, 55, 56, 57]))))) [1]) .nil)) (.lit (.int 0))))
  .nil)
def r_c_l_digits : DRow := ⟨"_law_digits", ("_law_digits", none), "_law_digits", "_law_digits", ⟨["_law_run"], ["_law_run", "_law_char"], [], c_l_digits⟩, topS 25⟩

def c_l_of_run : Cs :=
  (.cons (.iff (.of (.cmp .In (.ix (.var 0) (.lit (.int 0))) (.lit (.str [48, 49, 50, 51, 52, 53, 54, 55, 56, 57])))) (.cons (.iff (.bo .Or (.nt (.of (.call "_law_digits" (.cons (.var 0) .nil)))) (.bo .Or (.of (.cmp .Gt (.bi "len" (.cons (.var 0) .nil)) (.lit (.int 10)))) (.bo .And (.of (.cmp .Eq (.ix (.var 0) (.lit (.int 0))) (.lit (.str [48])))) (.of (.cmp .Gt (.bi "len" (.cons (.var 0) .nil)) (.lit (.int 1))))))) (.cons (.ret (.lit .non))
  .nil) .nil)
  (.cons (.iff (.of (.cmp .Gt (.bi "int" (.cons (.var 0) .nil)) (.lit (.int 1000000000)))) (.cons (.ret (.lit .non))
  .nil) .nil)
  (.cons (.ret (.tup (.cons (.lit (.str [110, 117, 109, 98, 101, 114])) (.cons (.bi "int" (.cons (.var 0) .nil)) (.cons (.var 1) .nil)))))
  .nil))) .nil)
  (.cons (.iff (.of (.cmp .Gt (.bi "len" (.cons (.var 0) .nil)) (.lit (.int 20)))) (.cons (.ret (.lit .non))
  .nil) .nil)
  (.cons (.iff (.of (.cmp .In (.ix (.var 0) (.lit (.int 0))) (.lit (.str [65, 66, 67, 68, 69, 70, 71, 72, 73, 74, 75, 76, 77, 78, 79, 80, 81, 82, 83, 84, 85, 86, 87, 88, 89, 90])))) (.cons (.ret (.tup (.cons (.lit (.str [99, 108, 97, 115, 115])) (.cons (.var 0) (.cons (.var 1) .nil)))))
  .nil) .nil)
  (.cons (.iff (.of (.cmp .In (.var 0) (.call "_law_words" .nil))) (.cons (.ret (.tup (.cons (.lit (.str [119, 111, 114, 100])) (.cons (.var 0) (.cons (.var 1) .nil)))))
  .nil) .nil)
  (.cons (.ret (.tup (.cons (.lit (.str [110, 97, 109, 101])) (.cons (.var 0) (.cons (.var 1) .nil)))))
  .nil)))))
def r_c_l_of_run : DRow := ⟨"_law_of_run", ("_law_of_run", none), "_law_of_run", "_law_of_run", ⟨["_law_run", "_law_at"], ["_law_run", "_law_at"], [], c_l_of_run⟩, topS 26⟩

def c_l_ends : Cs :=
  (.cons (.asg (.nm 1) (.lit (.str [97, 98, 99, 100, 101, 102, 103, 104, 105, 106, 107, 108, 109, 110, 111, 112, 113, 114, 115, 116, 117, 118, 119, 120, 121, 122, 65, 66, 67, 68, 69, 70, 71, 72, 73, 74, 75, 76, 77, 78, 79, 80, 81, 82, 83, 84, 85, 86, 87, 88, 89, 90, 48, 49, 50, 51, 52, 53, 54, 55, 56, 57])))
  (.cons (.asg (.nm 2) (.lc (.bi "len" (.cons (.var 0) .nil)) (.nm 3) (.rng1 (.bin .Add (.bi "len" (.cons (.var 0) .nil)) (.lit (.int 1)))) .yes [3]))
  (.cons (.fr (.nm 4) (.rng1 (.bi "len" (.cons (.var 0) .nil))) (.cons (.asg (.nm 5) (.bin .Sub (.bin .Sub (.bi "len" (.cons (.var 0) .nil)) (.lit (.int 1))) (.var 4)))
  (.cons (.asg (.sub (.var 2) (.var 5)) (.var 5))
  (.cons (.iff (.of (.cmp .In (.ix (.var 0) (.var 5)) (.var 1))) (.cons (.asg (.sub (.var 2) (.var 5)) (.bin .Add (.var 5) (.lit (.int 1))))
  (.cons (.iff (.bo .And (.of (.cmp .Lt (.bin .Add (.var 5) (.lit (.int 1))) (.bi "len" (.cons (.var 0) .nil)))) (.of (.cmp .In (.ix (.var 0) (.bin .Add (.var 5) (.lit (.int 1)))) (.var 1)))) (.cons (.asg (.sub (.var 2) (.var 5)) (.ix (.var 2) (.bin .Add (.var 5) (.lit (.int 1)))))
  .nil) .nil)
  .nil)) .nil)
  .nil))))
  (.cons (.ret (.var 2))
  .nil))))
def r_c_l_ends : DRow := ⟨"_law_ends", ("_law_ends", none), "_law_ends", "_law_ends", ⟨["_law_text"], ["_law_text", "_law_joint", "_law_ends_here", "_law_k", "_law_back", "_law_at"], [], c_l_ends⟩, topS 27⟩

def c_l_step : Cs :=
  (.cons (.iff (.of (.cmp .Gt (.ix (.var 1) (.var 2)) (.var 2))) (.cons (.ret (.tup (.cons (.call "_law_of_run" (.cons (.sl (.var 0) (.so (.var 2)) (.so (.ix (.var 1) (.var 2)))) (.cons (.var 2) .nil))) (.cons (.ix (.var 1) (.var 2)) .nil))))
  .nil) .nil)
  (.cons (.iff (.of (.cmp .Eq (.ix (.var 0) (.var 2)) (.lit (.str [39])))) (.cons (.asg (.nm 3) (.bm "find" (.var 0) (.cons (.lit (.str [39])) (.cons (.bin .Add (.var 2) (.lit (.int 1))) .nil))))
  (.cons (.iff (.bo .Or (.of (.cmp .Lt (.var 3) (.lit (.int 0)))) (.of (.cmp .Gt (.bin .Sub (.var 3) (.var 2)) (.lit (.int 201))))) (.cons (.ret (.tup (.cons (.lit .non) (.cons (.var 2) .nil))))
  .nil) .nil)
  (.cons (.ret (.tup (.cons (.tup (.cons (.lit (.str [116, 101, 120, 116])) (.cons (.sl (.var 0) (.so (.bin .Add (.var 2) (.lit (.int 1)))) (.so (.var 3))) (.cons (.var 2) .nil)))) (.cons (.bin .Add (.var 3) (.lit (.int 1))) .nil))))
  .nil))) .nil)
  (.cons (.iff (.of (.cmp .In (.sl (.var 0) (.so (.var 2)) (.so (.bin .Add (.var 2) (.lit (.int 2))))) (.lst (.cons (.lit (.str [58, 61])) (.cons (.lit (.str [60, 61])) .nil))))) (.cons (.ret (.tup (.cons (.tup (.cons (.lit (.str [109, 97, 114, 107])) (.cons (.sl (.var 0) (.so (.var 2)) (.so (.bin .Add (.var 2) (.lit (.int 2))))) (.cons (.var 2) .nil)))) (.cons (.bin .Add (.var 2) (.lit (.int 2))) .nil))))
  .nil) .nil)
  (.cons (.iff (.of (.cmp .In (.ix (.var 0) (.var 2)) (.lit (.str [40, 41, 123, 125, 44, 59, 46, 124, 61, 60, 43, 45, 42, 47])))) (.cons (.ret (.tup (.cons (.tup (.cons (.lit (.str [109, 97, 114, 107])) (.cons (.ix (.var 0) (.var 2)) (.cons (.var 2) .nil)))) (.cons (.bin .Add (.var 2) (.lit (.int 1))) .nil))))
  .nil) .nil)
  (.cons (.ret (.tup (.cons (.lit .non) (.cons (.var 2) .nil))))
  .nil)))))
def r_c_l_step : DRow := ⟨"_law_step", ("_law_step", none), "_law_step", "_law_step", ⟨["_law_text", "_law_ends_here", "_law_at"], ["_law_text", "_law_ends_here", "_law_at", "_law_end"], [], c_l_step⟩, topS 28⟩

def c_l_due : Cs :=
  (.cons (.asg (.nm 1) (.call "_law_ends" (.cons (.var 0) .nil)))
  (.cons (.asg (.nm 2) (.lst .nil))
  (.cons (.asg (.nm 3) (.lit (.int 0)))
  (.cons (.fr (.nm 4) (.rng1 (.bi "len" (.cons (.var 0) .nil))) (.cons (.iff (.of (.cmp .GtE (.var 3) (.bi "len" (.cons (.var 0) .nil)))) (.cons (.ret (.tup (.cons (.lit (.str [116, 111, 107, 101, 110, 115])) (.cons (.var 2) .nil))))
  .nil) .nil)
  (.cons (.iff (.of (.cmp .Eq (.ix (.var 0) (.var 3)) (.lit (.str [32])))) (.cons (.asg (.nm 3) (.bin .Add (.var 3) (.lit (.int 1))))
  .nil) (.cons (.asg (.tp (.cons (.nm 5) (.cons (.nm 6) .nil))) (.call "_law_step" (.cons (.var 0) (.cons (.var 1) (.cons (.var 3) .nil)))))
  (.cons (.iff (.of (.cmp .Is (.var 5) (.lit .non))) (.cons (.ret (.tup (.cons (.lit (.str [119, 114, 111, 110, 103])) (.cons (.var 3) .nil))))
  .nil) .nil)
  (.cons (.ex (.bm "append" (.var 2) (.cons (.var 5) .nil)))
  (.cons (.asg (.nm 3) (.var 6))
  .nil)))))
  .nil)))
  (.cons (.ret (.tup (.cons (.lit (.str [116, 111, 107, 101, 110, 115])) (.cons (.var 2) .nil))))
  .nil)))))
def r_c_l_due : DRow := ⟨"_law_due", ("_law_due", none), "_law_due", "_law_due", ⟨["_law_text"], ["_law_text", "_law_ends_here", "_law_found", "_law_at", "_law_k", "_law_token", "_law_end"], [], c_l_due⟩, topS 29⟩

def c_l_told : Cs :=
  (.cons (.tryx (.cons (.ret (.tup (.cons (.lit (.str [116, 111, 107, 101, 110, 115])) (.cons (.call "tokenize" (.cons (.var 0) .nil)) .nil))))
  .nil) "LivesteadError" (some 1) (.cons (.iff (.and (.isi "SourceError") (.and (.nt (.isi "NameTwice")) (.isi "ValueError"))) (.cons (.ret (.tup (.cons (.lit (.str [119, 114, 111, 110, 103])) (.cons (.fld "at") .nil)))) .nil) .nil) .nil))
  (.cons (.ret (.lit .non))
  .nil))
def r_c_l_told : DRow := ⟨"_law_told", ("_law_told", none), "_law_told", "_law_told", ⟨["_law_text"], ["_law_text", "e"], [], c_l_told⟩, topS 30⟩

def c_law : Cs :=
  (.cons (.asg (.nm 1) (.call "_law_state" (.cons (.var 0) .nil)))
  (.cons (.asg (.nm 2) (.lit (.str [])))
  (.cons (.fr (.nm 3) (.rng1 (.call "_law_draw" (.cons (.var 1) (.cons (.lit (.int 64)) .nil)))) (.cons (.iff (.of (.cmp .Lt (.bi "len" (.cons (.var 2) .nil)) (.lit (.int 1400)))) (.cons (.asg (.nm 2) (.bin .Add (.var 2) (.call "_law_piece" (.cons (.var 1) .nil))))
  .nil) .nil)
  .nil))
  (.cons (.asg (.nm 4) (.call "_law_due" (.cons (.var 2) .nil)))
  (.cons (.asg (.nm 5) (.call "_law_told" (.cons (.var 2) .nil)))
  (.cons (.iff (.of (.cmp .NotEq (.var 5) (.var 4))) (.cons (.ret (.lit (.bl false)))
  .nil) .nil)
  (.cons (.iff (.of (.cmp .Eq (.ix (.var 4) (.lit (.int 0))) (.lit (.str [119, 114, 111, 110, 103])))) (.cons (.ret (.nt (.isi (.ix (.var 5) (.lit (.int 1))) ["bool"])))
  .nil) .nil)
  (.cons (.ret (.cmp .Eq (.bi "len" (.cons (.lc (.var 6) (.nm 6) (.seq (.ix (.var 5) (.lit (.int 1)))) (.so (.bo .Or (.of (.isi (.ix (.var 6) (.lit (.int 1))) ["bool"])) (.of (.isi (.ix (.var 6) (.lit (.int 2))) ["bool"])))) [6]) .nil)) (.lit (.int 0))))
  .nil))))))))
def r_c_law : DRow := ⟨"law", ("law", none), "law", "law", ⟨["_law_script"], ["_law_script", "_law_state_here", "_law_text", "_law_k", "_law_due_here", "_law_actual", "_law_token"], [], c_law⟩, topS 31⟩

def rows : List DRow := [r_c_run_end, r_c_number_token, r_c_run_token, r_c_text_token, r_c_tokenize, r_c_l_state, r_c_l_draw, r_c_l_words, r_c_l_signs, r_c_l_piece, r_c_l_digits, r_c_l_of_run, r_c_l_ends, r_c_l_step, r_c_l_due, r_c_l_told, r_c_law]
def cons : List (Str × D) := [("WORDS", (.tup [(.str [109, 101, 116, 104, 111, 100]), (.str [118, 97, 114]), (.str [101, 110, 100]), (.str [103, 105, 118, 101]), (.str [102, 97, 105, 108]), (.str [105, 102]), (.str [116, 104, 101, 110]), (.str [101, 108, 115, 101]), (.str [119, 104, 105, 108, 101]), (.str [100, 111]), (.str [116, 114, 121]), (.str [99, 97, 116, 99, 104]), (.str [107, 101, 101, 112]), (.str [97, 108, 119, 97, 121, 115]), (.str [110, 111, 110, 101]), (.str [116, 114, 117, 101]), (.str [102, 97, 108, 115, 101]), (.str [115, 101, 108, 102]), (.str [115, 117, 112, 101, 114]), (.str [110, 101, 119]), (.str [110, 111, 116]), (.str [97, 110, 100]), (.str [111, 114])])), ("PAIRS", (.tup [(.str [58, 61]), (.str [60, 61])])), ("MARKS", (.str [40, 41, 123, 125, 44, 59, 46, 124, 61, 60, 43, 45, 42, 47])), ("SMALL", (.str [97, 98, 99, 100, 101, 102, 103, 104, 105, 106, 107, 108, 109, 110, 111, 112, 113, 114, 115, 116, 117, 118, 119, 120, 121, 122])), ("CAPITAL", (.str [65, 66, 67, 68, 69, 70, 71, 72, 73, 74, 75, 76, 77, 78, 79, 80, 81, 82, 83, 84, 85, 86, 87, 88, 89, 90])), ("DIGITS", (.str [48, 49, 50, 51, 52, 53, 54, 55, 56, 57])), ("MOST_LETTERS", (.int 20)), ("MOST_NUMBER", (.int 1000000000)), ("MOST_TEXT", (.int 200))]
def e_SourceError : ERow := ⟨"SourceError", "at", true, "SourceError.__init__", inClass (topS 2) 0⟩
def e_NameTwice : ERow := ⟨"NameTwice", "name", false, "NameTwice.__init__", inClass (topS 3) 0⟩
def xs : Xs := { kds := [], flds := [], mks := [], excs := [e_SourceError, e_NameTwice], hcl := ["LivesteadError", "ValueError", "NameTwice", "SourceError"], subs := [(("SourceError", "LivesteadError"), true), (("SourceError", "ValueError"), true), (("SourceError", "NameTwice"), false), (("SourceError", "SourceError"), true), (("NameTwice", "LivesteadError"), true), (("NameTwice", "ValueError"), true), (("NameTwice", "NameTwice"), true), (("NameTwice", "SourceError"), false)], file := PySem.Challenge.pw_livestead_k02_any_text.main.file }
def G : Pr := prOf rows cons xs
theorem ok_c_run_end : RowOk G r_c_run_end := ⟨by decide +kernel, ⟨300, by kernel_rfl⟩, by decide, fun _ => rfl, .inl ⟨rfl, fun _ _ _ _ _ _ us (hl : us.length = 2) => match us, hl with | [_, _], _ => rfl⟩⟩
theorem ok_c_number_token : RowOk G r_c_number_token := ⟨by decide +kernel, ⟨300, by kernel_rfl⟩, by decide, fun _ => rfl, .inl ⟨rfl, fun _ _ _ _ _ _ us (hl : us.length = 2) => match us, hl with | [_, _], _ => rfl⟩⟩
theorem ok_c_run_token : RowOk G r_c_run_token := ⟨by decide +kernel, ⟨300, by kernel_rfl⟩, by decide, fun _ => rfl, .inl ⟨rfl, fun _ _ _ _ _ _ us (hl : us.length = 2) => match us, hl with | [_, _], _ => rfl⟩⟩
theorem ok_c_text_token : RowOk G r_c_text_token := ⟨by decide +kernel, ⟨300, by kernel_rfl⟩, by decide, fun _ => rfl, .inl ⟨rfl, fun _ _ _ _ _ _ us (hl : us.length = 2) => match us, hl with | [_, _], _ => rfl⟩⟩
theorem ok_c_tokenize : RowOk G r_c_tokenize := ⟨by decide +kernel, ⟨300, by kernel_rfl⟩, by decide, fun _ => rfl, .inl ⟨rfl, fun _ _ _ _ _ _ us (hl : us.length = 1) => match us, hl with | [_], _ => rfl⟩⟩
theorem ok_c_l_state : RowOk G r_c_l_state := ⟨by decide +kernel, ⟨300, by kernel_rfl⟩, by decide, fun _ => rfl, .inl ⟨rfl, fun _ _ _ _ _ _ us (hl : us.length = 1) => match us, hl with | [_], _ => rfl⟩⟩
theorem ok_c_l_draw : RowOk G r_c_l_draw := ⟨by decide +kernel, ⟨300, by kernel_rfl⟩, by decide, fun _ => rfl, .inl ⟨rfl, fun _ _ _ _ _ _ us (hl : us.length = 2) => match us, hl with | [_, _], _ => rfl⟩⟩
theorem ok_c_l_words : RowOk G r_c_l_words := ⟨by decide +kernel, ⟨300, by kernel_rfl⟩, by decide, fun _ => rfl, .inl ⟨rfl, fun _ _ _ _ _ _ us (hl : us.length = 0) => match us, hl with | [], _ => rfl⟩⟩
theorem ok_c_l_signs : RowOk G r_c_l_signs := ⟨by decide +kernel, ⟨300, by kernel_rfl⟩, by decide, fun _ => rfl, .inl ⟨rfl, fun _ _ _ _ _ _ us (hl : us.length = 0) => match us, hl with | [], _ => rfl⟩⟩
theorem ok_c_l_piece : RowOk G r_c_l_piece := ⟨by decide +kernel, ⟨300, by kernel_rfl⟩, by decide, fun _ => rfl, .inl ⟨rfl, fun _ _ _ _ _ _ us (hl : us.length = 1) => match us, hl with | [_], _ => rfl⟩⟩
theorem ok_c_l_digits : RowOk G r_c_l_digits := ⟨by decide +kernel, ⟨300, by kernel_rfl⟩, by decide, fun _ => rfl, .inl ⟨rfl, fun _ _ _ _ _ _ us (hl : us.length = 1) => match us, hl with | [_], _ => rfl⟩⟩
theorem ok_c_l_of_run : RowOk G r_c_l_of_run := ⟨by decide +kernel, ⟨300, by kernel_rfl⟩, by decide, fun _ => rfl, .inl ⟨rfl, fun _ _ _ _ _ _ us (hl : us.length = 2) => match us, hl with | [_, _], _ => rfl⟩⟩
theorem ok_c_l_ends : RowOk G r_c_l_ends := ⟨by decide +kernel, ⟨300, by kernel_rfl⟩, by decide, fun _ => rfl, .inl ⟨rfl, fun _ _ _ _ _ _ us (hl : us.length = 1) => match us, hl with | [_], _ => rfl⟩⟩
theorem ok_c_l_step : RowOk G r_c_l_step := ⟨by decide +kernel, ⟨300, by kernel_rfl⟩, by decide, fun _ => rfl, .inl ⟨rfl, fun _ _ _ _ _ _ us (hl : us.length = 3) => match us, hl with | [_, _, _], _ => rfl⟩⟩
theorem ok_c_l_due : RowOk G r_c_l_due := ⟨by decide +kernel, ⟨300, by kernel_rfl⟩, by decide, fun _ => rfl, .inl ⟨rfl, fun _ _ _ _ _ _ us (hl : us.length = 1) => match us, hl with | [_], _ => rfl⟩⟩
theorem ok_c_l_told : RowOk G r_c_l_told := ⟨by decide +kernel, ⟨300, by kernel_rfl⟩, by decide, fun _ => rfl, .inl ⟨rfl, fun _ _ _ _ _ _ us (hl : us.length = 1) => match us, hl with | [_], _ => rfl⟩⟩
theorem ok_c_law : RowOk G r_c_law := ⟨by decide +kernel, ⟨300, by kernel_rfl⟩, by decide, fun _ => rfl, .inl ⟨rfl, fun _ _ _ _ _ _ us (hl : us.length = 1) => match us, hl with | [_], _ => rfl⟩⟩
theorem ok_rows : AllR (RowOk G) rows := ⟨ok_c_run_end, ok_c_number_token, ok_c_run_token, ok_c_text_token, ok_c_tokenize, ok_c_l_state, ok_c_l_draw, ok_c_l_words, ok_c_l_signs, ok_c_l_piece, ok_c_l_digits, ok_c_l_of_run, ok_c_l_ends, ok_c_l_step, ok_c_l_due, ok_c_l_told, ok_c_law, trivial⟩
theorem ok_e_SourceError : ERowOk e_SourceError := ⟨_, ["str"], ⟨⟨_, _, _, _, _, _, _, _, _, rfl, rfl⟩, rfl, ⟨by decide, by decide⟩, by decide, by decide +kernel, (by decide +kernel), by decide +kernel, ⟨_, rfl, rfl⟩, fun _ _ _ _ _ _ _ us (hl : us.length = 2) => match us, hl with | [_, _], _ => rfl⟩, .inl ⟨rfl, rfl, _, _, _, _, _, _, _, rfl, by decide⟩⟩
theorem ok_e_NameTwice : ERowOk e_NameTwice := ⟨_, [], ⟨⟨_, _, _, _, _, _, _, _, _, rfl, rfl⟩, rfl, ⟨by decide, by decide⟩, by decide, by decide +kernel, (by decide +kernel), by decide +kernel, ⟨_, rfl, rfl⟩, fun _ _ _ _ _ _ _ us (hl : us.length = 2) => match us, hl with | [_, _], _ => rfl⟩, .inr ⟨rfl, rfl, _, _, _, _, _, rfl, by decide⟩⟩
theorem ok_excs : AllE xs.excs := ⟨ok_e_SourceError, ok_e_NameTwice, trivial⟩
end K02

namespace K02
open PySem PySem.Spec PyProof.Rows L2 Dy
local macro_rules | `(tactic| walk_at "go") => `(tactic| repeat first
  | with_reducible refine w_scons ?_
  | with_reducible refine sN_nx ?_
  | with_reducible refine w_asg ?_
  | with_reducible refine w_nm ?_
  | with_reducible refine w_lit ?_
  | ((with_reducible refine w_vari ?_); (refine ⟨_, rfl, ?_⟩))
  | with_reducible refine w_bin ?_
  | with_reducible refine w_neg ?_
  | with_reducible refine w_cmp ?_
  | with_reducible refine w_chain ?_
  | with_reducible refine w_nt ?_
  | with_reducible refine w_and ?_
  | with_reducible refine w_or ?_
  | with_reducible refine w_ite ?_
  | with_reducible refine w_tup ?_
  | with_reducible refine w_lst ?_
  | with_reducible refine w_ix ?_
  | with_reducible refine w_sl ?_
  | with_reducible refine w_no ?_
  | with_reducible refine w_so ?_
  | with_reducible refine w_call ?_
  | with_reducible refine w_bi ?_
  | with_reducible refine w_bm ?_
  | with_reducible refine w_isi ?_
  | with_reducible refine w_nil ?_
  | with_reducible refine w_cons ?_
  | with_reducible refine w_of ?_
  | with_reducible refine w_tnt ?_
  | with_reducible refine w_tand ?_
  | with_reducible refine w_tor ?_
  | with_reducible refine w_yes ?_
  | with_reducible refine w_if1 ?_
  | with_reducible refine w_seq ?_
  | with_reducible refine w_rng1 ?_
  | with_reducible refine w_rng2 ?_
  | with_reducible refine w_enum ?_
  | with_reducible refine w_tp ?_
  | with_reducible refine w_tnil ?_
  | with_reducible refine w_tcons ?_
  | with_reducible refine w_sub ?_
  | with_reducible refine w_ex ?_
  | with_reducible refine w_ret ?_
  | with_reducible refine w_retn ?_
  | with_reducible refine w_pass ?_
  | with_reducible refine w_brk ?_
  | with_reducible refine w_cont ?_
  | with_reducible refine w_iff ?_
  | with_reducible refine w_snil ?_
  | with_reducible refine w_fr ?_
  | with_reducible refine sN_rt ?_
  | with_reducible refine sN_bk ?_
  | with_reducible refine sN_ct ?_
  | with_reducible refine sX_i ?_
  | with_reducible refine dQ_nx ?_
  | with_reducible refine dQ_rt ?_
  | with_reducible refine lQ_nx ?_
  | with_reducible refine lQ_ct ?_
  | with_reducible refine lQ_bk ?_
  | with_reducible refine lQ_rt ?_
  | with_reducible refine o_add ?_
  | with_reducible refine o_sub ?_
  | ((with_reducible refine o_mulL ?_ ?_); · omega)
  | ((with_reducible refine o_mulR ?_ ?_); · omega)
  | ((with_reducible refine o_mod ?_ ?_); · omega)
  | ((with_reducible refine o_div ?_ ?_ ?_); · omega
     · omega)
  | with_reducible refine c_lt ?_
  | with_reducible refine c_le ?_
  | with_reducible refine c_gt ?_
  | with_reducible refine c_ge ?_
  | with_reducible refine c_eqi ?_
  | with_reducible refine c_eqs ?_
  | with_reducible refine c_nei ?_
  | with_reducible refine t_bl ?_
  | with_reducible refine b_int ?_
  | with_reducible refine b_lenT ?_
  | with_reducible refine b_tupT ?_
  | with_reducible refine b_lstT ?_
  | ((with_reducible refine b_lenRi ?_); (refine ⟨_, by assumption, ?_⟩))
  | ((with_reducible refine x_refi ?_); (refine ⟨_, by assumption, ?_⟩); (refine ⟨_, rfl, ?_⟩))
  | (with_reducible refine u_ref ?_)
  | ((with_reducible refine sm_i ?_ ?_); · exact small_i (by omega) (by omega))
  | ((with_reducible refine rg2_i ?_ ?_); · exact rg2_small (by omega) (by omega) (by omega) (by omega))
  | with_reducible refine neg_i ?_
  | with_reducible refine is_non_tuple ?_
  | with_reducible refine is_non_bool ?_
  | with_reducible refine is_non_int ?_
  | with_reducible refine is_non_str ?_
  | with_reducible refine is_non_list ?_
  | with_reducible refine isn_non ?_
  | with_reducible refine isnn_non ?_
  | with_reducible refine is_bl_tuple ?_
  | with_reducible refine is_bl_bool ?_
  | with_reducible refine is_bl_int ?_
  | with_reducible refine is_bl_str ?_
  | with_reducible refine is_bl_list ?_
  | with_reducible refine isn_bl ?_
  | with_reducible refine isnn_bl ?_
  | with_reducible refine is_int_tuple ?_
  | with_reducible refine is_int_bool ?_
  | with_reducible refine is_int_int ?_
  | with_reducible refine is_int_str ?_
  | with_reducible refine is_int_list ?_
  | with_reducible refine isn_int ?_
  | with_reducible refine isnn_int ?_
  | with_reducible refine is_str_tuple ?_
  | with_reducible refine is_str_bool ?_
  | with_reducible refine is_str_int ?_
  | with_reducible refine is_str_str ?_
  | with_reducible refine is_str_list ?_
  | with_reducible refine isn_str ?_
  | with_reducible refine isnn_str ?_
  | with_reducible refine is_tup_tuple ?_
  | with_reducible refine is_tup_bool ?_
  | with_reducible refine is_tup_int ?_
  | with_reducible refine is_tup_str ?_
  | with_reducible refine is_tup_list ?_
  | with_reducible refine isn_tup ?_
  | with_reducible refine isnn_tup ?_
  | with_reducible refine is_kl_tuple ?_
  | with_reducible refine is_kl_bool ?_
  | with_reducible refine is_kl_int ?_
  | with_reducible refine is_kl_str ?_
  | with_reducible refine is_kl_list ?_
  | with_reducible refine isn_kl ?_
  | with_reducible refine isnn_kl ?_
  | with_reducible refine spA0 ?_
  | with_reducible refine spB0 ?_
  | with_reducible refine spA1 ?_
  | with_reducible refine spB1 ?_
  | with_reducible refine spA2 ?_
  | with_reducible refine spB2 ?_
  | with_reducible refine spA3 ?_
  | with_reducible refine spB3 ?_
  | with_reducible refine c_eqb ?_
  | with_reducible refine c_neb ?_
  | with_reducible refine c_nes ?_
  | with_reducible refine c_lts ?_
  | with_reducible refine c_les ?_
  | with_reducible refine b_abs ?_
  | ((with_reducible refine kspT ?_ ?_); · exact rfl)
  | ((with_reducible refine kspF ?_ ?_); · exact rfl)
  | ((with_reducible refine kspT2 ?_ ?_); · exact rfl)
  | ((with_reducible refine kspF2 ?_ ?_); · exact rfl)
    | with_reducible refine w_raise ?_
  | with_reducible refine sN_ex ?_
  | with_reducible refine dQ_ex ?_
  | with_reducible refine lQ_ex ?_
  | with_reducible refine c_in1 ?_
  | with_reducible refine c_nin1 ?_
  | with_reducible refine c_inT ?_
  | with_reducible refine c_ninT ?_
  | with_reducible refine x_t0 ?_
  | with_reducible refine x_t1 ?_
  | with_reducible refine x_t2 ?_
  | with_reducible refine x_t3 ?_
  | with_reducible refine x_t4 ?_
  | with_reducible refine tQ_ex ?_
  | with_reducible refine tQ_rt ?_
  | with_reducible refine tQ_nx ?_
  | with_reducible refine w_tryx ?_
  )

theorem f_draw : G.fns.lookup ("_law_draw" : Str) = some drawF := by rfl
theorem f_state : G.fns.lookup ("_law_state" : Str) = some lstateF := by rfl
theorem f_words : G.fns.lookup ("_law_words" : Str) = some lwordsF := by rfl
theorem f_signs : G.fns.lookup ("_law_signs" : Str) = some r_c_l_signs.fn := by rfl
theorem f_piece : G.fns.lookup ("_law_piece" : Str) = some r_c_l_piece.fn := by rfl
theorem f_digits : G.fns.lookup ("_law_digits" : Str) = some r_c_l_digits.fn := by rfl
theorem f_ofrun : G.fns.lookup ("_law_of_run" : Str) = some r_c_l_of_run.fn := by rfl
theorem f_ends : G.fns.lookup ("_law_ends" : Str) = some r_c_l_ends.fn := by rfl
theorem f_step : G.fns.lookup ("_law_step" : Str) = some r_c_l_step.fn := by rfl
theorem f_due : G.fns.lookup ("_law_due" : Str) = some r_c_l_due.fn := by rfl
theorem f_told : G.fns.lookup ("_law_told" : Str) = some r_c_l_told.fn := by rfl
theorem f_law : G.fns.lookup ("law" : Str) = some r_c_law.fn := by rfl
theorem tg : TokG G := ⟨by rfl, by rfl, by rfl, by rfl, by rfl, by rfl, by rfl, by rfl, by rfl, by rfl, by rfl, by rfl, by rfl, by rfl, by rfl⟩
abbrev signsL : List Nat := [32, 33, 34, 35, 36, 38, 39, 40, 41, 42, 43, 44, 45, 46, 47, 48, 49, 50, 51, 52, 53, 54, 55, 56, 57, 58, 59, 60, 61, 62, 63, 64, 65, 66, 67, 68, 69, 70, 71, 72, 73, 74, 75, 76, 77, 78, 79, 80, 81, 82, 83, 84, 85, 86, 87, 88, 89, 90, 91, 92, 93, 94, 95, 96, 97, 98, 99, 100, 101, 102, 103, 104, 105, 106, 107, 108, 109, 110, 111, 112, 113, 114, 115, 116, 117, 118, 119, 120, 121, 122, 123, 124, 125, 126]
theorem signs_w {k : Nat} {S : Sto} {Q : D → Sto → Prop} {X : Xk} (q : Q (.str signsL) S) : wO (callF G (k + 1) ("_law_signs" : Str) [] S) Q X := by
  refine w_dfn f_signs rfl ?_
  show wS (exs (pmOf G k) c_l_signs [none] S) (dQ Q X)
  unfold c_l_signs
  walk_at "go"
  exact q
theorem sign_at {S : Sto} {i : Int} {Q : D → Prop} (h0 : 0 ≤ i) (h1 : i < 94) (q : ∀ c, NS 1 [c] → Q (.str [c])) : ∃ d, ixD (.str signsL) (.int i) S = some d ∧ Q d := by
  obtain ⟨c, e, hc⟩ := at_in (xs := signsL) h0 (by simpa using h1)
  have a : ∀ c ∈ signsL, c < 256 := by decide
  exact x_str (by decide) e (q c ⟨by simp, fun d hd => by rw [List.mem_singleton.mp hd]; exact a c hc⟩)
theorem strs_at {S : Sto} {r : Nat} {ys : List (List Nat)} {i : Int} {Q : D → Prop} (g : S[r]? = some (.lst (ys.map D.str))) (h0 : 0 ≤ i) (h1 : i < ys.length) (q : ∀ y, y ∈ ys → Q (.str y)) : ∃ d, ixD (.ref r) (.int i) S = some d ∧ Q d := by
  obtain ⟨d, e, hd⟩ := at_in (xs := ys.map D.str) h0 (by simpa using h1)
  obtain ⟨y, hy, rfl⟩ := List.mem_map.mp hd
  exact x_ref g e (q y hy)
theorem piece_w {k n m : Nat} {S : Sto} {Q : D → Sto → Prop} {X : Xk} (h : Dr n m S) (q : ∀ w S', NS 300 w → Dr n m S' → Keep n S S' → Q (.str w) S') : wO (callF G (k + 2) ("_law_piece" : Str) [.ref n] S) Q X := by
  refine w_dfn f_piece rfl ?_
  show wS (exs (pmOf G (k + 1)) c_l_piece [some (.ref n), none, none, none] S) (dQ Q X)
  unfold c_l_piece
  have lt := h.lt
  walk_at "go"
  refine draw_w f_draw h (by omega) (by omega) fun v S1 v0 v1 D1 U1 => ?_
  walk_at "go"
  refine ⟨fun h0 => ?_, fun h0 => ?_⟩
  · walk_at "go"
    refine draw_w f_draw D1 (by omega) (by omega) fun u S2 u0 u1 D2 U2 => ?_
    obtain ⟨j, rfl⟩ : ∃ j : Nat, u = j := ⟨u.toNat, by omega⟩
    walk_at "go"
    rw [show (999999995 : Int) + (j : Int) = ((999999995 + j : Nat) : Int) by omega]
    refine b_strI (by omega) ?_
    walk_at "go"
    exact q _ _ ((NS_num (by omega)).mono (by omega)) D2 (U1.trans U2).keep
  walk_at "go"
  refine ⟨fun h1 => ?_, fun h1 => ?_⟩
  · walk_at "go"
    refine draw_w f_draw D1 (by omega) (by omega) fun u S2 u0 u1 D2 U2 => ?_
    walk_at "go"
    refine o_mulS ⟨by omega, by omega, Nat.le_trans (show 1 * u.toNat ≤ 10 by omega) (by decide)⟩ ?_
    walk_at "go"
    refine draw_w f_draw D2 (by omega) (by omega) fun t S3 t0 t1 D3 U3 => ?_
    obtain ⟨j, rfl⟩ : ∃ j : Nat, t = j := ⟨t.toNat, by omega⟩
    walk_at "go"
    refine b_strI (by omega) ?_
    walk_at "go"
    have a1 : NS (u.toNat * 1) (List.replicate u.toNat [48]).flatten := NS.rep ⟨by simp, by decide⟩ _
    have a2 : NS 10 (TL.numL j) := NS_num (by omega)
    have a3 := a1.app a2
    refine o_adds (by rw [← List.length_append]; exact Nat.le_trans a3.1 (Nat.le_trans (show u.toNat * 1 + 10 ≤ 20 by omega) (by decide))) ?_
    walk_at "go"
    exact q _ _ (a3.mono (by omega)) D3 ((U1.trans U2).trans U3).keep
  walk_at "go"
  refine ⟨fun h2 => ?_, fun h2 => ?_⟩
  · walk_at "go"
    refine signs_w (k := k) ?_
    walk_at "go"
    refine draw_w f_draw D1 (by omega) (by omega) fun u S2 u0 u1 D2 U2 => ?_
    refine sign_at u0 u1 fun c hc => ?_
    walk_at "go"
    refine o_mulS ⟨by omega, by omega, by decide⟩ ?_
    walk_at "go"
    have a2 : NS 24 (List.replicate (4 : Int).toNat [97, 66, 57, 120, 89, 48]).flatten := ⟨by decide, by decide⟩
    have a3 := hc.app a2
    refine o_adds (by rw [← List.length_append]; exact a3.line (by omega)) ?_
    walk_at "go"
    refine draw_w f_draw D2 (by omega) (by omega) fun t S3 t0 t1 D3 U3 => ?_
    walk_at "go"
    refine o_slS (a3.line (by omega)) ?_
    walk_at "go"
    exact q _ _ ((a3.cut _ _).mono (by omega)) D3 ((U1.trans U2).trans U3).keep
  walk_at "go"
  refine ⟨fun h3 => ?_, fun h3 => ?_⟩
  · walk_at "go"
    refine draw_w f_draw D1 (by omega) (by omega) fun u S2 u0 u1 D2 U2 => ?_
    walk_at "go"
    refine signs_w (k := k) ?_
    walk_at "go"
    refine draw_w f_draw D2 (by omega) (by omega) fun t S3 t0 t1 D3 U3 => ?_
    walk_at "go"
    refine sign_at (by omega) (by omega) fun c hc => ?_
    walk_at "go"
    refine o_mulS ⟨by omega, by omega, Nat.le_trans (show 1 * (197 + u).toNat ≤ 300 by omega) (by decide)⟩ ?_
    have a1 : NS ((197 + u).toNat * 1) (List.replicate (197 + u).toNat [c]).flatten := hc.rep _
    have a0 : NS 1 [39] := ⟨by simp, by decide⟩
    have a2 := a0.app a1
    have a3 := a2.app a0
    refine o_adds (by rw [← List.length_append]; exact a2.line (by omega)) ?_
    walk_at "go"
    refine o_adds (by rw [← List.length_append]; exact a3.line (by omega)) ?_
    walk_at "go"
    exact q _ _ (a3.mono (by omega)) D3 ((U1.trans U2).trans U3).keep
  walk_at "go"
  refine ⟨fun h4 => ?_, fun h4 => ?_⟩
  · walk_at "go"
    refine lwords_w (k := k) f_words fun r S2 K2 g2 => ?_
    walk_at "go"
    have l2 : n < S2.length := by have := (K2 0).1; have := U1.1; omega
    have D2 : Dr n m S2 := D1.keep (K2 (n + m + 1)) (by omega) (by omega)
    refine draw_w f_draw D2 (by omega) (by omega) fun t S3 t0 t1 D3 U3 => ?_
    have rn : r ≠ n := fun e => by
      obtain ⟨_, ⟨_, _, _, _, _, z, _⟩, _⟩ := D2
      rw [e, z] at g2
      cases g2
    refine strs_at (U3.get g2 rn) t0 (by exact t1) fun y hy => ?_
    walk_at "go"
    have a : ∀ y ∈ keyWords, NS 300 y := by unfold NS; decide
    exact q _ _ (a y hy) D3 ((U1.keep.trans (K2 n)).trans U3.keep)
  walk_at "go"
  refine ⟨fun h5 => ?_, fun h5 => ?_⟩
  · walk_at "go"
    refine ⟨by decide, ?_⟩
    have D2 := D1.app [O.lst (List.map D.str [[58, 61], [60, 61], [60], [61], [39, 39], [39, 97, 39], [32], [120, 49]])]
    refine draw_w f_draw D2 (by omega) (by omega) fun t S3 t0 t1 D3 U3 => ?_
    have l1 := U1.1
    refine strs_at (ys := [[58, 61], [60, 61], [60], [61], [39, 39], [39, 97, 39], [32], [120, 49]]) (U3.get get_new (by omega)) t0 (by exact t1) fun y hy => ?_
    walk_at "go"
    have a : ∀ y ∈ ([[58, 61], [60, 61], [60], [61], [39, 39], [39, 97, 39], [32], [120, 49]] : List (List Nat)), NS 300 y := by unfold NS; decide
    exact q _ _ (a y hy) D3 ((U1.keep.trans (Keep.new _)).trans U3.keep)
  walk_at "go"
  refine signs_w (k := k) ?_
  walk_at "go"
  refine draw_w f_draw D1 (by omega) (by omega) fun u S2 u0 u1 D2 U2 => ?_
  refine sign_at u0 u1 fun c hc => ?_
  walk_at "go"
  exact q _ _ (hc.mono (by omega)) D2 (U1.trans U2).keep
theorem nf {b : Bool} (h : (!b) = false) : b = true := by cases b <;> simp_all
theorem nt {b : Bool} (h : (!b) = true) : ¬ b = true := by cases b <;> simp_all
theorem digits_w {k : Nat} {w : List Nat} {S : Sto} {Q : D → Sto → Prop} {X : Xk} (hw : BigT w) (q : ∀ S', Kp S S' → Q (.bl (w.all digB)) S') : wO (callF G (k + 1) ("_law_digits" : Str) [.str w] S) Q X := by
  refine w_dfn f_digits rfl ?_
  show wS (exs (pmOf G k) c_l_digits [some (.str w), none] S) (dQ Q X)
  unfold c_l_digits
  walk_at "go"
  refine w_lcK (w.map fun c => D.str [c]) (fun d => match d with | .str [c] => if digB c = true then none else some d | _ => none) (by rw [List.length_map]; exact hw) ?_
  walk_at "go"
  refine walk_s ?_
  refine ⟨fun i S' _ => ?_, fun i d S' hd K => ?_, fun S' K g => ?_⟩
  · rw [List.getElem?_map]; rfl
  · rw [List.getElem?_map] at hd
    obtain ⟨c, hc, rfl⟩ := Option.map_eq_some_iff.mp hd
    have e : wipeL [some (.str w), none] [1] = [some (.str w), none] := rfl
    rw [e]
    walk_at "go"
    refine ⟨Kp.refl _, fun h => ?_, fun h => ?_⟩
    · have h : digB c = true := nf h
      dsimp only
      rw [if_pos h]
    · have h : ¬ digB c = true := nt h
      walk_at "go"
      refine ⟨Kp.refl _, ?_⟩
      dsimp only
      rw [if_neg h]
  · refine b_lenR g ?_
    walk_at "go"
    have e : decide ((((w.map fun c => D.str [c]).filterMap fun d => match d with | .str [c] => if digB c = true then none else some d | _ => none).length : Int) = 0) = w.all digB := by
      rw [List.filterMap_map]
      cases h : w.all digB with
      | true =>
        refine decide_eq_true ?_
        have : (w.filterMap ((fun d => match d with | D.str [c] => if digB c = true then none else some d | _ => none) ∘ fun c => D.str [c])) = [] := by
          rw [List.filterMap_eq_nil_iff]
          intro c hc
          show (if digB c = true then none else _) = none
          rw [if_pos (List.all_eq_true.mp h c hc)]
        rw [this]; rfl
      | false =>
        refine decide_eq_false fun z => ?_
        obtain ⟨c, hc, hd⟩ := List.all_eq_false.mp h
        have z2 : (w.filterMap ((fun d => match d with | D.str [c] => if digB c = true then none else some d | _ => none) ∘ fun c => D.str [c])) = [] := List.length_eq_zero_iff.mp (by omega)
        have := List.filterMap_eq_nil_iff.mp z2 c hc
        have z3 : (if digB c = true then none else some (D.str [c])) = none := this
        rw [if_neg hd] at z3
        cases z3
    rw [e]
    exact q S' K
end K02

namespace K02
open PySem PySem.Spec PyProof.Rows L2 Dy
local macro_rules | `(tactic| walk_at "go") => `(tactic| repeat first
  | with_reducible refine w_scons ?_
  | with_reducible refine sN_nx ?_
  | with_reducible refine w_asg ?_
  | with_reducible refine w_nm ?_
  | with_reducible refine w_lit ?_
  | ((with_reducible refine w_vari ?_); (refine ⟨_, rfl, ?_⟩))
  | with_reducible refine w_bin ?_
  | with_reducible refine w_neg ?_
  | with_reducible refine w_cmp ?_
  | with_reducible refine w_chain ?_
  | with_reducible refine w_nt ?_
  | with_reducible refine w_and ?_
  | with_reducible refine w_or ?_
  | with_reducible refine w_ite ?_
  | with_reducible refine w_tup ?_
  | with_reducible refine w_lst ?_
  | with_reducible refine w_ix ?_
  | with_reducible refine w_sl ?_
  | with_reducible refine w_no ?_
  | with_reducible refine w_so ?_
  | with_reducible refine w_call ?_
  | with_reducible refine w_bi ?_
  | with_reducible refine w_bm ?_
  | with_reducible refine w_isi ?_
  | with_reducible refine w_nil ?_
  | with_reducible refine w_cons ?_
  | with_reducible refine w_of ?_
  | with_reducible refine w_tnt ?_
  | with_reducible refine w_tand ?_
  | with_reducible refine w_tor ?_
  | with_reducible refine w_yes ?_
  | with_reducible refine w_if1 ?_
  | with_reducible refine w_seq ?_
  | with_reducible refine w_rng1 ?_
  | with_reducible refine w_rng2 ?_
  | with_reducible refine w_enum ?_
  | with_reducible refine w_tp ?_
  | with_reducible refine w_tnil ?_
  | with_reducible refine w_tcons ?_
  | with_reducible refine w_sub ?_
  | with_reducible refine w_ex ?_
  | with_reducible refine w_ret ?_
  | with_reducible refine w_retn ?_
  | with_reducible refine w_pass ?_
  | with_reducible refine w_brk ?_
  | with_reducible refine w_cont ?_
  | with_reducible refine w_iff ?_
  | with_reducible refine w_snil ?_
  | with_reducible refine w_fr ?_
  | with_reducible refine sN_rt ?_
  | with_reducible refine sN_bk ?_
  | with_reducible refine sN_ct ?_
  | with_reducible refine sX_i ?_
  | with_reducible refine dQ_nx ?_
  | with_reducible refine dQ_rt ?_
  | with_reducible refine lQ_nx ?_
  | with_reducible refine lQ_ct ?_
  | with_reducible refine lQ_bk ?_
  | with_reducible refine lQ_rt ?_
  | with_reducible refine o_add ?_
  | with_reducible refine o_sub ?_
  | ((with_reducible refine o_mulL ?_ ?_); · omega)
  | ((with_reducible refine o_mulR ?_ ?_); · omega)
  | ((with_reducible refine o_mod ?_ ?_); · omega)
  | ((with_reducible refine o_div ?_ ?_ ?_); · omega
     · omega)
  | with_reducible refine c_lt ?_
  | with_reducible refine c_le ?_
  | with_reducible refine c_gt ?_
  | with_reducible refine c_ge ?_
  | with_reducible refine c_eqi ?_
  | with_reducible refine c_eqs ?_
  | with_reducible refine c_nei ?_
  | with_reducible refine t_bl ?_
  | with_reducible refine b_int ?_
  | with_reducible refine b_lenT ?_
  | with_reducible refine b_tupT ?_
  | with_reducible refine b_lstT ?_
  | ((with_reducible refine b_lenRi ?_); (refine ⟨_, by assumption, ?_⟩))
  | ((with_reducible refine x_refi ?_); (refine ⟨_, by assumption, ?_⟩); (refine ⟨_, rfl, ?_⟩))
  | (with_reducible refine u_ref ?_)
  | ((with_reducible refine sm_i ?_ ?_); · exact small_i (by omega) (by omega))
  | ((with_reducible refine rg2_i ?_ ?_); · exact rg2_small (by omega) (by omega) (by omega) (by omega))
  | with_reducible refine neg_i ?_
  | with_reducible refine is_non_tuple ?_
  | with_reducible refine is_non_bool ?_
  | with_reducible refine is_non_int ?_
  | with_reducible refine is_non_str ?_
  | with_reducible refine is_non_list ?_
  | with_reducible refine isn_non ?_
  | with_reducible refine isnn_non ?_
  | with_reducible refine is_bl_tuple ?_
  | with_reducible refine is_bl_bool ?_
  | with_reducible refine is_bl_int ?_
  | with_reducible refine is_bl_str ?_
  | with_reducible refine is_bl_list ?_
  | with_reducible refine isn_bl ?_
  | with_reducible refine isnn_bl ?_
  | with_reducible refine is_int_tuple ?_
  | with_reducible refine is_int_bool ?_
  | with_reducible refine is_int_int ?_
  | with_reducible refine is_int_str ?_
  | with_reducible refine is_int_list ?_
  | with_reducible refine isn_int ?_
  | with_reducible refine isnn_int ?_
  | with_reducible refine is_str_tuple ?_
  | with_reducible refine is_str_bool ?_
  | with_reducible refine is_str_int ?_
  | with_reducible refine is_str_str ?_
  | with_reducible refine is_str_list ?_
  | with_reducible refine isn_str ?_
  | with_reducible refine isnn_str ?_
  | with_reducible refine is_tup_tuple ?_
  | with_reducible refine is_tup_bool ?_
  | with_reducible refine is_tup_int ?_
  | with_reducible refine is_tup_str ?_
  | with_reducible refine is_tup_list ?_
  | with_reducible refine isn_tup ?_
  | with_reducible refine isnn_tup ?_
  | with_reducible refine is_kl_tuple ?_
  | with_reducible refine is_kl_bool ?_
  | with_reducible refine is_kl_int ?_
  | with_reducible refine is_kl_str ?_
  | with_reducible refine is_kl_list ?_
  | with_reducible refine isn_kl ?_
  | with_reducible refine isnn_kl ?_
  | with_reducible refine spA0 ?_
  | with_reducible refine spB0 ?_
  | with_reducible refine spA1 ?_
  | with_reducible refine spB1 ?_
  | with_reducible refine spA2 ?_
  | with_reducible refine spB2 ?_
  | with_reducible refine spA3 ?_
  | with_reducible refine spB3 ?_
  | with_reducible refine c_eqb ?_
  | with_reducible refine c_neb ?_
  | with_reducible refine c_nes ?_
  | with_reducible refine c_lts ?_
  | with_reducible refine c_les ?_
  | with_reducible refine b_abs ?_
  | ((with_reducible refine kspT ?_ ?_); · exact rfl)
  | ((with_reducible refine kspF ?_ ?_); · exact rfl)
  | ((with_reducible refine kspT2 ?_ ?_); · exact rfl)
  | ((with_reducible refine kspF2 ?_ ?_); · exact rfl)
    | with_reducible refine w_raise ?_
  | with_reducible refine sN_ex ?_
  | with_reducible refine dQ_ex ?_
  | with_reducible refine lQ_ex ?_
  | with_reducible refine c_in1 ?_
  | with_reducible refine c_nin1 ?_
  | with_reducible refine c_inT ?_
  | with_reducible refine c_ninT ?_
  | with_reducible refine x_t0 ?_
  | with_reducible refine x_t1 ?_
  | with_reducible refine x_t2 ?_
  | with_reducible refine x_t3 ?_
  | with_reducible refine x_t4 ?_
  | with_reducible refine tQ_ex ?_
  | with_reducible refine tQ_rt ?_
  | with_reducible refine tQ_nx ?_
  | with_reducible refine w_tryx ?_
  )

def ofT : Cs := (.cons (.iff (.of (.cmp .Gt (.bi "int" (.cons (.var 0) .nil)) (.lit (.int 1000000000)))) (.cons (.ret (.lit .non))
  .nil) .nil)
  (.cons (.ret (.tup (.cons (.lit (.str [110, 117, 109, 98, 101, 114])) (.cons (.bi "int" (.cons (.var 0) .nil)) (.cons (.var 1) .nil)))))
  .nil))
def ofR : Cs := (.cons (.iff (.of (.cmp .Gt (.bi "len" (.cons (.var 0) .nil)) (.lit (.int 20)))) (.cons (.ret (.lit .non))
  .nil) .nil)
  (.cons (.iff (.of (.cmp .In (.ix (.var 0) (.lit (.int 0))) (.lit (.str [65, 66, 67, 68, 69, 70, 71, 72, 73, 74, 75, 76, 77, 78, 79, 80, 81, 82, 83, 84, 85, 86, 87, 88, 89, 90])))) (.cons (.ret (.tup (.cons (.lit (.str [99, 108, 97, 115, 115])) (.cons (.var 0) (.cons (.var 1) .nil)))))
  .nil) .nil)
  (.cons (.iff (.of (.cmp .In (.var 0) (.call "_law_words" .nil))) (.cons (.ret (.tup (.cons (.lit (.str [119, 111, 114, 100])) (.cons (.var 0) (.cons (.var 1) .nil)))))
  .nil) .nil)
  (.cons (.ret (.tup (.cons (.lit (.str [110, 97, 109, 101])) (.cons (.var 0) (.cons (.var 1) .nil)))))
  .nil))))
theorem c_of : c_l_of_run = (.cons (.iff (.of (.cmp .In (.ix (.var 0) (.lit (.int 0))) (.lit (.str [48, 49, 50, 51, 52, 53, 54, 55, 56, 57])))) (.cons (.iff (.bo .Or (.nt (.of (.call "_law_digits" (.cons (.var 0) .nil)))) (.bo .Or (.of (.cmp .Gt (.bi "len" (.cons (.var 0) .nil)) (.lit (.int 10)))) (.bo .And (.of (.cmp .Eq (.ix (.var 0) (.lit (.int 0))) (.lit (.str [48])))) (.of (.cmp .Gt (.bi "len" (.cons (.var 0) .nil)) (.lit (.int 1))))))) (.cons (.ret (.lit .non))
  .nil) .nil)
  ofT) .nil) ofR) := by rfl

theorem ofrun_w {k c : Nat} {x : List Nat} {S : Sto} {s : Int} {Q : D → Sto → Prop} {X : Xk} (hw : BigT (c :: x)) (q : ∀ S', Kp S S' → Q ((runTok (c :: x) s).getD .non) S') : wO (callF G (k + 2) ("_law_of_run" : Str) [.str (c :: x), .int s] S) Q X := by
  refine w_dfn f_ofrun rfl ?_
  show wS (exs (pmOf G (k + 1)) c_l_of_run [some (.str (c :: x)), some (.int s)] S) (dQ Q X)
  have hll : (c :: x).length ≤ sizeLine := hw.line
  have ec : atI (c :: x) 0 = some c := at_nat (j := 0) rfl rfl
  unfold runTok at q
  dsimp only at q
  rw [c_of]
  walk_at "go"
  refine x_str hll ec ?_
  walk_at "go"
  refine ⟨fun h => ?_, fun h => ?_⟩
  · have e : digB c = true := h
    rw [if_pos e] at q
    have bad : ∀ S', Kp S S' → numOkB (c :: x) = false → Q .non S' := by
      intro S' K z
      have := q S' K
      rw [if_neg (by rw [z]; decide)] at this
      exact this
    walk_at "go"
    refine digits_w (k := k) hw fun S1 K1 => ?_
    walk_at "go"
    refine ⟨fun h1 => ?_, fun h1 => ?_⟩
    rotate_left
    · walk_at "go"
      refine bad _ K1 ?_
      unfold numOkB
      rw [show (c :: x).all digB = false by simpa using nt h1]; rfl
    have hall : (c :: x).all digB = true := nf h1
    walk_at "go"
    refine b_lenS hll ?_
    walk_at "go"
    refine ⟨fun h2 => ?_, fun h2 => ?_⟩
    rotate_left
    · have h2 := of_decide_eq_true h2
      walk_at "go"
      refine bad _ K1 ?_
      unfold numOkB
      rw [decide_eq_false (by omega : ¬ (c :: x).length ≤ 10)]; simp
    have h2 := of_decide_eq_false h2
    walk_at "go"
    refine x_str hll ec ?_
    walk_at "go"
    have tail : (1 < (c :: x).length → (c :: x)[0]? ≠ some 48) → wS (exs (pmOf G (k + 1)) ofT [some (.str (c :: x)), some (.int s)] S1) (sN (pmOf G (k + 1)) ofR (dQ Q X)) := by
      intro h0
      unfold ofT
      have hi := int_dig (List.cons_ne_nil c x) hall h0 (by omega)
      walk_at "go"
      refine b_intS hi (by omega) ?_
      walk_at "go"
      refine ⟨fun h => ?_, fun h => ?_⟩
      · have h := of_decide_eq_true h
        walk_at "go"
        refine bad _ K1 ?_
        unfold numOkB
        rw [decide_eq_false (by omega : ¬ numV (c :: x) ≤ 1000000000)]; simp
      · have h := of_decide_eq_false h
        walk_at "go"
        refine b_intS hi (by omega) ?_
        walk_at "go"
        refine ⟨three_le, ?_⟩
        walk_at "go"
        have := q _ K1
        rw [if_pos (by
          unfold numOkB
          rw [hall, decide_eq_true (by omega : (c :: x).length ≤ 10), decide_eq_true (by omega : numV (c :: x) ≤ 1000000000)]
          by_cases z : 1 < (c :: x).length
          · rw [decide_eq_false (h0 z)]; rfl
          · rw [decide_eq_false z]; simp)] at this
        exact this
    refine ⟨fun h3 => ?_, fun h3 => ?_⟩
    · have h3 : ([c] : List Nat) = [48] := of_decide_eq_true h3
      cases h3
      walk_at "go"
      refine b_lenS hll ?_
      walk_at "go"
      refine ⟨fun h => ?_, fun h => ?_⟩
      · have h := of_decide_eq_true h
        walk_at "go"
        refine bad _ K1 ?_
        unfold numOkB
        rw [decide_eq_true (show (48 :: x)[0]? = some 48 from rfl), decide_eq_true (show 1 < (48 :: x).length by omega)]; simp
      · have h := of_decide_eq_false h
        walk_at "go"
        exact tail fun z => absurd z (by omega)
    · have h3 := of_decide_eq_false h3
      walk_at "go"
      exact tail fun _ z => h3 (by cases z; rfl)
  have e : ¬ digB c = true := by
    have h : digB c = false := h
    rw [h]; decide
  rw [if_neg e] at q
  walk_at "go"
  unfold ofR
  walk_at "go"
  refine b_lenS hll ?_
  walk_at "go"
  refine ⟨fun h => ?_, fun h => ?_⟩
  · have h := of_decide_eq_true h
    rw [if_neg (by omega)] at q
    walk_at "go"
    exact q _ (Kp.refl _)
  have h := of_decide_eq_false h
  rw [if_pos (by omega)] at q
  walk_at "go"
  refine x_str hll ec ?_
  walk_at "go"
  unfold runK at q
  refine ⟨fun h => ?_, fun h => ?_⟩
  · rw [if_pos (of_decide_eq_true h : c ∈ capL)] at q
    walk_at "go"
    refine ⟨three_le, ?_⟩
    walk_at "go"
    exact q _ (Kp.refl _)
  rw [if_neg (of_decide_eq_false h : ¬ c ∈ capL)] at q
  walk_at "go"
  refine lwords_w (k := k) f_words fun r S1 K1 g1 => ?_
  refine c_inR g1 ?_
  walk_at "go"
  refine ⟨fun h => ?_, fun h => ?_⟩
  · rw [if_pos (of_decide_eq_true h)] at q
    walk_at "go"
    refine ⟨three_le, ?_⟩
    walk_at "go"
    exact q _ K1
  rw [if_neg (of_decide_eq_false h)] at q
  walk_at "go"
  refine ⟨three_le, ?_⟩
  walk_at "go"
  exact q _ K1
/-! ### ends of runs -/
def eN (x : List Nat) (i : Nat) : Nat := i + ((x.drop i).takeWhile alB).length
abbrev jointL : List Nat := [97, 98, 99, 100, 101, 102, 103, 104, 105, 106, 107, 108, 109, 110, 111, 112, 113, 114, 115, 116, 117, 118, 119, 120, 121, 122, 65, 66, 67, 68, 69, 70, 71, 72, 73, 74, 75, 76, 77, 78, 79, 80, 81, 82, 83, 84, 85, 86, 87, 88, 89, 90, 48, 49, 50, 51, 52, 53, 54, 55, 56, 57]
theorem joint_al (c : Nat) : decide (c ∈ jointL) = alB c := by
  have e : jointL = smallL ++ (capL ++ digL) := by decide
  unfold alB
  refine decide_eq_decide.mpr ?_
  rw [e, List.mem_append, List.mem_append]
  rfl
structure Ends (x : List Nat) (r : Nat) (S : Sto) (i : Nat) : Prop where
  ex : ∃ es : List Int, S[r]? = some (.lst (es.map D.int)) ∧ es.length = x.length + 1 ∧ ∀ j, x.length ≤ j + i → j ≤ x.length → es[j]? = some (eN x j : Int)
theorem eN_not {x : List Nat} {j c : Nat} (h : x[j]? = some c) (hc : alB c = false) : eN x j = j := by
  have lt := (List.getElem?_eq_some_iff.mp h).1
  unfold eN
  rw [List.drop_eq_getElem_cons lt, List.takeWhile_cons_of_neg (by rw [(List.getElem?_eq_some_iff.mp h).2, hc]; decide)]
  rfl
theorem eN_al {x : List Nat} {j c : Nat} (h : x[j]? = some c) (hc : alB c = true) : eN x j = eN x (j + 1) := by
  have lt := (List.getElem?_eq_some_iff.mp h).1
  unfold eN
  rw [List.drop_eq_getElem_cons lt, List.takeWhile_cons_of_pos (by rw [(List.getElem?_eq_some_iff.mp h).2, hc])]
  show j + ((x.drop (j + 1)).takeWhile alB).length.succ = _
  omega
theorem eN_end {x : List Nat} : eN x x.length = x.length := by
  unfold eN
  rw [List.drop_length]; rfl
theorem ends_w {k : Nat} {x : List Nat} {S : Sto} {Q : D → Sto → Prop} {X : Xk} (hw : x.length ≤ 100000) (q : ∀ r S', Kp S S' → Ends x r S' x.length → Q (.ref r) S') : wO (callF G (k + 1) ("_law_ends" : Str) [.str x] S) Q X := by
  refine w_dfn f_ends rfl ?_
  show wS (exs (pmOf G k) c_l_ends [some (.str x), none, none, none, none, none] S) (dQ Q X)
  have hll : x.length ≤ sizeLine := Nat.le_trans hw (by decide)
  unfold c_l_ends
  walk_at "go"
  refine w_lcK ((List.range (x.length + 1)).map fun i : Nat => D.int (i : Int)) (fun _ => some (.int x.length)) (by rw [List.length_map, List.length_range]; omega) ?_
  walk_at "go"
  refine b_lenS hll ?_
  walk_at "go"
  refine ⟨fun i S' _ => ?_, fun i d S' hd K => ?_, fun S1 K1 g1 => ?_⟩
  · rw [List.getElem?_map]
    by_cases hi : i < x.length + 1
    · rw [List.getElem?_range hi, at_rg (by omega)]
      simp
    · rw [List.getElem?_eq_none (by simpa using hi)]
      show some (if i < ((x.length : Int) + 1).toNat then _ else _) = _
      rw [if_neg (by omega)]; rfl
  · have e : ∀ o, wipeL [some (.str x), some (.str jointL), none, o, none, none] [3] = [some (.str x), some (.str jointL), none, none, none, none] := fun _ => rfl
    show wA (asg _ _ _ (wipeL [some (.str x), some (.str jointL), none, none, none, none] [3]) _) _
    rw [e]
    walk_at "go"
    refine ⟨Kp.refl _, fun h => (nomatch h), fun _ => ?_⟩
    walk_at "go"
    refine b_lenS hll ?_
    exact ⟨Kp.refl _, rfl⟩
  walk_at "go"
  refine b_lenS hll ?_
  walk_at "go"
  have E0 : Ends x S.length S1 0 := by
    refine ⟨((List.range (x.length + 1)).map fun _ => (x.length : Int)), ?_, by simp, fun j h1 h2 => ?_⟩
    · rw [g1, List.filterMap_map]
      show some (O.lst (List.filterMap (some ∘ fun (i : Nat) => D.int x.length) _)) = _
      rw [List.filterMap_eq_map, List.map_map]; rfl
    · have : j = x.length := by omega
      subst this
      rw [eN_end]
      simp
  generalize hr : S.length = r at E0 g1 ⊢
  refine w_loop x.length (fun i L S' => Kp S S' ∧ Ends x r S' i ∧ ∃ o4 o5, L = [some (.str x), some (.str jointL), some (.ref r), none, o4, o5]) ⟨K1, E0, _, _, rfl⟩ ?_ ?_
  · rintro L S2 ⟨K, E, o4, o5, rfl⟩
    refine ⟨?_, ?_⟩
    · rw [show ((x.length : Int)).toNat = x.length by omega]; exact at_rg_end
    walk_at "go"
    exact q _ _ K E
  · rintro i L S2 hi ⟨K, ⟨es, g, hlen, hE⟩, o4, o5, rfl⟩
    refine ⟨_, at_rg (by omega), ?_⟩
    obtain ⟨a, ha⟩ : ∃ a : Nat, a + i + 1 = x.length := ⟨x.length - 1 - i, by omega⟩
    have al : a < x.length := by omega
    have ea : atI x (a : Int) = some x[a] := at_nat rfl (List.getElem?_eq_getElem al)
    have ga : x[a]? = some x[a] := List.getElem?_eq_getElem al
    have fin : ∀ (v : Int) (es' : List Int) (S' : Sto) o4 o5, es'.length = x.length + 1 → v = eN x a → (∀ j, j ≠ a → es'[j]? = es[j]?) → es'[a]? = some v → S'[r]? = some (.lst (es'.map D.int)) → Upd r S2 S' → Kp S S' ∧ Ends x r S' (i + 1) ∧ ∃ o4' o5', [some (D.str x), some (D.str jointL), some (D.ref r), none, o4, o5] = [some (D.str x), some (D.str jointL), some (D.ref r), none, o4', o5'] := by
      intro v es' S' o4 o5 h1 h2 h3 h4 h5 h6
      refine ⟨K.upd h6 (by omega), ⟨es', h5, h1, fun j l1 l2 => ?_⟩, _, _, rfl⟩
      by_cases e : j = a
      · subst e
        rw [h4, h2]
      · rw [h3 j e]
        exact hE j (by omega) l2
    walk_at "go"
    refine b_lenS hll ?_
    walk_at "go"
    rw [show (x.length : Int) - 1 - (0 + (i : Int)) = (a : Int) by omega]
    have ix : ∀ es : List Int, es.length = x.length + 1 → ixN (es.map D.int).length (a : Int) = some a := by
      intro es h
      unfold ixN
      rw [List.length_map, h, if_pos (by omega), if_pos (by omega)]
      simp
    refine u_set g (ix es hlen) fun S3 g3 U3 => ?_
    rw [← List.map_set] at g3
    walk_at "go"
    refine x_str hll ea ?_
    walk_at "go"
    rw [joint_al]
    refine ⟨fun hc => ?_, fun hc => ?_⟩
    · walk_at "go"
      have l3 : (es.set a (a : Int)).length = x.length + 1 := by rw [List.length_set]; exact hlen
      refine u_set g3 (ix _ l3) fun S4 g4 U4 => ?_
      rw [← List.map_set, List.set_set] at g4
      have l4 : (es.set a ((a : Int) + 1)).length = x.length + 1 := by rw [List.length_set]; exact hlen
      walk_at "go"
      refine b_lenS hll ?_
      walk_at "go"
      refine ⟨fun h => ?_, fun h => ?_⟩
      · have h := of_decide_eq_true h
        have al2 : a + 1 < x.length := by omega
        have ea2 : atI x ((a : Int) + 1) = some x[a + 1] := at_nat (j := a + 1) rfl (List.getElem?_eq_getElem al2)
        walk_at "go"
        refine x_str hll ea2 ?_
        walk_at "go"
        rw [joint_al]
        refine ⟨fun hc2 => ?_, fun hc2 => ?_⟩
        · walk_at "go"
          have ge : (es.set a ((a : Int) + 1))[a + 1]? = some (eN x (a + 1) : Int) := by
            rw [List.getElem?_set_ne (by omega)]
            exact hE (a + 1) (by omega) (by omega)
          refine x_ref g4 (i := (a : Int) + 1) (d := .int (eN x (a + 1))) (at_nat (j := a + 1) rfl (by rw [List.getElem?_map, ge]; rfl)) ?_
          walk_at "go"
          refine u_set g4 (ix _ l4) fun S5 g5 U5 => ?_
          rw [← List.map_set, List.set_set] at g5
          walk_at "go"
          refine fin (eN x (a + 1)) _ S5 _ _ (by rw [List.length_set]; exact hlen) (by rw [eN_al ga hc]) (fun j hj => List.getElem?_set_ne (Ne.symm hj)) (List.getElem?_set_self (by omega)) g5 ((U3.trans U4).trans U5)
        · walk_at "go"
          refine fin ((a : Int) + 1) _ S4 _ _ l4 (by rw [eN_al ga hc, eN_not (List.getElem?_eq_getElem al2) hc2]; rfl) (fun j hj => List.getElem?_set_ne (Ne.symm hj)) (List.getElem?_set_self (by omega)) g4 (U3.trans U4)
      · have h := of_decide_eq_false h
        walk_at "go"
        refine fin ((a : Int) + 1) _ S4 _ _ l4 (by rw [eN_al ga hc, show a + 1 = x.length by omega, eN_end]; omega) (fun j hj => List.getElem?_set_ne (Ne.symm hj)) (List.getElem?_set_self (by omega)) g4 (U3.trans U4)
    · walk_at "go"
      refine fin (a : Int) _ S3 _ _ (by rw [List.length_set]; exact hlen) (by rw [eN_not ga hc]) (fun j hj => List.getElem?_set_ne (Ne.symm hj)) (List.getElem?_set_self (by omega)) g3 U3
end K02

namespace K02
open PySem PySem.Spec PyProof.Rows L2 Dy
local macro_rules | `(tactic| walk_at "go") => `(tactic| repeat first
  | with_reducible refine w_scons ?_
  | with_reducible refine sN_nx ?_
  | with_reducible refine w_asg ?_
  | with_reducible refine w_nm ?_
  | with_reducible refine w_lit ?_
  | ((with_reducible refine w_vari ?_); (refine ⟨_, rfl, ?_⟩))
  | with_reducible refine w_bin ?_
  | with_reducible refine w_neg ?_
  | with_reducible refine w_cmp ?_
  | with_reducible refine w_chain ?_
  | with_reducible refine w_nt ?_
  | with_reducible refine w_and ?_
  | with_reducible refine w_or ?_
  | with_reducible refine w_ite ?_
  | with_reducible refine w_tup ?_
  | with_reducible refine w_lst ?_
  | with_reducible refine w_ix ?_
  | with_reducible refine w_sl ?_
  | with_reducible refine w_no ?_
  | with_reducible refine w_so ?_
  | with_reducible refine w_call ?_
  | with_reducible refine w_bi ?_
  | with_reducible refine w_bm ?_
  | with_reducible refine w_isi ?_
  | with_reducible refine w_nil ?_
  | with_reducible refine w_cons ?_
  | with_reducible refine w_of ?_
  | with_reducible refine w_tnt ?_
  | with_reducible refine w_tand ?_
  | with_reducible refine w_tor ?_
  | with_reducible refine w_yes ?_
  | with_reducible refine w_if1 ?_
  | with_reducible refine w_seq ?_
  | with_reducible refine w_rng1 ?_
  | with_reducible refine w_rng2 ?_
  | with_reducible refine w_enum ?_
  | with_reducible refine w_tp ?_
  | with_reducible refine w_tnil ?_
  | with_reducible refine w_tcons ?_
  | with_reducible refine w_sub ?_
  | with_reducible refine w_ex ?_
  | with_reducible refine w_ret ?_
  | with_reducible refine w_retn ?_
  | with_reducible refine w_pass ?_
  | with_reducible refine w_brk ?_
  | with_reducible refine w_cont ?_
  | with_reducible refine w_iff ?_
  | with_reducible refine w_snil ?_
  | with_reducible refine w_fr ?_
  | with_reducible refine sN_rt ?_
  | with_reducible refine sN_bk ?_
  | with_reducible refine sN_ct ?_
  | with_reducible refine sX_i ?_
  | with_reducible refine dQ_nx ?_
  | with_reducible refine dQ_rt ?_
  | with_reducible refine lQ_nx ?_
  | with_reducible refine lQ_ct ?_
  | with_reducible refine lQ_bk ?_
  | with_reducible refine lQ_rt ?_
  | with_reducible refine o_add ?_
  | with_reducible refine o_sub ?_
  | ((with_reducible refine o_mulL ?_ ?_); · omega)
  | ((with_reducible refine o_mulR ?_ ?_); · omega)
  | ((with_reducible refine o_mod ?_ ?_); · omega)
  | ((with_reducible refine o_div ?_ ?_ ?_); · omega
     · omega)
  | with_reducible refine c_lt ?_
  | with_reducible refine c_le ?_
  | with_reducible refine c_gt ?_
  | with_reducible refine c_ge ?_
  | with_reducible refine c_eqi ?_
  | with_reducible refine c_eqs ?_
  | with_reducible refine c_nei ?_
  | with_reducible refine t_bl ?_
  | with_reducible refine b_int ?_
  | with_reducible refine b_lenT ?_
  | with_reducible refine b_tupT ?_
  | with_reducible refine b_lstT ?_
  | ((with_reducible refine b_lenRi ?_); (refine ⟨_, by assumption, ?_⟩))
  | ((with_reducible refine x_refi ?_); (refine ⟨_, by assumption, ?_⟩); (refine ⟨_, rfl, ?_⟩))
  | (with_reducible refine u_ref ?_)
  | ((with_reducible refine sm_i ?_ ?_); · exact small_i (by omega) (by omega))
  | ((with_reducible refine rg2_i ?_ ?_); · exact rg2_small (by omega) (by omega) (by omega) (by omega))
  | with_reducible refine neg_i ?_
  | with_reducible refine is_non_tuple ?_
  | with_reducible refine is_non_bool ?_
  | with_reducible refine is_non_int ?_
  | with_reducible refine is_non_str ?_
  | with_reducible refine is_non_list ?_
  | with_reducible refine isn_non ?_
  | with_reducible refine isnn_non ?_
  | with_reducible refine is_bl_tuple ?_
  | with_reducible refine is_bl_bool ?_
  | with_reducible refine is_bl_int ?_
  | with_reducible refine is_bl_str ?_
  | with_reducible refine is_bl_list ?_
  | with_reducible refine isn_bl ?_
  | with_reducible refine isnn_bl ?_
  | with_reducible refine is_int_tuple ?_
  | with_reducible refine is_int_bool ?_
  | with_reducible refine is_int_int ?_
  | with_reducible refine is_int_str ?_
  | with_reducible refine is_int_list ?_
  | with_reducible refine isn_int ?_
  | with_reducible refine isnn_int ?_
  | with_reducible refine is_str_tuple ?_
  | with_reducible refine is_str_bool ?_
  | with_reducible refine is_str_int ?_
  | with_reducible refine is_str_str ?_
  | with_reducible refine is_str_list ?_
  | with_reducible refine isn_str ?_
  | with_reducible refine isnn_str ?_
  | with_reducible refine is_tup_tuple ?_
  | with_reducible refine is_tup_bool ?_
  | with_reducible refine is_tup_int ?_
  | with_reducible refine is_tup_str ?_
  | with_reducible refine is_tup_list ?_
  | with_reducible refine isn_tup ?_
  | with_reducible refine isnn_tup ?_
  | with_reducible refine is_kl_tuple ?_
  | with_reducible refine is_kl_bool ?_
  | with_reducible refine is_kl_int ?_
  | with_reducible refine is_kl_str ?_
  | with_reducible refine is_kl_list ?_
  | with_reducible refine isn_kl ?_
  | with_reducible refine isnn_kl ?_
  | with_reducible refine spA0 ?_
  | with_reducible refine spB0 ?_
  | with_reducible refine spA1 ?_
  | with_reducible refine spB1 ?_
  | with_reducible refine spA2 ?_
  | with_reducible refine spB2 ?_
  | with_reducible refine spA3 ?_
  | with_reducible refine spB3 ?_
  | with_reducible refine c_eqb ?_
  | with_reducible refine c_neb ?_
  | with_reducible refine c_nes ?_
  | with_reducible refine c_lts ?_
  | with_reducible refine c_les ?_
  | with_reducible refine b_abs ?_
  | ((with_reducible refine kspT ?_ ?_); · exact rfl)
  | ((with_reducible refine kspF ?_ ?_); · exact rfl)
  | ((with_reducible refine kspT2 ?_ ?_); · exact rfl)
  | ((with_reducible refine kspF2 ?_ ?_); · exact rfl)
    | with_reducible refine w_raise ?_
  | with_reducible refine sN_ex ?_
  | with_reducible refine dQ_ex ?_
  | with_reducible refine lQ_ex ?_
  | with_reducible refine c_in1 ?_
  | with_reducible refine c_nin1 ?_
  | with_reducible refine c_inT ?_
  | with_reducible refine c_ninT ?_
  | with_reducible refine x_t0 ?_
  | with_reducible refine x_t1 ?_
  | with_reducible refine x_t2 ?_
  | with_reducible refine x_t3 ?_
  | with_reducible refine x_t4 ?_
  | with_reducible refine tQ_ex ?_
  | with_reducible refine tQ_rt ?_
  | with_reducible refine tQ_nx ?_
  | with_reducible refine w_tryx ?_
  )
theorem two_le : 2 ≤ sizeLine := by decide
theorem runTok_tup {w : List Nat} {a : Int} {d : D} (h : runTok w a = some d) : ∃ ds, d = .tup ds := by
  unfold runTok at h
  cases w with
  | nil => cases h
  | cons c w =>
    dsimp only at h
    split at h
    · split at h
      · cases h; exact ⟨_, rfl⟩
      · cases h
    · split at h
      · cases h; exact ⟨_, rfl⟩
      · cases h
theorem Ends.kp {x : List Nat} {r i : Nat} {S S' : Sto} (h : Ends x r S i) (k : Kp S S') : Ends x r S' i := by
  obtain ⟨es, g, z⟩ := h.ex
  exact ⟨es, k.get g, z⟩
theorem step_w {k e c : Nat} {x p r : List Nat} {S : Sto} {Q : D → Sto → Prop} {X : Xk} (hx : x = p ++ c :: r) (hw : x.length ≤ 100000) (hc : c ≠ 32) (E : Ends x e S x.length)
    (qo : ∀ ds n S', stepT p.length (c :: r) = some ([.tup ds], n) → Kp S S' → Q (.tup [.tup ds, .int ((p.length + n : Nat) : Int)]) S')
    (qx : ∀ v S', stepT p.length (c :: r) = none → Kp S S' → Q (.tup [.non, .int v]) S') : wO (callF G (k + 3) ("_law_step" : Str) [.str x, .ref e, .int (p.length : Int)] S) Q X := by
  refine w_dfn f_step rfl ?_
  show wS (exs (pmOf G (k + 2)) c_l_step [some (.str x), some (.ref e), some (.int (p.length : Int)), none] S) (dQ Q X)
  have hll : x.length ≤ sizeLine := Nat.le_trans hw (by decide)
  have hl : x.length = p.length + (r.length + 1) := by rw [hx]; simp
  obtain ⟨es, g, h1, h2⟩ := E.ex
  have ge : atI (es.map D.int) (p.length : Int) = some (.int (eN x p.length)) := at_nat rfl (by rw [List.getElem?_map, h2 p.length (by omega) (by omega)]; rfl)
  have ev : eN x p.length = p.length + ((c :: r).takeWhile alB).length := by unfold eN; rw [hx, List.drop_left]
  have at0 : atI x (p.length : Int) = some c := at_nat rfl (by rw [hx]; simp)
  have slice2 : cutL x (some (p.length : Int)) (some ((p.length : Int) + 2)) = (c :: r).take 2 := by rw [hx]; exact cutL_at rfl rfl
  unfold stepT at qo qx
  dsimp only at qo qx
  rw [if_neg hc] at qo qx
  unfold c_l_step
  walk_at "go"
  refine x_ref g ge ?_
  walk_at "go"
  refine ⟨fun h => ?_, fun h => ?_⟩
  · have h := of_decide_eq_true h
    have hal : alB c = true := by
      cases z : alB c with
      | true => rfl
      | false =>
        rw [ev, List.takeWhile_cons_of_neg (by rw [z]; decide)] at h
        simp at h
    have h39 : ¬ c = 39 := fun z => by subst z; exact absurd hal (by decide)
    rw [if_neg h39, if_pos hal] at qo qx
    have tw : (c :: r).takeWhile alB = c :: r.takeWhile alB := List.takeWhile_cons_of_pos hal
    walk_at "go"
    refine x_ref g ge ?_
    walk_at "go"
    refine o_slS hll ?_
    have e4 : cutL x (some (p.length : Int)) (some ((eN x p.length : Nat) : Int)) = (c :: r).takeWhile alB := by
      rw [hx, cutL_at (n := ((c :: r).takeWhile alB).length) rfl (by rw [← hx, ev]; omega)]
      exact (List.prefix_iff_eq_take.mp (List.takeWhile_prefix _)).symm
    rw [e4]
    walk_at "go"
    have hl2 : (r.takeWhile alB).length ≤ r.length := (List.takeWhile_prefix _).length_le
    have bw : BigT (c :: r.takeWhile alB) := by
      show (r.takeWhile alB).length + 1 ≤ 1000000
      omega
    rw [tw] at qo qx ev ⊢
    refine ofrun_w (k := k) bw fun S1 K1 => ?_
    walk_at "go"
    refine x_ref (K1.get g) ge ?_
    walk_at "go"
    refine ⟨two_le, ?_⟩
    walk_at "go"
    cases q : runTok (c :: r.takeWhile alB) p.length with
    | none =>
      rw [q] at qx
      exact qx _ S1 rfl K1
    | some d =>
      rw [q] at qo
      obtain ⟨ds, rfl⟩ := runTok_tup q
      show Q (.tup [.tup ds, .int (eN x p.length : Nat)]) S1
      rw [ev]
      exact qo ds _ S1 rfl K1
  have h := of_decide_eq_false h
  have hal : ¬ alB c = true := fun z => by
    rw [ev, List.takeWhile_cons_of_pos z] at h
    simp at h
    omega
  walk_at "go"
  refine x_str hll at0 ?_
  walk_at "go"
  refine ⟨fun h39 => ?_, fun h39 => ?_⟩
  · have h39 : c = 39 := by simpa using h39
    subst h39
    rw [if_pos rfl] at qo qx
    walk_at "go"
    refine ⟨rfl, ?_⟩
    walk_at "go"
    refine b_find ?_
    unfold quoteTok at qo qx
    subst hx
    cases hq : qLen r with
    | none =>
      rw [hq] at qx
      rw [find_none (qLen_none hq)]
      walk_at "go"
      refine ⟨two_le, ?_⟩
      walk_at "go"
      exact qx _ S rfl (Kp.refl _)
    | some n =>
      rw [hq] at qo qx
      obtain ⟨b, t, rfl, hb, rfl⟩ := qLen_some hq
      rw [find_quote hb]
      walk_at "go"
      refine ⟨fun h => ?_, fun h => ?_⟩
      · have h := of_decide_eq_true h
        dsimp only at qx
        rw [if_neg (by omega)] at qx
        walk_at "go"
        refine ⟨two_le, ?_⟩
        walk_at "go"
        exact qx _ S rfl (Kp.refl _)
      · have h := of_decide_eq_false h
        dsimp only at qo
        rw [if_pos (by omega), List.take_left] at qo
        walk_at "go"
        refine o_slS hll ?_
        have e3 : cutL (p ++ (39 :: (b ++ 39 :: t))) (some ((p.length : Int) + 1)) (some (((p.length + 1 + b.length : Nat) : Int))) = b := by
          have z := cutL_at (p := p ++ [39]) (r := b ++ 39 :: t) (n := b.length) (i := (p.length : Int) + 1) (j := ((p.length + 1 + b.length : Nat) : Int)) (by simp) (by omega)
          rw [List.take_left, List.append_assoc] at z
          exact z
        rw [e3]
        walk_at "go"
        refine ⟨three_le, ?_⟩
        walk_at "go"
        refine ⟨two_le, ?_⟩
        walk_at "go"
        have z := qo _ _ S rfl (Kp.refl _)
        rw [show (((p.length + (b.length + 2) : Nat)) : Int) = ((p.length + 1 + b.length : Nat) : Int) + 1 by omega] at z
        exact z
  have h39 : ¬ c = 39 := by simpa using h39
  rw [if_neg h39, if_neg hal] at qo qx
  walk_at "go"
  refine o_slS hll ?_
  rw [slice2]
  walk_at "go"
  refine ⟨by decide, ?_⟩
  walk_at "go"
  refine c_inR (ys := pairsL) get_new ?_
  walk_at "go"
  refine ⟨fun h => ?_, fun h => ?_⟩
  · have h : (c :: r).take 2 ∈ pairsL := of_decide_eq_true h
    rw [if_pos h] at qo
    walk_at "go"
    refine o_slS hll ?_
    rw [slice2]
    walk_at "go"
    refine ⟨three_le, ?_⟩
    walk_at "go"
    refine ⟨two_le, ?_⟩
    walk_at "go"
    exact qo _ _ _ rfl (Kp.new _)
  have h : ¬ (c :: r).take 2 ∈ pairsL := of_decide_eq_false h
  rw [if_neg h] at qo qx
  walk_at "go"
  refine x_str hll at0 ?_
  walk_at "go"
  refine ⟨fun h => ?_, fun h => ?_⟩
  · rw [if_pos (show c ∈ markL from of_decide_eq_true h)] at qo
    walk_at "go"
    refine x_str hll at0 ?_
    walk_at "go"
    refine ⟨three_le, ?_⟩
    walk_at "go"
    refine ⟨two_le, ?_⟩
    walk_at "go"
    exact qo _ _ _ rfl (Kp.new _)
  · rw [if_neg (show ¬ c ∈ markL from of_decide_eq_false h)] at qx
    walk_at "go"
    refine ⟨two_le, ?_⟩
    walk_at "go"
    exact qx _ _ rfl (Kp.new _)
/-! ### what is due -/
abbrev tokensK : List Nat := [116, 111, 107, 101, 110, 115]
abbrev wrongK : List Nat := [119, 114, 111, 110, 103]
def dueB : Cs := (.cons (.iff (.of (.cmp .GtE (.var 3) (.bi "len" (.cons (.var 0) .nil)))) (.cons (.ret (.tup (.cons (.lit (.str [116, 111, 107, 101, 110, 115])) (.cons (.var 2) .nil))))
  .nil) .nil)
  (.cons (.iff (.of (.cmp .Eq (.ix (.var 0) (.var 3)) (.lit (.str [32])))) (.cons (.asg (.nm 3) (.bin .Add (.var 3) (.lit (.int 1))))
  .nil) (.cons (.asg (.tp (.cons (.nm 5) (.cons (.nm 6) .nil))) (.call "_law_step" (.cons (.var 0) (.cons (.var 1) (.cons (.var 3) .nil)))))
  (.cons (.iff (.of (.cmp .Is (.var 5) (.lit .non))) (.cons (.ret (.tup (.cons (.lit (.str [119, 114, 111, 110, 103])) (.cons (.var 3) .nil))))
  .nil) .nil)
  (.cons (.ex (.bm "append" (.var 2) (.cons (.var 5) .nil)))
  (.cons (.asg (.nm 3) (.var 6))
  .nil)))))
  .nil))
def dueR : Cs := (.cons (.ret (.tup (.cons (.lit (.str [116, 111, 107, 101, 110, 115])) (.cons (.var 2) .nil))))
  .nil)
theorem c_due : c_l_due = (.cons (.asg (.nm 1) (.call "_law_ends" (.cons (.var 0) .nil)))
  (.cons (.asg (.nm 2) (.lst .nil))
  (.cons (.asg (.nm 3) (.lit (.int 0)))
  (.cons (.fr (.nm 4) (.rng1 (.bi "len" (.cons (.var 0) .nil))) dueB) dueR)))) := by rfl
theorem dueL_w {k e f : Nat} {x : List Nat} {S0 : Sto} {Q : D → Sto → Prop} {X : Xk} (hw : x.length ≤ 100000) (E : Ends x e S0 x.length) (hf : S0.length ≤ f) :
    ∀ (n i : Nat) (p r : List Nat) (done : List D) (o4 o5 o6 : Option D) (S : Sto), i + n = x.length → r.length ≤ n → x = p ++ r → done.length ≤ p.length → S[f]? = some (.lst done) → Kp S0 S →
    (∀ ts S', tokF n p.length r = (ts, none) → S'[f]? = some (.lst (done ++ ts)) → Kp S0 S' → Q (.tup [.str tokensK, .ref f]) S') →
    (∀ ts v S', tokF n p.length r = (ts, some v) → Kp S0 S' → Q (.tup [.str wrongK, .int (v : Nat)]) S') →
    wS (loopF (frStep (.rg 0 x.length) (fun d L S => asg (pmOf G (k + 3)) (.nm 4) d L S) (fun L S => exs (pmOf G (k + 3)) dueB L S)) (i, [some (.str x), some (.ref e), some (.ref f), some (.int (p.length : Int)), o4, o5, o6], S)) (sN (pmOf G (k + 3)) dueR (dQ Q X)) := by
  have hll : x.length ≤ sizeLine := Nat.le_trans hw (by decide)
  intro n
  induction n with
  | zero =>
    intro i p r done o4 o5 o6 S hi hr hx hd g K qo qx
    have er : r = [] := List.length_eq_zero_iff.mp (Nat.le_zero.mp hr)
    subst er
    refine w_for1 (.inl ⟨?_, ?_⟩)
    · rw [show i = x.length by omega]; exact at_rg_end
    · walk_at "go"
      unfold dueR
      walk_at "go"
      refine ⟨two_le, ?_⟩
      walk_at "go"
      exact qo [] S rfl (by rw [List.append_nil]; exact g) K
  | succ n ih =>
    intro i p r done o4 o5 o6 S hi hr hx hd g K qo qx
    have hl : x.length = p.length + r.length := by rw [hx]; simp
    refine w_for1 (.inr ⟨_, at_rg (by omega), ?_⟩)
    walk_at "go"
    unfold dueB
    walk_at "go"
    refine b_lenS hll ?_
    walk_at "go"
    cases r with
    | nil =>
      refine kspT (decide_eq_true (by simp at hl; omega)) ?_
      walk_at "go"
      refine ⟨two_le, ?_⟩
      walk_at "go"
      exact qo [] S rfl (by rw [List.append_nil]; exact g) K
    | cons c r =>
      refine kspF (decide_eq_false (by simp at hl; omega)) ?_
      have at0 : atI x (p.length : Int) = some c := at_nat rfl (by rw [hx]; simp)
      unfold tokF at qo qx
      have next : ∀ (ts : List D) (m : Nat) (o5 o6 : Option D) (S' : Sto) (o4 : Option D), stepT p.length (c :: r) = some (ts, m) → S'[f]? = some (.lst (done ++ ts)) → Kp S0 S' →
          wS (loopF (frStep (.rg 0 x.length) (fun d L S => asg (pmOf G (k + 3)) (.nm 4) d L S) (fun L S => exs (pmOf G (k + 3)) dueB L S)) (i + 1, [some (.str x), some (.ref e), some (.ref f), some (.int ((p.length + m : Nat) : Int)), o4, o5, o6], S')) (sN (pmOf G (k + 3)) dueR (dQ Q X)) := by
        intro ts m o5 o6 S' o4 e g' K'
        obtain ⟨m1, m2, m3⟩ := stepT_len e
        rw [e] at qo qx
        dsimp only at qo qx
        have pl : (p ++ (c :: r).take m).length = p.length + m := by rw [List.length_append, List.length_take]; omega
        have dlen : ((c :: r).drop m).length = (c :: r).length - m := List.length_drop
        have z := ih (i + 1) (p ++ (c :: r).take m) ((c :: r).drop m) (done ++ ts) o4 o5 o6 S' (by omega) (by rw [dlen]; omega) (by rw [hx, List.append_assoc, List.take_append_drop]) (by rw [List.length_append, pl]; omega) g' K'
        rw [pl] at z
        refine z (fun ts2 S2 e2 e4 e5 => ?_) (fun ts2 q S2 e2 e4 => ?_)
        · exact qo (ts ++ ts2) S2 (by rw [e2]) (by rw [← List.append_assoc]; exact e4) e5
        · exact qx (ts ++ ts2) q S2 (by rw [e2]) e4
      walk_at "go"
      refine x_str hll at0 ?_
      walk_at "go"
      refine ⟨fun h => ?_, fun h => ?_⟩
      · have h : c = 32 := by simpa using h
        walk_at "go"
        exact next [] 1 _ _ S _ (by unfold stepT; dsimp only; rw [if_pos h]) (by rw [List.append_nil]; exact g) K
      have h : c ≠ 32 := by simpa using h
      walk_at "go"
      refine step_w (k := k) hx hw h (E.kp K) (fun ds m S1 e K1 => ?_) (fun v S1 e K1 => ?_)
      · walk_at "go"
        have g1 := K1.get g
        refine ⟨ty_lst g1, ?_⟩
        walk_at "go"
        refine b_app g1 (Nat.lt_of_le_of_lt (Nat.le_trans hd (show p.length ≤ 100000 by omega)) (by decide)) fun S2 g2 U2 => ?_
        walk_at "go"
        exact next _ m _ _ S2 _ e g2 ((K.trans K1).upd U2 hf)
      · rw [e] at qx
        walk_at "go"
        refine ⟨two_le, ?_⟩
        walk_at "go"
        exact qx [] p.length S1 rfl (K.trans K1)
theorem due_w {k : Nat} {x : List Nat} {S : Sto} {Q : D → Sto → Prop} {X : Xk} (hw : x.length ≤ 100000)
    (qo : ∀ ts f S', tokA x = (ts, none) → S'[f]? = some (.lst ts) → Kp S S' → Q (.tup [.str tokensK, .ref f]) S')
    (qx : ∀ ts v S', tokA x = (ts, some v) → Kp S S' → Q (.tup [.str wrongK, .int (v : Nat)]) S') : wO (callF G (k + 4) ("_law_due" : Str) [.str x] S) Q X := by
  refine w_dfn f_due rfl ?_
  show wS (exs (pmOf G (k + 3)) c_l_due [some (.str x), none, none, none, none, none, none] S) (dQ Q X)
  have hll : x.length ≤ sizeLine := Nat.le_trans hw (by decide)
  rw [c_due]
  walk_at "go"
  refine ends_w (k := k + 2) hw fun e S1 K1 E1 => ?_
  walk_at "go"
  refine ⟨by decide, ?_⟩
  walk_at "go"
  refine b_lenS hll ?_
  walk_at "go"
  rw [show ((x.length : Int)).toNat = x.length by omega]
  exact dueL_w hw E1 (Nat.le_refl S1.length) x.length 0 [] x [] none none none _ (by omega) (Nat.le_refl _) rfl (Nat.le_refl _) get_new (Kp.new _) (fun ts S' e g K => qo ts _ S' e g (K1.trans K)) fun ts v S' e K => qx ts v S' e (K1.trans K)
theorem told_w {k : Nat} {x : List Nat} {S : Sto} {Q : D → Sto → Prop} {X : Xk} (hw : BigT x)
    (qo : ∀ ts f S', tokA x = (ts, none) → S'[f]? = some (.lst ts) → Kp S S' → Q (.tup [.str tokensK, .ref f]) S')
    (qx : ∀ ts v S', tokA x = (ts, some v) → Kp S S' → Q (.tup [.str wrongK, .int (v : Nat)]) S') : wO (callF G (k + 5) ("_law_told" : Str) [.str x] S) Q X := by
  refine w_dfn f_told rfl ?_
  show wS (exs (pmOf G (k + 4)) c_l_told [some (.str x), none] S) (dQ Q X)
  unfold c_l_told
  walk_at "go"
  refine tokenize_w tg hw (fun ts f S1 e _ g K => ?_) (fun ts v S1 e _ K => ?_)
  · walk_at "go"
    refine ⟨two_le, ?_⟩
    walk_at "go"
    exact qo ts f S1 e g K
  · walk_at "go"
    refine w_hand (fl := .rt (.tup [.str wrongK, .int (v : Nat)])) ?_ ?_ ?_ (.inr ⟨_, rfl, ?_⟩)
    · rfl
    · rfl
    · rfl
    · walk_at "go"
      exact qx ts v S1 e K
theorem eq_wrong {S : Sto} {i : Int} : eqD S (.tup [.str wrongK, .int i]) (.tup [.str wrongK, .int i]) = some true := by
  have py : pyD 5000 S (.tup [.str wrongK, .int i]) = some (.tuple [.str (stO wrongK), .int i]) := rfl
  have s1 : PyData.strOk (stO wrongK) = true := strOk_NS (n := 10) ⟨by decide, by decide⟩
  have sh : SeqAt.shaped (.tuple [.str (stO wrongK), .int i]) = true := by
    unfold SeqAt.shaped
    have c1 : PyData.canLay0 (.tuple [.str (stO wrongK), .int i]) = true := by simp only [PyData.canLay0, PyData.canLayAll0, s1, Bool.and_self]
    have c2 : PyData.depth (.tuple [.str (stO wrongK), .int i]) ≤ 1 := by simp only [PyData.depth, PyData.depthAll]; omega
    rw [c1]
    exact decide_eq_true (by omega)
  unfold eqD
  show (match pyD 5000 S (.tup [.str wrongK, .int i]), pyD 5000 S (.tup [.str wrongK, .int i]) with | some p, some q => if SeqAt.shaped p = true ∧ SeqAt.shaped q = true then some (p.eqv q) else none | _, _ => none) = some true
  rw [py]
  show (if _ then _ else _) = some true
  rw [if_pos ⟨sh, sh⟩, SeqAt.eqv_refl _ (SeqAt.canLay_of_shaped sh)]
theorem law_w {k : Nat} {S : Sto} {d : D} {ns : List Int} (hd : seqL S d = some (ns.map D.int)) : wO (callF G (k + 6) ("law" : Str) [d] S) (fun v _ => v = .bl true) fun _ _ _ => False := by
  refine w_dfn f_law rfl ?_
  show wS (exs (pmOf G (k + 5)) c_law [some d, none, none, none, none, none, none] S) (dQ _ _)
  unfold c_law
  walk_at "go"
  refine lstate_w f_state hd fun S1 D1 l1 => ?_
  walk_at "go"
  generalize hn : S.length + 1 = n at D1 ⊢
  generalize hm : S.length = m at D1
  refine draw_w f_draw D1 (by omega) (by omega) fun cnt S2 c0 c1 D2 U2 => ?_
  walk_at "go"
  refine w_loop cnt.toNat (fun i L S' => Dr n m S' ∧ ∃ x o3, NS 1700 x ∧ L = [some d, some (.ref n), some (.str x), o3, none, none, none]) ⟨D2, [], none, ⟨by simp, by simp⟩, rfl⟩ ?_ ?_
  · rintro L S3 ⟨D3, x, o3, hx, rfl⟩
    refine ⟨at_rg_end, ?_⟩
    walk_at "go"
    have hw : x.length ≤ 100000 := Nat.le_trans hx.1 (by omega)
    refine due_w (k := k + 1) hw (fun ts f S4 e4 g4 K4 => ?_) (fun ts v S4 e4 K4 => ?_)
    · walk_at "go"
      refine told_w (k := k) (Nat.le_trans hw (by omega)) (fun ts' f' S5 e5 g5 K5 => ?_) (fun ts' v' S5 e5 K5 => ?_)
      · rw [e4] at e5
        cases e5
        walk_at "go"
        have tl : ts.length ≤ 4000 := by
          have := tokF_len x.length 0 x
          rw [show tokF x.length 0 x = (ts, none) from e4] at this
          exact Nat.le_trans this (Nat.le_trans hx.1 (by omega))
        have ok : ∀ d ∈ ts, TkS d := by
          have := tokF_ok x.length 0 x hx.2
          rw [show tokF x.length 0 x = (ts, none) from e4] at this
          exact this
        have eq := eq_told (x := tokensK) ⟨by decide, by decide⟩ g5 (K5.get g4) tl ok
        refine ⟨false, by show (eqD _ _ _).map _ = _; rw [eq]; rfl, ?_⟩
        walk_at "go"
        refine w_lcK ts (fun _ => none) (Nat.le_trans tl (by omega)) ?_
        walk_at "go"
        refine ⟨_, by show (seqL S5 (.ref f')).map _ = _; rw [seq_r g5]; rfl, ?_⟩
        refine ⟨fun i S' K => ?_, fun i t S' ht K => ?_, fun S' K g => ?_⟩
        · show (seqL S' (.ref f')).map _ = _
          rw [seq_r (K.get g5)]; rfl
        · have ht2 : t ∈ ts := List.mem_of_getElem? ht
          obtain ⟨kd, v, a, rfl, -, hv⟩ := ok t ht2
          show wA (asg _ _ _ [some d, some (.ref n), some (.str x), o3, some (.tup [.str tokensK, .ref f]), some (.tup [.str tokensK, .ref f']), none] S') _
          rcases hv with ⟨y, rfl, -⟩ | ⟨j, rfl⟩
          · walk_at "go"
            exact ⟨Kp.refl _, fun _ => rfl, fun h => (nomatch h)⟩
          · walk_at "go"
            exact ⟨Kp.refl _, fun _ => rfl, fun h => (nomatch h)⟩
        · refine b_lenR g ?_
          walk_at "go"
          simp
      · rw [e4] at e5; cases e5
    · walk_at "go"
      refine told_w (k := k) (Nat.le_trans hw (by omega)) (fun ts' f' S5 e5 g5 K5 => ?_) (fun ts' v' S5 e5 K5 => ?_)
      · rw [e4] at e5; cases e5
      · rw [e4] at e5
        cases e5
        walk_at "go"
        refine ⟨false, by show (eqD _ _ _).map _ = _; rw [eq_wrong]; rfl, ?_⟩
        walk_at "go"
        rfl
  · rintro i L S3 hi ⟨D3, x, o3, hx, rfl⟩
    refine ⟨_, at_rg hi, ?_⟩
    walk_at "go"
    refine b_lenS (hx.line (by omega)) ?_
    walk_at "go"
    refine ⟨fun h => ?_, fun h => ?_⟩
    · have h := of_decide_eq_true h
      walk_at "go"
      refine piece_w (k := k + 3) D3 fun w S4 hw D4 K4 => ?_
      have z := hx.app hw
      refine o_adds (by rw [← List.length_append]; exact z.line (by omega)) ?_
      walk_at "go"
      exact ⟨D4, _, _, z.le (by rw [List.length_append]; have := hw.1; omega), rfl⟩
    · walk_at "go"
      exact ⟨D3, _, _, hx, rfl⟩
theorem all (ns : List Int) (h : ns.length ≤ 63) : LawOk G 60 ns := by
  constructor
  · obtain ⟨v, S', e, rfl⟩ := wO_ex (law_w (k := 54) (S := [O.fro (ns.map D.int)]) (d := .ref 0) (ns := ns) rfl)
    exact ⟨S', e⟩
  · obtain ⟨v, S', e, rfl⟩ := wO_ex (law_w (k := 54) (S := []) (d := .kl (ns.map D.int)) (ns := ns) rfl)
    exact ⟨S', e⟩
end K02

namespace K02
open PySem PySem.Spec PyProof.Rows L2 Dy
abbrev R : PySem.W.OpenRow := PySem.W.OpenLaw.row PySem.Challenge.rw_livestead_k02_any_text
abbrev hk : PySem.W.Hook := hookY 5 (faOf rows xs) (rows.map DRow.d) (conK cons) xs
def ob (s : PySem.W.SharedT) : AlY := obsY 5 (faOf rows xs) (rows.map DRow.d) (conK cons) xs (HandSHeadRun.getT s)
theorem ob_eq (s : PySem.W.SharedT) : ob s = hk.obs s.abs := obsY_eq (HandSHeadRun.getT_eq s)
def loose : List Str := (["LivesteadError", "SourceError", "NameTwice", "WORDS", "PAIRS", "MARKS", "SMALL", "CAPITAL", "DIGITS", "MOST_LETTERS", "MOST_NUMBER", "MOST_TEXT", "run_end", "number_token", "run_token", "text_token", "tokenize", "_law_state", "_law_draw", "_law_words", "_law_signs", "_law_piece", "_law_digits", "_law_of_run", "_law_ends"] : List Str) ++ (["_law_step", "_law_due", "_law_told"] : List Str)
theorem run0 (w : World) : HandSHeadRun.RunEq R (PySem.W.view R.prog [31]) hk ob 9000 loose (w.withFollow "special-get-raises" false) := by
  intro os
  kernel_rfl
theorem run1 (w : World) : HandSHeadRun.RunEq R (PySem.W.view R.prog [31]) hk ob 9000 loose (w.withFollow "special-get-raises" true) := by
  intro os
  kernel_rfl
theorem run (w : World) : HandSHeadRun.RunEq R (PySem.W.view R.prog [31]) hk ob 9000 loose w := PySem.W.byRow2 "special-get-raises" run0 run1 w
end K02
open PySem PySem.W PyProof.Rows
theorem PySem.Challenge.cw_livestead_k02_any_text_holds : PySem.Challenge.rw_livestead_k02_any_text.Holds := by
  w_on; o_law
  refine HandSHeadRun.head_any (r := OpenLaw.row PySem.Challenge.rw_livestead_k02_any_text) (q := view (OpenLaw.row PySem.Challenge.rw_livestead_k02_any_text).prog [31]) (H := K02.hk) (ob := K02.ob) (M := 9000) (loose := K02.loose) (d := HandSHeadRun.topDef (OpenLaw.row PySem.Challenge.rw_livestead_k02_any_text).prog 31) (kwd := []) K02.ob_eq
    (by kernel_rfl) (fun s => by kernel_rfl) K02.run (by kernel_rfl) (by kernel_rfl) (by kernel_rfl) (by rfl) (by first | assumption | decide +kernel) (by decide +kernel) ⟨rfl, rfl, rfl, rfl, rfl, by decide +kernel⟩ ?hw ?hc
  case hw => w_witness2
  case hc => exact Dy.law_end (fn := ⟨["_law_script"], ["_law_script", "_law_state_here", "_law_text", "_law_k", "_law_due_here", "_law_actual", "_law_token"], [], K02.c_law⟩) (x := "_law_script") rfl (by kernel_rfl) (by kernel_rfl) ⟨rfl, by decide, by decide⟩ (by decide +kernel) (by decide +kernel) (by decide +kernel) K02.ok_excs (by decide +kernel) (by kernel_rfl) (by kernel_rfl) K02.ok_rows (by kernel_rfl) rfl rfl K02.all

