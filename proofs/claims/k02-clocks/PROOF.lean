import PyProof.Rows.All
import Wide.All
import OpenK.AllK
import Wide.FinOn
import KE.KStateDown
import Lean
import HandS.Base
import HandS.Call
import HandS.List
import HandS.Comp
import HandS.Ends
import HandS.Dict
import HandS.Iter
import HandS.Text
import HandS.More
import HandS.Exc
import HandS.ExcOwn
import HandS.Words
import HandS.WordsList
import HandS.WordsExc
import HandS.Wide
import HandS.Defaults
import HandS.Head0
import HandS.Head1
import HandS.Head2
import HandS.HeadEnd
import HandS.HeadHook1
import HandS.HeadHook2
import HandS.IsInst
import HandS.Property
import HandS.OwnEq
import HandS.Codes
import HandS.TryOnly
import HandS.TryMany
import HandS.ExcIs
import KE.KCallOwn
import KE.KOpsOwn
import PySem.Challenge.RW_overmidnight_k02_whole_clocks_moved
set_option Elab.async false
set_option linter.all false
set_option maxRecDepth 100000
set_option maxHeartbeats 4000000
namespace HX
open PySem PySem.Spec PyProof.Rows L2

/-! ### a def of the text, found by its global name -/
structure GFn (P : Program) (w : World) (K : PySem.W.Frag) (mg : Str → Option Value) (base : Heap) (x : Str) (k : Nat) (ps : List Str) (sp : Sp) : Prop where
  gm : mg x = some (.ref (He.ga K x))
  kp : PySem.W.keepIn K (.ref (He.ga K x)) = true
  fn : ∃ fd, FnOk P w K mg base (L2.CX P w) k (He.ga K x) fd ps sp ∧ Binds K fd ps []
section
variable {X : Cx} {k : Nat} {x : Str} {ps : List Str} {sp : Sp} {E : XK} {p pos : Pos} {e : Expr} {es : List Expr} {t : TA}
theorem pe_g {E : L2.St → XK} (G : GFn X.prog X.w X.K X.mg X.base x k ps sp) (hr : Room k X.A) (hx : ∀ σ, PassesAt (L2.CX X.prog X.w) X σ (E σ)) (hg : Gl X x)
    (ha : PA X (e :: es) t) (hdb : (x == ("__debug__" : Str)) = false := by decide) (he : starEach (e :: es) X.env = (false, eval e X.env) :: starEach es X.env := by rfl) (hpl : (backTo pos (starEach es X.env)).any (·.1) = false := by rfl) :
    PE X (.Call (.Name x p) (e :: es) [] pos) (tCallS sp E t) := by
  obtain ⟨fd, F, b⟩ := G.fn
  exact pe_callS F hr hg G.gm G.kp b hx ha hdb he hpl
/-- nothing is let out of the callee -/
theorem pas0 : ∀ σ : L2.St, PassesAt (L2.CX X.prog X.w) X σ E0 := fun σ pins H s e s' I h => passL pins σ H s e s' I h
end
section
variable {P : Program} {w : World} {K : PySem.W.Frag} {mg : Str → Option Value} {base : Heap}
/-- the context of a def's body, written out (cxOf, to be seen through) -/
abbrev cxR (P : Program) (w : World) (K : PySem.W.Frag) (mg : Str → Option Value) (base : Heap) (N : List Str) (qual : Str) (scope : Scope) (f : Addr) (cd : Value) (A : Around) (outer : List Env) (s : Shared) (H : Hp) (E : XK) : Cx :=
  { prog := P, w := w, K := K, mg := mg, base := base, A := A.deeper (envOfC qual scope s.heap.objs.size f cd), N := N, s_0 := s, H_0 := H, env := envOfC qual scope s.heap.objs.size f cd, outer := outer,
    stack := envOfC qual scope s.heap.objs.size f cd :: outer, ex := [], calm := true, fn := fun _ => true, pn := [],
    xe := fun e s' => wpAny (model P w) (A.deeper (envOfC qual scope s.heap.objs.size f cd)) (leaving (envOfC qual scope s.heap.objs.size f cd) e) (fun _ s'' => L2.CX P w outer H s E e s'') (fun e' s'' => L2.CX P w outer H s E e' s'') s' }
theorem cxR_eq (P : Program) (w : World) (K : PySem.W.Frag) (mg : Str → Option Value) (base : Heap) (N : List Str) (qual : Str) (scope : Scope) (f : Addr) (cd : Value) (A : Around) (outer : List Env) (s : Shared) (H : Hp) (E : XK) :
    cxR P w K mg base N qual scope f cd A outer s H E = cxOf (L2.CX P w) P w K mg base N qual scope f cd A outer s H E := rfl
/-- in a def that may raise: what it lets out is its own wish -/
theorem takesO {P : Program} {w : World} {K : PySem.W.Frag} {mg : Str → Option Value} {base : Heap} {N : List Str} {qual : Str} {scope : Scope} {f : Addr} {cd : Value} {A : Around} {outer : List Env} {s : Shared} {H : Hp} {E : XK} :
    Takes (cxR P w K mg base N qual scope f cd A outer s H E) (fun cls d _ H => E cls d H) := takes_of rfl rfl rfl rfl
abbrev DefAt (K : PySem.W.Frag) (x qual : Str) (st : Stmt) (f : Addr) : Prop := ∃ fd, FunD K x qual (defArgs st) (defBody st) (defScope st) [] [] f fd
abbrev FdAt (K : PySem.W.Frag) (x qual : Str) (st : Stmt) (f : Addr) (fd : FuncData) : Prop := FunD K x qual (defArgs st) (defBody st) (defScope st) [] [] f fd
theorem fnok_of {x q : Str} {st : Stmt} {f : Addr} {fd : FuncData} {N ps : List Str} {k : Nat} {sp : Sp} (F : FdAt K x q st f fd) (S : FnScope N ps (defScope st)) (len : ∀ vs H Q E, sp vs H Q E → vs.length = ps.length)
    (hbody : ∀ (cdv : Value) (A : Around) (outer : List Env) (s : Shared) (H : Hp) (vs : List V) (Q : VK) (E : XK), Room k (A.deeper (envOfC q (defScope st) s.heap.objs.size f cdv)) → sp vs H Q E →
      ∃ t, PSs (cxR P w K mg base N q (defScope st) f cdv A outer s H E) (defBody st) t ∧ t { nx := fun _ H' => Q .non H', rt := Q } (start N vs) H) :
    FnOk P w K mg base (L2.CX P w) (k + 1) f fd ps sp := F.ok S len hbody
/-- a def that lets nothing out, whatever the word for what it lets out -/
theorem fnok0 {f : Addr} {fd : FuncData} {ps : List Str} {k : Nat} {sp : Sp} (F : FnOk P w K mg base (L2.CX P w) k f fd ps sp) (h : ∀ vs H Q E, sp vs H Q E → sp vs H Q E0) : FnOk P w K mg base CX0 k f fd ps sp :=
  ⟨F.len, fun A outer s H args us vs Q E hr e0 b r q => codeAny_mono (F.run A outer s H args us vs Q E0 hr e0 b r (h _ _ _ _ q)) fun r s' z => by
    match r, z with
    | .ok (.ret _), z => exact z
    | .ok .next, z => exact z
    | .ok .brk, z => exact z
    | .ok .cont, z => exact z
    | .error _, ⟨_, _, _, _, _, _, _, _, _, _, _, _, z⟩ => exact z.elim⟩
theorem gfn_false {x : Str} {st : Stmt} {N ps : List Str} (D : DefAt K x x st (He.ga K x)) (gm : mg x = some (.ref (He.ga K x))) (S : FnScope N ps (defScope st))
    (hb : ∀ (kV doc pm : Value) (an : Option Addr) (cdv ct : Value) (us : List Value), us.length = ps.length → bindArgs (PySem.W.fnOf x x (defArgs st) (defBody st) (defScope st) .none kV doc pm an cdv ct) ⟨us, []⟩ = pure (ps.zip us)) : GFn P w K mg base x 1 ps (fun _ _ _ _ => False) := by
  obtain ⟨fd, F⟩ := D
  exact ⟨gm, F.kp, fd, F.ok S (fun _ _ _ _ h => h.elim) (fun _ _ _ _ _ _ _ _ _ h => h.elim), F.bindsN hb⟩
theorem gfn_of {x : Str} {st : Stmt} {N ps : List Str} {k : Nat} {sp : Sp} (D : DefAt K x x st (He.ga K x)) (gm : mg x = some (.ref (He.ga K x))) (S : FnScope N ps (defScope st)) (len : ∀ vs H Q E, sp vs H Q E → vs.length = ps.length)
    (hb : ∀ (kV doc pm : Value) (an : Option Addr) (cdv ct : Value) (us : List Value), us.length = ps.length → bindArgs (PySem.W.fnOf x x (defArgs st) (defBody st) (defScope st) .none kV doc pm an cdv ct) ⟨us, []⟩ = pure (ps.zip us))
    (hbody : ∀ (cdv : Value) (A : Around) (outer : List Env) (s : Shared) (H : Hp) (vs : List V) (Q : VK) (E : XK), Room k (A.deeper (envOfC x (defScope st) s.heap.objs.size (He.ga K x) cdv)) → sp vs H Q E →
      ∃ t, PSs (cxR P w K mg base N x (defScope st) (He.ga K x) cdv A outer s H E) (defBody st) t ∧ t { nx := fun _ H' => Q .non H', rt := Q } (start N vs) H) :
    GFn P w K mg base x (k + 1) ps sp := by
  obtain ⟨fd, F⟩ := D
  exact ⟨gm, F.kp, fd, F.ok S len hbody, F.bindsN hb⟩
end

/-! ### methods, properties, instances -/
structure GMe (P : Program) (w : World) (K : PySem.W.Frag) (mg : Str → Option Value) (base : Heap) (c m : Str) (k : Nat) (ps : List Str) (sp : Sp) : Prop where
  me : Meth K (He.ga K c) m (He.ma K (He.ga K c) m)
  cl : Cls K (He.ga K c)
  fn : ∃ fd, FnOk P w K mg base (L2.CX P w) k (He.ma K (He.ga K c) m) fd ps sp ∧ Binds K fd ps []
/-- the getter behind a property's object -/
def pg (K : PySem.W.Frag) (C : Addr) (f : Str) : Addr := match PySem.W.recIn K (He.ma K C f) "property" with
  | some (.ref g :: _) => g
  | _ => 0
structure GPr (P : Program) (w : World) (K : PySem.W.Frag) (mg : Str → Option Value) (base : Heap) (c f : Str) (k : Nat) (sp : Sp) : Prop where
  po : PropOf K (He.ga K c) f (He.ma K (He.ga K c) f) (pg K (He.ga K c) f)
  cl : Cls K (He.ga K c)
  fn : ∃ fd, FnOk P w K mg base (L2.CX P w) k (pg K (He.ga K c) f) fd ["self"] sp ∧ Binds K fd ["self"] []
structure GMk (P : Program) (w : World) (K : PySem.W.Frag) (mg : Str → Option Value) (base : Heap) (c : Str) (k : Nat) (ps : List Str) (sp : Sp) : Prop where
  cmk : Mk K (He.ga K c) (He.ma K (He.ga K c) "__init__")
  gm : mg c = some (.ref (He.ga K c))
  fn : ∃ fd, FnOk P w K mg base (L2.CX P w) k (He.ma K (He.ga K c) "__init__") fd ps sp ∧ Binds K fd ps []
section
variable {P : Program} {w : World} {K : PySem.W.Frag} {mg : Str → Option Value} {base : Heap}
theorem fn_of {x q : Str} {st : Stmt} {f : Addr} {N ps : List Str} {k : Nat} {sp : Sp} (D : DefAt K x q st f) (S : FnScope N ps (defScope st)) (len : ∀ vs H Q E, sp vs H Q E → vs.length = ps.length)
    (hb : ∀ (kV doc pm : Value) (an : Option Addr) (cdv ct : Value) (us : List Value), us.length = ps.length → bindArgs (PySem.W.fnOf x q (defArgs st) (defBody st) (defScope st) .none kV doc pm an cdv ct) ⟨us, []⟩ = pure (ps.zip us))
    (hbody : ∀ (cdv : Value) (A : Around) (outer : List Env) (s : Shared) (H : Hp) (vs : List V) (Q : VK) (E : XK), Room k (A.deeper (envOfC q (defScope st) s.heap.objs.size f cdv)) → sp vs H Q E →
      ∃ t, PSs (cxR P w K mg base N q (defScope st) f cdv A outer s H E) (defBody st) t ∧ t { nx := fun _ H' => Q .non H', rt := Q } (start N vs) H) :
    ∃ fd, FnOk P w K mg base (L2.CX P w) (k + 1) f fd ps sp ∧ Binds K fd ps [] := by
  obtain ⟨fd, F⟩ := D
  exact ⟨fd, F.ok S len hbody, F.bindsN hb⟩
end
section
variable {X : Cx} {k : Nat} {c m f : Str} {ps : List Str} {sp : Sp} {E : L2.St → XK} {pos apos p : Pos} {e o : Expr} {es : List Expr} {t : TA} {ta : TE}
/-- o.m(e, ..), what is raised wished for at the slots -/
def tMethS (C : Addr) (m : Str) (sp : Sp) (E : L2.St → XK) (ta : TE) (t : TA) : TE := fun σ H Q => ta σ H fun x H1 => ∃ a dx fs, x = .ref a ∧ H1 a = some (.ins C dx fs) ∧ fs.lookup m = none ∧ t σ H1 fun vs H2 => sp (.ref a :: vs) H2 Q (E σ)
theorem pe_gm {pl : Sem Bool} (G : GMe X.prog X.w X.K X.mg X.base c m k ps sp) (he : PE X o ta) (hr : Room k X.A) (hx : ∀ σ, PassesAt (L2.CX X.prog X.w) X σ (E σ)) (ha : PA X (e :: es) t)
    (hst : starEach (e :: es) X.env = (false, eval e X.env) :: starEach es X.env := by rfl) (hpl : (backTo pos (starEach es X.env)).any (·.1) = false := by rfl)
    (ht : eval (.Call (.Attribute o m apos) (e :: es) [] pos) X.env = (do
      let r ← eval o X.env
      standAt apos.atName
      let (g, one) ← holding [r] (getMethod r m pl)
      callWith pos g one (backTo pos (starEach (e :: es) X.env)) (backToKw pos (keywordEach [] X.env))) := by rfl) :
    PE X (.Call (.Attribute o m apos) (e :: es) [] pos) (tMethS (He.ga X.K c) m sp E ta t) := by
  obtain ⟨fd, F, b⟩ := G.fn
  refine ⟨fun pins s σ H Q I h => ?_⟩
  refine PySem.W.methodCall_KW (pl := pl) (thn (he.run pins s σ H _ I h) fun u s1 z => ?_) ht
  obtain ⟨x, H1, I1, rx, a, dx, fs, rfl, ea, hl, q⟩ := z
  cases (show u = Value.ref a from rx)
  refine getmeth_ok I1 ea G.cl G.me hl ?_
  refine PySem.W.callWith_K (first := [.ref a]) (h₀ := X.base) I.ok.mod.kin G.me.kp (thn (ha.run pos pins s1 σ H1 _ I1 q) fun us s2 z => ?_) hst hpl
  obtain ⟨vs, H2, I2, r, q2⟩ := z
  exact ⟨I2.kIn, run_fnS (us := .ref a :: us) (vs := .ref a :: vs) F hr b (hx σ) I2 (.cons rfl r) q2⟩
theorem pe_gm0 {pl : Sem Bool} (G : GMe X.prog X.w X.K X.mg X.base c m k ps sp) (he : PE X o ta) (hr : Room k X.A) (hx : ∀ σ, PassesAt (L2.CX X.prog X.w) X σ (E σ))
    (ht : eval (.Call (.Attribute o m apos) [] [] pos) X.env = (do
      let r ← eval o X.env
      standAt apos.atName
      let (g, one) ← holding [r] (getMethod r m pl)
      callWith pos g one (backTo pos (starEach [] X.env)) (backToKw pos (keywordEach [] X.env))) := by rfl) :
    PE X (.Call (.Attribute o m apos) [] [] pos) (tMethS (He.ga X.K c) m sp E ta tNil) := by
  obtain ⟨fd, F, b⟩ := G.fn
  refine ⟨fun pins s σ H Q I h => ?_⟩
  refine PySem.W.methodCall_KW (pl := pl) (thn (he.run pins s σ H _ I h) fun u s1 z => ?_) ht
  obtain ⟨x, H1, I1, rx, a, dx, fs, rfl, ea, hl, q⟩ := z
  cases (show u = Value.ref a from rx)
  refine getmeth_ok I1 ea G.cl G.me hl ?_
  exact PySem.W.callWith_K0 (first := [.ref a]) I1.kIn G.me.kp (run_fnS (us := [.ref a]) (vs := [.ref a]) F hr b (hx σ) I1 (.cons rfl .nil) q)
/-- o.f, a property whose getter lets nothing out -/
def tPropS (C : Addr) (sp : Sp) (ta : TE) : TE := fun σ H Q => ta σ H fun x H1 => ∃ a dx fs, x = .ref a ∧ H1 a = some (.ins C dx fs) ∧ sp [.ref a] H1 Q E0
theorem pe_gp (G : GPr X.prog X.w X.K X.mg X.base c f k sp) (he : PE X o ta) (hr : Room (k + 1) X.A) (hab : attributeBase o f X.env (eval o X.env) = eval o X.env) : PE X (.Attribute o f pos) (tPropS (He.ga X.K c) sp ta) := by
  obtain ⟨fd, F, b⟩ := G.fn
  exact pe_prop (dvs := []) (E := E0) he G.cl G.po F hr b .nil passL hab
/-- behind an __init__ that hands back None -/
def MkQ (Q : VK) (x : Addr) : VK := fun v H2 => v = .non ∧ Q (.ref x) H2
/-- C(e, ..), what is raised wished for at the slots -/
def tMakeS (C : Addr) (sp : Sp) (E : L2.St → XK) (t : TA) : TE := fun σ H Q => t σ H fun vs H1 => ∀ x dx, H1 x = none → H1 dx = none → dx ≠ x →
  sp (.ref x :: vs) (upd (upd H1 dx (.own x)) x (.ins C dx [])) (MkQ Q x) (E σ)
theorem pe_gk (G : GMk X.prog X.w X.K X.mg X.base c k ps sp) (hr : Room (k + 1) X.A) (hx : ∀ σ, PassesAt (L2.CX X.prog X.w) X σ (E σ)) (hg : Gl X c) (ha : PA X (e :: es) t) (hdb : (c == ("__debug__" : Str)) = false := by decide)
    (he : starEach (e :: es) X.env = (false, eval e X.env) :: starEach es X.env := by rfl) (hpl : (backTo pos (starEach es X.env)).any (·.1) = false := by rfl) : PE X (.Call (.Name c p) (e :: es) [] pos) (tMakeS (He.ga X.K c) sp E t) := by
  obtain ⟨fd, F, b⟩ := G.fn
  refine ⟨fun pins s σ H Q I h => ?_⟩
  refine wpAny_Call_Name_kw (ld_glob I hg G.gm ?_ hdb)
  refine PySem.W.callWith_K (h₀ := X.base) I.ok.mod.kin G.cmk.kp (thn (ha.run pos pins s σ H _ I h) fun us s1 z => ?_) he hpl
  obtain ⟨vs, H1, I1, r, q⟩ := z
  refine ⟨I1.kIn, ?_⟩
  have hq := q (s1.heap.objs.size + 1) s1.heap.objs.size (I1.hok.fresh (Nat.le_succ _)) (I1.hok.fresh (Nat.le_refl _)) (Nat.ne_of_lt (Nat.lt_succ_self _))
  have I2 := Inv.made (C := He.ga X.K c) I1
  have r2 : Vals (V.ref (s1.heap.objs.size + 1) :: vs) (Value.ref (s1.heap.objs.size + 1) :: us) := .cons rfl r
  have hl : (Value.ref (s1.heap.objs.size + 1) :: us).length = ps.length := by rw [← r2.length, F.len _ _ _ _ hq]
  have hb2 := b _ (Value.ref (s1.heap.objs.size + 1) :: us) I2.kIn (by rw [List.append_nil]; exact hl)
  rw [List.append_nil] at hb2
  refine wpAny_call (make_map I1.kIn G.cmk.makes G.cmk.init (beq_iff_eq.mp G.cmk.fn) (codeAny_mono (F.run _ X.stack _ _ ⟨Value.ref (s1.heap.objs.size + 1) :: us, []⟩ (Value.ref (s1.heap.objs.size + 1) :: us) _ _ (E σ) (hr.make _ us [])
    (I2.env0.make _ us []) hb2 r2 hq) fun r s' hq' => ?_))
  cases r with
  | error er => exact hx σ pins _ _ er s' I2 hq'
  | ok fl =>
    cases fl with
    | ret u =>
      obtain ⟨v, H', I3, rv, rfl, q3⟩ := I2.after hq'
      exact ⟨rv, ⟨V.ref (s1.heap.objs.size + 1), H', I3, rfl, q3⟩⟩
    | next => exact False.elim hq'
    | brk => exact False.elim hq'
    | cont => exact False.elim hq'
end

/-! ### == by an own __eq__ -/
/-- the other side's class is not asked first -/
inductive Oth (K : PySem.W.Frag) (C : Addr) (H : Hp) : V → Prop
  | ins {b D dy : Addr} {gs : List (Str × V)} (h : H b = some (.ins D dy gs)) (n : PySem.W.notFirst K C (.ref D) = true) : Oth K C H (.ref b)
  | int {i : Int} (n : PySem.W.notFirst K C (.type "int") = true) : Oth K C H (.int i)
def rEqO (c : Str) (sp : Sp) (E : L2.St → XK) (K : PySem.W.Frag) : R2 := fun x y H Q => ∃ a dx fs, x = .ref a ∧ H a = some (.ins (He.ga K c) dx fs) ∧ Oth K (He.ga K c) H y ∧ sp [x, y] H Q E0
section
variable {X : Cx}
theorem back_of {pins : List (Addr × Obj)} {σ : L2.St} {Q : VK} {u : Value} {s : Shared} (h : EP X pins σ Q u s) : PySem.W.CmpBack (EP X pins σ Q) u s := by
  obtain ⟨v, H, I, r, q⟩ := h
  have hh : EP X pins σ Q u s := ⟨v, H, I, r, q⟩
  cases v with
  | non => cases (show u = Value.none from r); exact hh
  | bl b => cases (show u = Value.bool b from r); exact hh
  | int i => obtain ⟨t, e⟩ := (show ∃ t, u = Value.int i t from r); subst e; exact hh
  | str y => obtain ⟨t, e⟩ := (show ∃ t, u = Value.str y t from r); subst e; exact hh
  | byt y => obtain ⟨t, e⟩ := (show ∃ t, u = Value.bytes y t from r); subst e; exact hh
  | flt y => obtain ⟨t, e⟩ := (show ∃ t, u = Value.float y t from r); subst e; exact hh
  | ref a => cases (show u = Value.ref a from r); exact hh
  | ty n => cases (show u = Value.type n from r); exact hh
theorem op_eqO {c : Str} {k : Nat} {ps : List Str} {sp : Sp} (G : GMe X.prog X.w X.K X.mg X.base c "__eq__" k ps sp) (hr : Room k X.A) : OpR X (compareOp .Eq) (rEqO c sp (fun _ => E0) X.K) := by
  obtain ⟨fd, F, b⟩ := G.fn
  intro pins s σ H x y v u Q I rx ry h
  obtain ⟨a, dx, fs, rfl, ha, ho, hq⟩ := h
  cases (show v = Value.ref a from rx)
  obtain ⟨mA, O, _⟩ := ins_get I.hok ha
  obtain ⟨od, J, _⟩ := O.look
  obtain ⟨m, hF⟩ := I.fr
  have call : wpAny (model X.prog X.w) X.A (PySem.call (.ref (He.ma X.K (He.ga X.K c) "__eq__")) [.ref a, u]) (PySem.W.CmpBack (EP X pins σ Q)) X.xe s :=
    thn (run_fnS (E := fun _ => E0) (vs := [.ref a, y]) F hr b (pas0 σ) I (.cons rfl (.cons ry .nil)) hq) fun _ _ z => back_of z
  show wpAny (model X.prog X.w) X.A (richCompare .Eq (.ref a) u) (EP X pins σ Q) X.xe s
  cases ho with
  | ins h n =>
    cases (show u = Value.ref _ from ry)
    obtain ⟨_, O2, _⟩ := ins_get I.hok h
    obtain ⟨_, J2, _⟩ := O2.look
    exact PySem.W.cmp_K (op := .Eq) hr.units0 hF I.ok.mod.kin J J2.type n G.me.at_ G.me.fn call
  | int n =>
    obtain ⟨t, rfl⟩ := (show ∃ t, u = Value.int _ t from ry)
    exact PySem.W.cmp_K (op := .Eq) hr.units0 hF I.ok.mod.kin J (PySem.W.Looks.of_pure rfl) n G.me.at_ G.me.fn call
end

/-! ### an instance called -/
theorem callWith_inst {M : Model} {A : Around} {E : Value → Shared → Prop} {s : Shared} {x : Addr} {pos : Pos} {args : List (Bool × Sem Value)} {Q : Value → Shared → Prop} (hpl : args.any (·.1) = false)
    (h : wpAny M A (evalArgs (.ref x) true args []) (fun a s1 => (∃ ox C od, PySem.W.InstAt s1.heap x ox C od ∧ ox.data = .plain) ∧ wpAny M A (call (.ref x) a.pos a.kw) Q E s1) E s) : wpAny M A (callWith pos (.ref x) [] args []) Q E s := by
  unfold callWith
  refine wpAny_bind (wpAny_holding (wpAny_mono h (fun a s1 z => ?_) fun _ _ y => y))
  obtain ⟨⟨ox, C, od, I, hd⟩, z⟩ := z
  refine wpAny_bind (wpAny_standAt ?_)
  have hp : (args.any (·.1) || ([] : List (Option Str × Sem Value)).any (·.1.isNone)) = false := by rw [hpl]; rfl
  simp only [hp]
  refine wpAny_bind ((PySem.W.kco_keeper (M := M) I hd).here ?_)
  refine wpAny_bind (wpAny_mono (PySem.wpAny_operateT z) (fun r s2 hr => ?_) fun _ _ y => y)
  exact wpAny_bind (wpAny_holding (wpAny_point (wpAny_pure hr)))
/-- a callee's run, as the code of a call -/
theorem run_code {X : Cx} {CX : CXT} {k : Nat} {f : Addr} {fd : FuncData} {ps : List Str} {sp : Sp} {E : XK} {pins : List (Addr × Obj)} {σ : L2.St} {H : Hp} {s : Shared} {Q : VK} {us : List Value} {vs : List V} (F : FnOk X.prog X.w X.K X.mg X.base CX k f fd ps sp) (hr : Room k X.A) (hb : Binds X.K fd ps [])
    (hx : PassesAt CX X σ E) (I : Inv X pins σ H s) (r : Vals vs us) (h : sp vs H Q E) : codeAny (model X.prog X.w) X.A (.call (.ref f) ⟨us, []⟩) (fun r s' => match r with | .ok (.ret v) => EP X pins σ Q v s' | .ok _ => False | .error e => X.xe e s') s := by
  have hl : us.length = ps.length := by rw [← r.length, F.len _ _ _ _ h]
  have b := hb s us I.kIn (by rw [List.append_nil, hl])
  rw [List.append_nil] at b
  refine codeAny_mono (F.run X.A X.stack s H ⟨us, []⟩ us vs Q E hr I.env0 b r h) fun r s' hq => ?_
  match r, hq with
  | .error e, hq => exact hx pins H s e s' I hq
  | .ok (.ret u), hq => exact I.after hq
  | .ok .next, hq => exact False.elim hq
  | .ok .brk, hq => exact False.elim hq
  | .ok .cont, hq => exact False.elim hq
/-- e(e1, ..), e an instance whose class has __call__ -/
def tInst (C : Addr) (sp : Sp) (E : L2.St → XK) (ta : TE) (t : TA) : TE := fun σ H Q => ta σ H fun x H1 => ∃ a, x = .ref a ∧ t σ H1 fun vs H2 => (∃ dx fs, H2 a = some (.ins C dx fs)) ∧ sp (.ref a :: vs) H2 Q (E σ)
theorem pe_gi {X : Cx} {k : Nat} {c : Str} {ps : List Str} {sp : Sp} {E : L2.St → XK} {pos : Pos} {f e : Expr} {es : List Expr} {t : TA} {ta : TE} (G : GMe X.prog X.w X.K X.mg X.base c "__call__" k ps sp) (gn : PySem.W.fnIn X.K (He.ma X.K (He.ga X.K c) "__call__") = true) (he : PE X f ta)
    (hr : Room k X.A) (hx : ∀ σ, PassesAt (L2.CX X.prog X.w) X σ (E σ)) (ha : PA X (e :: es) t)
    (hst : starEach (e :: es) X.env = (false, eval e X.env) :: starEach es X.env := by rfl) (hpl : (backTo pos (starEach es X.env)).any (·.1) = false := by rfl)
    (ht : eval (.Call f (e :: es) [] pos) X.env = (do callWith pos (← eval f X.env) [] (backTo pos (starEach (e :: es) X.env)) (backToKw pos (keywordEach [] X.env))) := by rfl) :
    PE X (.Call f (e :: es) [] pos) (tInst (He.ga X.K c) sp E ta t) := by
  obtain ⟨fd, F, b⟩ := G.fn
  refine ⟨fun pins s σ H Q I h => ?_⟩
  refine Call_ (thn (he.run pins s σ H _ I h) fun u s1 z => ?_) ht
  obtain ⟨x, H1, I1, rx, a, rfl, q⟩ := z
  cases (show u = Value.ref a from rx)
  have ev := ha.run pos pins s1 σ H1 _ I1 q
  rw [hst] at ev ⊢
  refine callWith_inst (by show (false || (backTo pos (starEach es X.env)).any (·.1)) = false; rw [hpl]; rfl) (PySem.Calls.evalArgs_plain (thn ev fun us s2 z => ?_))
  obtain ⟨vs, H2, I2, r, ⟨dx, fs, ea⟩, q2⟩ := z
  obtain ⟨mA, O, _⟩ := ins_get I2.hok ea
  obtain ⟨od, J, _⟩ := O.look
  refine ⟨⟨_, _, _, J, rfl⟩, ?_⟩
  exact wpAny_call (PySem.W.kco_code I2.kIn J rfl G.me.at_ G.me.fn gn (run_code (us := .ref a :: us) (vs := .ref a :: vs) F hr b (hx σ) I2 (.cons rfl r) q2))

/-! ### raise of an own error without arguments; except clauses, some with a name -/
structure ExK (K : PySem.W.Frag) (mg : Str → Option Value) (x : Str) : Prop where
  gm : mg x = some (.ref (He.ga K x))
  ex : PySem.W.excIn K (He.ga K x) He.veBase "ValueError.__new__" = true
  kp : PySem.W.keepIn K (.ref (He.ga K x)) = true
  sb : PySem.W.subIn K (.ref (He.ga K x)) (.type "BaseException") = some true
  ty : PySem.W.typeIn K (.ref (He.ga K x)) = some (.type "type")
section
variable {X : Cx}
theorem pmk_own0 {x : Str} {p pos : Pos} (T : ExK X.K X.mg x) (hg : Gl X x) (hdb : (x == ("__debug__" : Str)) = false := by decide) : PMk X (.Call (.Name x p) [] [] pos) (fun _ H Q => Q (.ref (He.ga X.K x)) none H) := by
  intro pins s σ H Q I h
  refine wpAny_Call_Name_kw (ld_glob I hg T.gm ?_ hdb)
  refine PySem.W.callWith_K0 I.kIn T.kp ?_
  obtain ⟨bm, N, nm, qn, bs, hdct, sn, sub, ab, col, dd, k0, k1, k2, k3, k5, mN, hC, hN, hni, TT⟩ := exc_obj I.kIn T.ex
  exact wpAny_call_exc_subT PySem.F.excBase_ValueError TT hC hN hni (fun h' e hm => mk_of I hm (raises_own T.sb T.ty) h (I.hok.gone hm.new)) (Nat.zero_le _)
theorem ps_raise0 {x : Str} {W : WX} {p pos pos' : Pos} (hc : X.calm = true) (tk : Takes X W) (T : ExK X.K X.mg x) (hg : Gl X x) (hdb : (x == ("__debug__" : Str)) = false := by decide) :
    PS X (.Raise (some (.Call (.Name x p) [] [] pos)) none pos') (fun _ σ H => W (.ref (He.ga X.K x)) none σ H) := ps_raise hc tk (pmk_own0 T hg hdb)

/-- the ends behind a suite whose name goes -/
def gone (i : Nat) (D : Ends) : Ends := { nx := fun σ H => D.nx (σ.set i none) H, rt := D.rt, bk := fun σ H => D.bk (σ.set i none) H, ct := fun σ H => D.ct (σ.set i none) H }
abbrev Cl := Value × Option Nat × (Addr → Value → Option Addr → TS)
def wCls (K : PySem.W.Frag) (Wout : WX) (D : Ends) : List Cl → WX
  | [] => Wout
  | (c, none, ts) :: r => fun cls d σ H => ∃ b, PySem.W.exmOne K cls c = some b ∧ (b = true → ∀ a, H a = none → ts a cls d D σ H) ∧ (b = false → wCls K Wout D r cls d σ H)
  | (c, some i, ts) :: r => fun cls d σ H => ∃ b, PySem.W.exmOne K cls c = some b ∧ (b = true → ∀ a, H a = none → ts a cls d (gone i D) (σ.set i (some (.ref a))) H) ∧ (b = false → wCls K Wout D r cls d σ H)
/-- a suite's reading, whatever the exception -/
abbrev SuOk (X : Cx) (su : List Stmt) (ts : Addr → Value → Option Addr → TS) : Prop :=
  ∀ (a : Addr) (oe : Obj) (cls : Value) (d : Option Addr) (pn : List (Addr × Obj)), Zc cls d oe → (∃ vs, oe.data = .fields vs) → PSs (X.suite a ((a, oe) :: pn)) su (ts a cls d)
inductive HdsA (X : Cx) : List ExceptHandler → List Cl → Prop
  | nil : HdsA X [] []
  | plain {x : Str} {c : Value} {ts : Addr → Value → Option Addr → TS} {b0 : Stmt} {su : List Stmt} {np p : Pos} {hds : List ExceptHandler} {l : List Cl} (hc : Names X x c) (hsu : SuOk X (b0 :: su) ts) (r : HdsA X hds l) :
      HdsA X (.ExceptHandler (some (.Name x np)) none (b0 :: su) p :: hds) ((c, none, ts) :: l)
  | named {x n : Str} {i : Nat} {c : Value} {ts : Addr → Value → Option Addr → TS} {b0 : Stmt} {su : List Stmt} {np p : Pos} {hds : List ExceptHandler} {l : List Cl} (hi : X.N[i]? = some n) (hl : X.env.kindOf n = some .local) (hc : Names X x c)
      (hsu : SuOk X (b0 :: su) ts) (r : HdsA X hds l) : HdsA X (.ExceptHandler (some (.Name x np)) (some n) (b0 :: su) p :: hds) ((c, some i, ts) :: l)
section
variable {pins : List (Addr × Obj)} {D : Ends} {Wout : WX}
theorem suite_end {a : Addr} {oe : Obj} {s : Shared} {f : Flow} (ok : X.Ok) (h : SP (X.suite a ((a, oe) :: (X.pn ++ pins))) [] D f s) : SP X pins D f s := by
  match f, h with
  | .next, ⟨σ, H, S, q⟩ => exact ⟨σ, H, S.unsuite ok, q⟩
  | .brk, ⟨σ, H, S, q⟩ => exact ⟨σ, H, S.unsuite ok, q⟩
  | .cont, ⟨σ, H, S, q⟩ => exact ⟨σ, H, S.unsuite ok, q⟩
  | .ret _, ⟨v, σ, H, S, r, q⟩ => exact ⟨v, σ, H, S.unsuite ok, r, q⟩
end
theorem ps_tryA {body : List Stmt} {h0 : ExceptHandler} {hds : List ExceptHandler} {l : List Cl} {pos : Pos} {tb : WX → TS} {Wout : WX} (hs : X.stack = X.env :: X.outer) (hf : X.env.frame = some X.env.locals) (hN : X.N.Nodup) (tk : Takes X Wout)
    (hb : ∀ (W : WX) (pn : List (Addr × Obj)) (xe : Value → Shared → Prop), Takes (X.tr pn xe) W → PassesOwn (model X.prog X.w) X.A X.env xe → PSs (X.tr pn xe) body (tb W))
    (hh : HdsA X (h0 :: hds) l) : PS X (.Try body (h0 :: hds) [] [] pos) (fun D σ H => tb (wCls X.K Wout D l) D σ H) := by
  refine ⟨fun pins s σ H D I h => wpAny_Try_except ?_⟩
  have ok := I.ok
  have fra : X.A.frames = some (X.env :: X.outer) := ok.frames.trans (congrArg some hs)
  have B := (hb (wCls X.K Wout D l) (X.pn ++ pins) (fun e s1 => wpAny (model X.prog X.w) X.A (noteFrame e X.env) (fun _ s2 => wpAny (model X.prog X.w) X.A (setFlight e none)
    (fun _ s3 => wpAny (model X.prog X.w) X.A (handleBy e X.env (h0 :: hds)) (SP X pins D) X.xe s3) X.xe s2) X.xe s1) (fun u s' xx => ?_) PassesOwn.looking).run [] s σ H D (I.toTry _) h
  · refine wpAny_mono B (fun f s1 z => ?_) fun _ _ z => z
    match f, z with
    | .next, ⟨σ', H', J, q⟩ => exact wpAny_execs_nil ⟨σ', H', J.ofTry ok, q⟩
    | .brk, ⟨σ', H', J, q⟩ => exact ⟨σ', H', J.ofTry ok, q⟩
    | .cont, ⟨σ', H', J, q⟩ => exact ⟨σ', H', J.ofTry ok, q⟩
    | .ret _, ⟨v, σ', H', J, r, q⟩ => exact ⟨v, σ', H', J.ofTry ok, r, q⟩
  · obtain ⟨a, G, sI, pin2, σ', H', cls, d, rfl, J2, nb, up, sky, na, os, ag, wish⟩ := xx
    have J := J2.ofTry ok
    rw [show (X.tr (X.pn ++ pins) _).stack = X.env :: X.outer from hs] at sky
    show wpAny (model X.prog X.w) X.A (noteFrame (.ref a) X.env) _ _ _
    refine Sky.land Zc.steady fra hf sky fun h3 fl up3 => ?_
    have J3 : Inv X pins σ' H' { s' with heap := h3 } := J.landed nb fl.1 (up.trans up3) os ag
    obtain ⟨o3, v3, he, hz, hd⟩ := fl.there
    have nfr : a ∉ frs (X.env :: X.outer) := fun hm => by
      obtain ⟨_, o', e', hn⟩ := fl.2.2.1.mem hm
      rw [he] at e'
      cases e'
      exact hn _ hd
    have nL : a ≠ X.env.locals := fun z => nfr (by rw [z]; exact List.mem_filterMap.mpr ⟨X.env, List.mem_cons_self, hf⟩)
    have nF : a ∉ X.fs := fun hm => let ⟨e, m, q⟩ := List.mem_filterMap.mp hm; nfr (List.mem_filterMap.mpr ⟨e, List.mem_cons_of_mem _ m, q⟩)
    have S3 := J3.suite he hd na nL nF
    have look : PySem.W.Looks (model X.prog X.w) h3 (typeOf (.ref a)) cls := fun _ _ _ _ k q => wpAny_typeOf_ref (k _ _ he) (by rw [hz.1]; exact q)
    have name : ∀ {x : Str} {c : Value} {np : Pos} {Q : Value → Shared → Prop} {E : Value → Shared → Prop}, Names X x c → Q c { s' with heap := h3 } → wpAny (model X.prog X.w) (X.A.mark (some (.ref a))) (eval (.Name x np) X.env) Q E { s' with heap := h3 } := fun hc q => by
      obtain ⟨hg, hdb, hm⟩ := hc
      rcases hm with hm | ⟨hm, hv, hn⟩
      · exact ld_glob (X := X.suite a ((a, o3) :: (X.pn ++ pins))) S3 hg hm q hdb
      · exact ld_blt (X := X.suite a ((a, o3) :: (X.pn ++ pins))) S3 hg hm hv q hn hdb
    suffices go : ∀ {hh' : List ExceptHandler} {l' : List Cl}, HdsA X hh' l' → wCls X.K Wout D l' cls d σ' H' → wpAny (model X.prog X.w) X.A (handleBy (.ref a) X.env hh') (SP X pins D) X.xe { s' with heap := h3 } from go hh wish
    intro hh' l' hk
    induction hk with
    | nil =>
      intro wo
      refine wpAny_handleBy_nil ?_
      obtain ⟨_, _, _, oe, vs, T, oT, _, ge, gz, gd, g1, _⟩ := id fl
      unfold PySem.passOn
      refine wpAny_bind (wpAny_field ge gd g1 ?_)
      rw [if_neg (show ¬ ((Value.ref T == Value.none) = true) by simp)]
      have out : wpAny (model X.prog X.w) X.A (setFlight (.ref a) X.env.frame) (fun _ s4 => wpAny (model X.prog X.w) X.A (throw (.ref a) : Sem Flow) (SP X pins D) X.xe s4) X.xe { s' with heap := h3 } := by
        rw [hf]
        refine HandSPX.setFlight_upZ fl fun h4 hh4 up4 => wpAny_throw (tk _ _ ?_)
        exact ⟨a, G, sI, pins, σ', H', cls, d, rfl, J, nb, (up.trans up3).trans up4, .inr (.inr (by rw [hs]; exact hh4)), na, os, ag, wo⟩
      first | exact wpAny_bind out | exact wpAny_bind (wpAny_pure (wpAny_bind out))
    | plain hc hsu r ih =>
      rintro ⟨b, hb1, yes, no⟩
      refine wpAny_handleBy_cons (codeAny_handlers_test ?_) (by intro q; cases q)
      refine name hc ((PySem.W.exm_one (M := model X.prog X.w) J3.kIn look hb1).here ?_)
      cases b with
      | false => exact ih (no rfl)
      | true =>
        refine codeAny_handlers_suite (HandSPX.lands_againZ fl fun h4 fl4 up4 => ?_)
        obtain ⟨o4, v4, he4, hz4, hd4⟩ := fl4.there
        have S4 := (J.landed nb fl4.1 ((up.trans up3).trans up4) os ag : Inv X pins σ' H' { s' with heap := h4 }).suite he4 hd4 na nL nF
        exact wpAny_mono ((hsu a o4 cls d (X.pn ++ pins) hz4 ⟨_, hd4⟩).run [] _ _ H' _ S4 (yes rfl a na)) (fun _ _ z => suite_end ok z) fun _ _ z => False.elim z
    | @named x n i c ts b0 su np p hds2 l2 hi hl hc hsu r ih =>
      rintro ⟨b, hb1, yes, no⟩
      refine wpAny_handleBy_cons (codeAny_handlers_test ?_) (by intro q; cases q)
      refine name hc ((PySem.W.exm_one (M := model X.prog X.w) J3.kIn look hb1).here ?_)
      cases b with
      | false => exact ih (no rfl)
      | true =>
        refine codeAny_handlers_suite_as (HandSPX.lands_againZ fl fun h4 fl4 up4 => ?_)
        obtain ⟨o4, v4, he4, hz4, hd4⟩ := fl4.there
        have S4 := (J.landed nb fl4.1 ((up.trans up3).trans up4) os ag : Inv X pins σ' H' { s' with heap := h4 }).suite he4 hd4 na nL nF
        refine store_ok (X := X.suite a ((a, o4) :: (X.pn ++ pins))) (v := .ref a) S4 hN hi (.inl hl) rfl (fun s5 S5 => ?_) (.inr hl)
        refine wpAny_mono ((hsu a o4 cls d (X.pn ++ pins) hz4 ⟨_, hd4⟩).run [] s5 _ H' _ S5 (yes rfl a na)) (fun f s6 z => ?_) fun _ _ z => False.elim z
        have lets : ∀ {σ6 : L2.St} {H6 : Hp} {Q : Shared → Prop}, Inv (X.suite a ((a, o4) :: (X.pn ++ pins))) [] σ6 H6 s6 → (∀ s7, Inv X pins (σ6.set i none) H6 s7 → Q s7) →
            wpAny (model X.prog X.w) X.A (do bindName X.env n .none; unbindBehindTheSuite X.env n p) (fun _ s7 => Q s7) X.xe s6 := fun S6 q => gone_ok (S6.unsuite ok) hN hi hl q
        match f, z with
        | .next, ⟨_, _, S6, q⟩ => exact lets S6 fun s7 J7 => ⟨_, _, J7, q⟩
        | .brk, ⟨_, _, S6, q⟩ => exact lets S6 fun s7 J7 => ⟨_, _, J7, q⟩
        | .cont, ⟨_, _, S6, q⟩ => exact lets S6 fun s7 J7 => ⟨_, _, J7, q⟩
        | .ret _, ⟨_, _, _, S6, r6, q⟩ => exact lets S6 fun s7 J7 => ⟨_, _, _, J7, r6, q⟩
/-- isinstance(e, c) in a suite: e is the exception that is handled -/
def rIsX (K : PySem.W.Frag) (a : Addr) (cls : Value) (d : Option Addr) : List V → Hp → VK → Prop := fun xs H Q => ∃ D, cls = .ref D ∧ d = none ∧ ExcC K D ∧ rIsE K D a xs H Q
theorem call_isX {a : Addr} {cls : Value} {d : Option Addr} {oe : Obj} {pn : List (Addr × Obj)} (hz : Zc cls d oe) (hf : ∃ vs, oe.data = .fields vs) : CallR (X.suite a ((a, oe) :: pn)) (.builtin "isinstance") (rIsX X.K a cls d) := fun pins s σ H xs us Q I r h => by
  obtain ⟨D, rfl, rfl, C, h⟩ := h
  exact call_isE C hz hf pins s σ H xs us Q I r h
end

/-! ### heaps: all but d stays -/
def ExB (d : Addr) (H H' : Hp) : Prop := ∀ a o, a ≠ d → H a = some o → H' a = some o
theorem ExB.refl (d : Addr) (H : Hp) : ExB d H H := fun _ _ _ h => h
theorem ExB.trans {d : Addr} {H H1 H2 : Hp} (a : ExB d H H1) (b : ExB d H1 H2) : ExB d H H2 := fun c o n h => b c o n (a c o n h)
theorem ExB.of {d : Addr} {H H' : Hp} (h : Same H H') : ExB d H H' := fun c o _ e => h c o e
theorem ExB.upd2 {d : Addr} {H H1 : Hp} {o : HO} (e : ExB d H H1) : ExB d H (upd H1 d o) := fun c u n q => by rw [upd_ne n]; exact e c u n q
theorem ExB.updd {d : Addr} {H : Hp} {o : HO} : ExB d H (upd H d o) := fun c u n e => by rw [upd_ne n]; exact e
theorem Same.app {H H' : Hp} {p : Addr} {o : HO} (e : Same H H') (h : H p = none) : Same H (upd H' p o) := fun c u q => by rw [upd_ne (ne_of_none q h)]; exact e c u q
theorem Same.new {H : Hp} {p : Addr} {o : HO} (h : H p = none) : Same H (upd H p o) := fun c u e => by rw [upd_ne (ne_of_none e h)]; exact e

/-! ### the steps of a reading -/
section
variable {σ : L2.St} {H : Hp} {Q : VK} {QT : Bool → Hp → Prop} {QA : List V → Hp → Prop} {i : Nat} {v x y z : V} {ta tb te : TE} {r : R2} {m n : Int} {D : Ends} {t1 t2 : TS} {tt tu : TT} {tr : TA} {g : TG} {K : PySem.W.Frag}
theorem z_var (h : σ[i]? = some (some v)) (q : Q v H) : tVar i σ H Q := ⟨v, h, q⟩
theorem z_c (q : Q v H) : tC v σ H Q := q
theorem z_op (q : ta σ H fun x H1 => tb σ H1 fun y H2 => r x y H2 Q) : tOp r ta tb σ H Q := q
theorem z_un {r : V → Hp → VK → Prop} (q : ta σ H fun x H1 => r x H1 Q) : tUn r ta σ H Q := q
theorem z_I0 {f : Int → Int → V} (q : Q (f m n) H) : rI0 f (.int m) (.int n) H Q := ⟨m, n, rfl, rfl, q⟩
theorem z_I {C : Int → Int → Prop} {f : Int → Int → V} (c : C m n) (q : Q (f m n) H) : rI C f (.int m) (.int n) H Q := ⟨m, n, rfl, rfl, c, q⟩
theorem z_U {f : Int → V} (q : Q (f m) H) : rU f (.int m) H Q := ⟨m, rfl, q⟩
theorem z_eq (c : scal x y = true) (q : Q (.bl (decide (x = y))) H) : rEq x y H Q := ⟨c, q⟩
theorem z_ne (c : scal x y = true) (q : Q (.bl (!decide (x = y))) H) : rNe x y H Q := ⟨c, q⟩
theorem z_test (q : te σ H fun x H' => ∃ k, x = .bl k ∧ QT k H') : tTest te σ H QT := q
theorem z_tB (q : te σ H fun x H' => ∃ k, x = .bl k ∧ QT k H') : tB te σ H QT := q
theorem z_bl {k : Bool} {p : Bool → Prop} (q : p k) : ∃ k', V.bl k = .bl k' ∧ p k' := ⟨k, rfl, q⟩
theorem z_and (q : tt σ H fun c H1 => if c = true then tu σ H1 QT else QT false H1) : tAnd tt tu σ H QT := q
theorem z_or (q : tt σ H fun c H1 => if c = true then QT true H1 else tu σ H1 QT) : tOr tt tu σ H QT := q
theorem z_not (q : tt σ H fun c H1 => QT (!c) H1) : tNot tt σ H QT := q
theorem z_andV (q : ta σ H fun x H1 => ∃ c, x = .bl c ∧ if c = true then tb σ H1 Q else Q (.bl false) H1) : tAndV ta tb σ H Q := q
theorem z_orV (q : ta σ H fun x H1 => ∃ c, x = .bl c ∧ if c = true then Q (.bl true) H1 else tb σ H1 Q) : tOrV ta tb σ H Q := q
theorem z_notV (q : ta σ H fun x H1 => ∃ c, x = .bl c ∧ Q (.bl (!c)) H1) : tNotV ta σ H Q := q
theorem z_ifE (q : tt σ H fun c H1 => if c = true then ta σ H1 Q else tb σ H1 Q) : tIf tt ta tb σ H Q := q
theorem z_seq (q : t1 { D with nx := t2 D } σ H) : tSeq t1 t2 D σ H := q
theorem z_next (q : D.nx σ H) : tNext D σ H := q
theorem z_asg (q : te σ H fun x H1 => g x σ H1 D.nx) : tAsg te g D σ H := q
theorem z_name {QN : L2.St → Hp → Prop} (q : QN (σ.set i (some v)) H) : gName i v σ H QN := q
theorem z_sub {QN : L2.St → Hp → Prop} {t : TSet} (q : ta σ H fun o H1 => tb σ H1 fun i H2 => t o i v H2 fun H3 => QN σ H3) : gSub ta tb t v σ H QN := q
theorem z_ret (q : te σ H D.rt) : tRet te D σ H := q
theorem z_retN (q : D.rt .non H) : tRetN D σ H := q
theorem z_drop (q : te σ H fun _ H1 => D.nx σ H1) : tDrop te D σ H := q
theorem z_if (q : tt σ H fun b H1 => if b = true then t1 D σ H1 else t2 D σ H1) : tIfS tt t1 t2 D σ H := q
theorem z_cb {r : List V → Hp → VK → Prop} (q : tr σ H fun vs H1 => r vs H1 Q) : tCB r tr σ H Q := q
theorem z_nil (q : QA [] H) : tNil σ H QA := q
theorem z_cons (q : ta σ H fun x H1 => tr σ H1 fun xs H2 => QA (x :: xs) H2) : tCons ta tr σ H QA := q
theorem z_call {sp : Sp} {dvs : List V} {E : XK} (q : tr σ H fun vs H1 => sp (vs ++ dvs) H1 Q E) : tCall sp dvs E tr σ H Q := q
theorem z_callS {sp : Sp} {E : L2.St → XK} (q : tr σ H fun vs H1 => sp vs H1 Q (E σ)) : tCallS sp E tr σ H Q := q
theorem z_lst (q : tr σ H fun xs H1 => xs.length ≤ sizeLine ∧ ∀ p, H1 p = none → Q (.ref p) (upd H1 p (.lst xs))) : tLst tr σ H Q := q
theorem z_tup (q : tr σ H fun xs H1 => xs.length ≤ sizeLine ∧ ∀ p, H1 p = none → Q (.ref p) (upd H1 p (.tup xs))) : tTup tr σ H Q := q
theorem z_new {xs : List V} {P : Addr → Prop} (h : xs.length ≤ 1000) (q : ∀ p, H p = none → P p) : xs.length ≤ sizeLine ∧ ∀ p, H p = none → P p := ⟨Nat.le_trans h (by decide), q⟩
theorem z_ixL {p : Addr} {xs : List V} (h : SqL K H p xs) (a : atI xs m = some v) (q : Q v H) : rIxL K (.ref p) (.int m) H Q := ⟨p, xs, m, v, rfl, rfl, h, a, q⟩
theorem z_ixT {p : Addr} {xs : List V} (h : SqT K H p xs) (a : atI xs m = some v) (q : Q v H) : rIxT K (.ref p) (.int m) H Q := ⟨p, xs, m, v, rfl, rfl, h, a, q⟩
theorem z_setL {p : Addr} {xs : List V} {j : Nat} {QH : Hp → Prop} (h : H p = some (.lst xs)) (a : ixN xs.length m = some j) (q : QH (upd H p (.lst (xs.set j v)))) : rSetL (.ref p) (.int m) v H QH := ⟨p, xs, m, j, rfl, rfl, h, a, q⟩
theorem z_bm {T : String} {r : V → List V → Hp → VK → Prop} (q : te σ H fun x H1 => tyV K T x H1 ∧ tr σ H1 fun xs H2 => r x xs H2 Q) : tBM K T r te tr σ H Q := q
theorem z_bm0 {T : String} {r : V → List V → Hp → VK → Prop} (q : te σ H fun x H1 => tyV K T x H1 ∧ r x [] H1 Q) : tBM0 K T r te σ H Q := q
theorem z_tyL {p : Addr} {xs : List V} {P : Prop} (h : H p = some (.lst xs)) (q : P) : tyV K "list" (.ref p) H ∧ P := ⟨.inl ⟨rfl, _, SqL.of h⟩, q⟩
theorem z_popAt {p : Addr} {xs : List V} {j : Nat} (h : H p = some (.lst xs)) (h1 : -(2 ^ 63) ≤ m) (h2 : m < 2 ^ 63) (a : seqIndex? m xs.length = some j) (b : xs[j]? = some y) (q : Q y (upd H p (.lst (xs.eraseIdx j)))) : rPopAt (.ref p) [.int m] H Q := ⟨p, xs, m, j, y, rfl, rfl, h, h1, h2, a, b, q⟩
theorem z_t {P Q : Prop} (q : P) : if true = true then P else Q := q
theorem z_f {P Q : Prop} (q : Q) : if false = true then P else Q := q
theorem z_dt {c P Q : Prop} [Decidable c] (h : c) (q : P) : if decide c = true then P else Q := by rw [if_pos (decide_eq_true h)]; exact q
theorem z_df {c P Q : Prop} [Decidable c] (h : ¬ c) (q : Q) : if decide c = true then P else Q := by rw [if_neg (by rw [decide_eq_false h]; decide)]; exact q
theorem z_n1 {P Q : Prop} (q : Q) : if (!true) = true then P else Q := q
theorem z_n0 {P Q : Prop} (q : P) : if (!false) = true then P else Q := q
theorem z_nb {b : Bool} {P Q : Prop} (q : if b = true then Q else P) : if (!b) = true then P else Q := by cases b <;> exact q
theorem z_d2 {c P Q : Prop} [Decidable c] (h1 : c → P) (h2 : ¬ c → Q) : if decide c = true then P else Q := by
  by_cases h : c
  · exact z_dt h (h1 h)
  · exact z_df h (h2 h)
theorem z_b2 {b : Bool} {P Q : Prop} (h1 : b = true → P) (h2 : b = false → Q) : if b = true then P else Q := by
  cases b with
  | true => exact h1 rfl
  | false => exact h2 rfl
theorem fm_eq {a n : Int} (h : 0 < n) : a.fmod n = a % n := Int.fmod_eq_emod_of_nonneg a (Int.le_of_lt h)
theorem fm_nn {a n : Int} (h : 0 < n) : 0 ≤ a.fmod n := by rw [fm_eq h]; exact Int.emod_nonneg a (by omega)
theorem fm_lt {a n : Int} (h : 0 < n) : a.fmod n < n := by rw [fm_eq h]; exact Int.emod_lt_of_pos a h
theorem fd_eq {a n : Int} (h : 0 < n) : a.fdiv n = a / n := Int.fdiv_eq_ediv_of_nonneg a (Int.le_of_lt h)
theorem z_di {m n : Int} {P Q : Prop} (q : if decide (m = n) = true then P else Q) : if decide (V.int m = V.int n) = true then P else Q := by
  have e : decide (V.int m = V.int n) = decide (m = n) := by
    by_cases h : m = n
    · subst h; simp
    · rw [decide_eq_false h, decide_eq_false (fun e => h (V.int.inj e))]
  rw [e]; exact q
theorem dec_i {m n : Int} : decide (V.int m = V.int n) = decide (m = n) := by
  by_cases h : m = n
  · subst h; simp
  · rw [decide_eq_false h, decide_eq_false (fun e => h (V.int.inj e))]
theorem atc {α : Type} {xs : List α} {m : Int} {v : α} (j : Nat) (e : m = (j : Int)) (h : xs[j]? = some v) : atI xs m = some v := by rw [e]; exact atI_nat h
theorem ixc {n : Nat} {m : Int} (j : Nat) (e : m = (j : Int)) (h : j < n) : ixN n m = some j := by
  unfold ixN
  rw [if_pos (by omega), if_pos (by omega), e]
  simp
theorem sqc {n : Nat} {m : Int} (j : Nat) (e : m = (j : Int)) (h : j < n) : seqIndex? m n = some j := (ixN_seq (ixc j e h)).1
/-- int of an int, of a truth value -/
def rIntI : List V → Hp → VK → Prop := fun xs H Q => ∃ i, xs = [.int i] ∧ Q (.int i) H
def rIntB : List V → Hp → VK → Prop := fun xs H Q => ∃ k, xs = [.bl k] ∧ Q (.int (if k then 1 else 0)) H
theorem z_intI (q : Q (.int m) H) : rIntI [.int m] H Q := ⟨m, rfl, q⟩
theorem z_intB {k : Bool} (q : Q (.int (if k then 1 else 0)) H) : rIntB [.bl k] H Q := ⟨k, rfl, q⟩
def rAbs : List V → Hp → VK → Prop := fun xs H Q => ∃ i, xs = [.int i] ∧ Q (.int (if i < 0 then -i else i)) H
theorem z_abs (q : Q (.int (if m < 0 then -m else m)) H) : rAbs [.int m] H Q := ⟨m, rfl, q⟩
def rListOf (K : PySem.W.Frag) : List V → Hp → VK → Prop := fun xs H Q => ∃ p ys, xs = [.ref p] ∧ (SqL K H p ys ∨ SqT K H p ys) ∧ ∀ l, H l = none → Q (.ref l) (upd H l (.lst ys))
theorem z_listL {p : Addr} {ys : List V} (h : SqL K H p ys) (q : ∀ l, H l = none → Q (.ref l) (upd H l (.lst ys))) : rListOf K [.ref p] H Q := ⟨p, ys, rfl, .inl h, q⟩
theorem z_listT {p : Addr} {ys : List V} (h : SqT K H p ys) (q : ∀ l, H l = none → Q (.ref l) (upd H l (.lst ys))) : rListOf K [.ref p] H Q := ⟨p, ys, rfl, .inr h, q⟩
def rTupOf (K : PySem.W.Frag) : List V → Hp → VK → Prop := fun xs H Q => ∃ p ys, xs = [.ref p] ∧ SqL K H p ys ∧ ∀ l, H l = none → Q (.ref l) (upd H l (.tup ys))
theorem z_tupL {p : Addr} {ys : List V} (h : SqL K H p ys) (q : ∀ l, H l = none → Q (.ref l) (upd H l (.tup ys))) : rTupOf K [.ref p] H Q := ⟨p, ys, rfl, h, q⟩
def rLenSq (K : PySem.W.Frag) : List V → Hp → VK → Prop := fun xs H Q => ∃ p ys, xs = [.ref p] ∧ (SqL K H p ys ∨ SqT K H p ys) ∧ Q (.int ys.length) H
theorem z_lenL {p : Addr} {ys : List V} (h : SqL K H p ys) (q : Q (.int ys.length) H) : rLenSq K [.ref p] H Q := ⟨p, ys, rfl, .inl h, q⟩
theorem z_lenT {p : Addr} {ys : List V} (h : SqT K H p ys) (q : Q (.int ys.length) H) : rLenSq K [.ref p] H Q := ⟨p, ys, rfl, .inr h, q⟩
end
def rIxA (K : PySem.W.Frag) : R2 := fun x y H Q => ∃ p xs i v, x = .ref p ∧ y = .int i ∧ (SqL K H p xs ∨ SqT K H p xs) ∧ atI xs i = some v ∧ Q v H
theorem z_ixA {K : PySem.W.Frag} {H : Hp} {Q : VK} {p : Addr} {xs : List V} {m : Int} {v : V} (h : SqL K H p xs ∨ SqT K H p xs) (a : atI xs m = some v) (q : Q v H) : rIxA K (.ref p) (.int m) H Q := ⟨p, xs, m, v, rfl, rfl, h, a, q⟩
section
variable {X : Cx}
theorem ix_any : IxR X (rIxA X.K) := by
  have h := (ix_list (X := X)).or (ix_tup (X := X))
  intro b hb pins s σ H x y v u Q I rx ry q
  obtain ⟨p, xs, i, z, e1, e2, hs, ha, q⟩ := q
  refine h b hb pins s σ H x y v u Q I rx ry ?_
  rcases hs with hs | hs
  · exact .inl ⟨p, xs, i, z, e1, e2, hs, ha, q⟩
  · exact .inr ⟨p, xs, i, z, e1, e2, hs, ha, q⟩
theorem call_intI : CallR X (.type "int") rIntI := fun pins s σ H xs us Q I r h => by
  obtain ⟨i, e, q⟩ := h
  exact call_int1 pins s σ H xs us Q I r (.inl ⟨i, e, q⟩)
theorem call_intB : CallR X (.type "int") rIntB := fun pins s σ H xs us Q I r h => by
  obtain ⟨i, e, q⟩ := h
  exact call_int1 pins s σ H xs us Q I r (.inr ⟨i, e, q⟩)
theorem call_absI : CallR X (.builtin "abs") rAbs := fun pins s σ H xs us Q I r h => call_abs pins s σ H xs us Q I r h
theorem call_listOf : CallR X (.type "list") (rListOf X.K) := fun pins s σ H xs us Q I r h => call_list_of pins s σ H xs us Q I r h
theorem call_tupOf : CallR X (.type "tuple") (rTupOf X.K) := fun pins s σ H xs us Q I r h => by
  obtain ⟨p, ys, e, hS, q⟩ := h
  exact call_tuple_of pins s σ H xs us Q I r ⟨p, ys, e, .inl ⟨hS, q⟩⟩
theorem call_lenSq : CallR X (.builtin "len") (rLenSq X.K) := fun pins s σ H xs us Q I r h => call_len_seq pins s σ H xs us Q I r h
end

theorem Same.made {H : Hp} {x dx : Addr} {o1 o2 o3 : HO} (hx : H x = none) (hd : H dx = none) : Same H (upd (upd (upd H dx o1) x o2) x o3) := fun c u e => by
  rw [upd_ne (ne_of_none e hx), upd_ne (ne_of_none e hx), upd_ne (ne_of_none e hd)]
  exact e
theorem ExB.rd {d b : Addr} {H H' : Hp} {u : HO} (e : ExB d H H') (n : b ≠ d) (h : Rd H b u) : Rd H' b u := by
  rcases h with h | ⟨o, h⟩
  · exact .inl (e _ _ n h)
  · exact .inr ⟨o, e _ _ n h⟩
theorem ExB.sl {K : PySem.W.Frag} {d b : Addr} {H H' : Hp} {xs : List V} (e : ExB d H H') (n : b ≠ d) (h : SqL K H b xs) : SqL K H' b xs := by
  rcases h with h | h
  · exact .inl (e.rd n h)
  · exact .inr h
theorem ExB.st {K : PySem.W.Frag} {d b : Addr} {H H' : Hp} {xs : List V} (e : ExB d H H') (n : b ≠ d) (h : SqT K H b xs) : SqT K H' b xs := by
  rcases h with h | h
  · exact .inl (e.rd n h)
  · exact .inr h
theorem Same.st {K : PySem.W.Frag} {b : Addr} {H H' : Hp} {xs : List V} (e : Same H H') (h : SqT K H b xs) : SqT K H' b xs := (ExB.of (d := b + 1) e).st (Nat.ne_of_lt (Nat.lt_succ_self b)) h
theorem Same.sl {K : PySem.W.Frag} {b : Addr} {H H' : Hp} {xs : List V} (e : Same H H') (h : SqL K H b xs) : SqL K H' b xs := (ExB.of (d := b + 1) e).sl (Nat.ne_of_lt (Nat.lt_succ_self b)) h

/-! ### fields, calls of methods, kinds: steps -/
theorem lk0 {f : Str} {v : V} {r : List (Str × V)} : List.lookup f ((f, v) :: r) = some v := by simp [List.lookup]
theorem lk1 {f g : Str} {x : V} {r : List (Str × V)} {o : Option V} (h : (g == f) = false) (q : List.lookup g r = o) : List.lookup g ((f, x) :: r) = o := by simp only [List.lookup, h]; exact q
theorem pf_nil {f : Str} {v : V} : putF f v [] = [(f, v)] := rfl
theorem pf_hit {f : Str} {v x : V} {r : List (Str × V)} : putF f v ((f, x) :: r) = (f, v) :: r := if_pos rfl
theorem pf_miss {f g : Str} {v x : V} {r r' : List (Str × V)} (h : ¬ g = f) (q : putF f v r = r') : putF f v ((g, x) :: r) = (g, x) :: r' := by
  show (if g = f then _ else (g, x) :: putF f v r) = _
  rw [if_neg h, q]
def FldK (K : PySem.W.Frag) (f : Str) (x : V) (H : Hp) (Q : VK) : Prop := ∃ a C dx fs v, x = .ref a ∧ H a = some (.ins C dx fs) ∧ Cls K C ∧ NoAttr K C f ∧ fs.lookup f = some v ∧ Q v H
def SFldK (K : PySem.W.Frag) (f : Str) (y x : V) (H : Hp) (P : Hp → Prop) : Prop := ∃ a C dx fs, x = .ref a ∧ H a = some (.ins C dx fs) ∧ Cls K C ∧ NoAttr K C f ∧ fs.length < 1000 ∧ P (upd H a (.ins C dx (putF f y fs)))
def MethK (C : Addr) (m : Str) (x : V) (H : Hp) (P : Addr → Prop) : Prop := ∃ a dx fs, x = .ref a ∧ H a = some (.ins C dx fs) ∧ fs.lookup m = none ∧ P a
def PropK (C : Addr) (x : V) (H : Hp) (P : Addr → Prop) : Prop := ∃ a dx fs, x = .ref a ∧ H a = some (.ins C dx fs) ∧ P a
def InstK (x : V) (P : Addr → Prop) : Prop := ∃ a, x = .ref a ∧ P a
def CallK (C a : Addr) (H : Hp) (P : Prop) : Prop := (∃ dx fs, H a = some (.ins C dx fs)) ∧ P
section
variable {σ : L2.St} {H : Hp} {Q : VK} {K : PySem.W.Frag} {te tv : TE} {D : Ends} {f : Str} {p C dx : Addr} {fs fs' : List (Str × V)} {v : V} {tr : TA}
theorem z_fld (q : te σ H fun x H1 => FldK K f x H1 Q) : tFld K te f σ H Q := q
theorem z_fld2 (h : H p = some (.ins C dx fs)) (c : Cls K C) (n : NoAttr K C f) (l : fs.lookup f = some v) (q : Q v H) : FldK K f (.ref p) H Q := ⟨p, C, dx, fs, v, rfl, h, c, n, l, q⟩
theorem z_sfld (q : tv σ H fun y H1 => te σ H1 fun x H2 => SFldK K f y x H2 fun H3 => D.nx σ H3) : sFld K te tv f D σ H := q
theorem z_sfld2 {P : Hp → Prop} (h : H p = some (.ins C dx fs)) (c : Cls K C) (n : NoAttr K C f) (z : fs.length < 1000) (e : putF f v fs = fs') (q : P (upd H p (.ins C dx fs'))) : SFldK K f v (.ref p) H P := ⟨p, C, dx, fs, rfl, h, c, n, z, by rw [e]; exact q⟩
theorem z_meth {m : Str} {sp : Sp} {E : L2.St → XK} (q : te σ H fun x H1 => MethK C m x H1 fun a => tr σ H1 fun vs H2 => sp (.ref a :: vs) H2 Q (E σ)) : tMethS C m sp E te tr σ H Q := q
theorem z_meth2 {m : Str} {P : Addr → Prop} (h : H p = some (.ins C dx fs)) (l : fs.lookup m = none) (q : P p) : MethK C m (.ref p) H P := ⟨p, dx, fs, rfl, h, l, q⟩
theorem z_prop {sp : Sp} (q : te σ H fun x H1 => PropK C x H1 fun a => sp [.ref a] H1 Q E0) : tPropS C sp te σ H Q := q
theorem z_prop2 {P : Addr → Prop} (h : H p = some (.ins C dx fs)) (q : P p) : PropK C (.ref p) H P := ⟨p, dx, fs, rfl, h, q⟩
theorem z_make {sp : Sp} {E : L2.St → XK} (q : tr σ H fun vs H1 => ∀ x dx, H1 x = none → H1 dx = none → dx ≠ x → sp (.ref x :: vs) (upd (upd H1 dx (.own x)) x (.ins C dx [])) (MkQ Q x) (E σ)) : tMakeS C sp E tr σ H Q := q
theorem z_inst {sp : Sp} {E : L2.St → XK} (q : te σ H fun x H1 => InstK x fun a => tr σ H1 fun vs H2 => CallK C a H2 (sp (.ref a :: vs) H2 Q (E σ))) : tInst C sp E te tr σ H Q := q
theorem z_inst2 {P : Addr → Prop} (q : P p) : InstK (.ref p) P := ⟨p, rfl, q⟩
theorem z_inst3 {P : Prop} (h : H p = some (.ins C dx fs)) (q : P) : CallK C p H P := ⟨⟨dx, fs, h⟩, q⟩
def ChK (r' : R2) (tc : TE) (σ : L2.St) (y z : V) (H : Hp) (Q : VK) : Prop := ∃ k, z = .bl k ∧ (if k = true then tc σ H fun w' H4 => r' y w' H4 Q else Q (.bl false) H)
theorem z_chain {r r' : R2} {ta tb tc : TE} (q : ta σ H fun x H1 => tb σ H1 fun y H2 => r x y H2 fun z H3 => ChK r' tc σ y z H3 Q) : tChain r r' ta tb tc σ H Q := q
theorem z_ch2 {r' : R2} {tc : TE} {y : V} {k : Bool} (q : if k = true then tc σ H fun w' H4 => r' y w' H4 Q else Q (.bl false) H) : ChK r' tc σ y (.bl k) H Q := ⟨k, rfl, q⟩
def EqOK (c : Str) (sp : Sp) (K : PySem.W.Frag) (x y : V) (H : Hp) (Q : VK) : Prop := ∃ a dx fs, x = .ref a ∧ H a = some (.ins (He.ga K c) dx fs) ∧ Oth K (He.ga K c) H y ∧ sp [x, y] H Q E0
theorem z_eqO {c : Str} {sp : Sp} {E : L2.St → XK} {y : V} (h : H p = some (.ins (He.ga K c) dx fs)) (o : Oth K (He.ga K c) H y) (q : sp [.ref p, y] H Q E0) : rEqO c sp E K (.ref p) y H Q := ⟨p, dx, fs, rfl, h, o, q⟩
theorem z_isi {x c : V} {t u : Value} {b : Bool} (hc : ClsV c u) (ht : TyX K H x t) (hk : PySem.W.kitOne K t u = some b) (q : Q (.bl b) H) : rIsi K [x, c] H Q := ⟨x, c, t, u, b, rfl, hc, ht, hk, q⟩
end
theorem kb_NoneType_bool {K : PySem.W.Frag} : PySem.W.kitOne K (.type "NoneType") (.type "bool") = some false := kit_ty (by decide +kernel)
theorem kb_NoneType_int {K : PySem.W.Frag} : PySem.W.kitOne K (.type "NoneType") (.type "int") = some false := kit_ty (by decide +kernel)
theorem kb_NoneType_str {K : PySem.W.Frag} : PySem.W.kitOne K (.type "NoneType") (.type "str") = some false := kit_ty (by decide +kernel)
theorem kb_NoneType_dict {K : PySem.W.Frag} : PySem.W.kitOne K (.type "NoneType") (.type "dict") = some false := kit_ty (by decide +kernel)
theorem kb_NoneType_tuple {K : PySem.W.Frag} : PySem.W.kitOne K (.type "NoneType") (.type "tuple") = some false := kit_ty (by decide +kernel)
theorem kb_NoneType_list {K : PySem.W.Frag} : PySem.W.kitOne K (.type "NoneType") (.type "list") = some false := kit_ty (by decide +kernel)
theorem kb_bool_bool {K : PySem.W.Frag} : PySem.W.kitOne K (.type "bool") (.type "bool") = some true := kit_ty (by decide +kernel)
theorem kb_bool_int {K : PySem.W.Frag} : PySem.W.kitOne K (.type "bool") (.type "int") = some true := kit_ty (by decide +kernel)
theorem kb_bool_str {K : PySem.W.Frag} : PySem.W.kitOne K (.type "bool") (.type "str") = some false := kit_ty (by decide +kernel)
theorem kb_bool_dict {K : PySem.W.Frag} : PySem.W.kitOne K (.type "bool") (.type "dict") = some false := kit_ty (by decide +kernel)
theorem kb_bool_tuple {K : PySem.W.Frag} : PySem.W.kitOne K (.type "bool") (.type "tuple") = some false := kit_ty (by decide +kernel)
theorem kb_bool_list {K : PySem.W.Frag} : PySem.W.kitOne K (.type "bool") (.type "list") = some false := kit_ty (by decide +kernel)
theorem kb_int_bool {K : PySem.W.Frag} : PySem.W.kitOne K (.type "int") (.type "bool") = some false := kit_ty (by decide +kernel)
theorem kb_int_int {K : PySem.W.Frag} : PySem.W.kitOne K (.type "int") (.type "int") = some true := kit_ty (by decide +kernel)
theorem kb_int_str {K : PySem.W.Frag} : PySem.W.kitOne K (.type "int") (.type "str") = some false := kit_ty (by decide +kernel)
theorem kb_int_dict {K : PySem.W.Frag} : PySem.W.kitOne K (.type "int") (.type "dict") = some false := kit_ty (by decide +kernel)
theorem kb_int_tuple {K : PySem.W.Frag} : PySem.W.kitOne K (.type "int") (.type "tuple") = some false := kit_ty (by decide +kernel)
theorem kb_int_list {K : PySem.W.Frag} : PySem.W.kitOne K (.type "int") (.type "list") = some false := kit_ty (by decide +kernel)
theorem kb_str_bool {K : PySem.W.Frag} : PySem.W.kitOne K (.type "str") (.type "bool") = some false := kit_ty (by decide +kernel)
theorem kb_str_int {K : PySem.W.Frag} : PySem.W.kitOne K (.type "str") (.type "int") = some false := kit_ty (by decide +kernel)
theorem kb_str_str {K : PySem.W.Frag} : PySem.W.kitOne K (.type "str") (.type "str") = some true := kit_ty (by decide +kernel)
theorem kb_str_dict {K : PySem.W.Frag} : PySem.W.kitOne K (.type "str") (.type "dict") = some false := kit_ty (by decide +kernel)
theorem kb_str_tuple {K : PySem.W.Frag} : PySem.W.kitOne K (.type "str") (.type "tuple") = some false := kit_ty (by decide +kernel)
theorem kb_str_list {K : PySem.W.Frag} : PySem.W.kitOne K (.type "str") (.type "list") = some false := kit_ty (by decide +kernel)
theorem kb_list_bool {K : PySem.W.Frag} : PySem.W.kitOne K (.type "list") (.type "bool") = some false := kit_ty (by decide +kernel)
theorem kb_list_int {K : PySem.W.Frag} : PySem.W.kitOne K (.type "list") (.type "int") = some false := kit_ty (by decide +kernel)
theorem kb_list_str {K : PySem.W.Frag} : PySem.W.kitOne K (.type "list") (.type "str") = some false := kit_ty (by decide +kernel)
theorem kb_list_dict {K : PySem.W.Frag} : PySem.W.kitOne K (.type "list") (.type "dict") = some false := kit_ty (by decide +kernel)
theorem kb_list_tuple {K : PySem.W.Frag} : PySem.W.kitOne K (.type "list") (.type "tuple") = some false := kit_ty (by decide +kernel)
theorem kb_list_list {K : PySem.W.Frag} : PySem.W.kitOne K (.type "list") (.type "list") = some true := kit_ty (by decide +kernel)
theorem kb_tuple_bool {K : PySem.W.Frag} : PySem.W.kitOne K (.type "tuple") (.type "bool") = some false := kit_ty (by decide +kernel)
theorem kb_tuple_int {K : PySem.W.Frag} : PySem.W.kitOne K (.type "tuple") (.type "int") = some false := kit_ty (by decide +kernel)
theorem kb_tuple_str {K : PySem.W.Frag} : PySem.W.kitOne K (.type "tuple") (.type "str") = some false := kit_ty (by decide +kernel)
theorem kb_tuple_dict {K : PySem.W.Frag} : PySem.W.kitOne K (.type "tuple") (.type "dict") = some false := kit_ty (by decide +kernel)
theorem kb_tuple_tuple {K : PySem.W.Frag} : PySem.W.kitOne K (.type "tuple") (.type "tuple") = some true := kit_ty (by decide +kernel)
theorem kb_tuple_list {K : PySem.W.Frag} : PySem.W.kitOne K (.type "tuple") (.type "list") = some false := kit_ty (by decide +kernel)
theorem kb_dict_bool {K : PySem.W.Frag} : PySem.W.kitOne K (.type "dict") (.type "bool") = some false := kit_ty (by decide +kernel)
theorem kb_dict_int {K : PySem.W.Frag} : PySem.W.kitOne K (.type "dict") (.type "int") = some false := kit_ty (by decide +kernel)
theorem kb_dict_str {K : PySem.W.Frag} : PySem.W.kitOne K (.type "dict") (.type "str") = some false := kit_ty (by decide +kernel)
theorem kb_dict_dict {K : PySem.W.Frag} : PySem.W.kitOne K (.type "dict") (.type "dict") = some true := kit_ty (by decide +kernel)
theorem kb_dict_tuple {K : PySem.W.Frag} : PySem.W.kitOne K (.type "dict") (.type "tuple") = some false := kit_ty (by decide +kernel)
theorem kb_dict_list {K : PySem.W.Frag} : PySem.W.kitOne K (.type "dict") (.type "list") = some false := kit_ty (by decide +kernel)
theorem ty_L {K : PySem.W.Frag} {H : Hp} {a : Addr} {xs : List V} (h : SqL K H a xs) : TyX K H (.ref a) (.type "list") := by
  rcases h with (h | ⟨o, h⟩) | ⟨o, its, n, h, c, _⟩
  · exact .base (.lst h)
  · exact .base (.frz h)
  · exact .kList h c
theorem ty_T {K : PySem.W.Frag} {H : Hp} {a : Addr} {xs : List V} (h : SqT K H a xs) : TyX K H (.ref a) (.type "tuple") := by
  rcases h with (h | ⟨o, h⟩) | ⟨o, its, n, h, c, _⟩
  · exact .base (.tup h)
  · exact .fTuple h
  · exact .kTuple h c
def rIsN : R2 := fun x y H Q => y = .non ∧ Q (.bl (decide (x = .non))) H
def rIsNN : R2 := fun x y H Q => y = .non ∧ Q (.bl (!decide (x = .non))) H
theorem op_isNone {X : Cx} : OpR X (compareOp .Is) rIsN := fun pins s σ H x y v u Q I rx ry h => op_isN pins s σ H x y v u Q I rx ry h
theorem op_isNotNone {X : Cx} : OpR X (compareOp .IsNot) rIsNN := fun pins s σ H x y v u Q I rx ry h => op_notN pins s σ H x y v u Q I rx ry h
theorem z_isN {x : V} {H : Hp} {Q : VK} (q : Q (.bl (decide (x = .non))) H) : rIsN x .non H Q := ⟨rfl, q⟩
theorem z_isNN {x : V} {H : Hp} {Q : VK} (q : Q (.bl (!decide (x = .non))) H) : rIsNN x .non H Q := ⟨rfl, q⟩
/-- is it an int, and no bool? -/
def IntQ (K : PySem.W.Frag) (H : Hp) (v : V) (b : Bool) : Prop := ∃ t b1 b2, TyX K H v t ∧ PySem.W.kitOne K t (.type "int") = some b1 ∧ PySem.W.kitOne K t (.type "bool") = some b2 ∧ b = (b1 && !b2)
theorem TyX.keep {K : PySem.W.Frag} {H H' : Hp} {v : V} {t : Value} (h : TyX K H v t) (e : Same H H') : TyX K H' v t := by
  cases h with
  | base h =>
    cases h with
    | non => exact .base .non
    | bl x => exact .base (.bl x)
    | int x => exact .base (.int x)
    | str x => exact .base (.str x)
    | flt x => exact .base (.flt x)
    | lst h => exact .base (.lst (e _ _ h))
    | frz h => exact .base (.frz (e _ _ h))
    | tup h => exact .base (.tup (e _ _ h))
    | dK h => exact .base (.dK (e _ _ h))
    | dT h => exact .base (.dT (e _ _ h))
    | ins h a b c d f => exact .base (.ins (e _ _ h) a b c d f)
  | byt b => exact .byt b
  | set h => exact .set (e _ _ h)
  | kList h c => exact .kList h c
  | kTuple h c => exact .kTuple h c
  | kDict h c => exact .kDict h c
  | fTuple h => exact .fTuple (e _ _ h)
  | fDict h => exact .fDict (e _ _ h)
theorem IntQ.keep {K : PySem.W.Frag} {H H' : Hp} {v : V} {b : Bool} (h : IntQ K H v b) (e : Same H H') : IntQ K H' v b := let ⟨t, b1, b2, ht, r⟩ := h; ⟨t, b1, b2, TyX.keep ht e, r⟩
theorem intQ_int {K : PySem.W.Frag} {H : Hp} {i : Int} : IntQ K H (.int i) true := ⟨_, true, false, .base (.int i), kit_ty (by decide +kernel), kit_ty (by decide +kernel), rfl⟩
theorem intQ_bl {K : PySem.W.Frag} {H : Hp} {i : Bool} : IntQ K H (.bl i) false := ⟨_, true, true, .base (.bl i), kit_ty (by decide +kernel), kit_ty (by decide +kernel), rfl⟩
theorem intQ_non {K : PySem.W.Frag} {H : Hp} : IntQ K H .non false := ⟨_, false, false, .base .non, kit_ty (by decide +kernel), kit_ty (by decide +kernel), rfl⟩
theorem intQ_str {K : PySem.W.Frag} {H : Hp} {z : Str} : IntQ K H (.str z) false := ⟨_, false, false, .base (.str z), kit_ty (by decide +kernel), kit_ty (by decide +kernel), rfl⟩
/-- what a class must say so that isinstance asks its instances rightly -/
structure InK (K : PySem.W.Frag) (c : Str) : Prop where
  cl : Cls K (He.ga K c)
  ha : PySem.W.findIn K (.ref (He.ga K c)) "__class__" = some (some (.builtin "object.__class__"))
  hn : PySem.W.specialIn K (.builtin "object.__class__") "__get__" = some (some (.builtin "getset_descriptor.__get__"))
  ht : PySem.W.takesIn K (.builtin "object.__class__") = some true
  hm : PySem.W.mroIn K (He.ga K c) (.type "object") = some true
theorem InK.ty {K : PySem.W.Frag} {c : Str} (k : InK K c) {H : Hp} {a dx : Addr} {fs : List (Str × V)} (h : H a = some (.ins (He.ga K c) dx fs)) : TyX K H (.ref a) (.ref (He.ga K c)) := .base (.ins h k.cl k.ha k.hn k.ht k.hm)

/-! ### loops, comprehensions: what is asked of the prover -/
section
variable {σ : L2.St} {H : Hp} {Q : VK} {K : PySem.W.Frag} {D : Ends} {g : TG} {tb : TS} {tl te : TE} {tt : TT} {vs : List Nat}
structure ForS (src : Hp → Prop) (xs : List V) (g : TG) (tb : TS) (D : Ends) (σ : L2.St) (H : Hp) (Pv : Nat → L2.St → Hp → Prop) : Prop where
  h0 : Pv 0 σ H
  hl : ∀ i σ H, i ≤ xs.length → Pv i σ H → src H
  hs : ∀ i x σ H, xs[i]? = some x → Pv i σ H → g x σ H fun σ2 H2 => tb { D with nx := Pv (i + 1), ct := Pv (i + 1), bk := D.nx } σ2 H2
  hd : ∀ σ H, Pv xs.length σ H → D.nx σ H
theorem z_forL (q : tl σ H fun x H1 => ∃ a xs, x = .ref a ∧ SqL K H1 a xs ∧ ∃ Pv, ForS (fun H => SqL K H a xs) xs g tb D σ H1 Pv) (hm : ∀ σ H (Q Q' : VK), (∀ v H', Q v H' → Q' v H') → tl σ H Q → tl σ H Q') : tFor (iList K tl) g tb D σ H := by
  refine hm _ _ _ _ (fun v H1 z => ?_) q
  obtain ⟨a, xs, rfl, hS, Pv, F⟩ := z
  exact ⟨a, rfl, ⟨xs, hS⟩, for_list (K := K) Pv F.h0 F.hl F.hs F.hd⟩
theorem z_forT (q : tl σ H fun x H1 => ∃ a xs, x = .ref a ∧ SqT K H1 a xs ∧ ∃ Pv, ForS (fun H => SqT K H a xs) xs g tb D σ H1 Pv) (hm : ∀ σ H (Q Q' : VK), (∀ v H', Q v H' → Q' v H') → tl σ H Q → tl σ H Q') : tFor (iTup K tl) g tb D σ H := by
  refine hm _ _ _ _ (fun v H1 z => ?_) q
  obtain ⟨a, xs, rfl, hS, Pv, F⟩ := z
  exact ⟨a, rfl, ⟨xs, hS⟩, for_tup (K := K) Pv F.h0 F.hl F.hs F.hd⟩
theorem mono_var {i : Nat} : ∀ σ H (Q Q' : VK), (∀ v H', Q v H' → Q' v H') → tVar i σ H Q → tVar i σ H Q' := fun _ _ _ _ k ⟨v, e, q⟩ => ⟨v, e, k _ _ q⟩
theorem z_forLv {i : Nat} {a : Addr} {xs : List V} (e : σ[i]? = some (some (.ref a))) (hS : SqL K H a xs) (Pv : Nat → L2.St → Hp → Prop) (F : ForS (fun H => SqL K H a xs) xs g tb D σ H Pv) : tFor (iList K (tVar i)) g tb D σ H :=
  z_forL ⟨_, e, a, xs, rfl, hS, Pv, F⟩ mono_var
theorem z_forTv {i : Nat} {a : Addr} {xs : List V} (e : σ[i]? = some (some (.ref a))) (hS : SqT K H a xs) (Pv : Nat → L2.St → Hp → Prop) (F : ForS (fun H => SqT K H a xs) xs g tb D σ H Pv) : tFor (iTup K (tVar i)) g tb D σ H :=
  z_forT ⟨_, e, a, xs, rfl, hS, Pv, F⟩ mono_var
structure LcR (n : Nat) (g : TG) (tt : TT) (te : TE) (vs : List Nat) (σ : L2.St) (H1 : Hp) (D : Addr) (Q : VK) (Pv : Nat → Hp → Prop) : Prop where
  h0 : Pv 0 (upd H1 D (.lst []))
  hs : ∀ i H, i < n → Pv i H → g (.int i) (wipe σ vs) H fun σ2 H2 => wipe σ2 vs = wipe σ vs ∧ tt σ2 H2 fun b H3 =>
    if b = true then te σ2 H3 fun y H4 => ∃ acc, H4 D = some (.lst acc) ∧ acc.length < sizeLine ∧ Pv (i + 1) (upd H4 D (.lst (acc ++ [y]))) else Pv (i + 1) H3
  hd : ∀ H, Pv n H → Q (.ref D) H
structure ForR (n : Nat) (g : TG) (tb : TS) (D : Ends) (σ : L2.St) (H : Hp) (Pv : Nat → L2.St → Hp → Prop) : Prop where
  h0 : Pv 0 σ H
  hs : ∀ i σ H, i < n → Pv i σ H → g (.int i) σ H fun σ2 H2 => tb { D with nx := Pv (i + 1), ct := Pv (i + 1), bk := D.nx } σ2 H2
  hd : ∀ σ H, Pv n σ H → D.nx σ H
structure LcS (src : Hp → Prop) (xs : List V) (g : TG) (tt : TT) (te : TE) (vs : List Nat) (σ : L2.St) (H1 : Hp) (D : Addr) (Q : VK) (Pv : Nat → Hp → Prop) : Prop where
  h0 : Pv 0 (upd H1 D (.lst []))
  hl : ∀ i H, i ≤ xs.length → Pv i H → src H
  hs : ∀ i x H, xs[i]? = some x → Pv i H → g x (wipe σ vs) H fun σ2 H2 => wipe σ2 vs = wipe σ vs ∧ tt σ2 H2 fun b H3 =>
    if b = true then te σ2 H3 fun y H4 => ∃ acc, H4 D = some (.lst acc) ∧ acc.length < sizeLine ∧ Pv (i + 1) (upd H4 D (.lst (acc ++ [y]))) else Pv (i + 1) H3
  hd : ∀ H, Pv xs.length H → Q (.ref D) H
theorem z_lcLv {i : Nat} {a : Addr} {xs : List V} (e : σ[i]? = some (some (.ref a))) (hS : SqL K H a xs) (F : ∀ D, H D = none → ∃ Pv, LcS (fun H => SqL K H a xs) xs g tt te vs σ H D Q Pv) : tLc (iList K (tVar i)) g tt te vs σ H Q :=
  ⟨_, e, a, rfl, ⟨xs, hS⟩, fun D hD => let ⟨Pv, F⟩ := F D hD; lc_list (K := K) Pv F.h0 F.hl F.hs F.hd⟩
theorem z_lcTv {i : Nat} {a : Addr} {xs : List V} (e : σ[i]? = some (some (.ref a))) (hS : SqT K H a xs) (F : ∀ D, H D = none → ∃ Pv, LcS (fun H => SqT K H a xs) xs g tt te vs σ H D Q Pv) : tLc (iTup K (tVar i)) g tt te vs σ H Q :=
  ⟨_, e, a, rfl, ⟨xs, hS⟩, fun D hD => let ⟨Pv, F⟩ := F D hD; lc_tup (K := K) Pv F.h0 F.hl F.hs F.hd⟩
theorem z_acc {D : Addr} {acc : List V} {y : V} {P : Hp → Prop} (h : H D = some (.lst acc)) (hz : acc.length < 100000) (q : P (upd H D (.lst (acc ++ [y])))) : ∃ acc, H D = some (.lst acc) ∧ acc.length < sizeLine ∧ P (upd H D (.lst (acc ++ [y]))) :=
  ⟨acc, h, Nat.lt_of_lt_of_le hz (by decide), q⟩
theorem z_lcR {ta : TA} (q : ta σ H fun ws H1 => ∃ n : Nat, ws = [.int n] ∧ n ≤ 100000 ∧ ∀ D, H1 D = none → ∃ Pv, LcR n g tt te vs σ H1 D Q Pv) (hm : ∀ σ H (Q Q' : List V → Hp → Prop), (∀ v H', Q v H' → Q' v H') → ta σ H Q → ta σ H Q') : tLc (iRng1 ta) g tt te vs σ H Q := by
  refine hm _ _ _ _ (fun v H1 z => ?_) q
  obtain ⟨n, rfl, hn, F⟩ := z
  refine ⟨n, rfl, by omega, by omega, fun D hD => ?_⟩
  obtain ⟨Pv, F⟩ := F D hD
  exact lc_range (lo := 0) (n := n) Pv F.h0 (fun i H hi p => by have := F.hs i H hi p; rw [Int.zero_add]; exact this) F.hd
theorem z_forR {ta : TA} (q : ta σ H fun ws H1 => ∃ n : Nat, ws = [.int n] ∧ n ≤ 100000 ∧ ∃ Pv, ForR n g tb D σ H1 Pv) (hm : ∀ σ H (Q Q' : List V → Hp → Prop), (∀ v H', Q v H' → Q' v H') → ta σ H Q → ta σ H Q') : tFor (iRng1 ta) g tb D σ H := by
  refine hm _ _ _ _ (fun v H1 z => ?_) q
  obtain ⟨n, rfl, hn, Pv, F⟩ := z
  refine ⟨n, rfl, by omega, by omega, ?_⟩
  exact for_range (lo := 0) (n := n) Pv F.h0 (fun i σ H hi p => by have := F.hs i σ H hi p; rw [Int.zero_add]; exact this) F.hd
theorem mono_nil : ∀ σ H (Q Q' : List V → Hp → Prop), (∀ v H', Q v H' → Q' v H') → tNil σ H Q → tNil σ H Q' := fun _ _ _ _ k q => k _ _ q
theorem mono_cons {ta : TE} {tr : TA} (ha : ∀ σ H (Q Q' : VK), (∀ v H', Q v H' → Q' v H') → ta σ H Q → ta σ H Q') (hr : ∀ σ H (Q Q' : List V → Hp → Prop), (∀ v H', Q v H' → Q' v H') → tr σ H Q → tr σ H Q') :
    ∀ σ H (Q Q' : List V → Hp → Prop), (∀ v H', Q v H' → Q' v H') → tCons ta tr σ H Q → tCons ta tr σ H Q' := fun σ H Q Q' k q => ha _ _ _ _ (fun v H1 q1 => hr _ _ _ _ (fun vs H2 q2 => k _ _ q2) q1) q
theorem mono_c {v : V} : ∀ σ H (Q Q' : VK), (∀ v H', Q v H' → Q' v H') → tC v σ H Q → tC v σ H Q' := fun _ _ _ _ k q => k _ _ q
theorem mono_cbLen {ta : TA} (hr : ∀ σ H (Q Q' : List V → Hp → Prop), (∀ v H', Q v H' → Q' v H') → ta σ H Q → ta σ H Q') : ∀ σ H (Q Q' : VK), (∀ v H', Q v H' → Q' v H') → tCB (rLenSq K) ta σ H Q → tCB (rLenSq K) ta σ H Q' :=
  fun σ H Q Q' k q => hr _ _ _ _ (fun vs H1 ⟨p, ys, e, h, q⟩ => ⟨p, ys, e, h, k _ _ q⟩) q
theorem mono_callS {sp : Sp} {E : L2.St → XK} {ta : TA} (hs : ∀ vs H (Q Q' : VK) E, (∀ v H', Q v H' → Q' v H') → sp vs H Q E → sp vs H Q' E) (hr : ∀ σ H (Q Q' : List V → Hp → Prop), (∀ v H', Q v H' → Q' v H') → ta σ H Q → ta σ H Q') :
    ∀ σ H (Q Q' : VK), (∀ v H', Q v H' → Q' v H') → tCallS sp E ta σ H Q → tCallS sp E ta σ H Q' := fun σ H Q Q' k q => hr _ _ _ _ (fun vs H1 q => hs _ _ _ _ _ k q) q
theorem z_all {p : Addr} {bs : List Bool} (h : SqL K H p (bs.map V.bl)) (q : Q (.bl (bs.all id)) H) : rAll K [.ref p] H Q := ⟨p, bs, rfl, h, q⟩
theorem z_any {p : Addr} {bs : List Bool} (h : SqL K H p (bs.map V.bl)) (q : Q (.bl (bs.any id)) H) : rAny K [.ref p] H Q := ⟨p, bs, rfl, h, q⟩
theorem z_yes {QT : Bool → Hp → Prop} (q : QT true H) : tYes σ H QT := q
theorem z_cat {p b : Addr} {xs zs : List V} (h : H p = some (.lst xs)) (h2 : H b = some (.lst zs)) (hz : xs.length + zs.length ≤ 100000) (q : ∀ l, H l = none → Q (.ref l) (upd H l (.lst (xs ++ zs)))) : rCat (.ref p) (.ref b) H Q :=
  ⟨p, b, xs, zs, rfl, rfl, h, h2, Nat.le_trans hz (by decide), q⟩
theorem sz_lt {n : Nat} (h : n < 100000) : n < sizeLine := Nat.lt_of_lt_of_le h (by decide)
theorem sz_le {n : Nat} (h : n ≤ 100000) : n ≤ sizeLine := Nat.le_trans h (by decide)
theorem int_at {ns : List Int} {i : Nat} {x : V} (h : (ns.map V.int)[i]? = some x) : ∃ z, ns[i]? = some z ∧ x = V.int z := by
  rw [List.getElem?_map] at h
  cases e : ns[i]? with
  | none => rw [e] at h; cases h
  | some z => rw [e] at h; exact ⟨z, rfl, (Option.some.inj h).symm⟩
theorem lt_of_at {α : Type} {xs : List α} {i : Nat} {x : α} (h : xs[i]? = some x) : i < xs.length := (List.getElem?_eq_some_iff.mp h).1
end

/-! ### operators by own methods -/
/-- what a class must say of an operator's names -/
structure BinC (K : PySem.W.Frag) (c : Str) (nm : String) : Prop where
  first : PySem.W.selfFirst K (He.ga K c) = true
  rr : ∃ rc, PySem.W.findIn K (.ref (He.ga K c)) (dunderR nm) = some rc ∧ (rc = none ∨ ∃ g : Addr, rc = some (.ref g))
  i1 : ∃ fo, PySem.W.findIn K (.type "int") (PySem.dunder nm) = some fo
  i2 : ∃ ro, PySem.W.findIn K (.type "int") (dunderR nm) = some ro
  sub : PySem.W.subIn K (.type "int") (.ref (He.ga K c)) = some false
  bus : PySem.W.subIn K (.ref (He.ga K c)) (.type "int") = some false
def binB (K : PySem.W.Frag) (c : Str) (nm : String) : Bool := PySem.W.selfFirst K (He.ga K c) && ((match PySem.W.findIn K (.ref (He.ga K c)) (dunderR nm) with
  | some none => true
  | some (some (.ref _)) => true
  | _ => false) && ((PySem.W.findIn K (.type "int") (PySem.dunder nm)).isSome && ((PySem.W.findIn K (.type "int") (dunderR nm)).isSome && (decide (PySem.W.subIn K (.type "int") (.ref (He.ga K c)) = some false) && decide (PySem.W.subIn K (.ref (He.ga K c)) (.type "int") = some false)))))
theorem bin_ok {K : PySem.W.Frag} {c : Str} {nm : String} (h : binB K c nm = true) : BinC K c nm := by
  obtain ⟨h1, h⟩ := He.ba h
  obtain ⟨h2, h⟩ := He.ba h
  obtain ⟨h3, h⟩ := He.ba h
  obtain ⟨h4, h⟩ := He.ba h
  obtain ⟨h5, h6⟩ := He.ba h
  refine ⟨h1, ?_, Option.isSome_iff_exists.mp h3, Option.isSome_iff_exists.mp h4, of_decide_eq_true h5, of_decide_eq_true h6⟩
  split at h2
  · exact ⟨_, by assumption, .inl rfl⟩
  · exact ⟨_, by assumption, .inr ⟨_, rfl⟩⟩
  · cases h2
/-- the other side: a number, or one of the same class -/
inductive Mate (K : PySem.W.Frag) (c : Str) (H : Hp) : V → Prop
  | int {i : Int} : Mate K c H (.int i)
  | ins {b dy : Addr} {gs : List (Str × V)} (h : H b = some (.ins (He.ga K c) dy gs)) : Mate K c H (.ref b)
def BinK (c : Str) (sp : Sp) (E : XK) (K : PySem.W.Frag) (x y : V) (H : Hp) (Q : VK) : Prop := ∃ a dx fs, x = .ref a ∧ H a = some (.ins (He.ga K c) dx fs) ∧ Mate K c H y ∧ sp [x, y] H Q E
def tBinO (c : Str) (sp : Sp) (E : L2.St → XK) (K : PySem.W.Frag) (ta tb : TE) : TE := fun σ H Q => ta σ H fun x H1 => tb σ H1 fun y H2 => BinK c sp (E σ) K x y H2 Q
def RBinK (c : Str) (sp : Sp) (E : XK) (K : PySem.W.Frag) (x y : V) (H : Hp) (Q : VK) : Prop := ∃ i a dx fs, x = .int i ∧ y = .ref a ∧ H a = some (.ins (He.ga K c) dx fs) ∧ sp [y, x] H Q E
def tRBinO (c : Str) (sp : Sp) (E : L2.St → XK) (K : PySem.W.Frag) (ta tb : TE) : TE := fun σ H Q => ta σ H fun x H1 => tb σ H1 fun y H2 => RBinK c sp (E σ) K x y H2 Q
def IpK (c : Str) (sp : Sp) (K : PySem.W.Frag) (x y : V) (H : Hp) (Q : VK) : Prop := ∃ a dx fs, x = .ref a ∧ H a = some (.ins (He.ga K c) dx fs) ∧ sp [x, y] H Q E0
/-- x in o, o an instance: what its __contains__ says -/
def InO (c : Str) (sp : Sp) (E : XK) (K : PySem.W.Frag) (x y : V) (H : Hp) (Q : VK) : Prop := ∃ a dx fs, y = .ref a ∧ H a = some (.ins (He.ga K c) dx fs) ∧ sp [y, x] H (fun r H3 => ∃ k, r = .bl k ∧ Q (.bl k) H3) E
def tInO (c : Str) (sp : Sp) (E : L2.St → XK) (K : PySem.W.Frag) (ta tb : TE) : TE := fun σ H Q => ta σ H fun x H1 => tb σ H1 fun y H2 => InO c sp (E σ) K x y H2 Q
/-- o[i], o an instance -/
def SubO (c : Str) (sp : Sp) (E : XK) (K : PySem.W.Frag) (x y : V) (H : Hp) (Q : VK) : Prop := ∃ a dx fs, x = .ref a ∧ H a = some (.ins (He.ga K c) dx fs) ∧ sp [x, y] H Q E
def tSubO (c : Str) (sp : Sp) (E : L2.St → XK) (K : PySem.W.Frag) (ta tb : TE) : TE := fun σ H Q => ta σ H fun x H1 => tb σ H1 fun y H2 => SubO c sp (E σ) K x y H2 Q
section
variable {X : Cx} {k : Nat} {c m : Str} {ps : List Str} {sp : Sp} {E : L2.St → XK} {a b : Expr} {ta tb : TE} {pos : Pos} {op : Operator}
theorem pe_binO (G : GMe X.prog X.w X.K X.mg X.base c m k ps sp) (B : BinC X.K c op.info.2) (hr : Room k X.A) (hx : ∀ σ, PassesAt (L2.CX X.prog X.w) X σ (E σ)) (ha : PE X a ta) (hb : PE X b tb)
    (hd : PySem.dunder op.info.2 = m := by rfl) : PE X (.BinOp a op b pos) (tBinO c sp E X.K ta tb) := by
  obtain ⟨fd, F, bi⟩ := G.fn
  refine ⟨fun pins s σ H Q I h => wpAny_BinOp (binT ha hb I h fun v u s2 x y H2 I2 rx ry q => ?_)⟩
  obtain ⟨p, dx, fs, rfl, hp, hm, hq⟩ := q
  cases (show v = Value.ref p from rx)
  obtain ⟨mA, O, _⟩ := ins_get I2.hok hp
  obtain ⟨od, J, _⟩ := O.look
  obtain ⟨mm, hF⟩ := I2.fr
  have call : wpAny (model X.prog X.w) X.A (PySem.call (.ref (He.ma X.K (He.ga X.K c) m)) [.ref p, u]) (PySem.W.CmpBack (EP X pins σ Q)) X.xe s2 :=
    thn (run_fnS (E := E) (vs := [.ref p, y]) F hr bi (hx σ) I2 (.cons rfl (.cons ry .nil)) hq) fun _ _ z => back_of z
  cases hm with
  | int =>
    obtain ⟨t, rfl⟩ := (show ∃ t, u = Value.int _ t from ry)
    obtain ⟨rc, hrc, hrp⟩ := B.rr
    obtain ⟨fo, hfo⟩ := B.i1
    obtain ⟨ro, hro⟩ := B.i2
    exact PySem.W.ksp_binT hF I2.ok.mod.kin J rfl B.first (by rw [hd]; exact G.me.at_) G.me.fn hrc hrp hfo hro B.sub call
  | ins h =>
    cases (show u = Value.ref _ from ry)
    obtain ⟨_, O2, _⟩ := ins_get I2.hok h
    obtain ⟨_, J2, _⟩ := O2.look
    exact PySem.W.binop_K hF I2.ok.mod.kin J J2.type B.first (by rw [hd]; exact G.me.at_) G.me.fn call
theorem int_add_ref {p : Addr} {i : Int} {t : Tok} {ox : Obj} (hd : ox.data = .plain) : GivesAt (fun s => s.heap.get? p = some ox) (Builtin.«int.__add__» ⟨[.int i t, .ref p], []⟩) (.val Value.notImplemented) := by
  intro prog w A R s hp h
  obtain ⟨hh, g, d, tk, os⟩ := s
  show wpAny _ _ (Builtin.Int.intBinary "__add__" (fun x y => PySem.retInt (x + y)) false ⟨[.int i t, .ref p], []⟩) _ _ _
  unfold Builtin.Int.intBinary
  refine wpAny_bind (wpAny_pure ?_)
  dsimp only
  refine wpAny_bind (wpAny_bind (wpAny_pure (wpAny_pure ?_)))
  refine wpAny_bind (wpAny_bind (m := load p) (wpAny_load hp ?_))
  rw [hd]
  refine wpAny_pure ?_
  exact wpAny_bind (wpAny_rule (wpAny_pure h))
theorem pe_radd {f : Addr} (G : GMe X.prog X.w X.K X.mg X.base c "__radd__" k ps sp) (B : BinC X.K c "add") (hs : PySem.W.findIn X.K (.ref (He.ga X.K c)) "__add__" = some (some (.ref f))) (hr : Room k X.A)
    (hx : ∀ σ, PassesAt (L2.CX X.prog X.w) X σ (E σ)) (ha : PE X a ta) (hb : PE X b tb) : PE X (.BinOp a .Add b pos) (tRBinO c sp E X.K ta tb) := by
  obtain ⟨fd, F, bi⟩ := G.fn
  refine ⟨fun pins s σ H Q I h => wpAny_BinOp (binT ha hb I h fun v u s2 x y H2 I2 rx ry q => ?_)⟩
  obtain ⟨i, p, dx, fs, rfl, rfl, hp, hq⟩ := q
  cases (show u = Value.ref p from ry)
  obtain ⟨t, rfl⟩ := (show ∃ t, v = Value.int _ t from rx)
  obtain ⟨mA, O, _⟩ := ins_get I2.hok hp
  obtain ⟨od, J, _⟩ := O.look
  obtain ⟨mm, hF⟩ := I2.fr
  have XX := I2.kIn
  have call : wpAny (model X.prog X.w) X.A (PySem.call (.ref (He.ma X.K (He.ga X.K c) "__radd__")) [.ref p, .int i t]) (PySem.W.CmpBack (EP X pins σ Q)) X.xe s2 :=
    thn (run_fnS (E := E) (vs := [.ref p, .int i]) F hr bi (hx σ) I2 (.cons rfl (.cons ⟨t, rfl⟩ .nil)) hq) fun _ _ z => back_of z
  have one := PySem.W.ksp_try XX J G.me.at_ G.me.fn call
  obtain ⟨cd, rest, hcd, hm⟩ := PySem.W.ksp_first B.first
  have L1 : PySem.W.Looks (model X.prog X.w) s2.heap (typeOf (.int i t)) (.type "int") := PySem.W.Looks.of_pure rfl
  have L2 : PySem.W.Looks (model X.prog X.w) s2.heap (typeOf (.ref p)) (.ref (He.ga X.K c)) := J.type
  have L3 : PySem.W.Looks (model X.prog X.w) s2.heap (fillsNumberSlot (.type "int") "add") true := PySem.W.Looks.of_pure PySem.F.fills_int_add
  have L4 : PySem.W.Looks (model X.prog X.w) s2.heap (fillsNumberSlot (.ref (He.ga X.K c)) "add") true := PySem.W.fills_K XX hcd hm hs
  have L5 : PySem.W.Looks (model X.prog X.w) s2.heap (isSubtype (.ref (He.ga X.K c)) (.type "int")) false := PySem.W.looks_subIn XX B.bus
  have hne : (Value.type "int" == Value.ref (He.ga X.K c)) = false := Bool.eq_false_iff.mpr fun q => by cases beq_iff_eq.mp q
  have hpy : numberSlotInPython (.type "int") "add" = pure false := rfl
  show wpAny _ _ (holding _ _) _ _ _
  refine wpAny_holding (wpAny_bind (m := binaryOp1 "add" (.int i t) (.ref p)) ?_)
  unfold binaryOp1
  refine wpAny_bind (L1.here (wpAny_bind (L2.here (wpAny_bind (L3.here ?_)))))
  simp only [hne, Bool.false_eq_true, if_false]
  refine wpAny_bind (L4.here ?_)
  simp only [Bool.and_self, if_true]
  refine wpAny_bind (L5.here ?_)
  simp only [Bool.false_eq_true, if_false, pure_bind, Bool.not_false, Bool.and_self, if_true, hpy]
  refine wpAny_bind ?_
  apply wpAny_tryMethod_declines (typeIs_int s2 i t) PySem.F.slot_int_add
  apply call_givesAt (m := .val Value.notImplemented) PySem.F.slot_int_add (typeIs_int s2 i t) PySem.F.entry_int_add (PySem.F.args_int_add_2 _ _) (int_add_ref (p := p) (i := i) (t := t) rfl) J.at_
  refine ⟨rfl, ?_⟩
  refine wpAny_bind (wpAny_mono one (fun r s' hr' => ?_) fun _ _ e => e)
  obtain ⟨v, rfl, hq⟩ := hr'
  exact wpAny_bind (wpAny_rule (wpAny_pure (wpAny_pure hq)))
theorem pip_own (G : GMe X.prog X.w X.K X.mg X.base c m k ps sp) (hf : PySem.W.selfFirst X.K (He.ga X.K c) = true) (hr : Room k X.A) (hd : dunderI op.info.2 = m := by rfl) : PIp X op (IpK c sp X.K) := by
  obtain ⟨fd, F, bi⟩ := G.fn
  intro pins s σ H x y v u Q I rx ry q
  obtain ⟨p, dx, fs, rfl, hp, hq⟩ := q
  cases (show v = Value.ref p from rx)
  obtain ⟨mA, O, _⟩ := ins_get I.hok hp
  obtain ⟨od, J, _⟩ := O.look
  obtain ⟨mm, hF⟩ := I.fr
  have call : wpAny (model X.prog X.w) X.A (PySem.call (.ref (He.ma X.K (He.ga X.K c) m)) [.ref p, u]) (PySem.W.CmpBack (EP X pins σ Q)) X.xe s :=
    thn (run_fnS (E := fun _ => E0) (vs := [.ref p, y]) F hr bi (pas0 σ) I (.cons rfl (.cons ry .nil)) hq) fun _ _ z => back_of z
  exact PySem.W.ksp_inplace hF I.ok.mod.kin J hf (by rw [hd]; exact G.me.at_) G.me.fn call
theorem pe_inO (G : GMe X.prog X.w X.K X.mg X.base c "__contains__" k ps sp) (hr : Room k X.A) (hx : ∀ σ, PassesAt (L2.CX X.prog X.w) X σ (E σ)) (ha : PE X a ta) (hb : PE X b tb) (hm : behindInMarks .In b = false := by rfl) :
    PE X (.Compare a [.In] [b] pos) (tInO c sp E X.K ta tb) := by
  obtain ⟨fd, F, bi⟩ := G.fn
  refine ⟨fun pins s σ H Q I h => wpAny_Compare1 (binT ha hb I h fun v u s2 x y H2 I2 rx ry q => ?_) hm⟩
  obtain ⟨p, dx, fs, rfl, hp, hq⟩ := q
  cases (show u = Value.ref p from ry)
  obtain ⟨mA, O, _⟩ := ins_get I2.hok hp
  obtain ⟨od, J, _⟩ := O.look
  obtain ⟨mm, hF⟩ := I2.fr
  refine PySem.W.in_K hF I2.ok.mod.kin J G.me.at_ G.me.fn (thn (run_fnS (E := E) (vs := [.ref p, x]) F hr bi (hx σ) I2 (.cons rfl (.cons rx .nil)) hq) fun r s3 z => ?_)
  obtain ⟨rv, H3, I3, rr, k', rfl, q3⟩ := z
  cases (show r = Value.bool k' from rr)
  exact wpAny_truthy_bool ⟨.bl k', H3, I3, rfl, q3⟩
/-- a method's run, one level deeper -/
theorem run_in1 {CX : CXT} {f : Addr} {fd : FuncData} {E : XK} {pins : List (Addr × Obj)} {σ : L2.St} {H : Hp} {s : Shared} {Q : VK} {us : List Value} {vs : List V} (F : FnOk X.prog X.w X.K X.mg X.base CX k f fd ps sp) (hr : Room (k + 1) X.A) (hb : Binds X.K fd ps [])
    (hx : PassesAt CX X σ E) (I : Inv X pins σ H s) (r : Vals vs us) (h : sp vs H Q E) : wpAny (model X.prog X.w) X.A.in1 (PySem.call (.ref f) us) (EP X pins σ Q) X.xe s := by
  have hl : us.length = ps.length := by rw [← r.length, F.len _ _ _ _ h]
  have b := hb s us I.kIn (by rw [List.append_nil, hl])
  rw [List.append_nil] at b
  refine wpAny_call (codeAny_mono (F.run X.A.in1 X.stack s H ⟨us, []⟩ us vs Q E hr.in1 I.env0.in1 b r h) fun r s' hq => ?_)
  match r, hq with
  | .error e, hq => exact hx pins H s e s' I hq
  | .ok (.ret u), hq => exact I.after hq
  | .ok .next, hq => exact False.elim hq
  | .ok .brk, hq => exact False.elim hq
  | .ok .cont, hq => exact False.elim hq
theorem pe_subO (G : GMe X.prog X.w X.K X.mg X.base c "__getitem__" k ps sp) (gn : PySem.W.fnIn X.K (He.ma X.K (He.ga X.K c) "__getitem__") = true) (hr : Room (k + 1) X.A) (hx : ∀ σ, PassesAt (L2.CX X.prog X.w) X σ (E σ)) (ha : PE X a ta) (hb : PE X b tb)
    (hsl : ∀ o i, subscripted b true o i = runValue (.builtin "lifetime.subscript" ⟨[o, i], []⟩)) : PE X (.Subscript a b pos) (tSubO c sp E X.K ta tb) := by
  obtain ⟨fd, F, bi⟩ := G.fn
  refine ⟨fun pins s σ H Q I h => Subscript_ (binT ha hb I h fun v u s2 x y H2 I2 rx ry q => ?_)⟩
  obtain ⟨p, dx, fs, rfl, hp, hq⟩ := q
  cases (show v = Value.ref p from rx)
  obtain ⟨mA, O, _⟩ := ins_get I2.hok hp
  obtain ⟨od, J, _⟩ := O.look
  obtain ⟨mm, hF⟩ := I2.fr
  exact PySem.W.sub_K hF I2.ok.mod.kin J G.me.at_ gn G.me.fn (run_in1 (vs := [.ref p, y]) F hr bi (hx σ) I2 (.cons rfl (.cons ry .nil)) hq) (hsl _ _)
end
section
variable {σ : L2.St} {H : Hp} {Q : VK} {K : PySem.W.Frag} {ta tb te : TE} {c : Str} {sp : Sp} {p dx : Addr} {fs : List (Str × V)} {x y : V} {i : Int} {D : Ends} {n : Nat}
theorem z_binO {E : L2.St → XK} (q : ta σ H fun x H1 => tb σ H1 fun y H2 => BinK c sp (E σ) K x y H2 Q) : tBinO c sp E K ta tb σ H Q := q
theorem z_binK {E : XK} (h : H p = some (.ins (He.ga K c) dx fs)) (m : Mate K c H y) (q : sp [.ref p, y] H Q E) : BinK c sp E K (.ref p) y H Q := ⟨p, dx, fs, rfl, h, m, q⟩
theorem z_rbinO {E : L2.St → XK} (q : ta σ H fun x H1 => tb σ H1 fun y H2 => RBinK c sp (E σ) K x y H2 Q) : tRBinO c sp E K ta tb σ H Q := q
theorem z_rbinK {E : XK} (h : H p = some (.ins (He.ga K c) dx fs)) (q : sp [.ref p, .int i] H Q E) : RBinK c sp E K (.int i) (.ref p) H Q := ⟨i, p, dx, fs, rfl, rfl, h, q⟩
theorem z_aug {ti : TIp} (h : σ[n]? = some (some x)) (q : te σ H fun y H1 => ti x y H1 fun z H2 => D.nx (σ.set n (some z)) H2) : tAug n te ti D σ H := ⟨x, h, q⟩
theorem z_ipK (h : H p = some (.ins (He.ga K c) dx fs)) (q : sp [.ref p, y] H Q E0) : IpK c sp K (.ref p) y H Q := ⟨p, dx, fs, rfl, h, q⟩
theorem z_inO {E : L2.St → XK} (q : ta σ H fun x H1 => tb σ H1 fun y H2 => InO c sp (E σ) K x y H2 Q) : tInO c sp E K ta tb σ H Q := q
theorem z_inK {E : XK} (h : H p = some (.ins (He.ga K c) dx fs)) (q : sp [.ref p, x] H (fun r H3 => ∃ k, r = .bl k ∧ Q (.bl k) H3) E) : InO c sp E K x (.ref p) H Q := ⟨p, dx, fs, rfl, h, q⟩
theorem z_subO {E : L2.St → XK} (q : ta σ H fun x H1 => tb σ H1 fun y H2 => SubO c sp (E σ) K x y H2 Q) : tSubO c sp E K ta tb σ H Q := q
theorem z_subK {E : XK} (h : H p = some (.ins (He.ga K c) dx fs)) (q : sp [.ref p, y] H Q E) : SubO c sp E K (.ref p) y H Q := ⟨p, dx, fs, rfl, h, q⟩
theorem z_rep {xs : List V} {k : Int} (h : H p = some (.lst xs)) (h1 : -(2 ^ 63) ≤ k) (h2 : k < 2 ^ 63) (hz : xs.length * k.toNat ≤ 100000) (q : ∀ l, H l = none → Q (.ref l) (upd H l (.lst (List.replicate k.toNat xs).flatten))) : rRep (.ref p) (.int k) H Q :=
  ⟨p, k, xs, rfl, rfl, h, h1, h2, Nat.le_trans hz (by decide), q⟩
end

/-! ### the head: facts as Bools of what is reached, defs by their places -/
/-- a def: where it stands, its name, qualified name, statement -/
structure DefX where
  at_ : PySem.W.Frag → Addr
  name : Str
  qual : Str
  st : Stmt
def fnX (K : PySem.W.Frag) (f : Addr) : He.FnW := match K.lookup f with
  | some ⟨_, _, .func fd, _⟩ => some (fd.name, fd.qualname, fd.params, fd.body, fd.scope, fd.globals, fd.closure, fd.builtins)
  | _ => none
def DefX.val (d : DefX) : He.FnW := some (d.name, d.qual, defArgs d.st, .stmts (defBody d.st), defScope d.st, mainGlobals, [], builtinsNs)
def okX (K : PySem.W.Frag) (f : Addr) (q : Str) : Bool := PySem.W.keepIn K (.ref f) && (match K.lookup f with
  | some ⟨_, _, .func fd, _⟩ => PySem.W.codeIn K fd.code q && (He.dflB K fd.defaults [] && He.kwdB K fd.kwdefaults [])
  | _ => false)
theorem defAt_of {K : PySem.W.Frag} {f : Addr} {d : DefX} (e : fnX K f = d.val) (c : okX K f d.qual = true) : DefAt K d.name d.qual d.st f := by
  obtain ⟨kp, c⟩ := He.ba c
  unfold fnX at e
  match q : K.lookup f with
  | none => rw [q] at c; cases c
  | some ⟨oc, od, dt, osl⟩ =>
    rw [q] at c e
    match dt with
    | .func ⟨n1, n2, n3, n4, n5, n6, n7, n8, n9, n10, n11, n12, n13, n14, n15⟩ =>
      have e : (some (n1, n2, n3, n4, n5, n6, n7, n15) : He.FnW) = some (d.name, d.qual, defArgs d.st, .stmts (defBody d.st), defScope d.st, mainGlobals, [], builtinsNs) := e
      simp only [Option.some.injEq, Prod.mk.injEq] at e
      obtain ⟨h1, h2, h3, h4, h5, h6, h7, h8⟩ := e
      subst h1 h2 h3 h4 h5 h6 h7 h8
      obtain ⟨c1, c⟩ := He.ba (show (PySem.W.codeIn K n13 d.qual && (He.dflB K n8 [] && He.kwdB K n9 [])) = true from c)
      obtain ⟨c2, c3⟩ := He.ba c
      exact ⟨_, ⟨oc, od, n8, n9, n10, n11, n12, n13, n14, osl, rfl, q, c1, He.dflB_ok c2, He.kwdB_ok c3⟩, kp⟩
abbrev AlX : Type := Bool × List He.FnW
def obsX (fa : List (PySem.W.Frag → Bool)) (fn : List DefX) (K : PySem.W.Frag) : AlX := ((fa.all fun f => f K) && fn.all fun d => okX K (d.at_ K) d.qual, fn.map fun d => fnX K (d.at_ K))
def valX (fn : List DefX) : AlX := (true, fn.map DefX.val)
def SaysX (fa : List (PySem.W.Frag → Bool)) (fn : List DefX) (K : PySem.W.Frag) : Prop := obsX fa fn K = valX fn
def obsXG (n : Nat) (fa : List (PySem.W.Frag → Bool)) (fn : List DefX) (g : Addr → Option Obj) : AlX := obsX fa fn (He.frG g (He.asD g n))
def hookX (n : Nat) (fa : List (PySem.W.Frag → Bool)) (fn : List DefX) : PySem.W.Hook where
  α := AlX
  obs := fun s => obsXG n fa fn s.heap.get?
  val := fun _ => valX fn
  says := fun _ h => ∃ K : PySem.W.Frag, K.In h ∧ SaysX fa fn K
  of := fun _ _ e => ⟨_, He.frG_in, e⟩
  keeps := fun _ _ _ ⟨K, hK, c⟩ k => ⟨K, PySem.W.Frag.In.keeps hK k, c⟩
theorem obsXG_eq {n : Nat} {fa : List (PySem.W.Frag → Bool)} {fn : List DefX} {g : Addr → Option Obj} {s : Shared} (h : ∀ a, g a = s.heap.get? a) : obsXG n fa fn g = (hookX n fa fn).obs s := by
  have e : g = s.heap.get? := funext h
  rw [e] <;> rfl
section
variable {fa : List (PySem.W.Frag → Bool)} {fn : List DefX} {K : PySem.W.Frag}
theorem SaysX.fact (c : SaysX fa fn K) (i : Nat) {f : PySem.W.Frag → Bool} (h : fa[i]? = some f := by rfl) : f K = true :=
  List.all_eq_true.mp (He.ba (show ((fa.all fun f => f K) && fn.all fun d => okX K (d.at_ K) d.qual) = true from congrArg (fun z : AlX => z.1) c)).1 f (List.mem_of_getElem? h)
theorem SaysX.def_ (c : SaysX fa fn K) (i : Nat) {d : DefX} (h : fn[i]? = some d := by rfl) : DefAt K d.name d.qual d.st (d.at_ K) := by
  have c2 := (He.ba (show ((fa.all fun f => f K) && fn.all fun d => okX K (d.at_ K) d.qual) = true from congrArg (fun z : AlX => z.1) c)).2
  have e : fn.map (fun d => fnX K (d.at_ K)) = fn.map DefX.val := congrArg (fun z : AlX => z.2) c
  have e2 : (fn.map fun d => fnX K (d.at_ K))[i]? = (fn.map DefX.val)[i]? := by rw [e]
  rw [List.getElem?_map, List.getElem?_map, h] at e2
  exact defAt_of (Option.some.inj e2) (List.all_eq_true.mp c2 d (List.mem_of_getElem? h))
end
/-- a property's object, its getter -/
def propB (K : PySem.W.Frag) (c f : Str) : Bool := He.eqO (PySem.W.findIn K (.ref (He.ga K c)) f) (some (some (.ref (He.ma K (He.ga K c) f)))) && (decide (PySem.W.specialIn K (.ref (He.ma K (He.ga K c) f)) "__get__" = some (some (.builtin "property.__get__"))) &&
  (decide (PySem.W.takesIn K (.ref (He.ma K (He.ga K c) f)) = some true) && decide ((PySem.W.recIn K (He.ma K (He.ga K c) f) "property").map List.head? = some (some (.ref (pg K (He.ga K c) f))))))
theorem prop_ok {K : PySem.W.Frag} {c f : Str} (h : propB K c f = true) : PropOf K (He.ga K c) f (He.ma K (He.ga K c) f) (pg K (He.ga K c) f) := by
  obtain ⟨h1, h⟩ := He.ba h
  obtain ⟨h2, h⟩ := He.ba h
  obtain ⟨h3, h4⟩ := He.ba h
  refine ⟨He.eqO_ok h1, of_decide_eq_true h2, of_decide_eq_true h3, ?_⟩
  have h5 := of_decide_eq_true h4
  generalize pg K (He.ga K c) f = g at h5 ⊢
  cases q : PySem.W.recIn K (He.ma K (He.ga K c) f) "property" with
  | none => rw [q] at h5; cases h5
  | some l =>
    rw [q] at h5
    cases l with
    | nil => cases h5
    | cons v rest =>
      have e : v = .ref g := by simpa using h5
      exact ⟨rest, by rw [e]⟩
def inB (K : PySem.W.Frag) (c : Str) : Bool := (He.Fa.cls c).ok K && (decide (PySem.W.findIn K (.ref (He.ga K c)) "__class__" = some (some (.builtin "object.__class__"))) &&
  (decide (PySem.W.specialIn K (.builtin "object.__class__") "__get__" = some (some (.builtin "getset_descriptor.__get__"))) && (decide (PySem.W.takesIn K (.builtin "object.__class__") = some true) && decide (PySem.W.mroIn K (He.ga K c) (.type "object") = some true))))
theorem in_ok {K : PySem.W.Frag} {c : Str} (h : inB K c = true) : InK K c := by
  obtain ⟨h1, h⟩ := He.ba h
  obtain ⟨h2, h⟩ := He.ba h
  obtain ⟨h3, h⟩ := He.ba h
  obtain ⟨h4, h5⟩ := He.ba h
  exact ⟨He.cls_ok h1, of_decide_eq_true h2, of_decide_eq_true h3, of_decide_eq_true h4, of_decide_eq_true h5⟩
def ecB (K : PySem.W.Frag) (c : Str) : Bool := decide (PySem.W.findIn K (.ref (He.ga K c)) "__getattribute__" = some (some (.builtin "BaseException.__getattribute__"))) && (decide (PySem.W.findIn K (.ref (He.ga K c)) "__getattr__" = some none) &&
  (decide (PySem.W.subIn K (.ref (He.ga K c)) (.type "BaseException") = some true) && (PySem.W.hasDictIn K (He.ga K c) && (decide (PySem.W.findIn K (.ref (He.ga K c)) "__class__" = some (some (.builtin "object.__class__"))) &&
  (decide (PySem.W.specialIn K (.builtin "object.__class__") "__get__" = some (some (.builtin "getset_descriptor.__get__"))) && (decide (PySem.W.takesIn K (.builtin "object.__class__") = some true) && decide (PySem.W.mroIn K (He.ga K c) (.type "object") = some true)))))))
theorem ec_ok {K : PySem.W.Frag} {c : Str} (h : ecB K c = true) : ExcC K (He.ga K c) := by
  obtain ⟨h1, h⟩ := He.ba h
  obtain ⟨h2, h⟩ := He.ba h
  obtain ⟨h3, h⟩ := He.ba h
  obtain ⟨h4, h⟩ := He.ba h
  obtain ⟨h5, h⟩ := He.ba h
  obtain ⟨h6, h⟩ := He.ba h
  obtain ⟨h7, h8⟩ := He.ba h
  exact ⟨of_decide_eq_true h1, of_decide_eq_true h2, of_decide_eq_true h3, h4, of_decide_eq_true h5, of_decide_eq_true h6, of_decide_eq_true h7, of_decide_eq_true h8⟩
theorem exk_ok {K : PySem.W.Frag} {h : Heap} {mg : Str → Option Value} (X : K.In h) (G : h.Ns mainGlobals mg) {x : Str} (c1 : ((He.Fa.glo x).ok K && (He.Fa.exc x).ok K) = true) : ExK K mg x :=
  let ⟨a, b, c, d⟩ := He.exc_ok (He.ba c1).2
  ⟨He.glo_ok X G (He.ba c1).1, a, b, c, d⟩

end HX

namespace LW
open PySem PySem.Spec PyProof.Rows L2
def topS (i : Nat) : Stmt := PySem.Challenge.pw_overmidnight_k02_whole_clocks_moved.main.body.getD i (.Pass ⟨0, 0, 0, 0⟩)
abbrev s__law_below : Stmt := topS 14
theorem sc__law_below : FnScope ["_law_d", "_law_size", "_law_result"] ["_law_d", "_law_size"] (defScope s__law_below) := ⟨rfl, rfl, rfl, by decide +kernel, rfl, by decide +kernel, by decide +kernel⟩
abbrev s__law_random : Stmt := topS 13
theorem sc__law_random : FnScope ["_law_script", "_law_salt", "_law_seed", "_law_cell"] ["_law_script", "_law_salt"] (defScope s__law_random) := ⟨rfl, rfl, rfl, by decide +kernel, rfl, by decide +kernel, by decide +kernel⟩
abbrev s__law_pick : Stmt := topS 15
theorem sc__law_pick : FnScope ["_law_d", "_law_items"] ["_law_d", "_law_items"] (defScope s__law_pick) := ⟨rfl, rfl, rfl, by decide +kernel, rfl, by decide +kernel, by decide +kernel⟩
abbrev s__law_length : Stmt := topS 17
theorem sc__law_length : FnScope ["_law_d"] ["_law_d"] (defScope s__law_length) := ⟨rfl, rfl, rfl, by decide +kernel, rfl, by decide +kernel, by decide +kernel⟩
abbrev s__law_amount : Stmt := topS 18
theorem sc__law_amount : FnScope ["_law_d", "_law_size", "_law_near"] ["_law_d", "_law_size"] (defScope s__law_amount) := ⟨rfl, rfl, rfl, by decide +kernel, rfl, by decide +kernel, by decide +kernel⟩
abbrev s_is_integer : Stmt := topS 7
theorem sc_is_integer : FnScope ["value"] ["value"] (defScope s_is_integer) := ⟨rfl, rfl, rfl, by decide +kernel, rfl, by decide +kernel, by decide +kernel⟩
abbrev s_need_integer : Stmt := topS 9
theorem sc_need_integer : FnScope ["value"] ["value"] (defScope s_need_integer) := ⟨rfl, rfl, rfl, by decide +kernel, rfl, by decide +kernel, by decide +kernel⟩
abbrev s_Day_init : Stmt := inClass (topS 10) 0
theorem sc_Day_init : FnScope ["self", "length"] ["self", "length"] (defScope s_Day_init) := ⟨rfl, rfl, rfl, by decide +kernel, rfl, by decide +kernel, by decide +kernel⟩
abbrev s_Day_length : Stmt := inClass (topS 10) 1
theorem sc_Day_length : FnScope ["self"] ["self"] (defScope s_Day_length) := ⟨rfl, rfl, rfl, by decide +kernel, rfl, by decide +kernel, by decide +kernel⟩
abbrev s_Clock_init : Stmt := inClass (topS 11) 0
theorem sc_Clock_init : FnScope ["self", "day", "time"] ["self", "day", "time"] (defScope s_Clock_init) := ⟨rfl, rfl, rfl, by decide +kernel, rfl, by decide +kernel, by decide +kernel⟩
abbrev s_Clock_day : Stmt := inClass (topS 11) 1
theorem sc_Clock_day : FnScope ["self"] ["self"] (defScope s_Clock_day) := ⟨rfl, rfl, rfl, by decide +kernel, rfl, by decide +kernel, by decide +kernel⟩
abbrev s_Clock_time : Stmt := inClass (topS 11) 2
theorem sc_Clock_time : FnScope ["self"] ["self"] (defScope s_Clock_time) := ⟨rfl, rfl, rfl, by decide +kernel, rfl, by decide +kernel, by decide +kernel⟩
abbrev s_Day_call : Stmt := inClass (topS 10) 2
theorem sc_Day_call : FnScope ["self", "number"] ["self", "number"] (defScope s_Day_call) := ⟨rfl, rfl, rfl, by decide +kernel, rfl, by decide +kernel, by decide +kernel⟩
abbrev s_Day_eq : Stmt := inClass (topS 10) 4
theorem sc_Day_eq : FnScope ["self", "other"] ["self", "other"] (defScope s_Day_eq) := ⟨rfl, rfl, rfl, by decide +kernel, rfl, by decide +kernel, by decide +kernel⟩
abbrev s_Clock_eq : Stmt := inClass (topS 11) 8
theorem sc_Clock_eq : FnScope ["self", "other"] ["self", "other"] (defScope s_Clock_eq) := ⟨rfl, rfl, rfl, by decide +kernel, rfl, by decide +kernel, by decide +kernel⟩
abbrev s_Clock_add : Stmt := inClass (topS 11) 3
theorem sc_Clock_add : FnScope ["self", "number"] ["self", "number"] (defScope s_Clock_add) := ⟨rfl, rfl, rfl, by decide +kernel, rfl, by decide +kernel, by decide +kernel⟩
abbrev s_Clock_radd : Stmt := inClass (topS 11) 4
theorem sc_Clock_radd : FnScope ["self", "number"] ["self", "number"] (defScope s_Clock_radd) := ⟨rfl, rfl, rfl, by decide +kernel, rfl, by decide +kernel, by decide +kernel⟩
abbrev s_Clock_sub : Stmt := inClass (topS 11) 5
theorem sc_Clock_sub : FnScope ["self", "other", "length"] ["self", "other"] (defScope s_Clock_sub) := ⟨rfl, rfl, rfl, by decide +kernel, rfl, by decide +kernel, by decide +kernel⟩
abbrev s_Clock_iadd : Stmt := inClass (topS 11) 6
theorem sc_Clock_iadd : FnScope ["self", "number"] ["self", "number"] (defScope s_Clock_iadd) := ⟨rfl, rfl, rfl, by decide +kernel, rfl, by decide +kernel, by decide +kernel⟩
abbrev s_Clock_isub : Stmt := inClass (topS 11) 7
theorem sc_Clock_isub : FnScope ["self", "number"] ["self", "number"] (defScope s_Clock_isub) := ⟨rfl, rfl, rfl, by decide +kernel, rfl, by decide +kernel, by decide +kernel⟩
abbrev s__law_equal : Stmt := topS 16
theorem sc__law_equal : FnScope ["_law_actual", "_law_expected", "_law_key", "_law_k"] ["_law_actual", "_law_expected"] (defScope s__law_equal) := ⟨rfl, rfl, rfl, by decide +kernel, rfl, by decide +kernel, by decide +kernel⟩
abbrev s__law_moved : Stmt := topS 19
theorem sc__law_moved : FnScope ["_law_clock", "_law_amount_here", "_law_is_back", "_law_moved_here"] ["_law_clock", "_law_amount_here", "_law_is_back"] (defScope s__law_moved) := ⟨rfl, rfl, rfl, by decide +kernel, rfl, by decide +kernel, by decide +kernel⟩
abbrev s__law_refused : Stmt := topS 20
theorem sc__law_refused : FnScope ["_law_clock", "_law_other", "_law_found"] ["_law_clock", "_law_other"] (defScope s__law_refused) := ⟨rfl, rfl, rfl, by decide +kernel, rfl, by decide +kernel, by decide +kernel⟩
abbrev s_law : Stmt := topS 21
theorem sc_law : FnScope ["_law_script", "_law_d", "_law_size", "_law_day", "_law_clocks", "_law_count", "_law_turn", "_law_at", "_law_amount_here", "_law_chance", "_law_sums", "_law_moved_here", "_law_clock", "_law_number"] ["_law_script"] (defScope s_law) := ⟨rfl, rfl, rfl, by decide +kernel, rfl, by decide +kernel, by decide +kernel⟩
structure Txt (K : PySem.W.Frag) (mg : Str → Option Value) : Prop where
  ki_Day_Day : PySem.W.kitOne K (.ref (He.ga K "Day")) (.ref (He.ga K "Day")) = some true
  ki_int_Day : PySem.W.kitOne K (.type "int") (.ref (He.ga K "Day")) = some false
  ki_Clock_Clock : PySem.W.kitOne K (.ref (He.ga K "Clock")) (.ref (He.ga K "Clock")) = some true
  ki_int_Clock : PySem.W.kitOne K (.type "int") (.ref (He.ga K "Clock")) = some false
  in_Day : HX.InK K "Day"
  in_Clock : HX.InK K "Clock"
  a_Day_ticks_of_day : NoAttr K (He.ga K "Day") "ticks_of_day"
  c_Day : Cls K (He.ga K "Day")
  a_Clock_own_day : NoAttr K (He.ga K "Clock") "own_day"
  c_Clock : Cls K (He.ga K "Clock")
  a_Clock_own_time : NoAttr K (He.ga K "Clock") "own_time"
  n_int : mg "int" = none
  n_len : mg "len" = none
  n_abs : mg "abs" = none
  n_isinstance : mg "isinstance" = none
  n_bool : mg "bool" = none
  x_InvalidNumber : HX.ExK K mg "InvalidNumber"
  x_InvalidLength : HX.ExK K mg "InvalidLength"
  g_Day : mg "Day" = some (.ref (He.ga K "Day"))
  g_Clock : mg "Clock" = some (.ref (He.ga K "Clock"))
  x_OtherDay : HX.ExK K mg "OtherDay"
  n_all : mg "all" = none
  n_range : mg "range" = none
  n_list : mg "list" = none
  n_tuple : mg "tuple" = none
  n_dict : mg "dict" = none
  n_str : mg "str" = none
  em_OtherDay_OtherDay : PySem.W.exmOne K (.ref (He.ga K "OtherDay")) (.ref (He.ga K "OtherDay")) = some true
  sf_Clock : PySem.W.selfFirst K (He.ga K "Clock") = true
  bi_Clock_sub : HX.BinC K "Clock" "sub"
  g_OtherDay : mg "OtherDay" = some (.ref (He.ga K "OtherDay"))
  fi_Day : PySem.W.fnIn K (He.ma K (He.ga K "Day") "__call__") = true
  bi_Clock_add : HX.BinC K "Clock" "add"
  d__law_below : HX.DefAt K "_law_below" "_law_below" s__law_below (He.ga K "_law_below")
  g__law_below : mg "_law_below" = some (.ref (He.ga K "_law_below"))
  d__law_random : HX.DefAt K "_law_random" "_law_random" s__law_random (He.ga K "_law_random")
  g__law_random : mg "_law_random" = some (.ref (He.ga K "_law_random"))
  d__law_pick : HX.DefAt K "_law_pick" "_law_pick" s__law_pick (He.ga K "_law_pick")
  g__law_pick : mg "_law_pick" = some (.ref (He.ga K "_law_pick"))
  d__law_length : HX.DefAt K "_law_length" "_law_length" s__law_length (He.ga K "_law_length")
  g__law_length : mg "_law_length" = some (.ref (He.ga K "_law_length"))
  d__law_amount : HX.DefAt K "_law_amount" "_law_amount" s__law_amount (He.ga K "_law_amount")
  g__law_amount : mg "_law_amount" = some (.ref (He.ga K "_law_amount"))
  d_is_integer : HX.DefAt K "is_integer" "is_integer" s_is_integer (He.ga K "is_integer")
  g_is_integer : mg "is_integer" = some (.ref (He.ga K "is_integer"))
  d_need_integer : HX.DefAt K "need_integer" "need_integer" s_need_integer (He.ga K "need_integer")
  g_need_integer : mg "need_integer" = some (.ref (He.ga K "need_integer"))
  d_Day_init : HX.DefAt K "__init__" "Day.__init__" s_Day_init (He.ma K (He.ga K "Day") "__init__")
  mk_Day : Mk K (He.ga K "Day") (He.ma K (He.ga K "Day") "__init__")
  po_Day_length : PropOf K (He.ga K "Day") "length" (He.ma K (He.ga K "Day") "length") (HX.pg K (He.ga K "Day") "length")
  d_Day_length : HX.DefAt K "length" "Day.length" s_Day_length (HX.pg K (He.ga K "Day") "length")
  d_Clock_init : HX.DefAt K "__init__" "Clock.__init__" s_Clock_init (He.ma K (He.ga K "Clock") "__init__")
  mk_Clock : Mk K (He.ga K "Clock") (He.ma K (He.ga K "Clock") "__init__")
  po_Clock_day : PropOf K (He.ga K "Clock") "day" (He.ma K (He.ga K "Clock") "day") (HX.pg K (He.ga K "Clock") "day")
  d_Clock_day : HX.DefAt K "day" "Clock.day" s_Clock_day (HX.pg K (He.ga K "Clock") "day")
  po_Clock_time : PropOf K (He.ga K "Clock") "time" (He.ma K (He.ga K "Clock") "time") (HX.pg K (He.ga K "Clock") "time")
  d_Clock_time : HX.DefAt K "time" "Clock.time" s_Clock_time (HX.pg K (He.ga K "Clock") "time")
  me_Day_call : Meth K (He.ga K "Day") "__call__" (He.ma K (He.ga K "Day") "__call__")
  d_Day_call : HX.DefAt K "__call__" "Day.__call__" s_Day_call (He.ma K (He.ga K "Day") "__call__")
  me_Day_eq : Meth K (He.ga K "Day") "__eq__" (He.ma K (He.ga K "Day") "__eq__")
  d_Day_eq : HX.DefAt K "__eq__" "Day.__eq__" s_Day_eq (He.ma K (He.ga K "Day") "__eq__")
  me_Clock_eq : Meth K (He.ga K "Clock") "__eq__" (He.ma K (He.ga K "Clock") "__eq__")
  d_Clock_eq : HX.DefAt K "__eq__" "Clock.__eq__" s_Clock_eq (He.ma K (He.ga K "Clock") "__eq__")
  me_Clock_add : Meth K (He.ga K "Clock") "__add__" (He.ma K (He.ga K "Clock") "__add__")
  d_Clock_add : HX.DefAt K "__add__" "Clock.__add__" s_Clock_add (He.ma K (He.ga K "Clock") "__add__")
  me_Clock_radd : Meth K (He.ga K "Clock") "__radd__" (He.ma K (He.ga K "Clock") "__radd__")
  d_Clock_radd : HX.DefAt K "__radd__" "Clock.__radd__" s_Clock_radd (He.ma K (He.ga K "Clock") "__radd__")
  me_Clock_sub : Meth K (He.ga K "Clock") "__sub__" (He.ma K (He.ga K "Clock") "__sub__")
  d_Clock_sub : HX.DefAt K "__sub__" "Clock.__sub__" s_Clock_sub (He.ma K (He.ga K "Clock") "__sub__")
  me_Clock_iadd : Meth K (He.ga K "Clock") "__iadd__" (He.ma K (He.ga K "Clock") "__iadd__")
  d_Clock_iadd : HX.DefAt K "__iadd__" "Clock.__iadd__" s_Clock_iadd (He.ma K (He.ga K "Clock") "__iadd__")
  me_Clock_isub : Meth K (He.ga K "Clock") "__isub__" (He.ma K (He.ga K "Clock") "__isub__")
  d_Clock_isub : HX.DefAt K "__isub__" "Clock.__isub__" s_Clock_isub (He.ma K (He.ga K "Clock") "__isub__")
  d__law_equal : HX.DefAt K "_law_equal" "_law_equal" s__law_equal (He.ga K "_law_equal")
  g__law_equal : mg "_law_equal" = some (.ref (He.ga K "_law_equal"))
  d__law_moved : HX.DefAt K "_law_moved" "_law_moved" s__law_moved (He.ga K "_law_moved")
  g__law_moved : mg "_law_moved" = some (.ref (He.ga K "_law_moved"))
  d__law_refused : HX.DefAt K "_law_refused" "_law_refused" s__law_refused (He.ga K "_law_refused")
  g__law_refused : mg "_law_refused" = some (.ref (He.ga K "_law_refused"))
  d_law : HX.DefAt K "law" "law" s_law (He.ga K "law")
  g_law : mg "law" = some (.ref (He.ga K "law"))
end LW
local macro_rules | `(tactic| walk_at "s") => `(tactic| first
  | ((with_reducible refine' HX.z_var ?zh ?_); (case zh => exact rfl))
  | with_reducible refine HX.z_c ?_
  | with_reducible refine HX.z_cons ?_
  | with_reducible refine HX.z_nil ?_
  | with_reducible refine HX.z_op ?_
  | with_reducible refine HX.z_I0 ?_
  | with_reducible refine HX.z_test ?_
  | with_reducible refine HX.z_tB ?_
  | with_reducible refine HX.z_bl ?_
  | with_reducible refine HX.z_seq ?_
  | with_reducible refine HX.z_asg ?_
  | with_reducible refine HX.z_name ?_
  | with_reducible refine HX.z_if ?_
  | with_reducible refine HX.z_ret ?_
  | with_reducible refine HX.z_next ?_
  | with_reducible refine HX.z_drop ?_
  | with_reducible refine HX.z_retN ?_
  | with_reducible refine HX.z_callS ?_
  | with_reducible refine HX.z_fld ?_
  | with_reducible refine HX.z_sfld ?_
  | ((with_reducible refine' HX.z_fld2 ?zh ?zc ?zn ?zl ?_); (case zh => walk_at "hp"); (case zc => assumption); (case zn => assumption); (case zl => walk_at "lk"))
  | ((with_reducible refine' HX.z_sfld2 ?zh ?zc ?zn ?zz ?ze ?_); (case zh => walk_at "hp"); (case zc => assumption); (case zn => assumption); (case zz => walk_at "lt"); (case ze => walk_at "pf"))
  | with_reducible refine HX.z_chain ?_
  | with_reducible refine HX.z_ch2 ?_
  | with_reducible refine HX.z_meth ?_
  | ((with_reducible refine' HX.z_meth2 ?zh ?zl ?_); (case zh => walk_at "hp"); (case zl => walk_at "lk"))
  | with_reducible refine HX.z_prop ?_
  | ((with_reducible refine' HX.z_prop2 ?zh ?_); (case zh => walk_at "hp"))
  | with_reducible refine HX.z_make ?_
  | with_reducible refine HX.z_inst ?_
  | with_reducible refine HX.z_inst2 ?_
  | ((with_reducible refine' HX.z_inst3 ?zh ?_); (case zh => walk_at "hp"))
  | with_reducible refine HX.z_cb ?_
  | with_reducible refine HX.z_un ?_
  | with_reducible refine HX.z_U ?_
  | with_reducible refine HX.z_and ?_
  | with_reducible refine HX.z_or ?_
  | with_reducible refine HX.z_not ?_
  | with_reducible refine HX.z_andV ?_
  | with_reducible refine HX.z_orV ?_
  | with_reducible refine HX.z_notV ?_
  | with_reducible refine HX.z_ifE ?_
  | with_reducible refine HX.z_sub ?_
  | with_reducible refine HX.z_lst ?_
  | with_reducible refine HX.z_tup ?_
  | with_reducible refine HX.z_bm ?_
  | with_reducible refine HX.z_bm0 ?_
  | with_reducible refine HX.z_intI ?_
  | with_reducible refine HX.z_intB ?_
  | with_reducible refine HX.z_abs ?_
  | ((with_reducible refine' HX.z_new ?zl ?_); (case zl => walk_at "lt"))
  | with_reducible refine HX.z_t ?_
  | with_reducible refine HX.z_yes ?_
  | with_reducible refine HX.z_f ?_
  | with_reducible refine HX.z_isN ?_
  | with_reducible refine HX.z_isNN ?_
  | ((with_reducible refine' HX.z_isi ?zc ?zt ?zk ?_); (case zc => constructor); (case zt => walk_at "ty"); (case zk => walk_at "kit"))
  | with_reducible refine HX.z_n1 ?_
  | with_reducible refine HX.z_n0 ?_
  | with_reducible refine HX.z_nb ?_
  | with_reducible refine HX.z_di ?_
  | ((with_reducible refine' HX.z_dt ?zc ?_); (case zc => rfl))
  | ((with_reducible refine' HX.z_df ?zc ?_); (case zc => (intro e; cases e; done)))
  | ((with_reducible refine' HX.z_eq ?zc ?_); (case zc => exact rfl))
  | ((with_reducible refine' HX.z_ne ?zc ?_); (case zc => exact rfl))
  | ((with_reducible refine' HX.z_I ?zc ?_); (case zc => walk_at "sc"))
  | ((with_reducible refine' HX.z_ixL ?zh ?za ?_); (case zh => walk_at "hl"); (case za => walk_at "ix"))
  | ((with_reducible refine' HX.z_ixT ?zh ?za ?_); (case zh => walk_at "ht"); (case za => walk_at "ix"))
  | ((with_reducible refine' HX.z_cat ?zh ?zi ?zl ?_); (case zh => walk_at "hp"); (case zi => walk_at "hp"); (case zl => walk_at "lt"))
  | ((with_reducible refine' HX.z_listL ?zh ?_); (case zh => walk_at "hl"))
  | ((with_reducible refine' HX.z_listT ?zh ?_); (case zh => walk_at "ht"))
  | ((with_reducible refine' HX.z_tupL ?zh ?_); (case zh => walk_at "hl"))
  | ((with_reducible refine' HX.z_ixA ?zh ?za ?_); (case zh => first | assumption | (refine' Or.inl ?zz; (case zz => walk_at "hl")) | (refine' Or.inr ?zz; (case zz => walk_at "ht"))); (case za => walk_at "ix"))
  | ((with_reducible refine' HX.z_lenL ?zh ?_); (case zh => walk_at "hl"))
  | ((with_reducible refine' HX.z_lenT ?zh ?_); (case zh => walk_at "ht"))
  | ((with_reducible refine' HX.z_tyL ?zh ?_); (case zh => walk_at "hp"))
  | ((with_reducible refine' HX.z_popAt ?zh ?z1 ?z2 ?za ?zb ?_); (case zh => walk_at "hp"); (case z1 => decide); (case z2 => decide); (case za => walk_at "ix"); (case zb => exact rfl))
  | with_reducible refine HX.z_binO ?_
  | ((with_reducible refine' HX.z_binK ?zh ?zm ?_); (case zh => walk_at "hp"); (case zm => first | exact .int | (refine' .ins ?zz; (case zz => walk_at "hp"))))
  | with_reducible refine HX.z_rbinO ?_
  | ((with_reducible refine' HX.z_rbinK ?zh ?_); (case zh => walk_at "hp"))
  | ((with_reducible refine' HX.z_aug ?zh ?_); (case zh => exact rfl))
  | ((with_reducible refine' HX.z_ipK ?zh ?_); (case zh => walk_at "hp"))
  | with_reducible refine HX.z_inO ?_
  | ((with_reducible refine' HX.z_inK ?zh ?_); (case zh => walk_at "hp"))
  | with_reducible refine HX.z_subO ?_
  | ((with_reducible refine' HX.z_subK ?zh ?_); (case zh => walk_at "hp"))
  | ((with_reducible refine' HX.z_rep ?zh ?z1 ?z2 ?zl ?_); (case zh => walk_at "hp"); (case z1 => decide); (case z2 => decide); (case zl => first | decide | (simp; done)))
  | ((with_reducible refine' HX.z_setL ?zh ?za ?_); (case zh => walk_at "hp"); (case za => walk_at "ix")))
local macro_rules | `(tactic| walk_at "go") => `(tactic| ((try dsimp only [HX.cxR]); walk_at "ss"))
local macro_rules | `(tactic| walk_at "ss") => `(tactic| repeat walk_at "s")
local macro_rules | `(tactic| walk_at "sc") => `(tactic| first
  | decide
  | (refine Or.inl ⟨?_, ?_⟩ <;> first | decide | omega)
  | (refine Or.inr ⟨?_, ?_⟩ <;> first | decide | omega)
  | (refine ⟨?_, ?_⟩ <;> first | decide | omega)
  | (show ¬ _ = _; omega)
  | omega)
local macro_rules | `(tactic| walk_at "hp") => `(tactic| first | assumption | exact L2.upd_same | (refine' (L2.upd_ne ?zn).trans ?zz; (case zn => assumption); (case zz => walk_at "hp")))
local macro_rules | `(tactic| walk_at "hl") => `(tactic| first | assumption | (refine' L2.SqL.of ?zq; (case zq => walk_at "hp")))
local macro_rules | `(tactic| walk_at "ht") => `(tactic| first | assumption | (refine' L2.SqT.of ?zq; (case zq => walk_at "hp")))
local macro_rules | `(tactic| walk_at "lt") => `(tactic| first | decide | (simp; done) | (simp; omega) | (simp_all; done) | (simp_all; omega))
local macro_rules | `(tactic| walk_at "ix") => `(tactic| first
  | with_reducible assumption
  | exact HX.atc 0 rfl rfl | exact HX.atc 1 rfl rfl | exact HX.atc 2 rfl rfl | exact HX.atc 3 rfl rfl | exact HX.atc 4 rfl rfl | exact HX.atc 5 rfl rfl
  | (refine' HX.ixc 0 rfl ?zz; (case zz => walk_at "lt")) | (refine' HX.ixc 1 rfl ?zz; (case zz => walk_at "lt")) | (refine' HX.ixc 2 rfl ?zz; (case zz => walk_at "lt")) | (refine' HX.ixc 3 rfl ?zz; (case zz => walk_at "lt"))
  | (refine' HX.sqc 0 rfl ?zz; (case zz => walk_at "lt")) | (refine' HX.sqc 1 rfl ?zz; (case zz => walk_at "lt")) | (refine' HX.sqc 2 rfl ?zz; (case zz => walk_at "lt"))
  | rfl | decide)
local macro_rules | `(tactic| walk_at "lk") => `(tactic| first
  | exact HX.lk0 | rfl
  | (refine' HX.lk1 ?zk ?zq; (case zk => decide +kernel); (case zq => walk_at "lk")))
local macro_rules | `(tactic| walk_at "pf") => `(tactic| first
  | exact HX.pf_nil | exact HX.pf_hit
  | (refine' HX.pf_miss ?zk ?zq; (case zk => decide +kernel); (case zq => walk_at "pf")))
local macro_rules | `(tactic| walk_at "ty") => `(tactic| first
  | with_reducible first | exact .base .non | exact .base (.bl _) | exact .base (.int _) | exact .base (.str _)
  | (refine' HX.ty_L ?zz; (case zz => walk_at "hl")) | (refine' HX.ty_T ?zz; (case zz => walk_at "ht")) | (refine' HX.InK.ty ?zi ?zz; (case zi => assumption); (case zz => walk_at "hp")))
local macro_rules | `(tactic| walk_at "kit") => `(tactic| with_reducible first
  | assumption | exact HX.kb_NoneType_bool | exact HX.kb_NoneType_int | exact HX.kb_NoneType_str | exact HX.kb_NoneType_dict | exact HX.kb_NoneType_tuple | exact HX.kb_NoneType_list | exact HX.kb_bool_bool | exact HX.kb_bool_int | exact HX.kb_bool_str | exact HX.kb_bool_dict | exact HX.kb_bool_tuple | exact HX.kb_bool_list | exact HX.kb_int_bool | exact HX.kb_int_int | exact HX.kb_int_str | exact HX.kb_int_dict | exact HX.kb_int_tuple | exact HX.kb_int_list | exact HX.kb_str_bool | exact HX.kb_str_int | exact HX.kb_str_str | exact HX.kb_str_dict | exact HX.kb_str_tuple | exact HX.kb_str_list | exact HX.kb_list_bool | exact HX.kb_list_int | exact HX.kb_list_str | exact HX.kb_list_dict | exact HX.kb_list_tuple | exact HX.kb_list_list | exact HX.kb_tuple_bool | exact HX.kb_tuple_int | exact HX.kb_tuple_str | exact HX.kb_tuple_dict | exact HX.kb_tuple_tuple | exact HX.kb_tuple_list | exact HX.kb_dict_bool | exact HX.kb_dict_int | exact HX.kb_dict_str | exact HX.kb_dict_dict | exact HX.kb_dict_tuple | exact HX.kb_dict_list)
namespace LW
open PySem PySem.Spec PyProof.Rows L2
/-! the law's source of numbers -/
section
variable {P : Program} {w : World} {K : PySem.W.Frag} {mg : Str → Option Value} {base : Heap}
/-- the source at d: at least two numbers -/
def Rg (H : Hp) (d : Addr) : Prop := ∃ ns : List Int, H d = some (.lst (ns.map V.int)) ∧ 2 ≤ ns.length
def sp_below : Sp := fun vs H Q _ => ∃ (d : Addr) (n : Int), vs = [.ref d, .int n] ∧ 0 < n ∧ n < 1073741824 ∧ Rg H d ∧ ∀ (r : Int) (H' : Hp), 0 ≤ r → r < n → HX.ExB d H H' → Rg H' d → Q (.int r) H'
theorem below_mono : ∀ vs H (Q Q' : VK) E, (∀ v H', Q v H' → Q' v H') → sp_below vs H Q E → sp_below vs H Q' E := fun _ _ _ _ _ k ⟨d, n, e, h1, h2, h3, q⟩ => ⟨d, n, e, h1, h2, h3, fun r H' a b c d => k _ _ (q r H' a b c d)⟩
theorem ok__law_below (T : Txt K mg) : HX.GFn P w K mg base "_law_below" 1 ["_law_d", "_law_size"] sp_below := by
  refine HX.gfn_of T.d__law_below T.g__law_below sc__law_below (fun vs H Q E h => ?_) (fun _ _ _ _ _ _ us hl => match us, hl with | [_, _], _ => rfl) (fun cdv A outer s H vs Q E hr h => ⟨_, PSs.nox (C8.pss_cut (ps_if (PW.pt (pw_and (pt_cmpR op_eq (pe_ix ix_list (pv 0) pe_int (fun _ _ => rfl)) pe_int (nomark _)) (pw_and1 (pt_cmpR op_gt (pe_callB HX.call_lenSq rfl T.n_len (by decide +kernel) (pa_cons (pv 0) pa_nil)) pe_int (nomark _))))) (pss_one (ps_asg (pe_bm PySem.F.plainAttrs_list PySem.F.slot_list_pop PySem.F.type_list_pop mt_popAt (pv 0) (pa_cons pe_int pa_nil)) (pg_sub (pv 0) pe_int set_list))) pss_nil)
  (pss_cons (ps_if (pt_cmpR op_gt (pe_ix ix_list (pv 0) pe_int (fun _ _ => rfl)) pe_int (nomark _)) (pss_cons (ps_set (i := 2) sc__law_below.nd rfl (Or.inl rfl) (pe_op op_modN (pe_callTy HX.call_intI rfl T.n_int (by decide +kernel) (pa_cons (pe_ix ix_list (pv 0) pe_int (fun _ _ => rfl)) pa_nil)) (pv 1)))
  (pss_cons (ps_asg (pe_op op_fdivN (pe_ix ix_list (pv 0) pe_int (fun _ _ => rfl)) (pv 1)) (pg_sub (pv 0) pe_int set_list))
  (pss_one (ps_ret (pv 2))))) pss_nil)
  (pss_cons (ps_asg (pe_op op_modN (pe_callTy HX.call_intI rfl T.n_int (by decide +kernel) (pa_cons (pe_op op_add (pe_op op_mul (pe_ix ix_list (pv 0) pe_int (fun _ _ => rfl)) pe_int) pe_int) pa_nil)) pe_int) (pg_sub (pv 0) pe_int set_list))
  (pss_one (ps_ret (pe_op op_modN (pe_callTy HX.call_intI rfl T.n_int (by decide +kernel) (pa_cons (pe_op op_fdivN (pe_ix ix_list (pv 0) pe_int (fun _ _ => rfl)) pe_int) pa_nil)) (pv 1))))))), ?_⟩)
  · obtain ⟨d, n, rfl, _⟩ := h
    rfl
  obtain ⟨d, n, rfl, hn, hn2, ⟨ns, hd, h2⟩, k⟩ := h
  match ns, h2 with
  | s :: a :: rest, _ =>
  dsimp only [HX.cxR]
  refine ⟨fun σ' H' => ∃ s a rest, σ' = [some (.ref d), some (.int n), none] ∧ H' d = some (.lst ((s :: a :: rest : List Int).map V.int)) ∧ HX.ExB d H H', ?_, ?_⟩
  · walk_at "ss"
    refine HX.z_d2 (fun h => ?_) (fun h => ?_)
    · walk_at "ss"
      refine HX.z_d2 (fun h => ?_) (fun h => ?_)
      · match rest, h with
        | b :: rest, _ =>
        walk_at "ss"
        exact ⟨s, b, rest, rfl, upd_same, (HX.ExB.updd (d := d)).upd2⟩
      · walk_at "ss"
        exact ⟨s, a, rest, rfl, hd, HX.ExB.refl _ _⟩
    · walk_at "ss"
      exact ⟨s, a, rest, rfl, hd, HX.ExB.refl _ _⟩
  · rintro σ' H1 ⟨s, a, rest, rfl, hd1, ex⟩
    walk_at "ss"
    refine HX.z_d2 (fun h => ?_) (fun h => ?_)
    · walk_at "ss"
      exact k _ _ (HX.fm_nn hn) (HX.fm_lt hn) ex.upd2 ⟨s :: a.fdiv n :: rest, upd_same, by simp⟩
    · walk_at "ss"
      exact k _ _ (HX.fm_nn hn) (HX.fm_lt hn) ex.upd2 ⟨(s * 48271 + 11).fmod 2147483647 :: a :: rest, upd_same, by simp⟩
def sp_random (K : PySem.W.Frag) : Sp := fun vs H Q _ => ∃ (a : Addr) (ns : List Int) (z : Int), vs = [.ref a, .int z] ∧ SqL K H a (ns.map V.int) ∧ ns.length ≤ 63 ∧ ∀ (p : Addr) (H' : Hp), H p = none → Same H H' → Rg H' p → Q (.ref p) H'
theorem ok__law_random (T : Txt K mg) : HX.GFn P w K mg base "_law_random" 1 ["_law_script", "_law_salt"] (sp_random K) := by
  refine HX.gfn_of T.d__law_random T.g__law_random sc__law_random (fun vs H Q E h => ?_) (fun _ _ _ _ _ _ us hl => match us, hl with | [_, _], _ => rfl) (fun cdv A outer s H vs Q E hr h => ⟨_, PSs.nox (pss_cons (ps_set (i := 2) sc__law_random.nd rfl (Or.inl rfl) (pv 1))
  (pss_cons (ps_for PassesOwn.never rfl (pi_list (pv 0)) (pg_name (i := 3) sc__law_random.nd rfl (Or.inl rfl)) (pss_one (ps_set (i := 2) sc__law_random.nd rfl (Or.inl rfl) (pe_op op_modN (pe_callTy HX.call_intI rfl T.n_int (by decide +kernel) (pa_cons (pe_op op_add (pe_op op_mul (pv 2) pe_int) (pe_callB HX.call_absI rfl T.n_abs (by decide +kernel) (pa_cons (pv 3) pa_nil))) pa_nil)) pe_int))))
  (pss_one (ps_ret (pe_op op_cat (pe_lst (pa_cons (pv 2) (pa_cons pe_int pa_nil))) (pe_lc (own := [("_law_cell", 3)]) (te := (tVar 3)) (tt := (tTest (tOp (rI0 fun i j => .bl (decide (j ≤ i))) (tVar 3) (tOp (rI CPow fun i j => .int (i ^ j.toNat)) (tC (.int 10)) (tC (.int 18)))))) rfl sc__law_random.nd (pi_list (pv 0)) (blkOk_by (own := [("_law_cell", 3)]) (N := ["_law_script", "_law_salt", "_law_seed", "_law_cell"]) (sc := defScope s__law_random) (by decide +kernel)) (fun _ _ _ _ _ => (pg_name (i := 3) sc__law_random.nd rfl (Or.inl rfl))) (fun _ _ _ _ _ => (pts_one (pt_cmpR op_ge (pv 3) (pe_op op_pow pe_int pe_int) (nomark _)))) (fun _ _ _ _ _ => (pv 3)))))))), ?_⟩)
  · obtain ⟨d, n, z, rfl, _⟩ := h
    rfl
  obtain ⟨a, ns, z, rfl, hS, h63, k⟩ := h
  walk_at "go"
  refine HX.z_forLv (a := a) (xs := ns.map V.int) rfl hS (fun _ σ' H' => Same H H' ∧ ∃ (y : Int) (v : Option V), σ' = [some (.ref a), some (.int z), some (.int y), v]) ⟨⟨Same.refl H, z, none, rfl⟩, ?_, ?_, ?_⟩
  · rintro i σ' H1 _ ⟨s1, _⟩
    exact s1.seq hS
  · rintro i x σ' H1 hi ⟨s1, y, v, rfl⟩
    obtain ⟨c, _, rfl⟩ := HX.int_at hi
    walk_at "ss"
    exact ⟨s1, _, _, rfl⟩
  · rintro σ' H1 ⟨s0, y, v, rfl⟩
    walk_at "ss"
    intro p hp
    have s1 : Same H (upd H1 p (.lst [V.int y, V.int 0])) := s0.trans (HX.Same.new hp)
    refine HX.z_lcLv (a := a) (xs := ns.map V.int) rfl (s1.seq hS) fun q hq => ⟨fun i H' => ∃ zs : List Int, zs.length ≤ i ∧ H' q = some (.lst (zs.map V.int)) ∧ Same (upd H1 p (.lst [V.int y, V.int 0])) H', ⟨[], Nat.le_refl _, upd_same, HX.Same.new hq⟩, ?_, ?_, ?_⟩
    · rintro i H' _ ⟨zs, _, hz, s2⟩
      exact (s1.trans s2).seq hS
    · rintro i x H' hi ⟨zs, hl, hz, s2⟩
      obtain ⟨c, _, rfl⟩ := HX.int_at hi
      have hi2 := HX.lt_of_at hi
      rw [List.length_map] at hi2
      walk_at "ss"
      refine ⟨rfl, ?_⟩
      walk_at "ss"
      refine HX.z_d2 (fun _ => ?_) (fun _ => ⟨zs, by omega, hz, s2⟩)
      walk_at "ss"
      exact ⟨_, hz, HX.sz_lt (by rw [List.length_map]; omega), zs ++ [c], by simp; omega, by rw [upd_same, List.map_append]; rfl, HX.Same.app s2 hq⟩
    · rintro H' ⟨zs, hl, hz, s2⟩
      have hp2 := s2 _ _ (upd_same (H := H1))
      rw [List.length_map] at hl
      walk_at "ss"
      intro l hn
      refine k _ _ ((s1.trans s2).free hn) ((s1.trans s2).trans (HX.Same.new hn)) ⟨[y, 0] ++ zs, ?_, by simp⟩
      rw [upd_same, List.map_append]
      rfl
theorem Rg.ne {H : Hp} {d p : Addr} (h : Rg H d) (n : H p = none) : p ≠ d := by
  obtain ⟨ns, h, _⟩ := h
  exact (ne_of_none h n).symm
theorem Rg.keep {H H' : Hp} {d : Addr} (h : Rg H d) (e : Same H H') : Rg H' d := by
  obtain ⟨ns, h, l⟩ := h
  exact ⟨ns, e _ _ h, l⟩
def sp_pick (K : PySem.W.Frag) : Sp := fun vs H Q _ => ∃ (d b : Addr) (xs : List V), vs = [.ref d, .ref b] ∧ SqL K H b xs ∧ b ≠ d ∧ 0 < xs.length ∧ xs.length < 1000 ∧ Rg H d ∧ ∀ (v : V) (H' : Hp), v ∈ xs → HX.ExB d H H' → Rg H' d → Q v H'
theorem ok__law_pick (T : Txt K mg) : HX.GFn P w K mg base "_law_pick" 2 ["_law_d", "_law_items"] (sp_pick K) := by
  have g__law_below := ok__law_below (P := P) (w := w) (base := base) T
  refine HX.gfn_of T.d__law_pick T.g__law_pick sc__law_pick (fun vs H Q E h => ?_) (fun _ _ _ _ _ _ us hl => match us, hl with | [_, _], _ => rfl) (fun cdv A outer s H vs Q E hr h => ⟨_, PSs.nox (pss_one (ps_ret (pe_ix ix_list (pv 1) (HX.pe_g g__law_below (hr.mono (by first | decide | omega)) HX.pas0 rfl (pa_cons (pv 0) (pa_cons (pe_callB HX.call_lenSq rfl T.n_len (by decide +kernel) (pa_cons (pv 1) pa_nil)) pa_nil))) (fun _ _ => rfl)))), ?_⟩)
  · obtain ⟨d, b, xs, rfl, _⟩ := h
    rfl
  obtain ⟨d, b, xs, rfl, hS, nb, h0, h1, hR, k⟩ := h
  walk_at "go"
  refine ⟨d, xs.length, rfl, by omega, by omega, hR, fun r H' r0 r1 ex R' => ?_⟩
  have hr2 : r.toNat < xs.length := by omega
  refine HX.z_ixL (ex.sl nb hS) (HX.atc r.toNat (by omega) (List.getElem?_eq_getElem hr2)) ?_
  exact k _ _ (List.getElem_mem hr2) ex R'
def sp_length : Sp := fun vs H Q _ => ∃ (d : Addr), vs = [.ref d] ∧ Rg H d ∧ ∀ (n : Int) (H' : Hp), 1 ≤ n → n ≤ 10 ^ 41 → HX.ExB d H H' → Rg H' d → Q (.int n) H'
theorem ok__law_length (T : Txt K mg) : HX.GFn P w K mg base "_law_length" 3 ["_law_d"] sp_length := by
  have g__law_below := ok__law_below (P := P) (w := w) (base := base) T
  have g__law_pick := ok__law_pick (P := P) (w := w) (base := base) T
  refine HX.gfn_of T.d__law_length T.g__law_length sc__law_length (fun vs H Q E h => ?_) (fun _ _ _ _ _ _ us hl => match us, hl with | [_], _ => rfl) (fun cdv A outer s H vs Q E hr h => ⟨_, PSs.nox (pss_one (ps_ret (HX.pe_g g__law_pick (hr.mono (by first | decide | omega)) HX.pas0 rfl (pa_cons (pv 0) (pa_cons (pe_lst (pa_cons pe_int (pa_cons pe_int (pa_cons pe_int (pa_cons pe_int (pa_cons pe_int (pa_cons pe_int (pa_cons pe_int (pa_cons pe_int (pa_cons (pe_op op_pow pe_int pe_int) (pa_cons (pe_op op_add (pe_op op_pow pe_int pe_int) pe_int) (pa_cons (pe_op op_add pe_int (HX.pe_g g__law_below (hr.mono (by first | decide | omega)) HX.pas0 rfl (pa_cons (pv 0) (pa_cons pe_int pa_nil)))) pa_nil)))))))))))) pa_nil))))), ?_⟩)
  · obtain ⟨d, rfl, _⟩ := h
    rfl
  obtain ⟨d, rfl, hR, k⟩ := h
  walk_at "go"
  refine ⟨d, 500, rfl, by omega, by omega, hR, fun r H' r0 r1 ex R' => ?_⟩
  walk_at "ss"
  intro p hp
  walk_at "ss"
  refine ⟨d, p, _, rfl, SqL.of upd_same, R'.ne hp, by simp, by simp, R'.keep (HX.Same.new hp), fun v H2 hv ex2 R2 => ?_⟩
  have e3 : HX.ExB d H H2 := ex.trans ((HX.ExB.of (HX.Same.new hp)).trans ex2)
  have hq : ∃ n : Int, v = .int n ∧ 1 ≤ n ∧ n ≤ 10 ^ 41 := by
    simp only [List.mem_cons, List.not_mem_nil, or_false, Int.reduceToNat, Int.reducePow, Int.reduceAdd] at hv
    rcases hv with h | h | h | h | h | h | h | h | h | h | h <;> exact ⟨_, h, by omega, by omega⟩
  obtain ⟨n, rfl, n1, n2⟩ := hq
  exact k n H2 n1 n2 e3 R2
/-- how large a drawn number of ticks may be -/
def sp_amount : Sp := fun vs H Q _ => ∃ (d : Addr) (z : Int), vs = [.ref d, .int z] ∧ 1 ≤ z ∧ Rg H d ∧ ∀ (n : Int) (H' : Hp), -(3 * z + 1000000) ≤ n → n ≤ 3 * z + 1000000 → HX.ExB d H H' → Rg H' d → Q (.int n) H'
theorem ok__law_amount (T : Txt K mg) : HX.GFn P w K mg base "_law_amount" 3 ["_law_d", "_law_size"] sp_amount := by
  have g__law_below := ok__law_below (P := P) (w := w) (base := base) T
  have g__law_pick := ok__law_pick (P := P) (w := w) (base := base) T
  refine HX.gfn_of T.d__law_amount T.g__law_amount sc__law_amount (fun vs H Q E h => ?_) (fun _ _ _ _ _ _ us hl => match us, hl with | [_, _], _ => rfl) (fun cdv A outer s H vs Q E hr h => ⟨_, PSs.nox (pss_cons (ps_set (i := 2) sc__law_amount.nd rfl (Or.inl rfl) (HX.pe_g g__law_pick (hr.mono (by first | decide | omega)) HX.pas0 rfl (pa_cons (pv 0) (pa_cons (pe_lst (pa_cons pe_int (pa_cons pe_int (pa_cons (pe_op op_fdivN (pv 1) pe_int) (pa_cons (pv 1) (pa_cons (pe_un un_neg (pv 1)) (pa_cons (pe_op op_mul pe_int (pv 1)) (pa_cons (pe_op op_sub (pv 1) pe_int) (pa_cons (pe_op op_mul pe_int (pv 1)) pa_nil))))))))) pa_nil))))
  (pss_one (ps_ret (pe_op op_add (pv 2) (HX.pe_g g__law_pick (hr.mono (by first | decide | omega)) HX.pas0 rfl (pa_cons (pv 0) (pa_cons (pe_lst (pa_cons pe_int (pa_cons pe_int (pa_cons pe_int (pa_cons (pe_un un_neg pe_int) (pa_cons pe_int (pa_cons (pe_un un_neg pe_int) (pa_cons (HX.pe_g g__law_below (hr.mono (by first | decide | omega)) HX.pas0 rfl (pa_cons (pv 0) (pa_cons (pe_op op_pow pe_int pe_int) pa_nil))) pa_nil)))))))) pa_nil))))))), ?_⟩)
  · obtain ⟨d, z, rfl, _⟩ := h
    rfl
  obtain ⟨d, z, rfl, hz, hR, k⟩ := h
  walk_at "go"
  intro p hp
  walk_at "ss"
  refine ⟨d, p, _, rfl, SqL.of upd_same, hR.ne hp, by simp, by simp, hR.keep (HX.Same.new hp), fun v H2 hv ex2 R2 => ?_⟩
  have e2 : HX.ExB d H H2 := (HX.ExB.of (HX.Same.new hp)).trans ex2
  have hq : ∃ n : Int, v = .int n ∧ -(3 * z) ≤ n ∧ n ≤ 3 * z := by
    rw [HX.fd_eq (show (0 : Int) < 2 by decide)] at hv
    simp only [List.mem_cons, List.not_mem_nil, or_false] at hv
    rcases hv with h | h | h | h | h | h | h | h <;> exact ⟨_, h, by omega, by omega⟩
  obtain ⟨n, rfl, n1, n2⟩ := hq
  walk_at "ss"
  refine ⟨d, _, rfl, by simp, by simp, R2, fun r H3 r0 r1 ex3 R3 => ?_⟩
  walk_at "ss"
  intro q hq
  walk_at "ss"
  refine ⟨d, q, _, rfl, SqL.of upd_same, R3.ne hq, by simp, by simp, R3.keep (HX.Same.new hq), fun v H4 hv ex4 R4 => ?_⟩
  have e4 : HX.ExB d H H4 := e2.trans (ex3.trans ((HX.ExB.of (HX.Same.new hq)).trans ex4))
  have hq : ∃ m : Int, v = .int m ∧ -1000000 ≤ m ∧ m ≤ 1000000 := by
    simp only [Int.reduceToNat, Int.reducePow] at r1
    simp only [List.mem_cons, List.not_mem_nil, or_false] at hv
    rcases hv with h | h | h | h | h | h | h <;> exact ⟨_, h, by omega, by omega⟩
  obtain ⟨m, rfl, m1, m2⟩ := hq
  walk_at "ss"
  exact k _ _ (by omega) (by omega) e4 R4
end
/-! days and clocks -/
section
variable {P : Program} {w : World} {K : PySem.W.Frag} {mg : Str → Option Value} {base : Heap}
def sp_isint (K : PySem.W.Frag) : Sp := fun vs H Q _ => ∃ (v : V) (b : Bool), vs = [v] ∧ HX.IntQ K H v b ∧ Q (.bl b) H
theorem ok_is_integer (T : Txt K mg) : HX.GFn P w K mg base "is_integer" 1 ["value"] (sp_isint K) := by
  refine HX.gfn_of T.d_is_integer T.g_is_integer sc_is_integer (fun vs H Q E h => ?_) (fun _ _ _ _ _ _ us hl => match us, hl with | [_], _ => rfl) (fun cdv A outer s H vs Q E hr h => ⟨_, PSs.nox (pss_one (ps_ret (pe_and (pe_callB call_isi rfl T.n_isinstance (by decide +kernel) (pa_cons (pv 0) (pa_cons (pe_bltn (v := .ty "int") (u := .type "int") rfl T.n_int (by decide +kernel) rfl) pa_nil))) (pe_one (pe_not (pe_callB call_isi rfl T.n_isinstance (by decide +kernel) (pa_cons (pv 0) (pa_cons (pe_bltn (v := .ty "bool") (u := .type "bool") rfl T.n_bool (by decide +kernel) rfl) pa_nil)))))))), ?_⟩)
  · obtain ⟨v, b, rfl, _⟩ := h
    rfl
  obtain ⟨v, b, rfl, ⟨t, b1, b2, ht, h1, h2, rfl⟩, k⟩ := h
  walk_at "go"
  refine HX.z_isi (.ty _) ht h1 ?_
  walk_at "ss"
  cases b1 with
  | false => exact HX.z_f k
  | true =>
    walk_at "ss"
    refine HX.z_isi (.ty _) ht h2 ?_
    walk_at "ss"
    exact k
def sp_needint (K : PySem.W.Frag) : Sp := fun vs H Q E => ∃ (v : V) (b : Bool), vs = [v] ∧ HX.IntQ K H v b ∧ (b = true → Q .non H) ∧ (b = false → E (.ref (He.ga K "InvalidNumber")) none H)
theorem ok_need_integer (T : Txt K mg) : HX.GFn P w K mg base "need_integer" 2 ["value"] (sp_needint K) := by
  have g_is_integer := ok_is_integer (P := P) (w := w) (base := base) T
  refine HX.gfn_of T.d_need_integer T.g_need_integer sc_need_integer (fun vs H Q E h => ?_) (fun _ _ _ _ _ _ us hl => match us, hl with | [_], _ => rfl) (fun cdv A outer s H vs Q E hr h => ⟨_, (pss_one (ps_if (pt_not (pt_val (HX.pe_g g_is_integer (hr.mono (by first | decide | omega)) HX.pas0 rfl (pa_cons (pv 0) pa_nil)))) (pss_one (HX.ps_raise0 rfl HX.takesO T.x_InvalidNumber rfl)) pss_nil)), ?_⟩)
  · obtain ⟨v, b, rfl, _⟩ := h
    rfl
  obtain ⟨v, b, rfl, hv, k1, k2⟩ := h
  walk_at "go"
  refine ⟨v, b, rfl, hv, ?_⟩
  walk_at "ss"
  cases b with
  | true =>
    walk_at "ss"
    exact k1 rfl
  | false =>
    walk_at "ss"
    exact k2 rfl
/-- a day of n ticks stands at a -/
def DayAt (K : PySem.W.Frag) (H : Hp) (a : Addr) (n : Int) : Prop := ∃ dx, H a = some (.ins (He.ga K "Day") dx [("ticks_of_day", .int n)])
/-- a clock: its day, its time -/
def ClockAt (K : PySem.W.Frag) (H : Hp) (a da : Addr) (t : Int) : Prop := ∃ dx, H a = some (.ins (He.ga K "Clock") dx [("own_day", .ref da), ("own_time", .int t)])
theorem DayAt.keep {H H' : Hp} {a : Addr} {n : Int} (h : DayAt K H a n) (e : Same H H') : DayAt K H' a n := let ⟨dx, h⟩ := h; ⟨dx, e _ _ h⟩
theorem ClockAt.keep {H H' : Hp} {a da : Addr} {n : Int} (h : ClockAt K H a da n) (e : Same H H') : ClockAt K H' a da n := let ⟨dx, h⟩ := h; ⟨dx, e _ _ h⟩
def sp_Day_init (K : PySem.W.Frag) : Sp := fun vs H Q E => ∃ (a dx : Addr) (v : V) (b : Bool), vs = [.ref a, v] ∧ H a = some (.ins (He.ga K "Day") dx []) ∧ HX.IntQ K H v b ∧
  (b = false → E (.ref (He.ga K "InvalidLength")) none H) ∧ (b = true → ∃ n : Int, v = .int n ∧ (n < 1 → E (.ref (He.ga K "InvalidLength")) none H) ∧ (1 ≤ n → Q .non (upd H a (.ins (He.ga K "Day") dx [("ticks_of_day", .int n)]))))
theorem ok_Day_init (T : Txt K mg) : HX.GMk P w K mg base "Day" 2 ["self", "length"] (sp_Day_init K) := by
  have g_is_integer := ok_is_integer (P := P) (w := w) (base := base) T
  have := T.c_Day; have := T.a_Day_ticks_of_day
  refine ⟨T.mk_Day, T.g_Day, HX.fn_of T.d_Day_init sc_Day_init (fun vs H Q E h => ?_) (fun _ _ _ _ _ _ us hl => match us, hl with | [_, _], _ => rfl) (fun cdv A outer s H vs Q E hr h => ⟨_, (pss_cons (ps_if (PW.pt (pw_or (pt_not (pt_val (HX.pe_g g_is_integer (hr.mono (by first | decide | omega)) HX.pas0 rfl (pa_cons (pv 1) pa_nil)))) (pw_or1 (pt_cmpR op_lt (pv 1) pe_int (nomark _))))) (pss_one (HX.ps_raise0 rfl HX.takesO T.x_InvalidLength rfl)) pss_nil)
  (pss_one (ps_fld (pv 0) (pv 1) rfl))), ?_⟩)⟩
  · obtain ⟨a, dx, v, b, rfl, _⟩ := h
    rfl
  obtain ⟨a, dx, v, b, rfl, ha, hv, k1, k2⟩ := h
  walk_at "go"
  refine ⟨v, b, rfl, hv, ?_⟩
  walk_at "ss"
  cases b with
  | false =>
    walk_at "ss"
    exact k1 rfl
  | true =>
    obtain ⟨n, rfl, k3, k4⟩ := k2 rfl
    walk_at "ss"
    refine HX.z_d2 (fun h => k3 h) (fun h => ?_)
    walk_at "ss"
    exact k4 (by omega)
theorem DayAt.keepB {H H' : Hp} {a d : Addr} {n : Int} (h : DayAt K H a n) (R : Rg H d) (e : HX.ExB d H H') : DayAt K H' a n := by
  obtain ⟨dx, h⟩ := h
  obtain ⟨ns, r, _⟩ := R
  exact ⟨dx, e _ _ (ne_of h r (by intro z; cases z)) h⟩
theorem ClockAt.keepB {H H' : Hp} {a da d : Addr} {n : Int} (h : ClockAt K H a da n) (R : Rg H d) (e : HX.ExB d H H') : ClockAt K H' a da n := by
  obtain ⟨dx, h⟩ := h
  obtain ⟨ns, r, _⟩ := R
  exact ⟨dx, e _ _ (ne_of h r (by intro z; cases z)) h⟩
/-- a day is made -/
theorem day_made {H : Hp} {x dx : Addr} {n : Int} {Q : VK} {E : XK} (h1 : 1 ≤ n) (hx : H x = none) (hd : H dx = none) (k : ∀ (p : Addr) (H' : Hp), H p = none → Same H H' → DayAt K H' p n → Q (.ref p) H') :
    sp_Day_init K [.ref x, .int n] (upd (upd H dx (.own x)) x (.ins (He.ga K "Day") dx [])) (HX.MkQ Q x) E :=
  ⟨x, dx, .int n, true, rfl, upd_same, HX.intQ_int, (fun z => nomatch z), fun _ => ⟨n, rfl, fun z => absurd h1 (by omega), fun _ => ⟨rfl, k x _ hx (HX.Same.made hx hd) ⟨dx, upd_same⟩⟩⟩⟩
def sp_Day_length (K : PySem.W.Frag) : Sp := fun vs H Q _ => ∃ (a : Addr) (n : Int), vs = [.ref a] ∧ DayAt K H a n ∧ Q (.int n) H
theorem ok_Day_length (T : Txt K mg) : HX.GPr P w K mg base "Day" "length" 1 (sp_Day_length K) := by
  have := T.c_Day; have := T.a_Day_ticks_of_day
  refine ⟨T.po_Day_length, T.c_Day, HX.fn_of T.d_Day_length sc_Day_length (fun vs H Q E h => ?_) (fun _ _ _ _ _ _ us hl => match us, hl with | [_], _ => rfl) (fun cdv A outer s H vs Q E hr h => ⟨_, PSs.nox (pss_one (ps_ret (pe_fld (pv 0) rfl))), ?_⟩)⟩
  · obtain ⟨a, n, rfl, _⟩ := h
    rfl
  obtain ⟨a, n, rfl, ⟨dx, ha⟩, k⟩ := h
  walk_at "go"
  exact k
def sp_Clock_init (K : PySem.W.Frag) : Sp := fun vs H Q _ => ∃ (a dx da : Addr) (t : Int), vs = [.ref a, .ref da, .int t] ∧ H a = some (.ins (He.ga K "Clock") dx []) ∧
  Q .non (upd (upd H a (.ins (He.ga K "Clock") dx [("own_day", .ref da)])) a (.ins (He.ga K "Clock") dx [("own_day", .ref da), ("own_time", .int t)]))
theorem ok_Clock_init (T : Txt K mg) : HX.GMk P w K mg base "Clock" 1 ["self", "day", "time"] (sp_Clock_init K) := by
  have := T.c_Clock; have := T.a_Clock_own_day; have := T.a_Clock_own_time
  refine ⟨T.mk_Clock, T.g_Clock, HX.fn_of T.d_Clock_init sc_Clock_init (fun vs H Q E h => ?_) (fun _ _ _ _ _ _ us hl => match us, hl with | [_, _, _], _ => rfl) (fun cdv A outer s H vs Q E hr h => ⟨_, PSs.nox (pss_cons (ps_fld (pv 0) (pv 1) rfl)
  (pss_one (ps_fld (pv 0) (pv 2) rfl))), ?_⟩)⟩
  · obtain ⟨a, dx, da, t, rfl, _⟩ := h
    rfl
  obtain ⟨a, dx, da, t, rfl, ha, k⟩ := h
  walk_at "go"
  exact k
def sp_Clock_day (K : PySem.W.Frag) : Sp := fun vs H Q _ => ∃ (a da : Addr) (t : Int), vs = [.ref a] ∧ ClockAt K H a da t ∧ Q (.ref da) H
theorem ok_Clock_day (T : Txt K mg) : HX.GPr P w K mg base "Clock" "day" 1 (sp_Clock_day K) := by
  have := T.c_Clock; have := T.a_Clock_own_day
  refine ⟨T.po_Clock_day, T.c_Clock, HX.fn_of T.d_Clock_day sc_Clock_day (fun vs H Q E h => ?_) (fun _ _ _ _ _ _ us hl => match us, hl with | [_], _ => rfl) (fun cdv A outer s H vs Q E hr h => ⟨_, PSs.nox (pss_one (ps_ret (pe_fld (pv 0) rfl))), ?_⟩)⟩
  · obtain ⟨a, da, t, rfl, _⟩ := h
    rfl
  obtain ⟨a, da, t, rfl, ⟨dx, ha⟩, k⟩ := h
  walk_at "go"
  exact k
def sp_Clock_time (K : PySem.W.Frag) : Sp := fun vs H Q _ => ∃ (a da : Addr) (t : Int), vs = [.ref a] ∧ ClockAt K H a da t ∧ Q (.int t) H
theorem ok_Clock_time (T : Txt K mg) : HX.GPr P w K mg base "Clock" "time" 1 (sp_Clock_time K) := by
  have := T.c_Clock; have := T.a_Clock_own_time
  refine ⟨T.po_Clock_time, T.c_Clock, HX.fn_of T.d_Clock_time sc_Clock_time (fun vs H Q E h => ?_) (fun _ _ _ _ _ _ us hl => match us, hl with | [_], _ => rfl) (fun cdv A outer s H vs Q E hr h => ⟨_, PSs.nox (pss_one (ps_ret (pe_fld (pv 0) rfl))), ?_⟩)⟩
  · obtain ⟨a, da, t, rfl, _⟩ := h
    rfl
  obtain ⟨a, da, t, rfl, ⟨dx, ha⟩, k⟩ := h
  walk_at "go"
  exact k
/-- a clock is made -/
theorem clock_made {H : Hp} {x dx da : Addr} {t : Int} {Q : VK} (hx : H x = none) (hd : H dx = none) (k : ∀ (p : Addr) (H' : Hp), H p = none → Same H H' → ClockAt K H' p da t → Q (.ref p) H') :
    sp_Clock_init K [.ref x, .ref da, .int t] (upd (upd H dx (.own x)) x (.ins (He.ga K "Clock") dx [])) (HX.MkQ Q x) E0 :=
  ⟨x, dx, da, t, rfl, upd_same, rfl, k x _ hx (fun c u e => by rw [upd_ne (ne_of_none e hx)]; exact HX.Same.made hx hd c u e) ⟨dx, upd_same⟩⟩
def sp_Day_call (K : PySem.W.Frag) : Sp := fun vs H Q E => ∃ (a : Addr) (n : Int) (v : V) (b : Bool), vs = [.ref a, v] ∧ DayAt K H a n ∧ 1 ≤ n ∧ HX.IntQ K H v b ∧ (b = false → E (.ref (He.ga K "InvalidNumber")) none H) ∧
  (b = true → ∃ i : Int, v = .int i ∧ ∀ (p : Addr) (H' : Hp), H p = none → Same H H' → ClockAt K H' p a (i % n) → Q (.ref p) H')
theorem ok_Day_call (T : Txt K mg) : HX.GMe P w K mg base "Day" "__call__" 3 ["self", "number"] (sp_Day_call K) := by
  have g_need_integer := ok_need_integer (P := P) (w := w) (base := base) T
  have k_Clock := ok_Clock_init (P := P) (w := w) (base := base) T
  have := T.c_Day; have := T.a_Day_ticks_of_day
  refine ⟨T.me_Day_call, T.c_Day, HX.fn_of T.d_Day_call sc_Day_call (fun vs H Q E h => ?_) (fun _ _ _ _ _ _ us hl => match us, hl with | [_, _], _ => rfl) (fun cdv A outer s H vs Q E hr h => ⟨_, (pss_cons (ps_expr (HX.pe_g g_need_integer (hr.mono (by first | decide | omega)) (fun s => passAt HX.takesO s) rfl (pa_cons (pv 1) pa_nil)))
  (pss_one (ps_ret (HX.pe_gk k_Clock (hr.mono (by first | decide | omega)) HX.pas0 rfl (pa_cons (pv 0) (pa_cons (pe_op op_modN (pv 1) (pe_fld (pv 0) rfl)) pa_nil)))))), ?_⟩)⟩
  · obtain ⟨a, n, v, b, rfl, _⟩ := h
    rfl
  obtain ⟨a, n, v, b, rfl, ⟨dx, ha⟩, h1, hv, k1, k2⟩ := h
  walk_at "go"
  refine ⟨v, b, rfl, hv, fun e => ?_, k1⟩
  obtain ⟨i, rfl, k⟩ := k2 e
  walk_at "ss"
  rw [HX.fm_eq (show 0 < n by omega)]
  walk_at "ss"
  intro x dx' hx hd _
  exact clock_made hx hd k
/-- a clock of a day, by a number -/
theorem day_called {H : Hp} {a : Addr} {n i : Int} {Q : VK} {E : XK} (h : DayAt K H a n) (h1 : 1 ≤ n) (k : ∀ (p : Addr) (H' : Hp), H p = none → Same H H' → ClockAt K H' p a (i % n) → Q (.ref p) H') : sp_Day_call K [.ref a, .int i] H Q E :=
  ⟨a, n, .int i, true, rfl, h, h1, HX.intQ_int, (fun z => nomatch z), fun _ => ⟨i, rfl, k⟩⟩
def sp_Day_eq (K : PySem.W.Frag) : Sp := fun vs H Q _ => ∃ (a : Addr) (n : Int) (y : V), vs = [.ref a, y] ∧ DayAt K H a n ∧ ((∃ b m, y = .ref b ∧ DayAt K H b m ∧ Q (.bl (decide (n = m))) H) ∨ ∃ i, y = .int i ∧ Q (.bl false) H)
theorem ok_Day_eq (T : Txt K mg) : HX.GMe P w K mg base "Day" "__eq__" 1 ["self", "other"] (sp_Day_eq K) := by
  have := T.in_Day; have := T.ki_Day_Day; have := T.ki_int_Day; have := T.c_Day; have := T.a_Day_ticks_of_day
  refine ⟨T.me_Day_eq, T.c_Day, HX.fn_of T.d_Day_eq sc_Day_eq (fun vs H Q E h => ?_) (fun _ _ _ _ _ _ us hl => match us, hl with | [_, _], _ => rfl) (fun cdv A outer s H vs Q E hr h => ⟨_, PSs.nox (pss_one (ps_ret (pe_and (pe_callB call_isi rfl T.n_isinstance (by decide +kernel) (pa_cons (pv 1) (pa_cons (pe_glob (v := .ref (He.ga K "Day")) rfl T.g_Day rfl) pa_nil))) (pe_one (pe_cmpR op_eq (pe_fld (pv 0) rfl) (pe_fld (pv 1) rfl) (nomark _)))))), ?_⟩)⟩
  · obtain ⟨a, n, y, rfl, _⟩ := h
    rfl
  obtain ⟨a, n, y, rfl, ⟨dx, ha⟩, h⟩ := h
  walk_at "go"
  rcases h with ⟨b, m, rfl, ⟨dy, hb⟩, k⟩ | ⟨i, rfl, k⟩
  · refine HX.z_isi (.own _) (T.in_Day.ty hb) T.ki_Day_Day ?_
    walk_at "ss"
    rw [HX.dec_i]
    exact k
  · refine HX.z_isi (.own _) (.base (.int i)) T.ki_int_Day ?_
    walk_at "ss"
    exact k
def sp_Clock_eq (K : PySem.W.Frag) : Sp := fun vs H Q _ => ∃ (a da : Addr) (t n : Int) (y : V), vs = [.ref a, y] ∧ ClockAt K H a da t ∧ DayAt K H da n ∧
  ((∃ b db u m, y = .ref b ∧ ClockAt K H b db u ∧ DayAt K H db m ∧ Q (.bl (decide (n = m) && decide (t = u))) H) ∨ ∃ i, y = .int i ∧ Q (.bl false) H)
theorem ok_Clock_eq (T : Txt K mg) : HX.GMe P w K mg base "Clock" "__eq__" 2 ["self", "other"] (sp_Clock_eq K) := by
  have q_Day_eq := ok_Day_eq (P := P) (w := w) (base := base) T
  have := T.in_Clock; have := T.ki_Clock_Clock; have := T.ki_int_Clock; have := T.c_Clock; have := T.a_Clock_own_day; have := T.a_Clock_own_time
  refine ⟨T.me_Clock_eq, T.c_Clock, HX.fn_of T.d_Clock_eq sc_Clock_eq (fun vs H Q E h => ?_) (fun _ _ _ _ _ _ us hl => match us, hl with | [_, _], _ => rfl) (fun cdv A outer s H vs Q E hr h => ⟨_, PSs.nox (pss_one (ps_ret (pe_and (pe_callB call_isi rfl T.n_isinstance (by decide +kernel) (pa_cons (pv 1) (pa_cons (pe_glob (v := .ref (He.ga K "Clock")) rfl T.g_Clock rfl) pa_nil))) (pe_and (pe_cmpR (HX.op_eqO q_Day_eq (hr.mono (by first | decide | omega))) (pe_fld (pv 0) rfl) (pe_fld (pv 1) rfl) (nomark _)) (pe_one (pe_cmpR op_eq (pe_fld (pv 0) rfl) (pe_fld (pv 1) rfl) (nomark _))))))), ?_⟩)⟩
  · obtain ⟨a, da, t, n, y, rfl, _⟩ := h
    rfl
  obtain ⟨a, da, t, n, y, rfl, ⟨dx, ha⟩, ⟨dd, hda⟩, h⟩ := h
  walk_at "go"
  rcases h with ⟨b, db, u, m, rfl, ⟨dy, hb⟩, ⟨de, hdb⟩, k⟩ | ⟨i, rfl, k⟩
  · refine HX.z_isi (.own _) (T.in_Clock.ty hb) T.ki_Clock_Clock ?_
    walk_at "ss"
    refine ⟨da, dd, _, rfl, hda, .ins hdb (by simp [PySem.W.notFirst]), da, n, _, rfl, ⟨dd, hda⟩, .inl ⟨db, m, rfl, ⟨de, hdb⟩, ?_⟩⟩
    walk_at "ss"
    refine HX.z_d2 (fun h => ?_) (fun h => ?_)
    · walk_at "ss"
      rw [HX.dec_i]
      rw [decide_eq_true h] at k
      exact k
    · rw [decide_eq_false h] at k
      exact k
  · refine HX.z_isi (.own _) (.base (.int i)) T.ki_int_Clock ?_
    walk_at "ss"
    exact k
theorem day_eq_day {H : Hp} {a b : Addr} {n m : Int} {Q : VK} {E : L2.St → XK} (h : DayAt K H a n) (h' : DayAt K H b m) (q : Q (.bl (decide (n = m))) H) : HX.rEqO "Day" (sp_Day_eq K) E K (.ref a) (.ref b) H Q := by
  obtain ⟨dx, h1⟩ := id h
  obtain ⟨dy, h2⟩ := id h'
  exact HX.z_eqO h1 (.ins h2 (by simp [PySem.W.notFirst])) ⟨a, n, .ref b, rfl, h, .inl ⟨b, m, rfl, h', q⟩⟩
theorem day_eq_int {H : Hp} {a : Addr} {n i : Int} {Q : VK} {E : L2.St → XK} (nf : PySem.W.notFirst K (He.ga K "Day") (.type "int") = true) (h : DayAt K H a n) (q : Q (.bl false) H) : HX.rEqO "Day" (sp_Day_eq K) E K (.ref a) (.int i) H Q := by
  obtain ⟨dx, h1⟩ := id h
  exact HX.z_eqO h1 (.int nf) ⟨a, n, .int i, rfl, h, .inr ⟨i, rfl, q⟩⟩
theorem clock_eq_clock {H : Hp} {a b da db : Addr} {t u n m : Int} {Q : VK} {E : L2.St → XK} (h : ClockAt K H a da t) (d : DayAt K H da n) (h' : ClockAt K H b db u) (d' : DayAt K H db m) (q : Q (.bl (decide (n = m) && decide (t = u))) H) :
    HX.rEqO "Clock" (sp_Clock_eq K) E K (.ref a) (.ref b) H Q := by
  obtain ⟨dx, h1⟩ := id h
  obtain ⟨dy, h2⟩ := id h'
  exact HX.z_eqO h1 (.ins h2 (by simp [PySem.W.notFirst])) ⟨a, da, t, n, .ref b, rfl, h, d, .inl ⟨b, db, u, m, rfl, h', d', q⟩⟩
theorem clock_eq_int {H : Hp} {a da : Addr} {t n i : Int} {Q : VK} {E : L2.St → XK} (nf : PySem.W.notFirst K (He.ga K "Clock") (.type "int") = true) (h : ClockAt K H a da t) (d : DayAt K H da n) (q : Q (.bl false) H) : HX.rEqO "Clock" (sp_Clock_eq K) E K (.ref a) (.int i) H Q := by
  obtain ⟨dx, h1⟩ := id h
  exact HX.z_eqO h1 (.int nf) ⟨a, da, t, n, .int i, rfl, h, d, .inr ⟨i, rfl, q⟩⟩
end
/-! clocks: sums, differences, moves in place -/
section
variable {P : Program} {w : World} {K : PySem.W.Frag} {mg : Str → Option Value} {base : Heap}
/-- a clock and a number: a new clock -/
def sp_Clock_add (K : PySem.W.Frag) : Sp := fun vs H Q _ => ∃ (a da : Addr) (t n i : Int), vs = [.ref a, .int i] ∧ ClockAt K H a da t ∧ DayAt K H da n ∧ 1 ≤ n ∧ ∀ (p : Addr) (H' : Hp), H p = none → Same H H' → ClockAt K H' p da ((t + i) % n) → Q (.ref p) H'
theorem ok_Clock_add (T : Txt K mg) : HX.GMe P w K mg base "Clock" "__add__" 3 ["self", "number"] (sp_Clock_add K) := by
  have g_is_integer := ok_is_integer (P := P) (w := w) (base := base) T
  have k_Clock := ok_Clock_init (P := P) (w := w) (base := base) T
  have := T.c_Clock; have := T.a_Clock_own_day; have := T.c_Day; have := T.a_Day_ticks_of_day; have := T.a_Clock_own_time
  have := T.c_Day; have := T.a_Day_ticks_of_day
  refine ⟨T.me_Clock_add, T.c_Clock, HX.fn_of T.d_Clock_add sc_Clock_add (fun vs H Q E h => ?_) (fun _ _ _ _ _ _ us hl => match us, hl with | [_, _], _ => rfl) (fun cdv A outer s H vs Q E hr h => ⟨_, PSs.nox (pss_cons (ps_if (pt_not (pt_val (HX.pe_g g_is_integer (hr.mono (by first | decide | omega)) HX.pas0 rfl (pa_cons (pv 1) pa_nil)))) pss_never pss_nil)
  (pss_one (ps_ret (HX.pe_gk k_Clock (hr.mono (by first | decide | omega)) HX.pas0 rfl (pa_cons (pe_fld (pv 0) rfl) (pa_cons (pe_op op_modN (pe_op op_add (pe_fld (pv 0) rfl) (pv 1)) (pe_fld (pe_fld (pv 0) rfl) rfl)) pa_nil)))))), ?_⟩)⟩
  · obtain ⟨a, da, t, n, i, rfl, _⟩ := h
    rfl
  obtain ⟨a, da, t, n, i, rfl, ⟨dx, ha⟩, ⟨dd, hda⟩, h1, k⟩ := h
  walk_at "go"
  refine ⟨.int i, true, rfl, HX.intQ_int, ?_⟩
  walk_at "ss"
  rw [HX.fm_eq (show 0 < n by omega)]
  intro x dx' hx hd _
  exact clock_made hx hd k
theorem ok_Clock_radd (T : Txt K mg) : HX.GMe P w K mg base "Clock" "__radd__" 3 ["self", "number"] (sp_Clock_add K) := by
  have g_is_integer := ok_is_integer (P := P) (w := w) (base := base) T
  have k_Clock := ok_Clock_init (P := P) (w := w) (base := base) T
  have := T.c_Clock; have := T.a_Clock_own_day; have := T.c_Day; have := T.a_Day_ticks_of_day; have := T.a_Clock_own_time
  have := T.c_Day; have := T.a_Day_ticks_of_day
  refine ⟨T.me_Clock_radd, T.c_Clock, HX.fn_of T.d_Clock_radd sc_Clock_radd (fun vs H Q E h => ?_) (fun _ _ _ _ _ _ us hl => match us, hl with | [_, _], _ => rfl) (fun cdv A outer s H vs Q E hr h => ⟨_, PSs.nox (pss_cons (ps_if (pt_not (pt_val (HX.pe_g g_is_integer (hr.mono (by first | decide | omega)) HX.pas0 rfl (pa_cons (pv 1) pa_nil)))) pss_never pss_nil)
  (pss_one (ps_ret (HX.pe_gk k_Clock (hr.mono (by first | decide | omega)) HX.pas0 rfl (pa_cons (pe_fld (pv 0) rfl) (pa_cons (pe_op op_modN (pe_op op_add (pe_fld (pv 0) rfl) (pv 1)) (pe_fld (pe_fld (pv 0) rfl) rfl)) pa_nil)))))), ?_⟩)⟩
  · obtain ⟨a, da, t, n, i, rfl, _⟩ := h
    rfl
  obtain ⟨a, da, t, n, i, rfl, ⟨dx, ha⟩, ⟨dd, hda⟩, h1, k⟩ := h
  walk_at "go"
  refine ⟨.int i, true, rfl, HX.intQ_int, ?_⟩
  walk_at "ss"
  rw [HX.fm_eq (show 0 < n by omega)]
  intro x dx' hx hd _
  exact clock_made hx hd k
def sp_Clock_sub (K : PySem.W.Frag) : Sp := fun vs H Q E => ∃ (a da : Addr) (t n : Int) (y : V), vs = [.ref a, y] ∧ ClockAt K H a da t ∧ DayAt K H da n ∧ 1 ≤ n ∧
  ((∃ i : Int, y = .int i ∧ ∀ (p : Addr) (H' : Hp), H p = none → Same H H' → ClockAt K H' p da ((t - i) % n) → Q (.ref p) H') ∨
   ∃ b db u m, y = .ref b ∧ ClockAt K H b db u ∧ DayAt K H db m ∧ (m = n → Q (.int ((t - u) % n)) H) ∧ (m ≠ n → E (.ref (He.ga K "OtherDay")) none H))
theorem ok_Clock_sub (T : Txt K mg) : HX.GMe P w K mg base "Clock" "__sub__" 3 ["self", "other"] (sp_Clock_sub K) := by
  have g_is_integer := ok_is_integer (P := P) (w := w) (base := base) T
  have k_Clock := ok_Clock_init (P := P) (w := w) (base := base) T
  have := T.c_Day; have := T.a_Day_ticks_of_day; have := T.in_Clock; have := T.ki_Clock_Clock; have := T.ki_int_Clock; have := T.c_Clock; have := T.a_Clock_own_day; have := T.a_Clock_own_time
  have := T.c_Day; have := T.a_Day_ticks_of_day
  refine ⟨T.me_Clock_sub, T.c_Clock, HX.fn_of T.d_Clock_sub sc_Clock_sub (fun vs H Q E h => ?_) (fun _ _ _ _ _ _ us hl => match us, hl with | [_, _], _ => rfl) (fun cdv A outer s H vs Q E hr h => ⟨_, (pss_cons (ps_set (i := 2) sc_Clock_sub.nd rfl (Or.inl rfl) (pe_fld (pe_fld (pv 0) rfl) rfl))
  (pss_cons (ps_if (pt_val (pe_callB call_isi rfl T.n_isinstance (by decide +kernel) (pa_cons (pv 1) (pa_cons (pe_glob (v := .ref (He.ga K "Clock")) rfl T.g_Clock rfl) pa_nil)))) (pss_cons (ps_if (pt_cmpR op_ne (pe_fld (pe_fld (pv 1) rfl) rfl) (pv 2) (nomark _)) (pss_one (HX.ps_raise0 rfl HX.takesO T.x_OtherDay rfl)) pss_nil)
  (pss_one (ps_ret (pe_op op_modN (pe_op op_sub (pe_fld (pv 0) rfl) (pe_fld (pv 1) rfl)) (pv 2))))) pss_nil)
  (pss_cons (ps_if (pt_not (pt_val (HX.pe_g g_is_integer (hr.mono (by first | decide | omega)) HX.pas0 rfl (pa_cons (pv 1) pa_nil)))) pss_never pss_nil)
  (pss_one (ps_ret (HX.pe_gk k_Clock (hr.mono (by first | decide | omega)) HX.pas0 rfl (pa_cons (pe_fld (pv 0) rfl) (pa_cons (pe_op op_modN (pe_op op_sub (pe_fld (pv 0) rfl) (pv 1)) (pv 2)) pa_nil)))))))), ?_⟩)⟩
  · obtain ⟨a, da, t, n, y, rfl, _⟩ := h
    rfl
  obtain ⟨a, da, t, n, y, rfl, ⟨dx, ha⟩, ⟨dd, hda⟩, h1, h⟩ := h
  walk_at "go"
  rcases h with ⟨i, rfl, k⟩ | ⟨b, db, u, m, rfl, ⟨dy, hb⟩, ⟨de, hdb⟩, k1, k2⟩
  · refine HX.z_isi (.own _) (.base (.int i)) T.ki_int_Clock ?_
    walk_at "ss"
    refine ⟨.int i, true, rfl, HX.intQ_int, ?_⟩
    walk_at "ss"
    rw [HX.fm_eq (show 0 < n by omega)]
    intro x dx' hx hd _
    exact clock_made hx hd k
  · refine HX.z_isi (.own _) (T.in_Clock.ty hb) T.ki_Clock_Clock ?_
    walk_at "ss"
    refine HX.z_d2 (fun h => ?_) (fun h => ?_)
    · walk_at "ss"
      rw [HX.fm_eq (show 0 < n by omega)]
      exact k1 h
    · walk_at "ss"
      exact k2 h
/-- a clock moved in place -/
def sp_Clock_iadd (K : PySem.W.Frag) : Sp := fun vs H Q _ => ∃ (a da dx : Addr) (t n i : Int), vs = [.ref a, .int i] ∧ H a = some (.ins (He.ga K "Clock") dx [("own_day", .ref da), ("own_time", .int t)]) ∧ DayAt K H da n ∧ 1 ≤ n ∧
  Q (.ref a) (upd H a (.ins (He.ga K "Clock") dx [("own_day", .ref da), ("own_time", .int ((t + i) % n))]))
theorem ok_Clock_iadd (T : Txt K mg) : HX.GMe P w K mg base "Clock" "__iadd__" 2 ["self", "number"] (sp_Clock_iadd K) := by
  have g_is_integer := ok_is_integer (P := P) (w := w) (base := base) T
  have := T.c_Clock; have := T.a_Clock_own_time; have := T.c_Day; have := T.a_Day_ticks_of_day; have := T.a_Clock_own_day
  have := T.c_Day; have := T.a_Day_ticks_of_day
  refine ⟨T.me_Clock_iadd, T.c_Clock, HX.fn_of T.d_Clock_iadd sc_Clock_iadd (fun vs H Q E h => ?_) (fun _ _ _ _ _ _ us hl => match us, hl with | [_, _], _ => rfl) (fun cdv A outer s H vs Q E hr h => ⟨_, PSs.nox (pss_cons (ps_if (pt_not (pt_val (HX.pe_g g_is_integer (hr.mono (by first | decide | omega)) HX.pas0 rfl (pa_cons (pv 1) pa_nil)))) pss_never pss_nil)
  (pss_cons (ps_fld (pv 0) (pe_op op_modN (pe_op op_add (pe_fld (pv 0) rfl) (pv 1)) (pe_fld (pe_fld (pv 0) rfl) rfl)) rfl)
  (pss_one (ps_ret (pv 0))))), ?_⟩)⟩
  · obtain ⟨a, da, dx, t, n, i, rfl, _⟩ := h
    rfl
  obtain ⟨a, da, dx, t, n, i, rfl, ha, ⟨dd, hda⟩, h1, k⟩ := h
  walk_at "go"
  refine ⟨.int i, true, rfl, HX.intQ_int, ?_⟩
  walk_at "ss"
  rw [HX.fm_eq (show 0 < n by omega)]
  exact k
def sp_Clock_isub (K : PySem.W.Frag) : Sp := fun vs H Q _ => ∃ (a da dx : Addr) (t n i : Int), vs = [.ref a, .int i] ∧ H a = some (.ins (He.ga K "Clock") dx [("own_day", .ref da), ("own_time", .int t)]) ∧ DayAt K H da n ∧ 1 ≤ n ∧
  Q (.ref a) (upd H a (.ins (He.ga K "Clock") dx [("own_day", .ref da), ("own_time", .int ((t - i) % n))]))
theorem ok_Clock_isub (T : Txt K mg) : HX.GMe P w K mg base "Clock" "__isub__" 2 ["self", "number"] (sp_Clock_isub K) := by
  have g_is_integer := ok_is_integer (P := P) (w := w) (base := base) T
  have := T.c_Clock; have := T.a_Clock_own_time; have := T.c_Day; have := T.a_Day_ticks_of_day; have := T.a_Clock_own_day
  have := T.c_Day; have := T.a_Day_ticks_of_day
  refine ⟨T.me_Clock_isub, T.c_Clock, HX.fn_of T.d_Clock_isub sc_Clock_isub (fun vs H Q E h => ?_) (fun _ _ _ _ _ _ us hl => match us, hl with | [_, _], _ => rfl) (fun cdv A outer s H vs Q E hr h => ⟨_, PSs.nox (pss_cons (ps_if (pt_not (pt_val (HX.pe_g g_is_integer (hr.mono (by first | decide | omega)) HX.pas0 rfl (pa_cons (pv 1) pa_nil)))) pss_never pss_nil)
  (pss_cons (ps_fld (pv 0) (pe_op op_modN (pe_op op_sub (pe_fld (pv 0) rfl) (pv 1)) (pe_fld (pe_fld (pv 0) rfl) rfl)) rfl)
  (pss_one (ps_ret (pv 0))))), ?_⟩)⟩
  · obtain ⟨a, da, dx, t, n, i, rfl, _⟩ := h
    rfl
  obtain ⟨a, da, dx, t, n, i, rfl, ha, ⟨dd, hda⟩, h1, k⟩ := h
  walk_at "go"
  refine ⟨.int i, true, rfl, HX.intQ_int, ?_⟩
  walk_at "ss"
  rw [HX.fm_eq (show 0 < n by omega)]
  exact k
end
/-! the law's equality, where both are the same data -/
/-- x and y bear the same data, nested n deep at most -/
def Eqs (K : PySem.W.Frag) (H : Hp) : Nat → V → V → Prop
  | 0, x, y => x = y ∧ flatV x = true
  | n + 1, x, y => (x = y ∧ flatV x = true) ∨ ∃ a b xs ys, x = .ref a ∧ y = .ref b ∧ ((SqL K H a xs ∧ SqL K H b ys) ∨ (SqT K H a xs ∧ SqT K H b ys)) ∧ xs.length = ys.length ∧ xs.length ≤ 1000 ∧
    ∀ (i : Nat) (u v : V), xs[i]? = some u → ys[i]? = some v → Eqs K H n u v
theorem Eqs.keep {K : PySem.W.Frag} {H H' : Hp} (e : Same H H') : ∀ {n : Nat} {x y : V}, Eqs K H n x y → Eqs K H' n x y
  | 0, _, _, h => h
  | n + 1, _, _, .inl h => .inl h
  | n + 1, _, _, .inr ⟨a, b, xs, ys, e1, e2, h, l, l2, k⟩ => .inr ⟨a, b, xs, ys, e1, e2, h.elim (fun ⟨h1, h2⟩ => .inl ⟨HX.Same.sl e h1, HX.Same.sl e h2⟩) (fun ⟨h1, h2⟩ => .inr ⟨HX.Same.st e h1, HX.Same.st e h2⟩), l, l2, fun i u v h1 h2 => Eqs.keep e (k i u v h1 h2)⟩
theorem eqs_flat {K : PySem.W.Frag} {H : Hp} {x : V} (h : flatV x = true) : ∀ n, Eqs K H n x x
  | 0 => ⟨rfl, h⟩
  | _ + 1 => .inl ⟨rfl, h⟩
section
variable {P : Program} {w : World} {K : PySem.W.Frag} {mg : Str → Option Value} {base : Heap}
def sp_equal (K : PySem.W.Frag) : Nat → Sp
  | 0 => fun _ _ _ _ => False
  | n + 1 => fun vs H Q _ => ∃ (x y : V), vs = [x, y] ∧ Eqs K H n x y ∧ ∀ H' : Hp, Same H H' → Q (.bl true) H'
theorem ok__law_equal (T : Txt K mg) : ∀ n, HX.GFn P w K mg base "_law_equal" (n + 1) ["_law_actual", "_law_expected"] (sp_equal K n)
  | 0 => HX.gfn_false T.d__law_equal T.g__law_equal sc__law_equal (fun _ _ _ _ _ _ us hl => match us, hl with | [_, _], _ => rfl)
  | n + 1 => by
    have g__law_equal := ok__law_equal T n
    refine HX.gfn_of T.d__law_equal T.g__law_equal sc__law_equal (fun vs H Q E h => ?_) (fun _ _ _ _ _ _ us hl => match us, hl with | [_, _], _ => rfl) (fun cdv A outer s H vs Q E hr h => ⟨_, PSs.nox (pss_cons (ps_if (pt_cmpR HX.op_isNone (pv 1) pe_non (nomark _)) (pss_one (ps_ret (pe_cmpR HX.op_isNone (pv 0) pe_non (nomark _)))) pss_nil)
  (pss_cons (ps_if (pt_val (pe_callB call_isi rfl T.n_isinstance (by decide +kernel) (pa_cons (pv 1) (pa_cons (pe_bltn (v := .ty "bool") (u := .type "bool") rfl T.n_bool (by decide +kernel) rfl) pa_nil)))) (pss_one (ps_ret (pe_and (pe_callB call_isi rfl T.n_isinstance (by decide +kernel) (pa_cons (pv 0) (pa_cons (pe_bltn (v := .ty "bool") (u := .type "bool") rfl T.n_bool (by decide +kernel) rfl) pa_nil))) (pe_one (pe_cmpR op_eq (pv 0) (pv 1) (nomark _)))))) pss_nil)
  (pss_cons (ps_if (pt_val (pe_callB call_isi rfl T.n_isinstance (by decide +kernel) (pa_cons (pv 1) (pa_cons (pe_bltn (v := .ty "int") (u := .type "int") rfl T.n_int (by decide +kernel) rfl) pa_nil)))) (pss_one (ps_ret (pe_and (pe_callB call_isi rfl T.n_isinstance (by decide +kernel) (pa_cons (pv 0) (pa_cons (pe_bltn (v := .ty "int") (u := .type "int") rfl T.n_int (by decide +kernel) rfl) pa_nil))) (pe_and (pe_not (pe_callB call_isi rfl T.n_isinstance (by decide +kernel) (pa_cons (pv 0) (pa_cons (pe_bltn (v := .ty "bool") (u := .type "bool") rfl T.n_bool (by decide +kernel) rfl) pa_nil)))) (pe_one (pe_cmpR op_eq (pv 0) (pv 1) (nomark _))))))) pss_nil)
  (pss_cons (ps_if (pt_val (pe_callB call_isi rfl T.n_isinstance (by decide +kernel) (pa_cons (pv 1) (pa_cons (pe_bltn (v := .ty "str") (u := .type "str") rfl T.n_str (by decide +kernel) rfl) pa_nil)))) (pss_one (ps_ret (pe_and (pe_callB call_isi rfl T.n_isinstance (by decide +kernel) (pa_cons (pv 0) (pa_cons (pe_bltn (v := .ty "str") (u := .type "str") rfl T.n_str (by decide +kernel) rfl) pa_nil))) (pe_one (pe_cmpR op_eq (pv 0) (pv 1) (nomark _)))))) pss_nil)
  (pss_cons (ps_if (pt_val (pe_callB call_isi rfl T.n_isinstance (by decide +kernel) (pa_cons (pv 1) (pa_cons (pe_bltn (v := .ty "dict") (u := .type "dict") rfl T.n_dict (by decide +kernel) rfl) pa_nil)))) pss_never pss_nil)
  (pss_cons (ps_if (pt_cmpR op_ne (pe_callB call_isi rfl T.n_isinstance (by decide +kernel) (pa_cons (pv 1) (pa_cons (pe_bltn (v := .ty "tuple") (u := .type "tuple") rfl T.n_tuple (by decide +kernel) rfl) pa_nil))) (pe_callB call_isi rfl T.n_isinstance (by decide +kernel) (pa_cons (pv 0) (pa_cons (pe_bltn (v := .ty "tuple") (u := .type "tuple") rfl T.n_tuple (by decide +kernel) rfl) pa_nil))) (nomark _)) (pss_one (ps_ret pe_bl)) pss_nil)
  (pss_cons (ps_if (pt_cmpR op_ne (pe_callB call_isi rfl T.n_isinstance (by decide +kernel) (pa_cons (pv 1) (pa_cons (pe_bltn (v := .ty "list") (u := .type "list") rfl T.n_list (by decide +kernel) rfl) pa_nil))) (pe_callB call_isi rfl T.n_isinstance (by decide +kernel) (pa_cons (pv 0) (pa_cons (pe_bltn (v := .ty "list") (u := .type "list") rfl T.n_list (by decide +kernel) rfl) pa_nil))) (nomark _)) (pss_one (ps_ret pe_bl)) pss_nil)
  (pss_cons (ps_if (pt_cmpR op_ne (pe_callB HX.call_lenSq rfl T.n_len (by decide +kernel) (pa_cons (pv 0) pa_nil)) (pe_callB HX.call_lenSq rfl T.n_len (by decide +kernel) (pa_cons (pv 1) pa_nil)) (nomark _)) (pss_one (ps_ret pe_bl)) pss_nil)
  (pss_one (ps_ret (pe_callB (cr_all rfl) rfl T.n_all (by decide +kernel) (pa_cons (pe_lc (own := [("_law_k", 3)]) (te := (tCallS (sp_equal K n) (fun _ => E0) (tCons (tOp (HX.rIxA K) (tVar 0) (tVar 3)) (tCons (tOp (HX.rIxA K) (tVar 1) (tVar 3)) tNil)))) rfl sc__law_equal.nd (pi_range1 rfl T.n_range (pa_cons (pe_callB HX.call_lenSq rfl T.n_len (by decide +kernel) (pa_cons (pv 1) pa_nil)) pa_nil)) (blkOk_by (own := [("_law_k", 3)]) (N := ["_law_actual", "_law_expected", "_law_key", "_law_k"]) (sc := defScope s__law_equal) (by decide +kernel)) (fun _ _ _ _ _ => (pg_name (i := 3) sc__law_equal.nd rfl (Or.inl rfl))) (fun _ _ _ _ _ => pts_nil) (fun _ _ _ _ _ => (HX.pe_g g__law_equal (hr.mono (by first | decide | omega)) HX.pas0 rfl (pa_cons (pe_ix HX.ix_any (pv 0) (pv 3) (fun _ _ => rfl)) (pa_cons (pe_ix HX.ix_any (pv 1) (pv 3) (fun _ _ => rfl)) pa_nil))))) pa_nil)))))))))))), ?_⟩)
    · obtain ⟨x, y, rfl, _⟩ := h
      rfl
    obtain ⟨x, y, rfl, he, k⟩ := h
    have cs : (x = y ∧ flatV x = true) ∨ ∃ m, n = m + 1 ∧ ∃ a b xs ys, x = .ref a ∧ y = .ref b ∧ ((SqL K H a xs ∧ SqL K H b ys) ∨ (SqT K H a xs ∧ SqT K H b ys)) ∧ xs.length = ys.length ∧ xs.length ≤ 1000 ∧
        ∀ (i : Nat) (u v : V), xs[i]? = some u → ys[i]? = some v → Eqs K H m u v := by
      cases n with
      | zero => exact .inl he
      | succ m => exact he.imp id fun z => ⟨m, rfl, z⟩
    walk_at "go"
    rcases cs with ⟨rfl, hf⟩ | ⟨m, rfl, a, b, xs, ys, rfl, rfl, hs, hl, hz, hi⟩
    · cases x with
      | non =>
        walk_at "ss"
        exact k _ (Same.refl H)
      | bl z =>
        walk_at "ss"
        rw [decide_eq_true rfl]
        exact k _ (Same.refl H)
      | int z =>
        walk_at "ss"
        rw [decide_eq_true rfl]
        exact k _ (Same.refl H)
      | str z =>
        walk_at "ss"
        rw [decide_eq_true rfl]
        exact k _ (Same.refl H)
      | _ => cases hf
    · have he2 : ∀ (i : Nat) (H1 : Hp), i < ys.length → Same H H1 → ∃ u v, xs[i]? = some u ∧ ys[i]? = some v ∧ Eqs K H1 m u v := fun i H1 h e =>
        ⟨xs[i]'(by omega), ys[i], List.getElem?_eq_getElem (by omega), List.getElem?_eq_getElem h, (hi i _ _ (List.getElem?_eq_getElem (by omega)) (List.getElem?_eq_getElem h)).keep e⟩
      have hl2 : (xs.length : Int) = (ys.length : Int) := by rw [hl]
      rcases hs with ⟨h1, h2⟩ | ⟨h1, h2⟩
      all_goals
        walk_at "ss"
        rw [hl2]
        walk_at "ss"
        refine HX.z_lcR ⟨_, rfl, b, ys, rfl, (by first | exact .inl h2 | exact .inr h2), ys.length, rfl, by omega, fun D hD => ⟨fun i H1 => Same H H1 ∧ H1 D = some (.lst ((List.replicate i true).map V.bl)), ⟨HX.Same.new hD, upd_same⟩, fun i H1 hlt ⟨e, hd⟩ => ?_, fun H1 ⟨e, hd⟩ => ?_⟩⟩ (HX.mono_cons (HX.mono_cbLen (HX.mono_cons HX.mono_var HX.mono_nil)) HX.mono_nil)
        · obtain ⟨u, v, hu, hv, q⟩ := he2 i H1 hlt e
          first
            | have h1' := HX.Same.sl e h1
              have h2' := HX.Same.sl e h2
            | have h1' := HX.Same.st e h1
              have h2' := HX.Same.st e h2
          have a1 := HX.atc i rfl hu
          have a2 := HX.atc i rfl hv
          walk_at "ss"
          refine ⟨rfl, ?_⟩
          walk_at "ss"
          refine ⟨u, v, rfl, q, fun H2 e2 => ⟨_, e2 _ _ hd, HX.sz_lt (by simp; omega), HX.Same.app (e.trans e2) hD, ?_⟩⟩
          rw [upd_same, List.replicate_succ', List.map_append]
          rfl
        · walk_at "ss"
          refine HX.z_all (SqL.of hd) ?_
          have : (List.replicate ys.length true).all id = true := by simp
          rw [this]
          exact k _ e
end
/-! the law -/
section
variable {P : Program} {w : World} {K : PySem.W.Frag} {mg : Str → Option Value} {base : Heap}
def sp_moved (K : PySem.W.Frag) : Sp := fun vs H Q _ => ∃ (a da dx : Addr) (t n i : Int) (b : Bool), vs = [.ref a, .int i, .bl b] ∧ H a = some (.ins (He.ga K "Clock") dx [("own_day", .ref da), ("own_time", .int t)]) ∧ DayAt K H da n ∧ 1 ≤ n ∧
  Q (.ref a) (upd H a (.ins (He.ga K "Clock") dx [("own_day", .ref da), ("own_time", .int ((t + (if b then -i else i)) % n))]))
theorem ok__law_moved (T : Txt K mg) : HX.GFn P w K mg base "_law_moved" 3 ["_law_clock", "_law_amount_here", "_law_is_back"] (sp_moved K) := by
  have q_Clock_iadd := ok_Clock_iadd (P := P) (w := w) (base := base) T
  have q_Clock_isub := ok_Clock_isub (P := P) (w := w) (base := base) T
  refine HX.gfn_of T.d__law_moved T.g__law_moved sc__law_moved (fun vs H Q E h => ?_) (fun _ _ _ _ _ _ us hl => match us, hl with | [_, _, _], _ => rfl) (fun cdv A outer s H vs Q E hr h => ⟨_, PSs.nox (pss_cons (ps_set (i := 3) sc__law_moved.nd rfl (Or.inl rfl) (pv 0))
  (C8.pss_cut (ps_if (pt_val (pv 2)) (pss_one (ps_aug (i := 3) sc__law_moved.nd rfl (Or.inl rfl) (pv 1) (HX.pip_own q_Clock_isub T.sf_Clock (hr.mono (by first | decide | omega))))) (pss_one (ps_aug (i := 3) sc__law_moved.nd rfl (Or.inl rfl) (pv 1) (HX.pip_own q_Clock_iadd T.sf_Clock (hr.mono (by first | decide | omega))))))
  (pss_one (ps_ret (pv 3))))), ?_⟩)
  · obtain ⟨a, da, dx, t, n, i, b, rfl, _⟩ := h
    rfl
  obtain ⟨a, da, dx, t, n, i, b, rfl, ha, hda, h1, k⟩ := h
  walk_at "go"
  refine ⟨fun σ' H' => ∃ z, σ' = [some (.ref a), some (.int i), some (.bl b), some (.ref a)] ∧ H' = upd H a (.ins (He.ga K "Clock") dx [("own_day", .ref da), ("own_time", .int z)]) ∧ z = (t + (if b then -i else i)) % n, ?_, ?_⟩
  · cases b with
    | true =>
      walk_at "ss"
      refine ⟨a, da, dx, t, n, i, rfl, ha, hda, h1, ?_⟩
      exact ⟨_, rfl, rfl, by rw [if_pos rfl, Int.sub_eq_add_neg]⟩
    | false =>
      walk_at "ss"
      refine ⟨a, da, dx, t, n, i, rfl, ha, hda, h1, ?_⟩
      exact ⟨_, rfl, rfl, rfl⟩
  · rintro σ' H' ⟨z, rfl, rfl, rfl⟩
    walk_at "ss"
    exact k
def sp_refused2 (K : PySem.W.Frag) : Sp := fun vs H Q _ => ∃ (a b da db : Addr) (t u n m : Int), vs = [.ref a, .ref b] ∧ ClockAt K H a da t ∧ DayAt K H da n ∧ 1 ≤ n ∧ ClockAt K H b db u ∧ DayAt K H db m ∧ Q (.bl (decide (m ≠ n))) H
theorem ok__law_refused (T : Txt K mg) : HX.GFn P w K mg base "_law_refused" 4 ["_law_clock", "_law_other"] (sp_refused2 K) := by
  have q_Clock_sub := ok_Clock_sub (P := P) (w := w) (base := base) T
  refine HX.gfn_of T.d__law_refused T.g__law_refused sc__law_refused (fun vs H Q E h => ?_) (fun _ _ _ _ _ _ us hl => match us, hl with | [_, _], _ => rfl) (fun cdv A outer s H vs Q E hr h => ⟨_, PSs.nox (pss_cons (ps_set (i := 2) sc__law_refused.nd rfl (Or.inl rfl) pe_bl)
  (C8.pss_cut (HX.ps_tryA (tb := fun W => (tDrop (HX.tBinO "Clock" (sp_Clock_sub K) (WE W) K (tVar 0) (tVar 1)))) rfl rfl sc__law_refused.nd takes0 (fun W pn xe tk _ => (pss_one (ps_expr (HX.pe_binO q_Clock_sub T.bi_Clock_sub (hr.mono (by first | decide | omega)) (fun s => passAt tk s) (pv 0) (pv 1))))) (.plain (ts := fun a cls d => (tAsg (tC (.bl true)) (gName 2))) ⟨rfl, by decide, .inl T.g_OtherDay⟩ (fun a oe cls d pn hz hf => (pss_one (ps_set (i := 2) sc__law_refused.nd rfl (Or.inl rfl) pe_bl))) .nil))
  (pss_one (ps_ret (pv 2))))), ?_⟩)
  · obtain ⟨a, b, da, db, t, u, n, m, rfl, _⟩ := h
    rfl
  obtain ⟨a, b, da, db, t, u, n, m, rfl, ha, hda, h1, hb, hdb, k⟩ := h
  have ⟨_, a1⟩ := ha
  have ⟨_, b1⟩ := hb
  walk_at "go"
  refine ⟨fun σ' H' => ∃ r : Bool, σ' = [some (.ref a), some (.ref b), some (.bl r)] ∧ Same H H' ∧ H' = H ∧ r = decide (m ≠ n), ?_, ?_⟩
  · walk_at "ss"
    refine ⟨a, da, t, n, _, rfl, ha, hda, h1, .inr ⟨b, db, u, m, rfl, hb, hdb, fun h => ?_, fun h => ?_⟩⟩
    · walk_at "ss"
      exact ⟨false, rfl, Same.refl H, rfl, (decide_eq_false (by simpa using h)).symm⟩
    · refine ⟨true, T.em_OtherDay_OtherDay, fun _ x hx => ?_, fun q => nomatch q⟩
      walk_at "ss"
      exact ⟨true, rfl, Same.refl H, rfl, (decide_eq_true h).symm⟩
  · rintro σ' H' ⟨r, rfl, e, rfl, rfl⟩
    walk_at "ss"
    exact k
/-- what the turns keep -/
structure Kept (K : PySem.W.Frag) (H : Hp) (d da lc lk c0 c1 : Addr) (n k0 k1 : Int) : Prop where
  R : Rg H d
  D : DayAt K H da n
  L : H lc = some (.lst [.ref c0, .ref c1])
  N : H lk = some (.lst [.int k0, .int k1])
  C0 : ClockAt K H c0 da (k0 % n)
  C1 : ClockAt K H c1 da (k1 % n)
  ld : lc ≠ d
  nd : lk ≠ d
  cc : c0 ≠ c1
section
variable {H H' : Hp} {d da lc lk c0 c1 : Addr} {n k0 k1 : Int}
theorem Kept.keep (k : Kept K H d da lc lk c0 c1 n k0 k1) (e : Same H H') : Kept K H' d da lc lk c0 c1 n k0 k1 :=
  ⟨k.R.keep e, k.D.keep e, e _ _ k.L, e _ _ k.N, k.C0.keep e, k.C1.keep e, k.ld, k.nd, k.cc⟩
theorem Kept.keepB (k : Kept K H d da lc lk c0 c1 n k0 k1) (e : HX.ExB d H H') (R : Rg H' d) : Kept K H' d da lc lk c0 c1 n k0 k1 :=
  ⟨R, k.D.keepB k.R e, e _ _ k.ld k.L, e _ _ k.nd k.N, k.C0.keepB k.R e, k.C1.keepB k.R e, k.ld, k.nd, k.cc⟩
theorem Kept.apart (k : Kept K H d da lc lk c0 c1 n k0 k1) : lc ≠ lk ∧ lc ≠ c0 ∧ lc ≠ c1 ∧ lk ≠ c0 ∧ lk ≠ c1 ∧ da ≠ c0 ∧ da ≠ c1 ∧ da ≠ lk ∧ d ≠ c0 ∧ d ≠ c1 ∧ d ≠ lk ∧ c0 ≠ lk ∧ c1 ≠ lk := by
  obtain ⟨⟨ns, R, _⟩, ⟨dx, D⟩, L, N, ⟨dx0, C0⟩, ⟨dx1, C1⟩, _, nd, _⟩ := k
  refine ⟨ne_of L N (by simp), ne_of L C0 (by simp), ne_of L C1 (by simp), ne_of N C0 (by simp), ne_of N C1 (by simp), ne_of D C0 (by simp), ne_of D C1 (by simp), ne_of D N (by simp), ne_of R C0 (by simp), ne_of R C1 (by simp), nd.symm, ne_of C0 N (by simp), ne_of C1 N (by simp)⟩
theorem Kept.facts (k : Kept K H d da lc lk c0 c1 n k0 k1) : H lc = some (.lst [.ref c0, .ref c1]) ∧ H lk = some (.lst [.int k0, .int k1]) ∧ (∃ dx, H c0 = some (.ins (He.ga K "Clock") dx [("own_day", .ref da), ("own_time", .int (k0 % n))])) ∧
    (∃ dx, H c1 = some (.ins (He.ga K "Clock") dx [("own_day", .ref da), ("own_time", .int (k1 % n))])) ∧ ∃ dx, H da = some (.ins (He.ga K "Day") dx [("ticks_of_day", .int n)]) := ⟨k.L, k.N, k.C0, k.C1, k.D⟩
theorem Kept.set0 {dx : Addr} {t z : Int} (k : Kept K H d da lc lk c0 c1 n k0 k1) (ht : t = z % n) : Kept K (upd (upd H c0 (.ins (He.ga K "Clock") dx [("own_day", .ref da), ("own_time", .int t)])) lk (.lst [.int z, .int k1])) d da lc lk c0 c1 n z k1 := by
  obtain ⟨a1, a2, a3, a4, a5, a6, a7, a8, a9, a10, a11, a12, a13⟩ := k.apart
  obtain ⟨⟨ns, R, l2⟩, ⟨dx', D⟩, L, N, ⟨dx0, C0⟩, ⟨dx1, C1⟩, ld, nd, cc⟩ := k
  subst ht
  refine ⟨⟨ns, ?_, l2⟩, ⟨dx', ?_⟩, ?_, upd_same, ⟨dx, ?_⟩, ⟨dx1, ?_⟩, ld, nd, cc⟩
  · rw [upd_ne a11, upd_ne a9]; exact R
  · rw [upd_ne a8, upd_ne a6]; exact D
  · rw [upd_ne a1, upd_ne a2]; exact L
  · rw [upd_ne a12]; exact upd_same
  · rw [upd_ne a13, upd_ne cc.symm]; exact C1
theorem Kept.set1 {dx : Addr} {t z : Int} (k : Kept K H d da lc lk c0 c1 n k0 k1) (ht : t = z % n) : Kept K (upd (upd H c1 (.ins (He.ga K "Clock") dx [("own_day", .ref da), ("own_time", .int t)])) lk (.lst [.int k0, .int z])) d da lc lk c0 c1 n k0 z := by
  obtain ⟨a1, a2, a3, a4, a5, a6, a7, a8, a9, a10, a11, a12, a13⟩ := k.apart
  obtain ⟨⟨ns, R, l2⟩, ⟨dx', D⟩, L, N, ⟨dx0, C0⟩, ⟨dx1, C1⟩, ld, nd, cc⟩ := k
  subst ht
  refine ⟨⟨ns, ?_, l2⟩, ⟨dx', ?_⟩, ?_, upd_same, ⟨dx0, ?_⟩, ⟨dx, ?_⟩, ld, nd, cc⟩
  · rw [upd_ne a11, upd_ne a10]; exact R
  · rw [upd_ne a8, upd_ne a7]; exact D
  · rw [upd_ne a1, upd_ne a3]; exact L
  · rw [upd_ne a12, upd_ne cc]; exact C0
  · rw [upd_ne a13]; exact upd_same
end
end
section
variable {P : Program} {w : World} {K : PySem.W.Frag} {mg : Str → Option Value} {base : Heap}
def sp_law (K : PySem.W.Frag) : Sp := fun vs H Q _ => ∃ (a : Addr) (ns : List Int), vs = [.ref a] ∧ SqL K H a (ns.map V.int) ∧ ns.length ≤ 63 ∧ ∀ H', Q (.bl true) H'
theorem ok_law (T : Txt K mg) {fd : FuncData} (F : HX.FdAt K "law" "law" s_law (He.ga K "law") fd) : FnOk P w K mg base (L2.CX P w) 8 (He.ga K "law") fd ["_law_script"] (sp_law K) := by
  have g__law_random := ok__law_random (P := P) (w := w) (base := base) T
  have g__law_below := ok__law_below (P := P) (w := w) (base := base) T
  have g__law_length := ok__law_length (P := P) (w := w) (base := base) T
  have g__law_amount := ok__law_amount (P := P) (w := w) (base := base) T
  have g__law_refused := ok__law_refused (P := P) (w := w) (base := base) T
  have g__law_moved := ok__law_moved (P := P) (w := w) (base := base) T
  have g__law_equal := ok__law_equal (P := P) (w := w) (base := base) T 2
  have k_Day := ok_Day_init (P := P) (w := w) (base := base) T
  have q_Day_call := ok_Day_call (P := P) (w := w) (base := base) T
  have q_Clock_add := ok_Clock_add (P := P) (w := w) (base := base) T
  have q_Clock_radd := ok_Clock_radd (P := P) (w := w) (base := base) T
  have q_Clock_sub := ok_Clock_sub (P := P) (w := w) (base := base) T
  have q_Clock_eq := ok_Clock_eq (P := P) (w := w) (base := base) T
  have p_Clock_time := ok_Clock_time (P := P) (w := w) (base := base) T
  refine HX.fnok_of F sc_law (fun vs H Q E h => ?_) (fun cdv A outer s H vs Q E hr h => ⟨_, PSs.nox (pss_cons (ps_set (i := 1) sc_law.nd rfl (Or.inl rfl) (HX.pe_g g__law_random (hr.mono (by first | decide | omega)) HX.pas0 rfl (pa_cons (pv 0) (pa_cons pe_int pa_nil))))
  (pss_cons (ps_set (i := 2) sc_law.nd rfl (Or.inr rfl) (HX.pe_g g__law_length (hr.mono (by first | decide | omega)) HX.pas0 rfl (pa_cons (pv 1) pa_nil)))
  (pss_cons (ps_set (i := 3) sc_law.nd rfl (Or.inl rfl) (HX.pe_gk k_Day (hr.mono (by first | decide | omega)) HX.pas0 rfl (pa_cons (pv 2) pa_nil)))
  (pss_cons (ps_set (i := 4) sc_law.nd rfl (Or.inl rfl) (pe_lst (pa_cons (HX.pe_gi q_Day_call T.fi_Day (pv 3) (hr.mono (by first | decide | omega)) HX.pas0 (pa_cons pe_int pa_nil)) (pa_cons (HX.pe_gi q_Day_call T.fi_Day (pv 3) (hr.mono (by first | decide | omega)) HX.pas0 (pa_cons pe_int pa_nil)) pa_nil))))
  (pss_cons (ps_set (i := 5) sc_law.nd rfl (Or.inl rfl) (pe_lst (pa_cons pe_int (pa_cons pe_int pa_nil))))
  (pss_cons (ps_for PassesOwn.never rfl (pi_range1 rfl T.n_range (pa_cons (HX.pe_g g__law_below (hr.mono (by first | decide | omega)) HX.pas0 rfl (pa_cons (pv 1) (pa_cons pe_int pa_nil))) pa_nil)) (pg_name (i := 6) sc_law.nd rfl (Or.inl rfl)) (pss_cons (ps_set (i := 7) sc_law.nd rfl (Or.inl rfl) (HX.pe_g g__law_below (hr.mono (by first | decide | omega)) HX.pas0 rfl (pa_cons (pv 1) (pa_cons pe_int pa_nil))))
  (pss_cons (ps_set (i := 8) sc_law.nd rfl (Or.inl rfl) (HX.pe_g g__law_amount (hr.mono (by first | decide | omega)) HX.pas0 rfl (pa_cons (pv 1) (pa_cons (pv 2) pa_nil))))
  (pss_cons (ps_set (i := 9) sc_law.nd rfl (Or.inl rfl) (HX.pe_g g__law_below (hr.mono (by first | decide | omega)) HX.pas0 rfl (pa_cons (pv 1) (pa_cons pe_int pa_nil))))
  (C8.pss_cut (ps_if (pt_cmpR op_eq (pv 9) pe_int (nomark _)) (pss_cons (ps_set (i := 10) sc_law.nd rfl (Or.inl rfl) (pe_lst (pa_cons (HX.pe_gp p_Clock_time (HX.pe_binO q_Clock_add T.bi_Clock_add (hr.mono (by first | decide | omega)) HX.pas0 (pe_ix ix_list (pv 4) (pv 7) (fun _ _ => rfl)) (pv 8)) (hr.mono (by first | decide | omega)) rfl) (pa_cons (HX.pe_gp p_Clock_time (HX.pe_radd q_Clock_radd T.bi_Clock_add T.me_Clock_add.at_ (hr.mono (by first | decide | omega)) HX.pas0 (pv 8) (pe_ix ix_list (pv 4) (pv 7) (fun _ _ => rfl))) (hr.mono (by first | decide | omega)) rfl) pa_nil))))
  (pss_one (ps_if (pt_not (pt_val (HX.pe_g g__law_equal (hr.mono (by first | decide | omega)) HX.pas0 rfl (pa_cons (pv 10) (pa_cons (pe_op op_rep (pe_lst (pa_cons (pe_op op_modN (pe_op op_add (pe_ix ix_list (pv 5) (pv 7) (fun _ _ => rfl)) (pv 8)) (pv 2)) pa_nil)) pe_int) pa_nil))))) (pss_one (ps_ret pe_bl)) pss_nil))) (pss_one (ps_if (pt_cmpR op_eq (pv 9) pe_int (nomark _)) (pss_one (ps_if (pt_not (pt_val (HX.pe_g g__law_equal (hr.mono (by first | decide | omega)) HX.pas0 rfl (pa_cons (HX.pe_gp p_Clock_time (HX.pe_binO q_Clock_sub T.bi_Clock_sub (hr.mono (by first | decide | omega)) HX.pas0 (pe_ix ix_list (pv 4) (pv 7) (fun _ _ => rfl)) (pv 8)) (hr.mono (by first | decide | omega)) rfl) (pa_cons (pe_op op_modN (pe_op op_sub (pe_ix ix_list (pv 5) (pv 7) (fun _ _ => rfl)) (pv 8)) (pv 2)) pa_nil))))) (pss_one (ps_ret pe_bl)) pss_nil)) (pss_cons (ps_set (i := 11) sc_law.nd rfl (Or.inl rfl) (HX.pe_g g__law_moved (hr.mono (by first | decide | omega)) HX.pas0 rfl (pa_cons (pe_ix ix_list (pv 4) (pv 7) (fun _ _ => rfl)) (pa_cons (pv 8) (pa_cons (pe_cmpR op_eq (pv 9) pe_int (nomark _)) pa_nil)))))
  (pss_cons (ps_asg (pe_op op_add (pe_ix ix_list (pv 5) (pv 7) (fun _ _ => rfl)) (pe_op op_mul (pv 8) (pe_op op_sub pe_int (pe_op op_mul pe_int (pe_callTy HX.call_intB rfl T.n_int (by decide +kernel) (pa_cons (pe_cmpR op_eq (pv 9) pe_int (nomark _)) pa_nil)))))) (pg_sub (pv 5) (pv 7) set_list))
  (pss_one (ps_if (PW.pt (pw_or (pt_not (pt_cmpR (HX.op_eqO q_Clock_eq (hr.mono (by first | decide | omega))) (pv 11) (pe_ix ix_list (pv 4) (pv 7) (fun _ _ => rfl)) (nomark _))) (pw_or1 (pt_not (pt_val (HX.pe_g g__law_equal (hr.mono (by first | decide | omega)) HX.pas0 rfl (pa_cons (HX.pe_gp p_Clock_time (pv 11) (hr.mono (by first | decide | omega)) rfl) (pa_cons (pe_op op_modN (pe_ix ix_list (pv 5) (pv 7) (fun _ _ => rfl)) (pv 2)) pa_nil)))))))) (pss_one (ps_ret pe_bl)) pss_nil)))))))
  (pss_cons (ps_if (pt_not (pt_val (HX.pe_g g__law_equal (hr.mono (by first | decide | omega)) HX.pas0 rfl (pa_cons (pe_lc (own := [("_law_clock", 12)]) (te := (HX.tPropS (He.ga K "Clock") (sp_Clock_time K) (tVar 12))) rfl sc_law.nd (pi_list (pv 4)) (blkOk_by (own := [("_law_clock", 12)]) (N := ["_law_script", "_law_d", "_law_size", "_law_day", "_law_clocks", "_law_count", "_law_turn", "_law_at", "_law_amount_here", "_law_chance", "_law_sums", "_law_moved_here", "_law_clock", "_law_number"]) (sc := defScope s_law) (by decide +kernel)) (fun _ _ _ _ _ => (pg_name (i := 12) sc_law.nd rfl (Or.inl rfl))) (fun _ _ _ _ _ => pts_nil) (fun _ _ _ _ _ => (HX.pe_gp p_Clock_time (pv 12) (hr.mono (by first | decide | omega)) rfl))) (pa_cons (pe_lc (own := [("_law_number", 13)]) (te := (tOp (rI (fun _ j => j ≠ 0) fun i j => .int (i.fmod j)) (tVar 13) (tVar 2))) rfl sc_law.nd (pi_list (pv 5)) (blkOk_by (own := [("_law_number", 13)]) (N := ["_law_script", "_law_d", "_law_size", "_law_day", "_law_clocks", "_law_count", "_law_turn", "_law_at", "_law_amount_here", "_law_chance", "_law_sums", "_law_moved_here", "_law_clock", "_law_number"]) (sc := defScope s_law) (by decide +kernel)) (fun _ _ _ _ _ => (pg_name (i := 13) sc_law.nd rfl (Or.inl rfl))) (fun _ _ _ _ _ => pts_nil) (fun _ _ _ _ _ => (pe_op op_modN (pv 13) (pv 2)))) pa_nil))))) (pss_one (ps_ret pe_bl)) pss_nil)
  (pss_one (ps_if (pt_not (pt_val (HX.pe_g g__law_equal (hr.mono (by first | decide | omega)) HX.pas0 rfl (pa_cons (HX.pe_binO q_Clock_sub T.bi_Clock_sub (hr.mono (by first | decide | omega)) HX.pas0 (pe_ix ix_list (pv 4) pe_int (fun _ _ => rfl)) (pe_ix ix_list (pv 4) pe_int (fun _ _ => rfl))) (pa_cons (pe_op op_modN (pe_op op_sub (pe_ix ix_list (pv 5) pe_int (fun _ _ => rfl)) (pe_ix ix_list (pv 5) pe_int (fun _ _ => rfl))) (pv 2)) pa_nil))))) (pss_one (ps_ret pe_bl)) pss_nil))))))))
  (pss_one (ps_ret (pe_and (HX.pe_g g__law_refused (hr.mono (by first | decide | omega)) HX.pas0 rfl (pa_cons (pe_ix ix_list (pv 4) pe_int (fun _ _ => rfl)) (pa_cons (HX.pe_gi q_Day_call T.fi_Day (HX.pe_gk k_Day (hr.mono (by first | decide | omega)) HX.pas0 rfl (pa_cons (pe_op op_add (pv 2) pe_int) pa_nil)) (hr.mono (by first | decide | omega)) HX.pas0 (pa_cons pe_int pa_nil)) pa_nil))) (pe_one (pe_not (HX.pe_g g__law_refused (hr.mono (by first | decide | omega)) HX.pas0 rfl (pa_cons (pe_ix ix_list (pv 4) pe_int (fun _ _ => rfl)) (pa_cons (HX.pe_gi q_Day_call T.fi_Day (HX.pe_gk k_Day (hr.mono (by first | decide | omega)) HX.pas0 rfl (pa_cons (pv 2) pa_nil)) (hr.mono (by first | decide | omega)) HX.pas0 (pa_cons pe_int pa_nil)) pa_nil)))))))))))))), ?_⟩)
  · obtain ⟨a, ns, rfl, _⟩ := h
    rfl
  obtain ⟨a, ns, rfl, hS, h63, k⟩ := h
  walk_at "go"
  refine ⟨a, ns, 2, rfl, hS, h63, fun d H1 _ s1 R1 => ?_⟩
  walk_at "ss"
  refine ⟨d, rfl, R1, fun n H2 n1 n2 e2 R2 => ?_⟩
  walk_at "ss"
  intro x dx hx hd _
  refine day_made n1 hx hd fun da H3 _ e3 D3 => ?_
  have R3 := R2.keep e3
  have ⟨_, o3⟩ := D3
  walk_at "ss"
  refine day_called D3 n1 fun c0 H4 _ e4 C0 => ?_
  have R4 := R3.keep e4
  have D4 := D3.keep e4
  have ⟨_, o4⟩ := D4
  walk_at "ss"
  refine day_called D4 n1 fun c1 H5 f5 e5 C1 => ?_
  have R5 := R4.keep e5
  have D5 := D4.keep e5
  have C05 := C0.keep e5
  have cc : c0 ≠ c1 := by
    obtain ⟨_, h⟩ := C0
    exact ne_of_none h f5
  walk_at "ss"
  intro lc hlc
  have e6 := HX.Same.new (o := .lst [V.ref c0, V.ref c1]) hlc
  walk_at "ss"
  intro lk hlk
  have e7 := HX.Same.new (o := .lst [V.int 0, V.int 5]) hlk
  have K0 : Kept K (upd (upd H5 lc (.lst [V.ref c0, V.ref c1])) lk (.lst [V.int 0, V.int 5])) d da lc lk c0 c1 n 0 5 :=
    ⟨(R5.keep e6).keep e7, (D5.keep e6).keep e7, e7 _ _ upd_same, upd_same, (C05.keep e6).keep e7, (C1.keep e6).keep e7, R5.ne hlc, (R5.keep e6).ne hlk, cc⟩
  generalize upd (upd H5 lc (.lst [V.ref c0, V.ref c1])) lk (.lst [V.int 0, V.int 5]) = Ha at K0
  walk_at "ss"
  refine HX.z_forR ?_ (HX.mono_cons (HX.mono_callS below_mono (HX.mono_cons HX.mono_var (HX.mono_cons HX.mono_c HX.mono_nil))) HX.mono_nil)
  walk_at "ss"
  refine ⟨d, 11, rfl, by omega, by omega, K0.R, fun r Hb r0 r1 eb Rb => ?_⟩
  walk_at "ss"
  obtain ⟨m, rfl⟩ : ∃ m : Nat, r = m := ⟨r.toNat, by omega⟩
  refine ⟨m, rfl, by omega, fun _ σ' H' => ∃ (k0 k1 : Int) (v6 v7 v8 v9 v10 v11 : Option V), Kept K H' d da lc lk c0 c1 n k0 k1 ∧ σ' = [some (.ref a), some (.ref d), some (.int n), some (.ref da), some (.ref lc), some (.ref lk), v6, v7, v8, v9, v10, v11, none, none], ⟨_, _, _, _, _, _, _, _, K0.keepB eb Rb, rfl⟩, ?_, ?_⟩
  · rintro i σ' H1 _ ⟨k0, k1, v6, v7, v8, v9, v10, v11, K1, rfl⟩
    walk_at "ss"
    refine ⟨d, 2, rfl, by omega, by omega, K1.R, fun r H2 r0 r1 e2 R2 => ?_⟩
    have K2 := K1.keepB e2 R2
    walk_at "ss"
    refine ⟨d, n, rfl, n1, R2, fun x H3 x1 x2 e3 R3 => ?_⟩
    have K3 := K2.keepB e3 R3
    walk_at "ss"
    refine ⟨d, 4, rfl, by omega, by omega, R3, fun ch H4 c0' c1' e4 R4 => ?_⟩
    have K4 := K3.keepB e4 R4
    walk_at "ss"
    refine ⟨fun σ' H' => ∃ (k0 k1 : Int) (v6 v7 v8 v9 v10 v11 : Option V), Kept K H' d da lc lk c0 c1 n k0 k1 ∧ σ' = [some (.ref a), some (.ref d), some (.int n), some (.ref da), some (.ref lc), some (.ref lk), v6, v7, v8, v9, v10, v11, none, none], ?_, ?_⟩
    · have hr : r = 0 ∨ r = 1 := by omega
      obtain ⟨L4, N4, ⟨dz, z4⟩, ⟨dy, y4⟩, ⟨_, o4⟩⟩ := K4.facts
      walk_at "ss"
      refine HX.z_d2 (fun h => ?_) (fun h => ?_)
      · rcases hr with rfl | rfl
        · walk_at "ss"
          refine ⟨c0, da, _, n, x, rfl, K4.C0, K4.D, n1, fun p H5 f5 e5 C5 => ?_⟩
          have K5 := K4.keep e5
          obtain ⟨L5, N5, ⟨_, z5⟩, ⟨_, y5⟩, ⟨_, o5⟩⟩ := K5.facts
          have ⟨_, p5⟩ := C5
          walk_at "ss"
          refine ⟨p, da, _, rfl, C5, ?_⟩
          walk_at "ss"
          refine ⟨c0, da, _, n, x, rfl, K5.C0, K5.D, n1, fun q H6 f6 e6 C6 => ?_⟩
          have K6 := K5.keep e6
          obtain ⟨L6, N6, ⟨_, z6⟩, ⟨_, y6⟩, ⟨_, o6⟩⟩ := K6.facts
          have ⟨_, q6⟩ := C6
          walk_at "ss"
          refine ⟨q, da, _, rfl, C6, ?_⟩
          walk_at "ss"
          intro l7 hl7
          have e7 := HX.Same.new (o := .lst [V.int ((k0 % n + x) % n), V.int ((k0 % n + x) % n)]) hl7
          have K7 := K6.keep e7
          obtain ⟨L7, N7, ⟨_, z7⟩, ⟨_, y7⟩, ⟨_, o7⟩⟩ := K7.facts
          walk_at "ss"
          intro l8 hl8
          have e8 := HX.Same.new (o := .lst [V.int ((k0 + x).fmod n)]) hl8
          walk_at "ss"
          intro l9 hl9
          have e9 := HX.Same.new (o := .lst (List.replicate (Int.toNat 2) [V.int ((k0 + x).fmod n)]).flatten) hl9
          have K9 := (K7.keep e8).keep e9
          have w1 : (k0 % n + x) % n = (k0 + x).fmod n := by rw [HX.fm_eq (by omega), Int.emod_add_emod]
          walk_at "ss"
          refine ⟨_, _, rfl, .inr ⟨l7, l9, _, _, rfl, rfl, .inl ⟨SqL.of (e9 _ _ (e8 _ _ upd_same)), SqL.of upd_same⟩, rfl, by simp, ?_⟩, fun H10 e10 => ?_⟩
          · rw [w1]
            rintro (_ | _ | j) u v hu hv
            · cases hu; cases hv; exact eqs_flat rfl 0
            · cases hu; cases hv; exact eqs_flat rfl 0
            · cases hu
          have K10 := K9.keep e10
          walk_at "ss"
          exact ⟨k0, k1, _, _, _, _, _, _, K10, rfl⟩
        · walk_at "ss"
          refine ⟨c1, da, _, n, x, rfl, K4.C1, K4.D, n1, fun p H5 f5 e5 C5 => ?_⟩
          have K5 := K4.keep e5
          obtain ⟨L5, N5, ⟨_, z5⟩, ⟨_, y5⟩, ⟨_, o5⟩⟩ := K5.facts
          have ⟨_, p5⟩ := C5
          walk_at "ss"
          refine ⟨p, da, _, rfl, C5, ?_⟩
          walk_at "ss"
          refine ⟨c1, da, _, n, x, rfl, K5.C1, K5.D, n1, fun q H6 f6 e6 C6 => ?_⟩
          have K6 := K5.keep e6
          obtain ⟨L6, N6, ⟨_, z6⟩, ⟨_, y6⟩, ⟨_, o6⟩⟩ := K6.facts
          have ⟨_, q6⟩ := C6
          walk_at "ss"
          refine ⟨q, da, _, rfl, C6, ?_⟩
          walk_at "ss"
          intro l7 hl7
          have e7 := HX.Same.new (o := .lst [V.int ((k1 % n + x) % n), V.int ((k1 % n + x) % n)]) hl7
          have K7 := K6.keep e7
          obtain ⟨L7, N7, ⟨_, z7⟩, ⟨_, y7⟩, ⟨_, o7⟩⟩ := K7.facts
          walk_at "ss"
          intro l8 hl8
          have e8 := HX.Same.new (o := .lst [V.int ((k1 + x).fmod n)]) hl8
          walk_at "ss"
          intro l9 hl9
          have e9 := HX.Same.new (o := .lst (List.replicate (Int.toNat 2) [V.int ((k1 + x).fmod n)]).flatten) hl9
          have K9 := (K7.keep e8).keep e9
          have w1 : (k1 % n + x) % n = (k1 + x).fmod n := by rw [HX.fm_eq (by omega), Int.emod_add_emod]
          walk_at "ss"
          refine ⟨_, _, rfl, .inr ⟨l7, l9, _, _, rfl, rfl, .inl ⟨SqL.of (e9 _ _ (e8 _ _ upd_same)), SqL.of upd_same⟩, rfl, by simp, ?_⟩, fun H10 e10 => ?_⟩
          · rw [w1]
            rintro (_ | _ | j) u v hu hv
            · cases hu; cases hv; exact eqs_flat rfl 0
            · cases hu; cases hv; exact eqs_flat rfl 0
            · cases hu
          have K10 := K9.keep e10
          walk_at "ss"
          exact ⟨k0, k1, _, _, _, _, _, _, K10, rfl⟩
      · walk_at "ss"
        refine HX.z_d2 (fun h => ?_) (fun h => ?_)
        · rcases hr with rfl | rfl
          · walk_at "ss"
            refine ⟨c0, da, _, n, _, rfl, K4.C0, K4.D, n1, .inl ⟨x, rfl, fun p H5 f5 e5 C5 => ?_⟩⟩
            have K5 := K4.keep e5
            obtain ⟨L5, N5, ⟨_, z5⟩, ⟨_, y5⟩, ⟨_, o5⟩⟩ := K5.facts
            have ⟨_, p5⟩ := C5
            walk_at "ss"
            refine ⟨p, da, _, rfl, C5, ?_⟩
            walk_at "ss"
            have w1 : (k0 % n - x) % n = (k0 - x).fmod n := by rw [HX.fm_eq (by omega), Int.emod_sub_emod]
            rw [w1]
            refine ⟨_, _, rfl, eqs_flat rfl 1, fun H10 e10 => ?_⟩
            have K10 := K5.keep e10
            walk_at "ss"
            exact ⟨k0, k1, _, _, _, _, _, _, K10, rfl⟩
          · walk_at "ss"
            refine ⟨c1, da, _, n, _, rfl, K4.C1, K4.D, n1, .inl ⟨x, rfl, fun p H5 f5 e5 C5 => ?_⟩⟩
            have K5 := K4.keep e5
            obtain ⟨L5, N5, ⟨_, z5⟩, ⟨_, y5⟩, ⟨_, o5⟩⟩ := K5.facts
            have ⟨_, p5⟩ := C5
            walk_at "ss"
            refine ⟨p, da, _, rfl, C5, ?_⟩
            walk_at "ss"
            have w1 : (k1 % n - x) % n = (k1 - x).fmod n := by rw [HX.fm_eq (by omega), Int.emod_sub_emod]
            rw [w1]
            refine ⟨_, _, rfl, eqs_flat rfl 1, fun H10 e10 => ?_⟩
            have K10 := K5.keep e10
            walk_at "ss"
            exact ⟨k0, k1, _, _, _, _, _, _, K10, rfl⟩
        · rcases hr with rfl | rfl
          · obtain ⟨a1, a2, a3, a4, a5, a6, a7, a8, a9, a10, a11, a12, a13⟩ := K4.apart
            have cc1 := cc.symm
            have go : ∀ b : Bool, decide (V.int ch = V.int 3) = b → ((k0 % n + (if b = true then -x else x)) % n) = (k0 + x * (1 - 2 * (if b = true then 1 else 0))) % n := fun b _ => by
              cases b
              · show (k0 % n + x) % n = _
                rw [Int.emod_add_emod]; congr 1; simp
              · show (k0 % n + -x) % n = _
                rw [Int.emod_add_emod]; congr 1; show _ = k0 + x * (1 - 2 * 1); omega
            generalize hb : decide (V.int ch = V.int 3) = b at go
            have ht := go b rfl
            walk_at "ss"
            rw [hb]
            refine ⟨c0, da, _, _, n, x, b, rfl, z4, K4.D, n1, ?_⟩
            have Kp := Kept.set0 (dx := dz) K4 ht
            walk_at "ss"
            rw [hb]
            walk_at "ss"
            refine clock_eq_clock Kp.C0 Kp.D Kp.C0 Kp.D ?_
            rw [decide_eq_true rfl, decide_eq_true rfl, Bool.true_and]
            walk_at "ss"
            refine ⟨c0, da, _, rfl, Kp.C0, ?_⟩
            walk_at "ss"
            rw [HX.fm_eq (by omega)]
            refine ⟨_, _, rfl, eqs_flat rfl 1, fun H10 e10 => ?_⟩
            walk_at "ss"
            exact ⟨_, _, _, _, _, _, _, _, Kp.keep e10, rfl⟩
          · obtain ⟨a1, a2, a3, a4, a5, a6, a7, a8, a9, a10, a11, a12, a13⟩ := K4.apart
            have cc1 := cc.symm
            have go : ∀ b : Bool, decide (V.int ch = V.int 3) = b → ((k1 % n + (if b = true then -x else x)) % n) = (k1 + x * (1 - 2 * (if b = true then 1 else 0))) % n := fun b _ => by
              cases b
              · show (k1 % n + x) % n = _
                rw [Int.emod_add_emod]; congr 1; simp
              · show (k1 % n + -x) % n = _
                rw [Int.emod_add_emod]; congr 1; show _ = k1 + x * (1 - 2 * 1); omega
            generalize hb : decide (V.int ch = V.int 3) = b at go
            have ht := go b rfl
            walk_at "ss"
            rw [hb]
            refine ⟨c1, da, _, _, n, x, b, rfl, y4, K4.D, n1, ?_⟩
            have Kp := Kept.set1 (dx := dy) K4 ht
            walk_at "ss"
            rw [hb]
            walk_at "ss"
            refine clock_eq_clock Kp.C1 Kp.D Kp.C1 Kp.D ?_
            rw [decide_eq_true rfl, decide_eq_true rfl, Bool.true_and]
            walk_at "ss"
            refine ⟨c1, da, _, rfl, Kp.C1, ?_⟩
            walk_at "ss"
            rw [HX.fm_eq (by omega)]
            refine ⟨_, _, rfl, eqs_flat rfl 1, fun H10 e10 => ?_⟩
            walk_at "ss"
            exact ⟨_, _, _, _, _, _, _, _, Kp.keep e10, rfl⟩
    · rintro σ' H5 ⟨k0, k1, v6, v7, v8, v9, v10, v11, K5, rfl⟩
      walk_at "ss"
      refine HX.z_lcLv (a := lc) rfl (SqL.of K5.L) fun q hq => ⟨fun i H' => Same H5 H' ∧ H' q = some (.lst ([V.int (k0 % n), V.int (k1 % n)].take i)), ⟨HX.Same.new hq, upd_same⟩, ?_, ?_, ?_⟩
      · rintro i H' _ ⟨e, _⟩
        exact SqL.of (e _ _ K5.L)
      · rintro (_ | _ | i) x H' hx ⟨e, hz⟩
        · cases hx
          obtain ⟨L6, N6, ⟨_, z6⟩, ⟨_, y6⟩, ⟨_, o6⟩⟩ := (K5.keep e).facts
          walk_at "ss"
          refine ⟨rfl, ?_⟩
          walk_at "ss"
          refine ⟨c0, da, _, rfl, (K5.keep e).C0, ?_⟩
          exact ⟨_, hz, HX.sz_lt (by simp), HX.Same.app e hq, upd_same⟩
        · cases hx
          obtain ⟨L6, N6, ⟨_, z6⟩, ⟨_, y6⟩, ⟨_, o6⟩⟩ := (K5.keep e).facts
          walk_at "ss"
          refine ⟨rfl, ?_⟩
          walk_at "ss"
          refine ⟨c1, da, _, rfl, (K5.keep e).C1, ?_⟩
          exact ⟨_, hz, HX.sz_lt (by simp), HX.Same.app e hq, upd_same⟩
        · cases hx
      · rintro H6 ⟨e6, hz6⟩
        have K6 := K5.keep e6
        walk_at "ss"
        refine HX.z_lcLv (a := lk) rfl (SqL.of K6.N) fun q2 hq2 => ⟨fun i H' => Same H6 H' ∧ H' q2 = some (.lst ([V.int (k0 % n), V.int (k1 % n)].take i)), ⟨HX.Same.new hq2, upd_same⟩, ?_, ?_, ?_⟩
        · rintro i H' _ ⟨e, _⟩
          exact SqL.of (e _ _ K6.N)
        · rintro (_ | _ | i) x H' hx ⟨e, hz⟩
          · cases hx
            walk_at "ss"
            refine ⟨rfl, ?_⟩
            walk_at "ss"
            rw [HX.fm_eq (by omega)]
            exact ⟨_, hz, HX.sz_lt (by simp), HX.Same.app e hq2, upd_same⟩
          · cases hx
            walk_at "ss"
            refine ⟨rfl, ?_⟩
            walk_at "ss"
            rw [HX.fm_eq (by omega)]
            exact ⟨_, hz, HX.sz_lt (by simp), HX.Same.app e hq2, upd_same⟩
          · cases hx
        · rintro H7 ⟨e7, hz7⟩
          have K7 := K6.keep e7
          have hz6' := e7 _ _ hz6
          walk_at "ss"
          refine ⟨_, _, rfl, .inr ⟨q, q2, _, _, rfl, rfl, .inl ⟨SqL.of hz6', SqL.of hz7⟩, rfl, by simp, ?_⟩, fun H8 e8 => ?_⟩
          · rintro (_ | _ | j) u v hu hv
            · cases hu; cases hv; exact eqs_flat rfl 0
            · cases hu; cases hv; exact eqs_flat rfl 0
            · cases hu
          have K8 := K7.keep e8
          obtain ⟨L8, N8, ⟨_, z8⟩, ⟨_, y8⟩, ⟨_, o8⟩⟩ := K8.facts
          walk_at "ss"
          refine ⟨c0, da, _, n, _, rfl, K8.C0, K8.D, n1, .inr ⟨c1, da, _, n, rfl, K8.C1, K8.D, fun _ => ?_, fun h => absurd rfl h⟩⟩
          walk_at "ss"
          have w1 : (k0 % n - k1 % n) % n = (k0 - k1).fmod n := by rw [HX.fm_eq (by omega), ← Int.sub_emod]
          rw [w1]
          refine ⟨_, _, rfl, eqs_flat rfl 1, fun H10 e10 => ?_⟩
          walk_at "ss"
          exact ⟨k0, k1, _, _, _, _, _, _, K8.keep e10, rfl⟩
  · rintro σ' H1 ⟨k0, k1, v6, v7, v8, v9, v10, v11, K1, rfl⟩
    obtain ⟨L1, N1, ⟨_, z1⟩, ⟨_, y1⟩, ⟨_, o1⟩⟩ := K1.facts
    walk_at "ss"
    intro x2 dx2 hx2 hd2 _
    refine day_made (by omega) hx2 hd2 fun p2 H2 _ e2 P2 => ?_
    have K2 := K1.keep e2
    have ⟨_, p2'⟩ := P2
    walk_at "ss"
    refine day_called P2 (by omega) fun p3 H3 _ e3 P3 => ?_
    have K3 := K2.keep e3
    walk_at "ss"
    refine ⟨c0, p3, da, p2, _, _, n, n + 1, rfl, K3.C0, K3.D, n1, P3, P2.keep e3, ?_⟩
    rw [decide_eq_true (show n + 1 ≠ n by omega)]
    obtain ⟨L3, N3, ⟨_, z3⟩, ⟨_, y3⟩, ⟨_, o3⟩⟩ := K3.facts
    walk_at "ss"
    intro x4 dx4 hx4 hd4 _
    refine day_made n1 hx4 hd4 fun p4 H4 _ e4 P4 => ?_
    have K4 := K3.keep e4
    have ⟨_, p4'⟩ := P4
    walk_at "ss"
    refine day_called P4 n1 fun p5 H5 _ e5 P5 => ?_
    have K5 := K4.keep e5
    walk_at "ss"
    refine ⟨c0, p5, da, p4, _, _, n, n, rfl, K5.C0, K5.D, n1, P5, P4.keep e5, ?_⟩
    rw [decide_eq_false (fun h => h rfl)]
    walk_at "ss"
    exact k _
end

end LW
namespace LW
open PySem PySem.Spec PyProof.Rows L2
def hfa0 : List (PySem.W.Frag → Bool) := [fun K => decide (PySem.W.kitOne K (.ref (He.ga K "Day")) (.ref (He.ga K "Day")) = some true),
  fun K => decide (PySem.W.kitOne K (.type "int") (.ref (He.ga K "Day")) = some false),
  fun K => decide (PySem.W.kitOne K (.ref (He.ga K "Clock")) (.ref (He.ga K "Clock")) = some true),
  fun K => decide (PySem.W.kitOne K (.type "int") (.ref (He.ga K "Clock")) = some false),
  fun K => HX.inB K "Day",
  fun K => HX.inB K "Clock",
  fun K => (He.Fa.noat "Day" "ticks_of_day").ok K,
  fun K => (He.Fa.cls "Day").ok K,
  fun K => (He.Fa.noat "Clock" "own_day").ok K,
  fun K => (He.Fa.cls "Clock").ok K,
  fun K => (He.Fa.noat "Clock" "own_time").ok K,
  fun K => (He.Fa.free "int").ok K,
  fun K => (He.Fa.free "len").ok K,
  fun K => (He.Fa.free "abs").ok K,
  fun K => (He.Fa.free "isinstance").ok K,
  fun K => (He.Fa.free "bool").ok K,
  fun K => ((He.Fa.glo "InvalidNumber").ok K && (He.Fa.exc "InvalidNumber").ok K),
  fun K => ((He.Fa.glo "InvalidLength").ok K && (He.Fa.exc "InvalidLength").ok K),
  fun K => (He.Fa.glo "Day").ok K,
  fun K => (He.Fa.glo "Clock").ok K,
  fun K => ((He.Fa.glo "OtherDay").ok K && (He.Fa.exc "OtherDay").ok K),
  fun K => (He.Fa.free "all").ok K,
  fun K => (He.Fa.free "range").ok K,
  fun K => (He.Fa.free "list").ok K,
  fun K => (He.Fa.free "tuple").ok K,
  fun K => (He.Fa.free "dict").ok K,
  fun K => (He.Fa.free "str").ok K,
  fun K => decide (PySem.W.exmOne K (.ref (He.ga K "OtherDay")) (.ref (He.ga K "OtherDay")) = some true),
  fun K => PySem.W.selfFirst K (He.ga K "Clock"),
  fun K => HX.binB K "Clock" "sub"]
def hfa1 : List (PySem.W.Frag → Bool) := [fun K => (He.Fa.glo "OtherDay").ok K,
  fun K => PySem.W.fnIn K (He.ma K (He.ga K "Day") "__call__"),
  fun K => HX.binB K "Clock" "add",
  fun K => (He.Fa.glo "_law_below").ok K,
  fun K => (He.Fa.glo "_law_random").ok K,
  fun K => (He.Fa.glo "_law_pick").ok K,
  fun K => (He.Fa.glo "_law_length").ok K,
  fun K => (He.Fa.glo "_law_amount").ok K,
  fun K => (He.Fa.glo "is_integer").ok K,
  fun K => (He.Fa.glo "need_integer").ok K,
  fun K => (He.Fa.mkr "Day").ok K,
  fun K => HX.propB K "Day" "length",
  fun K => (He.Fa.mkr "Clock").ok K,
  fun K => HX.propB K "Clock" "day",
  fun K => HX.propB K "Clock" "time",
  fun K => (He.Fa.meth "Day" "__call__").ok K,
  fun K => (He.Fa.meth "Day" "__eq__").ok K,
  fun K => (He.Fa.meth "Clock" "__eq__").ok K,
  fun K => (He.Fa.meth "Clock" "__add__").ok K,
  fun K => (He.Fa.meth "Clock" "__radd__").ok K,
  fun K => (He.Fa.meth "Clock" "__sub__").ok K,
  fun K => (He.Fa.meth "Clock" "__iadd__").ok K,
  fun K => (He.Fa.meth "Clock" "__isub__").ok K,
  fun K => (He.Fa.glo "_law_equal").ok K,
  fun K => (He.Fa.glo "_law_moved").ok K,
  fun K => (He.Fa.glo "_law_refused").ok K,
  fun K => (He.Fa.glo "law").ok K]
def hfa : List (PySem.W.Frag → Bool) := hfa0 ++ hfa1
def hfn0 : List HX.DefX := [⟨fun K => He.ga K "_law_below", "_law_below", "_law_below", s__law_below⟩,
  ⟨fun K => He.ga K "_law_random", "_law_random", "_law_random", s__law_random⟩,
  ⟨fun K => He.ga K "_law_pick", "_law_pick", "_law_pick", s__law_pick⟩,
  ⟨fun K => He.ga K "_law_length", "_law_length", "_law_length", s__law_length⟩,
  ⟨fun K => He.ga K "_law_amount", "_law_amount", "_law_amount", s__law_amount⟩,
  ⟨fun K => He.ga K "is_integer", "is_integer", "is_integer", s_is_integer⟩,
  ⟨fun K => He.ga K "need_integer", "need_integer", "need_integer", s_need_integer⟩,
  ⟨fun K => He.ma K (He.ga K "Day") "__init__", "__init__", "Day.__init__", s_Day_init⟩,
  ⟨fun K => HX.pg K (He.ga K "Day") "length", "length", "Day.length", s_Day_length⟩,
  ⟨fun K => He.ma K (He.ga K "Clock") "__init__", "__init__", "Clock.__init__", s_Clock_init⟩,
  ⟨fun K => HX.pg K (He.ga K "Clock") "day", "day", "Clock.day", s_Clock_day⟩,
  ⟨fun K => HX.pg K (He.ga K "Clock") "time", "time", "Clock.time", s_Clock_time⟩,
  ⟨fun K => He.ma K (He.ga K "Day") "__call__", "__call__", "Day.__call__", s_Day_call⟩,
  ⟨fun K => He.ma K (He.ga K "Day") "__eq__", "__eq__", "Day.__eq__", s_Day_eq⟩,
  ⟨fun K => He.ma K (He.ga K "Clock") "__eq__", "__eq__", "Clock.__eq__", s_Clock_eq⟩,
  ⟨fun K => He.ma K (He.ga K "Clock") "__add__", "__add__", "Clock.__add__", s_Clock_add⟩,
  ⟨fun K => He.ma K (He.ga K "Clock") "__radd__", "__radd__", "Clock.__radd__", s_Clock_radd⟩,
  ⟨fun K => He.ma K (He.ga K "Clock") "__sub__", "__sub__", "Clock.__sub__", s_Clock_sub⟩,
  ⟨fun K => He.ma K (He.ga K "Clock") "__iadd__", "__iadd__", "Clock.__iadd__", s_Clock_iadd⟩,
  ⟨fun K => He.ma K (He.ga K "Clock") "__isub__", "__isub__", "Clock.__isub__", s_Clock_isub⟩,
  ⟨fun K => He.ga K "_law_equal", "_law_equal", "_law_equal", s__law_equal⟩,
  ⟨fun K => He.ga K "_law_moved", "_law_moved", "_law_moved", s__law_moved⟩,
  ⟨fun K => He.ga K "_law_refused", "_law_refused", "_law_refused", s__law_refused⟩,
  ⟨fun K => He.ga K "law", "law", "law", s_law⟩]
def hfn : List HX.DefX := hfn0
def hnm0 : List Str := ["_wall",
  "ClockError",
  "InvalidLength",
  "InvalidNumber",
  "OtherDay",
  "is_integer",
  "need_integer",
  "Day",
  "Clock",
  "_law_random",
  "_law_below",
  "_law_pick",
  "_law_equal",
  "_law_length",
  "_law_amount",
  "_law_moved",
  "_law_refused"]
def hnm : List Str := hnm0
abbrev Rw : PySem.W.OpenRow := PySem.W.OpenLaw.row PySem.Challenge.rw_overmidnight_k02_whole_clocks_moved
abbrev hk : PySem.W.Hook := HX.hookX 7 hfa hfn
def ob (s : PySem.W.SharedT) : HX.AlX := HX.obsXG 7 hfa hfn (HandSHeadRun.getT s)
theorem ob_eq (s : PySem.W.SharedT) : ob s = hk.obs s.abs := HX.obsXG_eq (HandSHeadRun.getT_eq s)
theorem hrun (w : World) : HandSHeadRun.RunEq Rw (PySem.W.view Rw.prog [21]) hk ob 3000 hnm w := by
  intro os
  kernel_rfl
theorem txt_of {K : PySem.W.Frag} {h : Heap} {mg : Str → Option Value} (X : K.In h) (G : h.Ns mainGlobals mg) (c : HX.SaysX hfa hfn K) : Txt K mg :=
  ⟨of_decide_eq_true (c.fact 0),
   of_decide_eq_true (c.fact 1),
   of_decide_eq_true (c.fact 2),
   of_decide_eq_true (c.fact 3),
   HX.in_ok (c.fact 4),
   HX.in_ok (c.fact 5),
   He.noat_ok (c.fact 6),
   He.cls_ok (c.fact 7),
   He.noat_ok (c.fact 8),
   He.cls_ok (c.fact 9),
   He.noat_ok (c.fact 10),
   He.free_ok X G (c.fact 11),
   He.free_ok X G (c.fact 12),
   He.free_ok X G (c.fact 13),
   He.free_ok X G (c.fact 14),
   He.free_ok X G (c.fact 15),
   HX.exk_ok X G (c.fact 16),
   HX.exk_ok X G (c.fact 17),
   He.glo_ok X G (c.fact 18),
   He.glo_ok X G (c.fact 19),
   HX.exk_ok X G (c.fact 20),
   He.free_ok X G (c.fact 21),
   He.free_ok X G (c.fact 22),
   He.free_ok X G (c.fact 23),
   He.free_ok X G (c.fact 24),
   He.free_ok X G (c.fact 25),
   He.free_ok X G (c.fact 26),
   of_decide_eq_true (c.fact 27),
   id (c.fact 28),
   HX.bin_ok (c.fact 29),
   He.glo_ok X G (c.fact 30),
   id (c.fact 31),
   HX.bin_ok (c.fact 32),
   c.def_ 0,
   He.glo_ok X G (c.fact 33),
   c.def_ 1,
   He.glo_ok X G (c.fact 34),
   c.def_ 2,
   He.glo_ok X G (c.fact 35),
   c.def_ 3,
   He.glo_ok X G (c.fact 36),
   c.def_ 4,
   He.glo_ok X G (c.fact 37),
   c.def_ 5,
   He.glo_ok X G (c.fact 38),
   c.def_ 6,
   He.glo_ok X G (c.fact 39),
   c.def_ 7,
   He.mkr_ok (c.fact 40),
   HX.prop_ok (c.fact 41),
   c.def_ 8,
   c.def_ 9,
   He.mkr_ok (c.fact 42),
   HX.prop_ok (c.fact 43),
   c.def_ 10,
   HX.prop_ok (c.fact 44),
   c.def_ 11,
   He.meth_ok (c.fact 45),
   c.def_ 12,
   He.meth_ok (c.fact 46),
   c.def_ 13,
   He.meth_ok (c.fact 47),
   c.def_ 14,
   He.meth_ok (c.fact 48),
   c.def_ 15,
   He.meth_ok (c.fact 49),
   c.def_ 16,
   He.meth_ok (c.fact 50),
   c.def_ 17,
   He.meth_ok (c.fact 51),
   c.def_ 18,
   He.meth_ok (c.fact 52),
   c.def_ 19,
   c.def_ 20,
   He.glo_ok X G (c.fact 53),
   c.def_ 21,
   He.glo_ok X G (c.fact 54),
   c.def_ 22,
   He.glo_ok X G (c.fact 55),
   c.def_ 23,
   He.glo_ok X G (c.fact 56)⟩
theorem hall {P : Program} {w : World} {K : PySem.W.Frag} {h : Heap} {mg : Str → Option Value} {f : Addr} (X : K.In h) (G : h.Ns mainGlobals mg) (hlf : mg ("law" : Str) = some (.ref f)) (c : HX.SaysX hfa hfn K) :
    ∃ fd : FuncData, (∀ (s : Shared) (v : Value), BindsTo s fd ⟨[v], []⟩ [("_law_script", v)]) ∧ ∀ base : Heap, K.In base → base.Ns mainGlobals mg → FnOk P w K mg base CX0 8 f fd ["_law_script"] (sp_law K) := by
  have T := txt_of X G c
  have e := hlf.symm.trans T.g_law
  cases e
  obtain ⟨fd, F⟩ := T.d_law
  have b := FunD.bindsA (ps := ["_law_script"]) F fun _ _ _ _ _ _ us hl => match us, hl with | [_], _ => rfl
  exact ⟨fd, fun s v => b s [v] rfl, fun base _ _ => HX.fnok0 (ok_law (P := P) (w := w) (base := base) T F) (fun _ _ _ _ z => z)⟩
end LW
open PySem PySem.W PySem.Calls PyProof.Rows
set_option maxHeartbeats 0 in
theorem PySem.Challenge.cw_overmidnight_k02_whole_clocks_moved_holds : PySem.Challenge.rw_overmidnight_k02_whole_clocks_moved.Holds := by
  w_on; o_law
  refine HandSHeadRun.head_any (r := OpenLaw.row PySem.Challenge.rw_overmidnight_k02_whole_clocks_moved) (q := view (OpenLaw.row PySem.Challenge.rw_overmidnight_k02_whole_clocks_moved).prog [21]) (H := LW.hk) (ob := LW.ob) (M := 3000) (loose := LW.hnm) (d := HandSHeadRun.topDef (OpenLaw.row PySem.Challenge.rw_overmidnight_k02_whole_clocks_moved).prog 21) (kwd := []) LW.ob_eq
    (by kernel_rfl) (fun s => by kernel_rfl) LW.hrun (by kernel_rfl) (by kernel_rfl) (by kernel_rfl) (by rfl) (by first | assumption | decide +kernel) (by decide +kernel) ⟨rfl, rfl, rfl, rfl, rfl, by decide +kernel⟩ ?hw ?hc
  case hw => w_witness2
  case hc =>
    refine L2.walk_ofE (l := PySem.Challenge.rw_overmidnight_k02_whole_clocks_moved) (n := 63) (k := 8) (x := "_law_script") (CX := L2.CX0) rfl (by decide) (by kernel_rfl) ⟨rfl, by decide, by decide⟩ ?F (fun _ _ _ _ z => z)
    intro w mg fa h Y G hmg0
    obtain ⟨K, KX, c⟩ := Y
    have hmg : mg ("law" : PySem.Str) = some (.ref fa) := by
      rw [← show (HandSHeadRun.topDef (OpenLaw.row PySem.Challenge.rw_overmidnight_k02_whole_clocks_moved).prog 21).name = ("law" : PySem.Str) by kernel_rfl]
      exact hmg0
    obtain ⟨fd, hb, hF⟩ := LW.hall (P := (PySem.Challenge.rw_overmidnight_k02_whole_clocks_moved).prog) (w := w) KX G hmg c
    exact ⟨K, fd, LW.sp_law K, KX, hb, fun H a ns hl _ hS => ⟨a, ns, rfl, hS, hl, fun _ => rfl⟩, hF⟩
