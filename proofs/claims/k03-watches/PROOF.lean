import PyProof.Rows.All
import Wide.All
import OpenK.AllK
import Wide.FinOn
import KE.KStateDown
import Lean
import HandS.Base
import HandS.Call
import HandS.List
import HandS.Comp
import HandS.Ends
import HandS.Dict
import HandS.Iter
import HandS.Text
import HandS.More
import HandS.Exc
import HandS.ExcOwn
import HandS.Words
import HandS.WordsList
import HandS.WordsExc
import HandS.Wide
import HandS.Defaults
import HandS.Head0
import HandS.Head1
import HandS.Head2
import HandS.HeadEnd
import HandS.HeadHook1
import HandS.HeadHook2
import HandS.IsInst
import HandS.Property
import HandS.OwnEq
import HandS.Codes
import HandS.TryOnly
import HandS.TryMany
import HandS.ExcIs
import HandS.HotCalls
import HandS.RaiseFrom
import HandS.ExcInitHot
import KE.KCallOwn
import KE.KOpsOwn
import HandS.TupAny
import HandS.Conv
import HandS.Strs
import HandS.RaiseMore
import HandS.ListEq
import HandS.SortInts
import HandS.ExcInit
import HandS.ExcField
import KE.GoesEnum
import HandS.FStr
import PyProof.FitsReplace
import HandS.NamedTupGet
import HandS.TupMul
import HandS.Style
import KE.GoesRaise
import HandS.SortRule
import PySem.Challenge.RW_overmidnight_k03_whole_watches
set_option Elab.async false
set_option linter.all false
set_option maxRecDepth 100000
set_option maxHeartbeats 4000000
namespace HX
open PySem PySem.Spec PyProof.Rows L2
/-! ### errors whose context is none (L2N) -/
theorem passLN {X : Cx} : Passes (L2N.CX X.prog X.w) X E0 := fun _ _ _ _ _ _ _ h => by
  obtain ⟨_, _, _, _, _, _, _, _, _, _, _, _, z⟩ := h
  exact z.elim
theorem takes0N {X : Cx} : L2N.Takes X (fun _ _ _ _ => False) := fun _ _ x => by
  obtain ⟨_, _, _, _, _, _, _, _, _, _, _, _, _, _, _, _, z⟩ := x
  exact z.elim

/-! ### a def of the text, found by its global name -/
structure GFn (P : Program) (w : World) (K : PySem.W.Frag) (mg : Str → Option Value) (base : Heap) (x : Str) (k : Nat) (ps : List Str) (sp : Sp) : Prop where
  gm : mg x = some (.ref (He.ga K x))
  kp : PySem.W.keepIn K (.ref (He.ga K x)) = true
  fn : ∃ fd, FnOk P w K mg base (L2N.CX P w) k (He.ga K x) fd ps sp ∧ Binds K fd ps []
section
variable {X : Cx} {k : Nat} {x : Str} {ps : List Str} {sp : Sp} {E : XK} {p pos : Pos} {e : Expr} {es : List Expr} {t : TA}
theorem pe_g {E : L2.St → XK} (G : GFn X.prog X.w X.K X.mg X.base x k ps sp) (hr : Room k X.A) (hx : ∀ σ, PassesAt (L2N.CX X.prog X.w) X σ (E σ)) (hg : Gl X x)
    (ha : PA X (e :: es) t) (hdb : (x == ("__debug__" : Str)) = false := by decide) (he : starEach (e :: es) X.env = (false, eval e X.env) :: starEach es X.env := by rfl) (hpl : (backTo pos (starEach es X.env)).any (·.1) = false := by rfl) :
    PE X (.Call (.Name x p) (e :: es) [] pos) (tCallS sp E t) := by
  obtain ⟨fd, F, b⟩ := G.fn
  exact pe_callS F hr hg G.gm G.kp b hx ha hdb he hpl
/-- nothing is let out of the callee -/
theorem pas0 : ∀ σ : L2.St, PassesAt (L2N.CX X.prog X.w) X σ E0 := fun σ pins H s e s' I h => passLN pins σ H s e s' I h
end
section
variable {P : Program} {w : World} {K : PySem.W.Frag} {mg : Str → Option Value} {base : Heap}
/-- the context of a def's body, written out (cxOf, to be seen through) -/
abbrev cxR (P : Program) (w : World) (K : PySem.W.Frag) (mg : Str → Option Value) (base : Heap) (N : List Str) (qual : Str) (scope : Scope) (f : Addr) (cd : Value) (A : Around) (outer : List Env) (s : Shared) (H : Hp) (E : XK) : Cx :=
  { prog := P, w := w, K := K, mg := mg, base := base, A := A.deeper (envOfC qual scope s.heap.objs.size f cd), N := N, s_0 := s, H_0 := H, env := envOfC qual scope s.heap.objs.size f cd, outer := outer,
    stack := envOfC qual scope s.heap.objs.size f cd :: outer, ex := [], calm := true, fn := fun _ => true, pn := [],
    xe := fun e s' => wpAny (model P w) (A.deeper (envOfC qual scope s.heap.objs.size f cd)) (leaving (envOfC qual scope s.heap.objs.size f cd) e) (fun _ s'' => L2N.CX P w outer H s E e s'') (fun e' s'' => L2N.CX P w outer H s E e' s'') s' }
theorem cxR_eq (P : Program) (w : World) (K : PySem.W.Frag) (mg : Str → Option Value) (base : Heap) (N : List Str) (qual : Str) (scope : Scope) (f : Addr) (cd : Value) (A : Around) (outer : List Env) (s : Shared) (H : Hp) (E : XK) :
    cxR P w K mg base N qual scope f cd A outer s H E = cxOf (L2N.CX P w) P w K mg base N qual scope f cd A outer s H E := rfl
/-- in a def that may raise: what it lets out is its own wish -/
theorem takesO {P : Program} {w : World} {K : PySem.W.Frag} {mg : Str → Option Value} {base : Heap} {N : List Str} {qual : Str} {scope : Scope} {f : Addr} {cd : Value} {A : Around} {outer : List Env} {s : Shared} {H : Hp} {E : XK} :
    L2N.Takes (cxR P w K mg base N qual scope f cd A outer s H E) (fun cls d _ H => E cls d H) := L2N.takes_of rfl rfl rfl rfl
abbrev DefAt (K : PySem.W.Frag) (x qual : Str) (st : Stmt) (f : Addr) : Prop := ∃ fd, FunD K x qual (defArgs st) (defBody st) (defScope st) [] [] f fd
abbrev FdAt (K : PySem.W.Frag) (x qual : Str) (st : Stmt) (f : Addr) (fd : FuncData) : Prop := FunD K x qual (defArgs st) (defBody st) (defScope st) [] [] f fd
theorem fnok_of {x q : Str} {st : Stmt} {f : Addr} {fd : FuncData} {N ps : List Str} {k : Nat} {sp : Sp} (F : FdAt K x q st f fd) (S : FnScope N ps (defScope st)) (len : ∀ vs H Q E, sp vs H Q E → vs.length = ps.length)
    (hbody : ∀ (cdv : Value) (A : Around) (outer : List Env) (s : Shared) (H : Hp) (vs : List V) (Q : VK) (E : XK), Room k (A.deeper (envOfC q (defScope st) s.heap.objs.size f cdv)) → sp vs H Q E →
      ∃ t, PSs (cxR P w K mg base N q (defScope st) f cdv A outer s H E) (defBody st) t ∧ t { nx := fun _ H' => Q .non H', rt := Q } (start N vs) H) :
    FnOk P w K mg base (L2N.CX P w) (k + 1) f fd ps sp := F.ok S len hbody
/-- a def that lets nothing out, whatever the word for what it lets out -/
theorem fnok0 {f : Addr} {fd : FuncData} {ps : List Str} {k : Nat} {sp : Sp} (F : FnOk P w K mg base (L2N.CX P w) k f fd ps sp) (h : ∀ vs H Q E, sp vs H Q E → sp vs H Q E0) : FnOk P w K mg base CX0 k f fd ps sp :=
  ⟨F.len, fun A outer s H args us vs Q E hr e0 b r q => codeAny_mono (F.run A outer s H args us vs Q E0 hr e0 b r (h _ _ _ _ q)) fun r s' z => by
    match r, z with
    | .ok (.ret _), z => exact z
    | .ok .next, z => exact z
    | .ok .brk, z => exact z
    | .ok .cont, z => exact z
    | .error _, ⟨_, _, _, _, _, _, _, _, _, _, _, _, z⟩ => exact z.elim⟩
theorem gfn_false {x : Str} {st : Stmt} {N ps : List Str} (D : DefAt K x x st (He.ga K x)) (gm : mg x = some (.ref (He.ga K x))) (S : FnScope N ps (defScope st))
    (hb : ∀ (kV doc pm : Value) (an : Option Addr) (cdv ct : Value) (us : List Value), us.length = ps.length → bindArgs (PySem.W.fnOf x x (defArgs st) (defBody st) (defScope st) .none kV doc pm an cdv ct) ⟨us, []⟩ = pure (ps.zip us)) : GFn P w K mg base x 1 ps (fun _ _ _ _ => False) := by
  obtain ⟨fd, F⟩ := D
  exact ⟨gm, F.kp, fd, F.ok S (fun _ _ _ _ h => h.elim) (fun _ _ _ _ _ _ _ _ _ h => h.elim), F.bindsN hb⟩
theorem gfn_of {x : Str} {st : Stmt} {N ps : List Str} {k : Nat} {sp : Sp} (D : DefAt K x x st (He.ga K x)) (gm : mg x = some (.ref (He.ga K x))) (S : FnScope N ps (defScope st)) (len : ∀ vs H Q E, sp vs H Q E → vs.length = ps.length)
    (hb : ∀ (kV doc pm : Value) (an : Option Addr) (cdv ct : Value) (us : List Value), us.length = ps.length → bindArgs (PySem.W.fnOf x x (defArgs st) (defBody st) (defScope st) .none kV doc pm an cdv ct) ⟨us, []⟩ = pure (ps.zip us))
    (hbody : ∀ (cdv : Value) (A : Around) (outer : List Env) (s : Shared) (H : Hp) (vs : List V) (Q : VK) (E : XK), Room k (A.deeper (envOfC x (defScope st) s.heap.objs.size (He.ga K x) cdv)) → sp vs H Q E →
      ∃ t, PSs (cxR P w K mg base N x (defScope st) (He.ga K x) cdv A outer s H E) (defBody st) t ∧ t { nx := fun _ H' => Q .non H', rt := Q } (start N vs) H) :
    GFn P w K mg base x (k + 1) ps sp := by
  obtain ⟨fd, F⟩ := D
  exact ⟨gm, F.kp, fd, F.ok S len hbody, F.bindsN hb⟩
end

/-! ### methods, properties, instances -/
structure GMe (P : Program) (w : World) (K : PySem.W.Frag) (mg : Str → Option Value) (base : Heap) (c m : Str) (k : Nat) (ps : List Str) (sp : Sp) : Prop where
  me : Meth K (He.ga K c) m (He.ma K (He.ga K c) m)
  cl : Cls K (He.ga K c)
  fn : ∃ fd, FnOk P w K mg base (L2N.CX P w) k (He.ma K (He.ga K c) m) fd ps sp ∧ Binds K fd ps []
/-- the getter behind a property's object -/
def pg (K : PySem.W.Frag) (C : Addr) (f : Str) : Addr := match PySem.W.recIn K (He.ma K C f) "property" with
  | some (.ref g :: _) => g
  | _ => 0
structure GPr (P : Program) (w : World) (K : PySem.W.Frag) (mg : Str → Option Value) (base : Heap) (c f : Str) (k : Nat) (sp : Sp) : Prop where
  po : PropOf K (He.ga K c) f (He.ma K (He.ga K c) f) (pg K (He.ga K c) f)
  cl : Cls K (He.ga K c)
  fn : ∃ fd, FnOk P w K mg base (L2N.CX P w) k (pg K (He.ga K c) f) fd ["self"] sp ∧ Binds K fd ["self"] []
structure GMk (P : Program) (w : World) (K : PySem.W.Frag) (mg : Str → Option Value) (base : Heap) (c : Str) (k : Nat) (ps : List Str) (sp : Sp) : Prop where
  cmk : Mk K (He.ga K c) (He.ma K (He.ga K c) "__init__")
  gm : mg c = some (.ref (He.ga K c))
  fn : ∃ fd, FnOk P w K mg base (L2N.CX P w) k (He.ma K (He.ga K c) "__init__") fd ps sp ∧ Binds K fd ps []
section
variable {P : Program} {w : World} {K : PySem.W.Frag} {mg : Str → Option Value} {base : Heap}
theorem fn_of {x q : Str} {st : Stmt} {f : Addr} {N ps : List Str} {k : Nat} {sp : Sp} (D : DefAt K x q st f) (S : FnScope N ps (defScope st)) (len : ∀ vs H Q E, sp vs H Q E → vs.length = ps.length)
    (hb : ∀ (kV doc pm : Value) (an : Option Addr) (cdv ct : Value) (us : List Value), us.length = ps.length → bindArgs (PySem.W.fnOf x q (defArgs st) (defBody st) (defScope st) .none kV doc pm an cdv ct) ⟨us, []⟩ = pure (ps.zip us))
    (hbody : ∀ (cdv : Value) (A : Around) (outer : List Env) (s : Shared) (H : Hp) (vs : List V) (Q : VK) (E : XK), Room k (A.deeper (envOfC q (defScope st) s.heap.objs.size f cdv)) → sp vs H Q E →
      ∃ t, PSs (cxR P w K mg base N q (defScope st) f cdv A outer s H E) (defBody st) t ∧ t { nx := fun _ H' => Q .non H', rt := Q } (start N vs) H) :
    ∃ fd, FnOk P w K mg base (L2N.CX P w) (k + 1) f fd ps sp ∧ Binds K fd ps [] := by
  obtain ⟨fd, F⟩ := D
  exact ⟨fd, F.ok S len hbody, F.bindsN hb⟩
end
section
variable {X : Cx} {k : Nat} {c m f : Str} {ps : List Str} {sp : Sp} {E : L2.St → XK} {pos apos p : Pos} {e o : Expr} {es : List Expr} {t : TA} {ta : TE}
/-- o.m(e, ..), what is raised wished for at the slots -/
def tMethS (C : Addr) (m : Str) (sp : Sp) (E : L2.St → XK) (ta : TE) (t : TA) : TE := fun σ H Q => ta σ H fun x H1 => ∃ a dx fs, x = .ref a ∧ H1 a = some (.ins C dx fs) ∧ fs.lookup m = none ∧ t σ H1 fun vs H2 => sp (.ref a :: vs) H2 Q (E σ)
theorem pe_gm {pl : Sem Bool} (G : GMe X.prog X.w X.K X.mg X.base c m k ps sp) (he : PE X o ta) (hr : Room k X.A) (hx : ∀ σ, PassesAt (L2N.CX X.prog X.w) X σ (E σ)) (ha : PA X (e :: es) t)
    (hst : starEach (e :: es) X.env = (false, eval e X.env) :: starEach es X.env := by rfl) (hpl : (backTo pos (starEach es X.env)).any (·.1) = false := by rfl)
    (ht : eval (.Call (.Attribute o m apos) (e :: es) [] pos) X.env = (do
      let r ← eval o X.env
      standAt apos.atName
      let (g, one) ← holding [r] (getMethod r m pl)
      callWith pos g one (backTo pos (starEach (e :: es) X.env)) (backToKw pos (keywordEach [] X.env))) := by rfl) :
    PE X (.Call (.Attribute o m apos) (e :: es) [] pos) (tMethS (He.ga X.K c) m sp E ta t) := by
  obtain ⟨fd, F, b⟩ := G.fn
  refine ⟨fun pins s σ H Q I h => ?_⟩
  refine PySem.W.methodCall_KW (pl := pl) (thn (he.run pins s σ H _ I h) fun u s1 z => ?_) ht
  obtain ⟨x, H1, I1, rx, a, dx, fs, rfl, ea, hl, q⟩ := z
  cases (show u = Value.ref a from rx)
  refine getmeth_ok I1 ea G.cl G.me hl ?_
  refine PySem.W.callWith_K (first := [.ref a]) (h₀ := X.base) I.ok.mod.kin G.me.kp (thn (ha.run pos pins s1 σ H1 _ I1 q) fun us s2 z => ?_) hst hpl
  obtain ⟨vs, H2, I2, r, q2⟩ := z
  exact ⟨I2.kIn, run_fnS (us := .ref a :: us) (vs := .ref a :: vs) F hr b (hx σ) I2 (.cons rfl r) q2⟩
theorem pe_gm0 {pl : Sem Bool} (G : GMe X.prog X.w X.K X.mg X.base c m k ps sp) (he : PE X o ta) (hr : Room k X.A) (hx : ∀ σ, PassesAt (L2N.CX X.prog X.w) X σ (E σ))
    (ht : eval (.Call (.Attribute o m apos) [] [] pos) X.env = (do
      let r ← eval o X.env
      standAt apos.atName
      let (g, one) ← holding [r] (getMethod r m pl)
      callWith pos g one (backTo pos (starEach [] X.env)) (backToKw pos (keywordEach [] X.env))) := by rfl) :
    PE X (.Call (.Attribute o m apos) [] [] pos) (tMethS (He.ga X.K c) m sp E ta tNil) := by
  obtain ⟨fd, F, b⟩ := G.fn
  refine ⟨fun pins s σ H Q I h => ?_⟩
  refine PySem.W.methodCall_KW (pl := pl) (thn (he.run pins s σ H _ I h) fun u s1 z => ?_) ht
  obtain ⟨x, H1, I1, rx, a, dx, fs, rfl, ea, hl, q⟩ := z
  cases (show u = Value.ref a from rx)
  refine getmeth_ok I1 ea G.cl G.me hl ?_
  exact PySem.W.callWith_K0 (first := [.ref a]) I1.kIn G.me.kp (run_fnS (us := [.ref a]) (vs := [.ref a]) F hr b (hx σ) I1 (.cons rfl .nil) q)
/-- o.f, a property whose getter lets nothing out -/
def tPropS (C : Addr) (sp : Sp) (ta : TE) : TE := fun σ H Q => ta σ H fun x H1 => ∃ a dx fs, x = .ref a ∧ H1 a = some (.ins C dx fs) ∧ sp [.ref a] H1 Q E0
theorem pe_gp (G : GPr X.prog X.w X.K X.mg X.base c f k sp) (he : PE X o ta) (hr : Room (k + 1) X.A) (hab : attributeBase o f X.env (eval o X.env) = eval o X.env) : PE X (.Attribute o f pos) (tPropS (He.ga X.K c) sp ta) := by
  obtain ⟨fd, F, b⟩ := G.fn
  exact pe_prop (dvs := []) (E := E0) he G.cl G.po F hr b .nil passLN hab
/-- behind an __init__ that hands back None -/
def MkQ (Q : VK) (x : Addr) : VK := fun v H2 => v = .non ∧ Q (.ref x) H2
/-- C(e, ..), what is raised wished for at the slots -/
def tMakeS (C : Addr) (sp : Sp) (E : L2.St → XK) (t : TA) : TE := fun σ H Q => t σ H fun vs H1 => ∀ x dx, H1 x = none → H1 dx = none → dx ≠ x →
  sp (.ref x :: vs) (upd (upd H1 dx (.own x)) x (.ins C dx [])) (MkQ Q x) (E σ)
theorem pe_gk (G : GMk X.prog X.w X.K X.mg X.base c k ps sp) (hr : Room (k + 1) X.A) (hx : ∀ σ, PassesAt (L2N.CX X.prog X.w) X σ (E σ)) (hg : Gl X c) (ha : PA X (e :: es) t) (hdb : (c == ("__debug__" : Str)) = false := by decide)
    (he : starEach (e :: es) X.env = (false, eval e X.env) :: starEach es X.env := by rfl) (hpl : (backTo pos (starEach es X.env)).any (·.1) = false := by rfl) : PE X (.Call (.Name c p) (e :: es) [] pos) (tMakeS (He.ga X.K c) sp E t) := by
  obtain ⟨fd, F, b⟩ := G.fn
  refine ⟨fun pins s σ H Q I h => ?_⟩
  refine wpAny_Call_Name_kw (ld_glob I hg G.gm ?_ hdb)
  refine PySem.W.callWith_K (h₀ := X.base) I.ok.mod.kin G.cmk.kp (thn (ha.run pos pins s σ H _ I h) fun us s1 z => ?_) he hpl
  obtain ⟨vs, H1, I1, r, q⟩ := z
  refine ⟨I1.kIn, ?_⟩
  have hq := q (s1.heap.objs.size + 1) s1.heap.objs.size (I1.hok.fresh (Nat.le_succ _)) (I1.hok.fresh (Nat.le_refl _)) (Nat.ne_of_lt (Nat.lt_succ_self _))
  have I2 := Inv.made (C := He.ga X.K c) I1
  have r2 : Vals (V.ref (s1.heap.objs.size + 1) :: vs) (Value.ref (s1.heap.objs.size + 1) :: us) := .cons rfl r
  have hl : (Value.ref (s1.heap.objs.size + 1) :: us).length = ps.length := by rw [← r2.length, F.len _ _ _ _ hq]
  have hb2 := b _ (Value.ref (s1.heap.objs.size + 1) :: us) I2.kIn (by rw [List.append_nil]; exact hl)
  rw [List.append_nil] at hb2
  refine wpAny_call (make_map I1.kIn G.cmk.makes G.cmk.init (beq_iff_eq.mp G.cmk.fn) (codeAny_mono (F.run _ X.stack _ _ ⟨Value.ref (s1.heap.objs.size + 1) :: us, []⟩ (Value.ref (s1.heap.objs.size + 1) :: us) _ _ (E σ) (hr.make _ us [])
    (I2.env0.make _ us []) hb2 r2 hq) fun r s' hq' => ?_))
  cases r with
  | error er => exact hx σ pins _ _ er s' I2 hq'
  | ok fl =>
    cases fl with
    | ret u =>
      obtain ⟨v, H', I3, rv, rfl, q3⟩ := I2.after hq'
      exact ⟨rv, ⟨V.ref (s1.heap.objs.size + 1), H', I3, rfl, q3⟩⟩
    | next => exact False.elim hq'
    | brk => exact False.elim hq'
    | cont => exact False.elim hq'
end

/-! ### == by an own __eq__ -/
/-- the other side's class is not asked first -/
inductive Oth (K : PySem.W.Frag) (C : Addr) (H : Hp) : V → Prop
  | ins {b D dy : Addr} {gs : List (Str × V)} (h : H b = some (.ins D dy gs)) (n : PySem.W.notFirst K C (.ref D) = true) : Oth K C H (.ref b)
  | int {i : Int} (n : PySem.W.notFirst K C (.type "int") = true) : Oth K C H (.int i)
  | tup {b : Addr} {xs : List V} (h : SqT K H b xs) (n : PySem.W.notFirst K C (.type "tuple") = true) : Oth K C H (.ref b)
def rEqO (c : Str) (sp : Sp) (E : L2.St → XK) (K : PySem.W.Frag) : R2 := fun x y H Q => ∃ a dx fs, x = .ref a ∧ H a = some (.ins (He.ga K c) dx fs) ∧ Oth K (He.ga K c) H y ∧ sp [x, y] H Q E0
section
variable {X : Cx}
theorem back_of {pins : List (Addr × Obj)} {σ : L2.St} {Q : VK} {u : Value} {s : Shared} (h : EP X pins σ Q u s) : PySem.W.CmpBack (EP X pins σ Q) u s := by
  obtain ⟨v, H, I, r, q⟩ := h
  have hh : EP X pins σ Q u s := ⟨v, H, I, r, q⟩
  cases v with
  | non => cases (show u = Value.none from r); exact hh
  | bl b => cases (show u = Value.bool b from r); exact hh
  | int i => obtain ⟨t, e⟩ := (show ∃ t, u = Value.int i t from r); subst e; exact hh
  | str y => obtain ⟨t, e⟩ := (show ∃ t, u = Value.str y t from r); subst e; exact hh
  | byt y => obtain ⟨t, e⟩ := (show ∃ t, u = Value.bytes y t from r); subst e; exact hh
  | flt y => obtain ⟨t, e⟩ := (show ∃ t, u = Value.float y t from r); subst e; exact hh
  | ref a => cases (show u = Value.ref a from r); exact hh
  | ty n => cases (show u = Value.type n from r); exact hh
theorem op_eqO {c : Str} {k : Nat} {ps : List Str} {sp : Sp} (G : GMe X.prog X.w X.K X.mg X.base c "__eq__" k ps sp) (hr : Room k X.A) : OpR X (compareOp .Eq) (rEqO c sp (fun _ => E0) X.K) := by
  obtain ⟨fd, F, b⟩ := G.fn
  intro pins s σ H x y v u Q I rx ry h
  obtain ⟨a, dx, fs, rfl, ha, ho, hq⟩ := h
  cases (show v = Value.ref a from rx)
  obtain ⟨mA, O, _⟩ := ins_get I.hok ha
  obtain ⟨od, J, _⟩ := O.look
  obtain ⟨m, hF⟩ := I.fr
  have call : wpAny (model X.prog X.w) X.A (PySem.call (.ref (He.ma X.K (He.ga X.K c) "__eq__")) [.ref a, u]) (PySem.W.CmpBack (EP X pins σ Q)) X.xe s :=
    thn (run_fnS (E := fun _ => E0) (vs := [.ref a, y]) F hr b (pas0 σ) I (.cons rfl (.cons ry .nil)) hq) fun _ _ z => back_of z
  show wpAny (model X.prog X.w) X.A (richCompare .Eq (.ref a) u) (EP X pins σ Q) X.xe s
  cases ho with
  | ins h n =>
    cases (show u = Value.ref _ from ry)
    obtain ⟨_, O2, _⟩ := ins_get I.hok h
    obtain ⟨_, J2, _⟩ := O2.look
    exact PySem.W.cmp_K (op := .Eq) hr.units0 hF I.ok.mod.kin J J2.type n G.me.at_ G.me.fn call
  | int n =>
    obtain ⟨t, rfl⟩ := (show ∃ t, u = Value.int _ t from ry)
    exact PySem.W.cmp_K (op := .Eq) hr.units0 hF I.ok.mod.kin J (PySem.W.Looks.of_pure rfl) n G.me.at_ G.me.fn call
  | tup h n =>
    cases (show u = Value.ref _ from ry)
    obtain ⟨its, rv, ht, hz⟩ := I.tuple h
    obtain ⟨o, ho, hc, _⟩ := ht
    exact PySem.W.cmp_K (op := .Eq) hr.units0 hF I.ok.mod.kin J ((PySem.W.Looks.ld ho).andThen (by rw [hc]; exact .now)) n G.me.at_ G.me.fn call
end

/-! ### an instance called -/
theorem callWith_inst {M : Model} {A : Around} {E : Value → Shared → Prop} {s : Shared} {x : Addr} {pos : Pos} {args : List (Bool × Sem Value)} {Q : Value → Shared → Prop} (hpl : args.any (·.1) = false)
    (h : wpAny M A (evalArgs (.ref x) true args []) (fun a s1 => (∃ ox C od, PySem.W.InstAt s1.heap x ox C od ∧ ox.data = .plain) ∧ wpAny M A (call (.ref x) a.pos a.kw) Q E s1) E s) : wpAny M A (callWith pos (.ref x) [] args []) Q E s := by
  unfold callWith
  refine wpAny_bind (wpAny_holding (wpAny_mono h (fun a s1 z => ?_) fun _ _ y => y))
  obtain ⟨⟨ox, C, od, I, hd⟩, z⟩ := z
  refine wpAny_bind (wpAny_standAt ?_)
  have hp : (args.any (·.1) || ([] : List (Option Str × Sem Value)).any (·.1.isNone)) = false := by rw [hpl]; rfl
  simp only [hp]
  refine wpAny_bind ((PySem.W.kco_keeper (M := M) I hd).here ?_)
  refine wpAny_bind (wpAny_mono (PySem.wpAny_operateT z) (fun r s2 hr => ?_) fun _ _ y => y)
  exact wpAny_bind (wpAny_holding (wpAny_point (wpAny_pure hr)))
/-- a callee's run, as the code of a call -/
theorem run_code {X : Cx} {CX : CXT} {k : Nat} {f : Addr} {fd : FuncData} {ps : List Str} {sp : Sp} {E : XK} {pins : List (Addr × Obj)} {σ : L2.St} {H : Hp} {s : Shared} {Q : VK} {us : List Value} {vs : List V} (F : FnOk X.prog X.w X.K X.mg X.base CX k f fd ps sp) (hr : Room k X.A) (hb : Binds X.K fd ps [])
    (hx : PassesAt CX X σ E) (I : Inv X pins σ H s) (r : Vals vs us) (h : sp vs H Q E) : codeAny (model X.prog X.w) X.A (.call (.ref f) ⟨us, []⟩) (fun r s' => match r with | .ok (.ret v) => EP X pins σ Q v s' | .ok _ => False | .error e => X.xe e s') s := by
  have hl : us.length = ps.length := by rw [← r.length, F.len _ _ _ _ h]
  have b := hb s us I.kIn (by rw [List.append_nil, hl])
  rw [List.append_nil] at b
  refine codeAny_mono (F.run X.A X.stack s H ⟨us, []⟩ us vs Q E hr I.env0 b r h) fun r s' hq => ?_
  match r, hq with
  | .error e, hq => exact hx pins H s e s' I hq
  | .ok (.ret u), hq => exact I.after hq
  | .ok .next, hq => exact False.elim hq
  | .ok .brk, hq => exact False.elim hq
  | .ok .cont, hq => exact False.elim hq
/-- e(e1, ..), e an instance whose class has __call__ -/
def tInst (C : Addr) (sp : Sp) (E : L2.St → XK) (ta : TE) (t : TA) : TE := fun σ H Q => ta σ H fun x H1 => ∃ a, x = .ref a ∧ t σ H1 fun vs H2 => (∃ dx fs, H2 a = some (.ins C dx fs)) ∧ sp (.ref a :: vs) H2 Q (E σ)
theorem pe_gi {X : Cx} {k : Nat} {c : Str} {ps : List Str} {sp : Sp} {E : L2.St → XK} {pos : Pos} {f e : Expr} {es : List Expr} {t : TA} {ta : TE} (G : GMe X.prog X.w X.K X.mg X.base c "__call__" k ps sp) (gn : PySem.W.fnIn X.K (He.ma X.K (He.ga X.K c) "__call__") = true) (he : PE X f ta)
    (hr : Room k X.A) (hx : ∀ σ, PassesAt (L2N.CX X.prog X.w) X σ (E σ)) (ha : PA X (e :: es) t)
    (hst : starEach (e :: es) X.env = (false, eval e X.env) :: starEach es X.env := by rfl) (hpl : (backTo pos (starEach es X.env)).any (·.1) = false := by rfl)
    (ht : eval (.Call f (e :: es) [] pos) X.env = (do callWith pos (← eval f X.env) [] (backTo pos (starEach (e :: es) X.env)) (backToKw pos (keywordEach [] X.env))) := by rfl) :
    PE X (.Call f (e :: es) [] pos) (tInst (He.ga X.K c) sp E ta t) := by
  obtain ⟨fd, F, b⟩ := G.fn
  refine ⟨fun pins s σ H Q I h => ?_⟩
  refine Call_ (thn (he.run pins s σ H _ I h) fun u s1 z => ?_) ht
  obtain ⟨x, H1, I1, rx, a, rfl, q⟩ := z
  cases (show u = Value.ref a from rx)
  have ev := ha.run pos pins s1 σ H1 _ I1 q
  rw [hst] at ev ⊢
  refine callWith_inst (by show (false || (backTo pos (starEach es X.env)).any (·.1)) = false; rw [hpl]; rfl) (PySem.Calls.evalArgs_plain (thn ev fun us s2 z => ?_))
  obtain ⟨vs, H2, I2, r, ⟨dx, fs, ea⟩, q2⟩ := z
  obtain ⟨mA, O, _⟩ := ins_get I2.hok ea
  obtain ⟨od, J, _⟩ := O.look
  refine ⟨⟨_, _, _, J, rfl⟩, ?_⟩
  exact wpAny_call (PySem.W.kco_code I2.kIn J rfl G.me.at_ G.me.fn gn (run_code (us := .ref a :: us) (vs := .ref a :: vs) F hr b (hx σ) I2 (.cons rfl r) q2))

/-! ### raise of an own error without arguments; except clauses, some with a name -/
structure ExK (K : PySem.W.Frag) (mg : Str → Option Value) (x : Str) : Prop where
  gm : mg x = some (.ref (He.ga K x))
  ex : PySem.W.excIn K (He.ga K x) He.veBase "ValueError.__new__" = true
  kp : PySem.W.keepIn K (.ref (He.ga K x)) = true
  sb : PySem.W.subIn K (.ref (He.ga K x)) (.type "BaseException") = some true
  ty : PySem.W.typeIn K (.ref (He.ga K x)) = some (.type "type")
section
variable {X : Cx}
theorem pmk_own0 {x : Str} {p pos : Pos} (T : ExK X.K X.mg x) (hg : Gl X x) (hdb : (x == ("__debug__" : Str)) = false := by decide) : L2N.PMk X (.Call (.Name x p) [] [] pos) (fun _ H Q => Q (.ref (He.ga X.K x)) none H) := by
  intro pins s σ H Q I h
  refine wpAny_Call_Name_kw (ld_glob I hg T.gm ?_ hdb)
  refine PySem.W.callWith_K0 I.kIn T.kp ?_
  obtain ⟨bm, N, nm, qn, bs, hdct, sn, sub, ab, col, dd, k0, k1, k2, k3, k5, mN, hC, hN, hni, TT⟩ := exc_obj I.kIn T.ex
  exact wpAny_call_exc_subT PySem.F.excBase_ValueError TT hC hN hni (fun h' e hm => L2N.mk_of I hm (raises_own T.sb T.ty) h (I.hok.gone hm.new)) (Nat.zero_le _)
theorem ps_raise0 {x : Str} {W : WX} {p pos pos' : Pos} (hc : X.calm = true) (tk : L2N.Takes X W) (T : ExK X.K X.mg x) (hg : Gl X x) (hdb : (x == ("__debug__" : Str)) = false := by decide) :
    PS X (.Raise (some (.Call (.Name x p) [] [] pos)) none pos') (fun _ σ H => W (.ref (He.ga X.K x)) none σ H) := L2N.ps_raise hc tk (pmk_own0 T hg hdb)

/-- the ends behind a suite whose name goes -/
def gone (i : Nat) (D : Ends) : Ends := { nx := fun σ H => D.nx (σ.set i none) H, rt := D.rt, bk := fun σ H => D.bk (σ.set i none) H, ct := fun σ H => D.ct (σ.set i none) H }
abbrev Cl := Value × Option Nat × (Addr → Value → Option Addr → TS)
def wCls (K : PySem.W.Frag) (Wout : WX) (D : Ends) : List Cl → WX
  | [] => Wout
  | (c, none, ts) :: r => fun cls d σ H => ∃ b, PySem.W.exmOne K cls c = some b ∧ (b = true → ∀ a, H a = none → ts a cls d D σ H) ∧ (b = false → wCls K Wout D r cls d σ H)
  | (c, some i, ts) :: r => fun cls d σ H => ∃ b, PySem.W.exmOne K cls c = some b ∧ (b = true → ∀ a, H a = none → ts a cls d (gone i D) (σ.set i (some (.ref a))) H) ∧ (b = false → wCls K Wout D r cls d σ H)
/-- a suite's reading, whatever the exception -/
abbrev SuOk (X : Cx) (su : List Stmt) (ts : Addr → Value → Option Addr → TS) : Prop :=
  ∀ (a : Addr) (oe : Obj) (cls : Value) (d : Option Addr) (pn : List (Addr × Obj)), L2N.Zn cls d oe → (∃ vs, oe.data = .fields vs) → PSs (X.suite a ((a, oe) :: pn)) su (ts a cls d)
inductive HdsA (X : Cx) : List ExceptHandler → List Cl → Prop
  | nil : HdsA X [] []
  | plain {x : Str} {c : Value} {ts : Addr → Value → Option Addr → TS} {b0 : Stmt} {su : List Stmt} {np p : Pos} {hds : List ExceptHandler} {l : List Cl} (hc : Names X x c) (hsu : SuOk X (b0 :: su) ts) (r : HdsA X hds l) :
      HdsA X (.ExceptHandler (some (.Name x np)) none (b0 :: su) p :: hds) ((c, none, ts) :: l)
  | named {x n : Str} {i : Nat} {c : Value} {ts : Addr → Value → Option Addr → TS} {b0 : Stmt} {su : List Stmt} {np p : Pos} {hds : List ExceptHandler} {l : List Cl} (hi : X.N[i]? = some n) (hl : X.env.kindOf n = some .local) (hc : Names X x c)
      (hsu : SuOk X (b0 :: su) ts) (r : HdsA X hds l) : HdsA X (.ExceptHandler (some (.Name x np)) (some n) (b0 :: su) p :: hds) ((c, some i, ts) :: l)
section
variable {pins : List (Addr × Obj)} {D : Ends} {Wout : WX}
theorem suite_end {a : Addr} {oe : Obj} {s : Shared} {f : Flow} (ok : X.Ok) (h : SP (X.suite a ((a, oe) :: (X.pn ++ pins))) [] D f s) : SP X pins D f s := by
  match f, h with
  | .next, ⟨σ, H, S, q⟩ => exact ⟨σ, H, S.unsuite ok, q⟩
  | .brk, ⟨σ, H, S, q⟩ => exact ⟨σ, H, S.unsuite ok, q⟩
  | .cont, ⟨σ, H, S, q⟩ => exact ⟨σ, H, S.unsuite ok, q⟩
  | .ret _, ⟨v, σ, H, S, r, q⟩ => exact ⟨v, σ, H, S.unsuite ok, r, q⟩
end
theorem ps_tryA {body : List Stmt} {h0 : ExceptHandler} {hds : List ExceptHandler} {l : List Cl} {pos : Pos} {tb : WX → TS} {Wout : WX} (hs : X.stack = X.env :: X.outer) (hf : X.env.frame = some X.env.locals) (hN : X.N.Nodup) (tk : L2N.Takes X Wout)
    (hb : ∀ (W : WX) (pn : List (Addr × Obj)) (xe : Value → Shared → Prop), L2N.Takes (X.tr pn xe) W → PassesOwn (model X.prog X.w) X.A X.env xe → PSs (X.tr pn xe) body (tb W))
    (hh : HdsA X (h0 :: hds) l) : PS X (.Try body (h0 :: hds) [] [] pos) (fun D σ H => tb (wCls X.K Wout D l) D σ H) := by
  refine ⟨fun pins s σ H D I h => wpAny_Try_except ?_⟩
  have ok := I.ok
  have fra : X.A.frames = some (X.env :: X.outer) := ok.frames.trans (congrArg some hs)
  have B := (hb (wCls X.K Wout D l) (X.pn ++ pins) (fun e s1 => wpAny (model X.prog X.w) X.A (noteFrame e X.env) (fun _ s2 => wpAny (model X.prog X.w) X.A (setFlight e none)
    (fun _ s3 => wpAny (model X.prog X.w) X.A (handleBy e X.env (h0 :: hds)) (SP X pins D) X.xe s3) X.xe s2) X.xe s1) (fun u s' xx => ?_) PassesOwn.looking).run [] s σ H D (I.toTry _) h
  · refine wpAny_mono B (fun f s1 z => ?_) fun _ _ z => z
    match f, z with
    | .next, ⟨σ', H', J, q⟩ => exact wpAny_execs_nil ⟨σ', H', J.ofTry ok, q⟩
    | .brk, ⟨σ', H', J, q⟩ => exact ⟨σ', H', J.ofTry ok, q⟩
    | .cont, ⟨σ', H', J, q⟩ => exact ⟨σ', H', J.ofTry ok, q⟩
    | .ret _, ⟨v, σ', H', J, r, q⟩ => exact ⟨v, σ', H', J.ofTry ok, r, q⟩
  · obtain ⟨a, G, sI, pin2, σ', H', cls, d, rfl, J2, nb, up, sky, na, os, ag, wish⟩ := xx
    have J := J2.ofTry ok
    rw [show (X.tr (X.pn ++ pins) _).stack = X.env :: X.outer from hs] at sky
    show wpAny (model X.prog X.w) X.A (noteFrame (.ref a) X.env) _ _ _
    refine L2N.Sky.land L2N.Zn.steady fra hf sky fun h3 fl up3 => ?_
    have J3 : Inv X pins σ' H' { s' with heap := h3 } := J.landed nb fl.1 (up.trans up3) os ag
    obtain ⟨o3, v3, he, hz, hd⟩ := fl.there
    have nfr : a ∉ frs (X.env :: X.outer) := fun hm => by
      obtain ⟨_, o', e', hn⟩ := fl.2.2.1.mem hm
      rw [he] at e'
      cases e'
      exact hn _ hd
    have nL : a ≠ X.env.locals := fun z => nfr (by rw [z]; exact List.mem_filterMap.mpr ⟨X.env, List.mem_cons_self, hf⟩)
    have nF : a ∉ X.fs := fun hm => let ⟨e, m, q⟩ := List.mem_filterMap.mp hm; nfr (List.mem_filterMap.mpr ⟨e, List.mem_cons_of_mem _ m, q⟩)
    have S3 := J3.suite he hd na nL nF
    have look : PySem.W.Looks (model X.prog X.w) h3 (typeOf (.ref a)) cls := fun _ _ _ _ k q => wpAny_typeOf_ref (k _ _ he) (by rw [hz.1]; exact q)
    have name : ∀ {x : Str} {c : Value} {np : Pos} {Q : Value → Shared → Prop} {E : Value → Shared → Prop}, Names X x c → Q c { s' with heap := h3 } → wpAny (model X.prog X.w) (X.A.mark (some (.ref a))) (eval (.Name x np) X.env) Q E { s' with heap := h3 } := fun hc q => by
      obtain ⟨hg, hdb, hm⟩ := hc
      rcases hm with hm | ⟨hm, hv, hn⟩
      · exact ld_glob (X := X.suite a ((a, o3) :: (X.pn ++ pins))) S3 hg hm q hdb
      · exact ld_blt (X := X.suite a ((a, o3) :: (X.pn ++ pins))) S3 hg hm hv q hn hdb
    suffices go : ∀ {hh' : List ExceptHandler} {l' : List Cl}, HdsA X hh' l' → wCls X.K Wout D l' cls d σ' H' → wpAny (model X.prog X.w) X.A (handleBy (.ref a) X.env hh') (SP X pins D) X.xe { s' with heap := h3 } from go hh wish
    intro hh' l' hk
    induction hk with
    | nil =>
      intro wo
      refine wpAny_handleBy_nil ?_
      obtain ⟨_, _, _, oe, vs, T, oT, _, ge, gz, gd, g1, _⟩ := id fl
      unfold PySem.passOn
      refine wpAny_bind (wpAny_field ge gd g1 ?_)
      rw [if_neg (show ¬ ((Value.ref T == Value.none) = true) by simp)]
      have out : wpAny (model X.prog X.w) X.A (setFlight (.ref a) X.env.frame) (fun _ s4 => wpAny (model X.prog X.w) X.A (throw (.ref a) : Sem Flow) (SP X pins D) X.xe s4) X.xe { s' with heap := h3 } := by
        rw [hf]
        refine HandSPX.setFlight_upZ fl fun h4 hh4 up4 => wpAny_throw (tk _ _ ?_)
        exact ⟨a, G, sI, pins, σ', H', cls, d, rfl, J, nb, (up.trans up3).trans up4, .inr (.inr (by rw [hs]; exact hh4)), na, os, ag, wo⟩
      first | exact wpAny_bind out | exact wpAny_bind (wpAny_pure (wpAny_bind out))
    | plain hc hsu r ih =>
      rintro ⟨b, hb1, yes, no⟩
      refine wpAny_handleBy_cons (codeAny_handlers_test ?_) (by intro q; cases q)
      refine name hc ((PySem.W.exm_one (M := model X.prog X.w) J3.kIn look hb1).here ?_)
      cases b with
      | false => exact ih (no rfl)
      | true =>
        refine codeAny_handlers_suite (HandSPX.lands_againZ fl fun h4 fl4 up4 => ?_)
        obtain ⟨o4, v4, he4, hz4, hd4⟩ := fl4.there
        have S4 := (J.landed nb fl4.1 ((up.trans up3).trans up4) os ag : Inv X pins σ' H' { s' with heap := h4 }).suite he4 hd4 na nL nF
        exact wpAny_mono ((hsu a o4 cls d (X.pn ++ pins) hz4 ⟨_, hd4⟩).run [] _ _ H' _ S4 (yes rfl a na)) (fun _ _ z => suite_end ok z) fun _ _ z => False.elim z
    | @named x n i c ts b0 su np p hds2 l2 hi hl hc hsu r ih =>
      rintro ⟨b, hb1, yes, no⟩
      refine wpAny_handleBy_cons (codeAny_handlers_test ?_) (by intro q; cases q)
      refine name hc ((PySem.W.exm_one (M := model X.prog X.w) J3.kIn look hb1).here ?_)
      cases b with
      | false => exact ih (no rfl)
      | true =>
        refine codeAny_handlers_suite_as (HandSPX.lands_againZ fl fun h4 fl4 up4 => ?_)
        obtain ⟨o4, v4, he4, hz4, hd4⟩ := fl4.there
        have S4 := (J.landed nb fl4.1 ((up.trans up3).trans up4) os ag : Inv X pins σ' H' { s' with heap := h4 }).suite he4 hd4 na nL nF
        refine store_ok (X := X.suite a ((a, o4) :: (X.pn ++ pins))) (v := .ref a) S4 hN hi (.inl hl) rfl (fun s5 S5 => ?_) (.inr hl)
        refine wpAny_mono ((hsu a o4 cls d (X.pn ++ pins) hz4 ⟨_, hd4⟩).run [] s5 _ H' _ S5 (yes rfl a na)) (fun f s6 z => ?_) fun _ _ z => False.elim z
        have lets : ∀ {σ6 : L2.St} {H6 : Hp} {Q : Shared → Prop}, Inv (X.suite a ((a, o4) :: (X.pn ++ pins))) [] σ6 H6 s6 → (∀ s7, Inv X pins (σ6.set i none) H6 s7 → Q s7) →
            wpAny (model X.prog X.w) X.A (do bindName X.env n .none; unbindBehindTheSuite X.env n p) (fun _ s7 => Q s7) X.xe s6 := fun S6 q => gone_ok (S6.unsuite ok) hN hi hl q
        match f, z with
        | .next, ⟨_, _, S6, q⟩ => exact lets S6 fun s7 J7 => ⟨_, _, J7, q⟩
        | .brk, ⟨_, _, S6, q⟩ => exact lets S6 fun s7 J7 => ⟨_, _, J7, q⟩
        | .cont, ⟨_, _, S6, q⟩ => exact lets S6 fun s7 J7 => ⟨_, _, J7, q⟩
        | .ret _, ⟨_, _, _, S6, r6, q⟩ => exact lets S6 fun s7 J7 => ⟨_, _, _, J7, r6, q⟩
/-- isinstance(e, c) in a suite: e is the exception that is handled -/
def rIsX (K : PySem.W.Frag) (a : Addr) (cls : Value) (d : Option Addr) : List V → Hp → VK → Prop := fun xs H Q => ∃ D, cls = .ref D ∧ d = none ∧ ExcC K D ∧ rIsE K D a xs H Q
theorem call_isX {a : Addr} {cls : Value} {d : Option Addr} {oe : Obj} {pn : List (Addr × Obj)} (hz : L2N.Zn cls d oe) (hf : ∃ vs, oe.data = .fields vs) : CallR (X.suite a ((a, oe) :: pn)) (.builtin "isinstance") (rIsX X.K a cls d) := fun pins s σ H xs us Q I r h => by
  obtain ⟨D, rfl, rfl, C, h⟩ := h
  exact call_isE C hz.zc hf pins s σ H xs us Q I r h
end

/-! ### heaps: all but d stays -/
def ExB (d : Addr) (H H' : Hp) : Prop := ∀ a o, a ≠ d → H a = some o → H' a = some o
theorem ExB.refl (d : Addr) (H : Hp) : ExB d H H := fun _ _ _ h => h
theorem ExB.trans {d : Addr} {H H1 H2 : Hp} (a : ExB d H H1) (b : ExB d H1 H2) : ExB d H H2 := fun c o n h => b c o n (a c o n h)
theorem ExB.of {d : Addr} {H H' : Hp} (h : Same H H') : ExB d H H' := fun c o _ e => h c o e
theorem ExB.upd2 {d : Addr} {H H1 : Hp} {o : HO} (e : ExB d H H1) : ExB d H (upd H1 d o) := fun c u n q => by rw [upd_ne n]; exact e c u n q
theorem ExB.updd {d : Addr} {H : Hp} {o : HO} : ExB d H (upd H d o) := fun c u n e => by rw [upd_ne n]; exact e
theorem Same.app {H H' : Hp} {p : Addr} {o : HO} (e : Same H H') (h : H p = none) : Same H (upd H' p o) := fun c u q => by rw [upd_ne (ne_of_none q h)]; exact e c u q
theorem Same.new {H : Hp} {p : Addr} {o : HO} (h : H p = none) : Same H (upd H p o) := fun c u e => by rw [upd_ne (ne_of_none e h)]; exact e

/-! ### the steps of a reading -/
section
variable {σ : L2.St} {H : Hp} {Q : VK} {QT : Bool → Hp → Prop} {QA : List V → Hp → Prop} {i : Nat} {v x y z : V} {ta tb te : TE} {r : R2} {m n : Int} {D : Ends} {t1 t2 : TS} {tt tu : TT} {tr : TA} {g : TG} {K : PySem.W.Frag}
theorem z_var (h : σ[i]? = some (some v)) (q : Q v H) : tVar i σ H Q := ⟨v, h, q⟩
theorem z_c (q : Q v H) : tC v σ H Q := q
theorem z_op (q : ta σ H fun x H1 => tb σ H1 fun y H2 => r x y H2 Q) : tOp r ta tb σ H Q := q
theorem z_un {r : V → Hp → VK → Prop} (q : ta σ H fun x H1 => r x H1 Q) : tUn r ta σ H Q := q
theorem z_I0 {f : Int → Int → V} (q : Q (f m n) H) : rI0 f (.int m) (.int n) H Q := ⟨m, n, rfl, rfl, q⟩
theorem z_I {C : Int → Int → Prop} {f : Int → Int → V} (c : C m n) (q : Q (f m n) H) : rI C f (.int m) (.int n) H Q := ⟨m, n, rfl, rfl, c, q⟩
theorem z_U {f : Int → V} (q : Q (f m) H) : rU f (.int m) H Q := ⟨m, rfl, q⟩
theorem z_eq (c : scal x y = true) (q : Q (.bl (decide (x = y))) H) : rEq x y H Q := ⟨c, q⟩
theorem z_ne (c : scal x y = true) (q : Q (.bl (!decide (x = y))) H) : rNe x y H Q := ⟨c, q⟩
theorem z_test (q : te σ H fun x H' => ∃ k, x = .bl k ∧ QT k H') : tTest te σ H QT := q
theorem z_tB (q : te σ H fun x H' => ∃ k, x = .bl k ∧ QT k H') : tB te σ H QT := q
theorem z_bl {k : Bool} {p : Bool → Prop} (q : p k) : ∃ k', V.bl k = .bl k' ∧ p k' := ⟨k, rfl, q⟩
theorem z_and (q : tt σ H fun c H1 => if c = true then tu σ H1 QT else QT false H1) : tAnd tt tu σ H QT := q
theorem z_or (q : tt σ H fun c H1 => if c = true then QT true H1 else tu σ H1 QT) : tOr tt tu σ H QT := q
theorem z_not (q : tt σ H fun c H1 => QT (!c) H1) : tNot tt σ H QT := q
theorem z_andV (q : ta σ H fun x H1 => ∃ c, x = .bl c ∧ if c = true then tb σ H1 Q else Q (.bl false) H1) : tAndV ta tb σ H Q := q
theorem z_orV (q : ta σ H fun x H1 => ∃ c, x = .bl c ∧ if c = true then Q (.bl true) H1 else tb σ H1 Q) : tOrV ta tb σ H Q := q
theorem z_notV (q : ta σ H fun x H1 => ∃ c, x = .bl c ∧ Q (.bl (!c)) H1) : tNotV ta σ H Q := q
theorem z_ifE (q : tt σ H fun c H1 => if c = true then ta σ H1 Q else tb σ H1 Q) : tIf tt ta tb σ H Q := q
theorem z_seq (q : t1 { D with nx := t2 D } σ H) : tSeq t1 t2 D σ H := q
theorem z_next (q : D.nx σ H) : tNext D σ H := q
theorem z_asg (q : te σ H fun x H1 => g x σ H1 D.nx) : tAsg te g D σ H := q
theorem z_name {QN : L2.St → Hp → Prop} (q : QN (σ.set i (some v)) H) : gName i v σ H QN := q
theorem z_sub {QN : L2.St → Hp → Prop} {t : TSet} (q : ta σ H fun o H1 => tb σ H1 fun i H2 => t o i v H2 fun H3 => QN σ H3) : gSub ta tb t v σ H QN := q
theorem z_ret (q : te σ H D.rt) : tRet te D σ H := q
theorem z_retN (q : D.rt .non H) : tRetN D σ H := q
theorem z_drop (q : te σ H fun _ H1 => D.nx σ H1) : tDrop te D σ H := q
theorem z_if (q : tt σ H fun b H1 => if b = true then t1 D σ H1 else t2 D σ H1) : tIfS tt t1 t2 D σ H := q
theorem z_cb {r : List V → Hp → VK → Prop} (q : tr σ H fun vs H1 => r vs H1 Q) : tCB r tr σ H Q := q
theorem z_nil (q : QA [] H) : tNil σ H QA := q
theorem z_cons (q : ta σ H fun x H1 => tr σ H1 fun xs H2 => QA (x :: xs) H2) : tCons ta tr σ H QA := q
theorem z_call {sp : Sp} {dvs : List V} {E : XK} (q : tr σ H fun vs H1 => sp (vs ++ dvs) H1 Q E) : tCall sp dvs E tr σ H Q := q
theorem z_callS {sp : Sp} {E : L2.St → XK} (q : tr σ H fun vs H1 => sp vs H1 Q (E σ)) : tCallS sp E tr σ H Q := q
theorem z_lst (q : tr σ H fun xs H1 => xs.length ≤ sizeLine ∧ ∀ p, H1 p = none → Q (.ref p) (upd H1 p (.lst xs))) : tLst tr σ H Q := q
theorem z_tup (q : tr σ H fun xs H1 => xs.length ≤ sizeLine ∧ ∀ p, H1 p = none → Q (.ref p) (upd H1 p (.tup xs))) : tTup tr σ H Q := q
theorem z_new {xs : List V} {P : Addr → Prop} (h : xs.length ≤ 1000) (q : ∀ p, H p = none → P p) : xs.length ≤ sizeLine ∧ ∀ p, H p = none → P p := ⟨Nat.le_trans h (by decide), q⟩
theorem z_ixL {p : Addr} {xs : List V} (h : SqL K H p xs) (a : atI xs m = some v) (q : Q v H) : rIxL K (.ref p) (.int m) H Q := ⟨p, xs, m, v, rfl, rfl, h, a, q⟩
theorem z_ixT {p : Addr} {xs : List V} (h : SqT K H p xs) (a : atI xs m = some v) (q : Q v H) : rIxT K (.ref p) (.int m) H Q := ⟨p, xs, m, v, rfl, rfl, h, a, q⟩
theorem z_setL {p : Addr} {xs : List V} {j : Nat} {QH : Hp → Prop} (h : H p = some (.lst xs)) (a : ixN xs.length m = some j) (q : QH (upd H p (.lst (xs.set j v)))) : rSetL (.ref p) (.int m) v H QH := ⟨p, xs, m, j, rfl, rfl, h, a, q⟩
theorem z_bm {T : String} {r : V → List V → Hp → VK → Prop} (q : te σ H fun x H1 => tyV K T x H1 ∧ tr σ H1 fun xs H2 => r x xs H2 Q) : tBM K T r te tr σ H Q := q
theorem z_bm0 {T : String} {r : V → List V → Hp → VK → Prop} (q : te σ H fun x H1 => tyV K T x H1 ∧ r x [] H1 Q) : tBM0 K T r te σ H Q := q
theorem z_tyL {p : Addr} {xs : List V} {P : Prop} (h : H p = some (.lst xs)) (q : P) : tyV K "list" (.ref p) H ∧ P := ⟨.inl ⟨rfl, _, SqL.of h⟩, q⟩
theorem z_popAt {p : Addr} {xs : List V} {j : Nat} (h : H p = some (.lst xs)) (h1 : -(2 ^ 63) ≤ m) (h2 : m < 2 ^ 63) (a : seqIndex? m xs.length = some j) (b : xs[j]? = some y) (q : Q y (upd H p (.lst (xs.eraseIdx j)))) : rPopAt (.ref p) [.int m] H Q := ⟨p, xs, m, j, y, rfl, rfl, h, h1, h2, a, b, q⟩
theorem z_t {P Q : Prop} (q : P) : if true = true then P else Q := q
theorem z_f {P Q : Prop} (q : Q) : if false = true then P else Q := q
theorem z_dt {c P Q : Prop} [Decidable c] (h : c) (q : P) : if decide c = true then P else Q := by rw [if_pos (decide_eq_true h)]; exact q
theorem z_df {c P Q : Prop} [Decidable c] (h : ¬ c) (q : Q) : if decide c = true then P else Q := by rw [if_neg (by rw [decide_eq_false h]; decide)]; exact q
theorem z_n1 {P Q : Prop} (q : Q) : if (!true) = true then P else Q := q
theorem z_n0 {P Q : Prop} (q : P) : if (!false) = true then P else Q := q
theorem z_nb {b : Bool} {P Q : Prop} (q : if b = true then Q else P) : if (!b) = true then P else Q := by cases b <;> exact q
theorem z_d2 {c P Q : Prop} [Decidable c] (h1 : c → P) (h2 : ¬ c → Q) : if decide c = true then P else Q := by
  by_cases h : c
  · exact z_dt h (h1 h)
  · exact z_df h (h2 h)
theorem z_b2 {b : Bool} {P Q : Prop} (h1 : b = true → P) (h2 : b = false → Q) : if b = true then P else Q := by
  cases b with
  | true => exact h1 rfl
  | false => exact h2 rfl
theorem fm_eq {a n : Int} (h : 0 < n) : a.fmod n = a % n := Int.fmod_eq_emod_of_nonneg a (Int.le_of_lt h)
theorem fm_nn {a n : Int} (h : 0 < n) : 0 ≤ a.fmod n := by rw [fm_eq h]; exact Int.emod_nonneg a (by omega)
theorem fm_lt {a n : Int} (h : 0 < n) : a.fmod n < n := by rw [fm_eq h]; exact Int.emod_lt_of_pos a h
theorem fd_eq {a n : Int} (h : 0 < n) : a.fdiv n = a / n := Int.fdiv_eq_ediv_of_nonneg a (Int.le_of_lt h)
theorem z_di {m n : Int} {P Q : Prop} (q : if decide (m = n) = true then P else Q) : if decide (V.int m = V.int n) = true then P else Q := by
  have e : decide (V.int m = V.int n) = decide (m = n) := by
    by_cases h : m = n
    · subst h; simp
    · rw [decide_eq_false h, decide_eq_false (fun e => h (V.int.inj e))]
  rw [e]; exact q
theorem dec_i {m n : Int} : decide (V.int m = V.int n) = decide (m = n) := by
  by_cases h : m = n
  · subst h; simp
  · rw [decide_eq_false h, decide_eq_false (fun e => h (V.int.inj e))]
theorem atc {α : Type} {xs : List α} {m : Int} {v : α} (j : Nat) (e : m = (j : Int)) (h : xs[j]? = some v) : atI xs m = some v := by rw [e]; exact atI_nat h
theorem ixc {n : Nat} {m : Int} (j : Nat) (e : m = (j : Int)) (h : j < n) : ixN n m = some j := by
  unfold ixN
  rw [if_pos (by omega), if_pos (by omega), e]
  simp
theorem sqc {n : Nat} {m : Int} (j : Nat) (e : m = (j : Int)) (h : j < n) : seqIndex? m n = some j := (ixN_seq (ixc j e h)).1
/-- int of an int, of a truth value -/
def rIntI : List V → Hp → VK → Prop := fun xs H Q => ∃ i, xs = [.int i] ∧ Q (.int i) H
def rIntB : List V → Hp → VK → Prop := fun xs H Q => ∃ k, xs = [.bl k] ∧ Q (.int (if k then 1 else 0)) H
theorem z_intI (q : Q (.int m) H) : rIntI [.int m] H Q := ⟨m, rfl, q⟩
theorem z_intB {k : Bool} (q : Q (.int (if k then 1 else 0)) H) : rIntB [.bl k] H Q := ⟨k, rfl, q⟩
def rAbs : List V → Hp → VK → Prop := fun xs H Q => ∃ i, xs = [.int i] ∧ Q (.int (if i < 0 then -i else i)) H
theorem z_abs (q : Q (.int (if m < 0 then -m else m)) H) : rAbs [.int m] H Q := ⟨m, rfl, q⟩
def rListOf (K : PySem.W.Frag) : List V → Hp → VK → Prop := fun xs H Q => ∃ p ys, xs = [.ref p] ∧ (SqL K H p ys ∨ SqT K H p ys) ∧ ∀ l, H l = none → Q (.ref l) (upd H l (.lst ys))
theorem z_listL {p : Addr} {ys : List V} (h : SqL K H p ys) (q : ∀ l, H l = none → Q (.ref l) (upd H l (.lst ys))) : rListOf K [.ref p] H Q := ⟨p, ys, rfl, .inl h, q⟩
theorem z_listT {p : Addr} {ys : List V} (h : SqT K H p ys) (q : ∀ l, H l = none → Q (.ref l) (upd H l (.lst ys))) : rListOf K [.ref p] H Q := ⟨p, ys, rfl, .inr h, q⟩
def rTupOf (K : PySem.W.Frag) : List V → Hp → VK → Prop := fun xs H Q => ∃ p ys, xs = [.ref p] ∧ SqL K H p ys ∧ ∀ l, H l = none → Q (.ref l) (upd H l (.tup ys))
theorem z_tupL {p : Addr} {ys : List V} (h : SqL K H p ys) (q : ∀ l, H l = none → Q (.ref l) (upd H l (.tup ys))) : rTupOf K [.ref p] H Q := ⟨p, ys, rfl, h, q⟩
def rLenSq (K : PySem.W.Frag) : List V → Hp → VK → Prop := fun xs H Q => ∃ p ys, xs = [.ref p] ∧ (SqL K H p ys ∨ SqT K H p ys) ∧ Q (.int ys.length) H
theorem z_lenL {p : Addr} {ys : List V} (h : SqL K H p ys) (q : Q (.int ys.length) H) : rLenSq K [.ref p] H Q := ⟨p, ys, rfl, .inl h, q⟩
theorem z_lenT {p : Addr} {ys : List V} (h : SqT K H p ys) (q : Q (.int ys.length) H) : rLenSq K [.ref p] H Q := ⟨p, ys, rfl, .inr h, q⟩
end
def rIxA (K : PySem.W.Frag) : R2 := fun x y H Q => ∃ p xs i v, x = .ref p ∧ y = .int i ∧ (SqL K H p xs ∨ SqT K H p xs) ∧ atI xs i = some v ∧ Q v H
theorem z_ixA {K : PySem.W.Frag} {H : Hp} {Q : VK} {p : Addr} {xs : List V} {m : Int} {v : V} (h : SqL K H p xs ∨ SqT K H p xs) (a : atI xs m = some v) (q : Q v H) : rIxA K (.ref p) (.int m) H Q := ⟨p, xs, m, v, rfl, rfl, h, a, q⟩
section
variable {X : Cx}
theorem ix_any : IxR X (rIxA X.K) := by
  have h := (ix_list (X := X)).or (ix_tup (X := X))
  intro b hb pins s σ H x y v u Q I rx ry q
  obtain ⟨p, xs, i, z, e1, e2, hs, ha, q⟩ := q
  refine h b hb pins s σ H x y v u Q I rx ry ?_
  rcases hs with hs | hs
  · exact .inl ⟨p, xs, i, z, e1, e2, hs, ha, q⟩
  · exact .inr ⟨p, xs, i, z, e1, e2, hs, ha, q⟩
theorem call_intI : CallR X (.type "int") rIntI := fun pins s σ H xs us Q I r h => by
  obtain ⟨i, e, q⟩ := h
  exact call_int1 pins s σ H xs us Q I r (.inl ⟨i, e, q⟩)
theorem call_intB : CallR X (.type "int") rIntB := fun pins s σ H xs us Q I r h => by
  obtain ⟨i, e, q⟩ := h
  exact call_int1 pins s σ H xs us Q I r (.inr ⟨i, e, q⟩)
theorem call_absI : CallR X (.builtin "abs") rAbs := fun pins s σ H xs us Q I r h => call_abs pins s σ H xs us Q I r h
theorem call_listOf : CallR X (.type "list") (rListOf X.K) := fun pins s σ H xs us Q I r h => call_list_of pins s σ H xs us Q I r h
theorem call_tupOf : CallR X (.type "tuple") (rTupOf X.K) := fun pins s σ H xs us Q I r h => by
  obtain ⟨p, ys, e, hS, q⟩ := h
  exact call_tuple_of pins s σ H xs us Q I r ⟨p, ys, e, .inl ⟨hS, q⟩⟩
theorem call_lenSq : CallR X (.builtin "len") (rLenSq X.K) := fun pins s σ H xs us Q I r h => call_len_seq pins s σ H xs us Q I r h
end

theorem Same.made {H : Hp} {x dx : Addr} {o1 o2 o3 : HO} (hx : H x = none) (hd : H dx = none) : Same H (upd (upd (upd H dx o1) x o2) x o3) := fun c u e => by
  rw [upd_ne (ne_of_none e hx), upd_ne (ne_of_none e hx), upd_ne (ne_of_none e hd)]
  exact e
theorem ExB.rd {d b : Addr} {H H' : Hp} {u : HO} (e : ExB d H H') (n : b ≠ d) (h : Rd H b u) : Rd H' b u := by
  rcases h with h | ⟨o, h⟩
  · exact .inl (e _ _ n h)
  · exact .inr ⟨o, e _ _ n h⟩
theorem ExB.sl {K : PySem.W.Frag} {d b : Addr} {H H' : Hp} {xs : List V} (e : ExB d H H') (n : b ≠ d) (h : SqL K H b xs) : SqL K H' b xs := by
  rcases h with h | h
  · exact .inl (e.rd n h)
  · exact .inr h
theorem ExB.st {K : PySem.W.Frag} {d b : Addr} {H H' : Hp} {xs : List V} (e : ExB d H H') (n : b ≠ d) (h : SqT K H b xs) : SqT K H' b xs := by
  rcases h with h | h
  · exact .inl (e.rd n h)
  · exact .inr h
theorem Same.st {K : PySem.W.Frag} {b : Addr} {H H' : Hp} {xs : List V} (e : Same H H') (h : SqT K H b xs) : SqT K H' b xs := (ExB.of (d := b + 1) e).st (Nat.ne_of_lt (Nat.lt_succ_self b)) h
theorem Same.sl {K : PySem.W.Frag} {b : Addr} {H H' : Hp} {xs : List V} (e : Same H H') (h : SqL K H b xs) : SqL K H' b xs := (ExB.of (d := b + 1) e).sl (Nat.ne_of_lt (Nat.lt_succ_self b)) h

/-! ### fields, calls of methods, kinds: steps -/
theorem lk0 {f : Str} {v : V} {r : List (Str × V)} : List.lookup f ((f, v) :: r) = some v := by simp [List.lookup]
theorem lk1 {f g : Str} {x : V} {r : List (Str × V)} {o : Option V} (h : (g == f) = false) (q : List.lookup g r = o) : List.lookup g ((f, x) :: r) = o := by simp only [List.lookup, h]; exact q
theorem pf_nil {f : Str} {v : V} : putF f v [] = [(f, v)] := rfl
theorem pf_hit {f : Str} {v x : V} {r : List (Str × V)} : putF f v ((f, x) :: r) = (f, v) :: r := if_pos rfl
theorem pf_miss {f g : Str} {v x : V} {r r' : List (Str × V)} (h : ¬ g = f) (q : putF f v r = r') : putF f v ((g, x) :: r) = (g, x) :: r' := by
  show (if g = f then _ else (g, x) :: putF f v r) = _
  rw [if_neg h, q]
def FldK (K : PySem.W.Frag) (f : Str) (x : V) (H : Hp) (Q : VK) : Prop := ∃ a C dx fs v, x = .ref a ∧ H a = some (.ins C dx fs) ∧ Cls K C ∧ NoAttr K C f ∧ fs.lookup f = some v ∧ Q v H
def SFldK (K : PySem.W.Frag) (f : Str) (y x : V) (H : Hp) (P : Hp → Prop) : Prop := ∃ a C dx fs, x = .ref a ∧ H a = some (.ins C dx fs) ∧ Cls K C ∧ NoAttr K C f ∧ fs.length < 1000 ∧ P (upd H a (.ins C dx (putF f y fs)))
def MethK (C : Addr) (m : Str) (x : V) (H : Hp) (P : Addr → Prop) : Prop := ∃ a dx fs, x = .ref a ∧ H a = some (.ins C dx fs) ∧ fs.lookup m = none ∧ P a
def PropK (C : Addr) (x : V) (H : Hp) (P : Addr → Prop) : Prop := ∃ a dx fs, x = .ref a ∧ H a = some (.ins C dx fs) ∧ P a
def InstK (x : V) (P : Addr → Prop) : Prop := ∃ a, x = .ref a ∧ P a
def CallK (C a : Addr) (H : Hp) (P : Prop) : Prop := (∃ dx fs, H a = some (.ins C dx fs)) ∧ P
section
variable {σ : L2.St} {H : Hp} {Q : VK} {K : PySem.W.Frag} {te tv : TE} {D : Ends} {f : Str} {p C dx : Addr} {fs fs' : List (Str × V)} {v : V} {tr : TA}
theorem z_fld (q : te σ H fun x H1 => FldK K f x H1 Q) : tFld K te f σ H Q := q
theorem z_fld2 (h : H p = some (.ins C dx fs)) (c : Cls K C) (n : NoAttr K C f) (l : fs.lookup f = some v) (q : Q v H) : FldK K f (.ref p) H Q := ⟨p, C, dx, fs, v, rfl, h, c, n, l, q⟩
theorem z_sfld (q : tv σ H fun y H1 => te σ H1 fun x H2 => SFldK K f y x H2 fun H3 => D.nx σ H3) : sFld K te tv f D σ H := q
theorem z_sfld2 {P : Hp → Prop} (h : H p = some (.ins C dx fs)) (c : Cls K C) (n : NoAttr K C f) (z : fs.length < 1000) (e : putF f v fs = fs') (q : P (upd H p (.ins C dx fs'))) : SFldK K f v (.ref p) H P := ⟨p, C, dx, fs, rfl, h, c, n, z, by rw [e]; exact q⟩
theorem z_meth {m : Str} {sp : Sp} {E : L2.St → XK} (q : te σ H fun x H1 => MethK C m x H1 fun a => tr σ H1 fun vs H2 => sp (.ref a :: vs) H2 Q (E σ)) : tMethS C m sp E te tr σ H Q := q
theorem z_meth2 {m : Str} {P : Addr → Prop} (h : H p = some (.ins C dx fs)) (l : fs.lookup m = none) (q : P p) : MethK C m (.ref p) H P := ⟨p, dx, fs, rfl, h, l, q⟩
theorem z_prop {sp : Sp} (q : te σ H fun x H1 => PropK C x H1 fun a => sp [.ref a] H1 Q E0) : tPropS C sp te σ H Q := q
theorem z_prop2 {P : Addr → Prop} (h : H p = some (.ins C dx fs)) (q : P p) : PropK C (.ref p) H P := ⟨p, dx, fs, rfl, h, q⟩
theorem z_make {sp : Sp} {E : L2.St → XK} (q : tr σ H fun vs H1 => ∀ x dx, H1 x = none → H1 dx = none → dx ≠ x → sp (.ref x :: vs) (upd (upd H1 dx (.own x)) x (.ins C dx [])) (MkQ Q x) (E σ)) : tMakeS C sp E tr σ H Q := q
theorem z_inst {sp : Sp} {E : L2.St → XK} (q : te σ H fun x H1 => InstK x fun a => tr σ H1 fun vs H2 => CallK C a H2 (sp (.ref a :: vs) H2 Q (E σ))) : tInst C sp E te tr σ H Q := q
theorem z_inst2 {P : Addr → Prop} (q : P p) : InstK (.ref p) P := ⟨p, rfl, q⟩
theorem z_inst3 {P : Prop} (h : H p = some (.ins C dx fs)) (q : P) : CallK C p H P := ⟨⟨dx, fs, h⟩, q⟩
def ChK (r' : R2) (tc : TE) (σ : L2.St) (y z : V) (H : Hp) (Q : VK) : Prop := ∃ k, z = .bl k ∧ (if k = true then tc σ H fun w' H4 => r' y w' H4 Q else Q (.bl false) H)
theorem z_chain {r r' : R2} {ta tb tc : TE} (q : ta σ H fun x H1 => tb σ H1 fun y H2 => r x y H2 fun z H3 => ChK r' tc σ y z H3 Q) : tChain r r' ta tb tc σ H Q := q
theorem z_ch2 {r' : R2} {tc : TE} {y : V} {k : Bool} (q : if k = true then tc σ H fun w' H4 => r' y w' H4 Q else Q (.bl false) H) : ChK r' tc σ y (.bl k) H Q := ⟨k, rfl, q⟩
def EqOK (c : Str) (sp : Sp) (K : PySem.W.Frag) (x y : V) (H : Hp) (Q : VK) : Prop := ∃ a dx fs, x = .ref a ∧ H a = some (.ins (He.ga K c) dx fs) ∧ Oth K (He.ga K c) H y ∧ sp [x, y] H Q E0
theorem z_eqO {c : Str} {sp : Sp} {E : L2.St → XK} {y : V} (h : H p = some (.ins (He.ga K c) dx fs)) (o : Oth K (He.ga K c) H y) (q : sp [.ref p, y] H Q E0) : rEqO c sp E K (.ref p) y H Q := ⟨p, dx, fs, rfl, h, o, q⟩
theorem z_isi {x c : V} {t u : Value} {b : Bool} (hc : ClsV c u) (ht : TyX K H x t) (hk : PySem.W.kitOne K t u = some b) (q : Q (.bl b) H) : rIsi K [x, c] H Q := ⟨x, c, t, u, b, rfl, hc, ht, hk, q⟩
end
theorem kb_NoneType_bool {K : PySem.W.Frag} : PySem.W.kitOne K (.type "NoneType") (.type "bool") = some false := kit_ty (by decide +kernel)
theorem kb_NoneType_int {K : PySem.W.Frag} : PySem.W.kitOne K (.type "NoneType") (.type "int") = some false := kit_ty (by decide +kernel)
theorem kb_NoneType_str {K : PySem.W.Frag} : PySem.W.kitOne K (.type "NoneType") (.type "str") = some false := kit_ty (by decide +kernel)
theorem kb_NoneType_dict {K : PySem.W.Frag} : PySem.W.kitOne K (.type "NoneType") (.type "dict") = some false := kit_ty (by decide +kernel)
theorem kb_NoneType_tuple {K : PySem.W.Frag} : PySem.W.kitOne K (.type "NoneType") (.type "tuple") = some false := kit_ty (by decide +kernel)
theorem kb_NoneType_list {K : PySem.W.Frag} : PySem.W.kitOne K (.type "NoneType") (.type "list") = some false := kit_ty (by decide +kernel)
theorem kb_bool_bool {K : PySem.W.Frag} : PySem.W.kitOne K (.type "bool") (.type "bool") = some true := kit_ty (by decide +kernel)
theorem kb_bool_int {K : PySem.W.Frag} : PySem.W.kitOne K (.type "bool") (.type "int") = some true := kit_ty (by decide +kernel)
theorem kb_bool_str {K : PySem.W.Frag} : PySem.W.kitOne K (.type "bool") (.type "str") = some false := kit_ty (by decide +kernel)
theorem kb_bool_dict {K : PySem.W.Frag} : PySem.W.kitOne K (.type "bool") (.type "dict") = some false := kit_ty (by decide +kernel)
theorem kb_bool_tuple {K : PySem.W.Frag} : PySem.W.kitOne K (.type "bool") (.type "tuple") = some false := kit_ty (by decide +kernel)
theorem kb_bool_list {K : PySem.W.Frag} : PySem.W.kitOne K (.type "bool") (.type "list") = some false := kit_ty (by decide +kernel)
theorem kb_int_bool {K : PySem.W.Frag} : PySem.W.kitOne K (.type "int") (.type "bool") = some false := kit_ty (by decide +kernel)
theorem kb_int_int {K : PySem.W.Frag} : PySem.W.kitOne K (.type "int") (.type "int") = some true := kit_ty (by decide +kernel)
theorem kb_int_str {K : PySem.W.Frag} : PySem.W.kitOne K (.type "int") (.type "str") = some false := kit_ty (by decide +kernel)
theorem kb_int_dict {K : PySem.W.Frag} : PySem.W.kitOne K (.type "int") (.type "dict") = some false := kit_ty (by decide +kernel)
theorem kb_int_tuple {K : PySem.W.Frag} : PySem.W.kitOne K (.type "int") (.type "tuple") = some false := kit_ty (by decide +kernel)
theorem kb_int_list {K : PySem.W.Frag} : PySem.W.kitOne K (.type "int") (.type "list") = some false := kit_ty (by decide +kernel)
theorem kb_str_bool {K : PySem.W.Frag} : PySem.W.kitOne K (.type "str") (.type "bool") = some false := kit_ty (by decide +kernel)
theorem kb_str_int {K : PySem.W.Frag} : PySem.W.kitOne K (.type "str") (.type "int") = some false := kit_ty (by decide +kernel)
theorem kb_str_str {K : PySem.W.Frag} : PySem.W.kitOne K (.type "str") (.type "str") = some true := kit_ty (by decide +kernel)
theorem kb_str_dict {K : PySem.W.Frag} : PySem.W.kitOne K (.type "str") (.type "dict") = some false := kit_ty (by decide +kernel)
theorem kb_str_tuple {K : PySem.W.Frag} : PySem.W.kitOne K (.type "str") (.type "tuple") = some false := kit_ty (by decide +kernel)
theorem kb_str_list {K : PySem.W.Frag} : PySem.W.kitOne K (.type "str") (.type "list") = some false := kit_ty (by decide +kernel)
theorem kb_list_bool {K : PySem.W.Frag} : PySem.W.kitOne K (.type "list") (.type "bool") = some false := kit_ty (by decide +kernel)
theorem kb_list_int {K : PySem.W.Frag} : PySem.W.kitOne K (.type "list") (.type "int") = some false := kit_ty (by decide +kernel)
theorem kb_list_str {K : PySem.W.Frag} : PySem.W.kitOne K (.type "list") (.type "str") = some false := kit_ty (by decide +kernel)
theorem kb_list_dict {K : PySem.W.Frag} : PySem.W.kitOne K (.type "list") (.type "dict") = some false := kit_ty (by decide +kernel)
theorem kb_list_tuple {K : PySem.W.Frag} : PySem.W.kitOne K (.type "list") (.type "tuple") = some false := kit_ty (by decide +kernel)
theorem kb_list_list {K : PySem.W.Frag} : PySem.W.kitOne K (.type "list") (.type "list") = some true := kit_ty (by decide +kernel)
theorem kb_tuple_bool {K : PySem.W.Frag} : PySem.W.kitOne K (.type "tuple") (.type "bool") = some false := kit_ty (by decide +kernel)
theorem kb_tuple_int {K : PySem.W.Frag} : PySem.W.kitOne K (.type "tuple") (.type "int") = some false := kit_ty (by decide +kernel)
theorem kb_tuple_str {K : PySem.W.Frag} : PySem.W.kitOne K (.type "tuple") (.type "str") = some false := kit_ty (by decide +kernel)
theorem kb_tuple_dict {K : PySem.W.Frag} : PySem.W.kitOne K (.type "tuple") (.type "dict") = some false := kit_ty (by decide +kernel)
theorem kb_tuple_tuple {K : PySem.W.Frag} : PySem.W.kitOne K (.type "tuple") (.type "tuple") = some true := kit_ty (by decide +kernel)
theorem kb_tuple_list {K : PySem.W.Frag} : PySem.W.kitOne K (.type "tuple") (.type "list") = some false := kit_ty (by decide +kernel)
theorem kb_dict_bool {K : PySem.W.Frag} : PySem.W.kitOne K (.type "dict") (.type "bool") = some false := kit_ty (by decide +kernel)
theorem kb_dict_int {K : PySem.W.Frag} : PySem.W.kitOne K (.type "dict") (.type "int") = some false := kit_ty (by decide +kernel)
theorem kb_dict_str {K : PySem.W.Frag} : PySem.W.kitOne K (.type "dict") (.type "str") = some false := kit_ty (by decide +kernel)
theorem kb_dict_dict {K : PySem.W.Frag} : PySem.W.kitOne K (.type "dict") (.type "dict") = some true := kit_ty (by decide +kernel)
theorem kb_dict_tuple {K : PySem.W.Frag} : PySem.W.kitOne K (.type "dict") (.type "tuple") = some false := kit_ty (by decide +kernel)
theorem kb_dict_list {K : PySem.W.Frag} : PySem.W.kitOne K (.type "dict") (.type "list") = some false := kit_ty (by decide +kernel)
theorem ty_L {K : PySem.W.Frag} {H : Hp} {a : Addr} {xs : List V} (h : SqL K H a xs) : TyX K H (.ref a) (.type "list") := by
  rcases h with (h | ⟨o, h⟩) | ⟨o, its, n, h, c, _⟩
  · exact .base (.lst h)
  · exact .base (.frz h)
  · exact .kList h c
theorem ty_T {K : PySem.W.Frag} {H : Hp} {a : Addr} {xs : List V} (h : SqT K H a xs) : TyX K H (.ref a) (.type "tuple") := by
  rcases h with (h | ⟨o, h⟩) | ⟨o, its, n, h, c, _⟩
  · exact .base (.tup h)
  · exact .fTuple h
  · exact .kTuple h c
def rIsN : R2 := fun x y H Q => y = .non ∧ Q (.bl (decide (x = .non))) H
def rIsNN : R2 := fun x y H Q => y = .non ∧ Q (.bl (!decide (x = .non))) H
theorem op_isNone {X : Cx} : OpR X (compareOp .Is) rIsN := fun pins s σ H x y v u Q I rx ry h => op_isN pins s σ H x y v u Q I rx ry h
theorem op_isNotNone {X : Cx} : OpR X (compareOp .IsNot) rIsNN := fun pins s σ H x y v u Q I rx ry h => op_notN pins s σ H x y v u Q I rx ry h
theorem z_isN {x : V} {H : Hp} {Q : VK} (q : Q (.bl (decide (x = .non))) H) : rIsN x .non H Q := ⟨rfl, q⟩
theorem z_isNN {x : V} {H : Hp} {Q : VK} (q : Q (.bl (!decide (x = .non))) H) : rIsNN x .non H Q := ⟨rfl, q⟩
/-- is it an int, and no bool? -/
def IntQ (K : PySem.W.Frag) (H : Hp) (v : V) (b : Bool) : Prop := ∃ t b1 b2, TyX K H v t ∧ PySem.W.kitOne K t (.type "int") = some b1 ∧ PySem.W.kitOne K t (.type "bool") = some b2 ∧ b = (b1 && !b2)
theorem TyX.keep {K : PySem.W.Frag} {H H' : Hp} {v : V} {t : Value} (h : TyX K H v t) (e : Same H H') : TyX K H' v t := by
  cases h with
  | base h =>
    cases h with
    | non => exact .base .non
    | bl x => exact .base (.bl x)
    | int x => exact .base (.int x)
    | str x => exact .base (.str x)
    | flt x => exact .base (.flt x)
    | lst h => exact .base (.lst (e _ _ h))
    | frz h => exact .base (.frz (e _ _ h))
    | tup h => exact .base (.tup (e _ _ h))
    | dK h => exact .base (.dK (e _ _ h))
    | dT h => exact .base (.dT (e _ _ h))
    | ins h a b c d f => exact .base (.ins (e _ _ h) a b c d f)
  | byt b => exact .byt b
  | set h => exact .set (e _ _ h)
  | kList h c => exact .kList h c
  | kTuple h c => exact .kTuple h c
  | kDict h c => exact .kDict h c
  | fTuple h => exact .fTuple (e _ _ h)
  | fDict h => exact .fDict (e _ _ h)
theorem IntQ.keep {K : PySem.W.Frag} {H H' : Hp} {v : V} {b : Bool} (h : IntQ K H v b) (e : Same H H') : IntQ K H' v b := let ⟨t, b1, b2, ht, r⟩ := h; ⟨t, b1, b2, TyX.keep ht e, r⟩
theorem intQ_int {K : PySem.W.Frag} {H : Hp} {i : Int} : IntQ K H (.int i) true := ⟨_, true, false, .base (.int i), kit_ty (by decide +kernel), kit_ty (by decide +kernel), rfl⟩
theorem intQ_bl {K : PySem.W.Frag} {H : Hp} {i : Bool} : IntQ K H (.bl i) false := ⟨_, true, true, .base (.bl i), kit_ty (by decide +kernel), kit_ty (by decide +kernel), rfl⟩
theorem intQ_non {K : PySem.W.Frag} {H : Hp} : IntQ K H .non false := ⟨_, false, false, .base .non, kit_ty (by decide +kernel), kit_ty (by decide +kernel), rfl⟩
theorem intQ_str {K : PySem.W.Frag} {H : Hp} {z : Str} : IntQ K H (.str z) false := ⟨_, false, false, .base (.str z), kit_ty (by decide +kernel), kit_ty (by decide +kernel), rfl⟩
/-- what a class must say so that isinstance asks its instances rightly -/
structure InK (K : PySem.W.Frag) (c : Str) : Prop where
  cl : Cls K (He.ga K c)
  ha : PySem.W.findIn K (.ref (He.ga K c)) "__class__" = some (some (.builtin "object.__class__"))
  hn : PySem.W.specialIn K (.builtin "object.__class__") "__get__" = some (some (.builtin "getset_descriptor.__get__"))
  ht : PySem.W.takesIn K (.builtin "object.__class__") = some true
  hm : PySem.W.mroIn K (He.ga K c) (.type "object") = some true
theorem InK.ty {K : PySem.W.Frag} {c : Str} (k : InK K c) {H : Hp} {a dx : Addr} {fs : List (Str × V)} (h : H a = some (.ins (He.ga K c) dx fs)) : TyX K H (.ref a) (.ref (He.ga K c)) := .base (.ins h k.cl k.ha k.hn k.ht k.hm)

/-! ### loops, comprehensions: what is asked of the prover -/
section
variable {σ : L2.St} {H : Hp} {Q : VK} {K : PySem.W.Frag} {D : Ends} {g : TG} {tb : TS} {tl te : TE} {tt : TT} {vs : List Nat}
structure ForS (src : Hp → Prop) (xs : List V) (g : TG) (tb : TS) (D : Ends) (σ : L2.St) (H : Hp) (Pv : Nat → L2.St → Hp → Prop) : Prop where
  h0 : Pv 0 σ H
  hl : ∀ i σ H, i ≤ xs.length → Pv i σ H → src H
  hs : ∀ i x σ H, xs[i]? = some x → Pv i σ H → g x σ H fun σ2 H2 => tb { D with nx := Pv (i + 1), ct := Pv (i + 1), bk := D.nx } σ2 H2
  hd : ∀ σ H, Pv xs.length σ H → D.nx σ H
theorem z_forL (q : tl σ H fun x H1 => ∃ a xs, x = .ref a ∧ SqL K H1 a xs ∧ ∃ Pv, ForS (fun H => SqL K H a xs) xs g tb D σ H1 Pv) (hm : ∀ σ H (Q Q' : VK), (∀ v H', Q v H' → Q' v H') → tl σ H Q → tl σ H Q') : tFor (iList K tl) g tb D σ H := by
  refine hm _ _ _ _ (fun v H1 z => ?_) q
  obtain ⟨a, xs, rfl, hS, Pv, F⟩ := z
  exact ⟨a, rfl, ⟨xs, hS⟩, for_list (K := K) Pv F.h0 F.hl F.hs F.hd⟩
theorem z_forT (q : tl σ H fun x H1 => ∃ a xs, x = .ref a ∧ SqT K H1 a xs ∧ ∃ Pv, ForS (fun H => SqT K H a xs) xs g tb D σ H1 Pv) (hm : ∀ σ H (Q Q' : VK), (∀ v H', Q v H' → Q' v H') → tl σ H Q → tl σ H Q') : tFor (iTup K tl) g tb D σ H := by
  refine hm _ _ _ _ (fun v H1 z => ?_) q
  obtain ⟨a, xs, rfl, hS, Pv, F⟩ := z
  exact ⟨a, rfl, ⟨xs, hS⟩, for_tup (K := K) Pv F.h0 F.hl F.hs F.hd⟩
theorem mono_var {i : Nat} : ∀ σ H (Q Q' : VK), (∀ v H', Q v H' → Q' v H') → tVar i σ H Q → tVar i σ H Q' := fun _ _ _ _ k ⟨v, e, q⟩ => ⟨v, e, k _ _ q⟩
theorem z_forLv {i : Nat} {a : Addr} {xs : List V} (e : σ[i]? = some (some (.ref a))) (hS : SqL K H a xs) (Pv : Nat → L2.St → Hp → Prop) (F : ForS (fun H => SqL K H a xs) xs g tb D σ H Pv) : tFor (iList K (tVar i)) g tb D σ H :=
  z_forL ⟨_, e, a, xs, rfl, hS, Pv, F⟩ mono_var
theorem z_forTv {i : Nat} {a : Addr} {xs : List V} (e : σ[i]? = some (some (.ref a))) (hS : SqT K H a xs) (Pv : Nat → L2.St → Hp → Prop) (F : ForS (fun H => SqT K H a xs) xs g tb D σ H Pv) : tFor (iTup K (tVar i)) g tb D σ H :=
  z_forT ⟨_, e, a, xs, rfl, hS, Pv, F⟩ mono_var
structure LcR (n : Nat) (g : TG) (tt : TT) (te : TE) (vs : List Nat) (σ : L2.St) (H1 : Hp) (D : Addr) (Q : VK) (Pv : Nat → Hp → Prop) : Prop where
  h0 : Pv 0 (upd H1 D (.lst []))
  hs : ∀ i H, i < n → Pv i H → g (.int i) (wipe σ vs) H fun σ2 H2 => wipe σ2 vs = wipe σ vs ∧ tt σ2 H2 fun b H3 =>
    if b = true then te σ2 H3 fun y H4 => ∃ acc, H4 D = some (.lst acc) ∧ acc.length < sizeLine ∧ Pv (i + 1) (upd H4 D (.lst (acc ++ [y]))) else Pv (i + 1) H3
  hd : ∀ H, Pv n H → Q (.ref D) H
structure ForR (n : Nat) (g : TG) (tb : TS) (D : Ends) (σ : L2.St) (H : Hp) (Pv : Nat → L2.St → Hp → Prop) : Prop where
  h0 : Pv 0 σ H
  hs : ∀ i σ H, i < n → Pv i σ H → g (.int i) σ H fun σ2 H2 => tb { D with nx := Pv (i + 1), ct := Pv (i + 1), bk := D.nx } σ2 H2
  hd : ∀ σ H, Pv n σ H → D.nx σ H
structure LcS (src : Hp → Prop) (xs : List V) (g : TG) (tt : TT) (te : TE) (vs : List Nat) (σ : L2.St) (H1 : Hp) (D : Addr) (Q : VK) (Pv : Nat → Hp → Prop) : Prop where
  h0 : Pv 0 (upd H1 D (.lst []))
  hl : ∀ i H, i ≤ xs.length → Pv i H → src H
  hs : ∀ i x H, xs[i]? = some x → Pv i H → g x (wipe σ vs) H fun σ2 H2 => wipe σ2 vs = wipe σ vs ∧ tt σ2 H2 fun b H3 =>
    if b = true then te σ2 H3 fun y H4 => ∃ acc, H4 D = some (.lst acc) ∧ acc.length < sizeLine ∧ Pv (i + 1) (upd H4 D (.lst (acc ++ [y]))) else Pv (i + 1) H3
  hd : ∀ H, Pv xs.length H → Q (.ref D) H
theorem z_lcLv {i : Nat} {a : Addr} {xs : List V} (e : σ[i]? = some (some (.ref a))) (hS : SqL K H a xs) (F : ∀ D, H D = none → ∃ Pv, LcS (fun H => SqL K H a xs) xs g tt te vs σ H D Q Pv) : tLc (iList K (tVar i)) g tt te vs σ H Q :=
  ⟨_, e, a, rfl, ⟨xs, hS⟩, fun D hD => let ⟨Pv, F⟩ := F D hD; lc_list (K := K) Pv F.h0 F.hl F.hs F.hd⟩
theorem z_lcTv {i : Nat} {a : Addr} {xs : List V} (e : σ[i]? = some (some (.ref a))) (hS : SqT K H a xs) (F : ∀ D, H D = none → ∃ Pv, LcS (fun H => SqT K H a xs) xs g tt te vs σ H D Q Pv) : tLc (iTup K (tVar i)) g tt te vs σ H Q :=
  ⟨_, e, a, rfl, ⟨xs, hS⟩, fun D hD => let ⟨Pv, F⟩ := F D hD; lc_tup (K := K) Pv F.h0 F.hl F.hs F.hd⟩
theorem z_acc {D : Addr} {acc : List V} {y : V} {P : Hp → Prop} (h : H D = some (.lst acc)) (hz : acc.length < 100000) (q : P (upd H D (.lst (acc ++ [y])))) : ∃ acc, H D = some (.lst acc) ∧ acc.length < sizeLine ∧ P (upd H D (.lst (acc ++ [y]))) :=
  ⟨acc, h, Nat.lt_of_lt_of_le hz (by decide), q⟩
theorem z_lcR {ta : TA} (q : ta σ H fun ws H1 => ∃ n : Nat, ws = [.int n] ∧ n ≤ 100000 ∧ ∀ D, H1 D = none → ∃ Pv, LcR n g tt te vs σ H1 D Q Pv) (hm : ∀ σ H (Q Q' : List V → Hp → Prop), (∀ v H', Q v H' → Q' v H') → ta σ H Q → ta σ H Q') : tLc (iRng1 ta) g tt te vs σ H Q := by
  refine hm _ _ _ _ (fun v H1 z => ?_) q
  obtain ⟨n, rfl, hn, F⟩ := z
  refine ⟨n, rfl, by omega, by omega, fun D hD => ?_⟩
  obtain ⟨Pv, F⟩ := F D hD
  exact lc_range (lo := 0) (n := n) Pv F.h0 (fun i H hi p => by have := F.hs i H hi p; rw [Int.zero_add]; exact this) F.hd
theorem z_forR {ta : TA} (q : ta σ H fun ws H1 => ∃ n : Nat, ws = [.int n] ∧ n ≤ 100000 ∧ ∃ Pv, ForR n g tb D σ H1 Pv) (hm : ∀ σ H (Q Q' : List V → Hp → Prop), (∀ v H', Q v H' → Q' v H') → ta σ H Q → ta σ H Q') : tFor (iRng1 ta) g tb D σ H := by
  refine hm _ _ _ _ (fun v H1 z => ?_) q
  obtain ⟨n, rfl, hn, Pv, F⟩ := z
  refine ⟨n, rfl, by omega, by omega, ?_⟩
  exact for_range (lo := 0) (n := n) Pv F.h0 (fun i σ H hi p => by have := F.hs i σ H hi p; rw [Int.zero_add]; exact this) F.hd
theorem mono_nil : ∀ σ H (Q Q' : List V → Hp → Prop), (∀ v H', Q v H' → Q' v H') → tNil σ H Q → tNil σ H Q' := fun _ _ _ _ k q => k _ _ q
theorem mono_cons {ta : TE} {tr : TA} (ha : ∀ σ H (Q Q' : VK), (∀ v H', Q v H' → Q' v H') → ta σ H Q → ta σ H Q') (hr : ∀ σ H (Q Q' : List V → Hp → Prop), (∀ v H', Q v H' → Q' v H') → tr σ H Q → tr σ H Q') :
    ∀ σ H (Q Q' : List V → Hp → Prop), (∀ v H', Q v H' → Q' v H') → tCons ta tr σ H Q → tCons ta tr σ H Q' := fun σ H Q Q' k q => ha _ _ _ _ (fun v H1 q1 => hr _ _ _ _ (fun vs H2 q2 => k _ _ q2) q1) q
theorem mono_c {v : V} : ∀ σ H (Q Q' : VK), (∀ v H', Q v H' → Q' v H') → tC v σ H Q → tC v σ H Q' := fun _ _ _ _ k q => k _ _ q
theorem mono_cbLen {ta : TA} (hr : ∀ σ H (Q Q' : List V → Hp → Prop), (∀ v H', Q v H' → Q' v H') → ta σ H Q → ta σ H Q') : ∀ σ H (Q Q' : VK), (∀ v H', Q v H' → Q' v H') → tCB (rLenSq K) ta σ H Q → tCB (rLenSq K) ta σ H Q' :=
  fun σ H Q Q' k q => hr _ _ _ _ (fun vs H1 ⟨p, ys, e, h, q⟩ => ⟨p, ys, e, h, k _ _ q⟩) q
theorem mono_callS {sp : Sp} {E : L2.St → XK} {ta : TA} (hs : ∀ vs H (Q Q' : VK) E, (∀ v H', Q v H' → Q' v H') → sp vs H Q E → sp vs H Q' E) (hr : ∀ σ H (Q Q' : List V → Hp → Prop), (∀ v H', Q v H' → Q' v H') → ta σ H Q → ta σ H Q') :
    ∀ σ H (Q Q' : VK), (∀ v H', Q v H' → Q' v H') → tCallS sp E ta σ H Q → tCallS sp E ta σ H Q' := fun σ H Q Q' k q => hr _ _ _ _ (fun vs H1 q => hs _ _ _ _ _ k q) q
theorem z_all {p : Addr} {bs : List Bool} (h : SqL K H p (bs.map V.bl)) (q : Q (.bl (bs.all id)) H) : rAll K [.ref p] H Q := ⟨p, bs, rfl, h, q⟩
theorem z_any {p : Addr} {bs : List Bool} (h : SqL K H p (bs.map V.bl)) (q : Q (.bl (bs.any id)) H) : rAny K [.ref p] H Q := ⟨p, bs, rfl, h, q⟩
theorem z_yes {QT : Bool → Hp → Prop} (q : QT true H) : tYes σ H QT := q
theorem z_cat {p b : Addr} {xs zs : List V} (h : H p = some (.lst xs)) (h2 : H b = some (.lst zs)) (hz : xs.length + zs.length ≤ 100000) (q : ∀ l, H l = none → Q (.ref l) (upd H l (.lst (xs ++ zs)))) : rCat (.ref p) (.ref b) H Q :=
  ⟨p, b, xs, zs, rfl, rfl, h, h2, Nat.le_trans hz (by decide), q⟩
theorem sz_lt {n : Nat} (h : n < 100000) : n < sizeLine := Nat.lt_of_lt_of_le h (by decide)
theorem sz_le {n : Nat} (h : n ≤ 100000) : n ≤ sizeLine := Nat.le_trans h (by decide)
theorem int_at {ns : List Int} {i : Nat} {x : V} (h : (ns.map V.int)[i]? = some x) : ∃ z, ns[i]? = some z ∧ x = V.int z := by
  rw [List.getElem?_map] at h
  cases e : ns[i]? with
  | none => rw [e] at h; cases h
  | some z => rw [e] at h; exact ⟨z, rfl, (Option.some.inj h).symm⟩
theorem lt_of_at {α : Type} {xs : List α} {i : Nat} {x : α} (h : xs[i]? = some x) : i < xs.length := (List.getElem?_eq_some_iff.mp h).1
end

/-! ### operators by own methods -/
/-- what a class must say of an operator's names -/
structure BinC (K : PySem.W.Frag) (c : Str) (nm : String) : Prop where
  first : PySem.W.selfFirst K (He.ga K c) = true
  rr : ∃ rc, PySem.W.findIn K (.ref (He.ga K c)) (dunderR nm) = some rc ∧ (rc = none ∨ ∃ g : Addr, rc = some (.ref g))
  i1 : ∃ fo, PySem.W.findIn K (.type "int") (PySem.dunder nm) = some fo
  i2 : ∃ ro, PySem.W.findIn K (.type "int") (dunderR nm) = some ro
  sub : PySem.W.subIn K (.type "int") (.ref (He.ga K c)) = some false
  bus : PySem.W.subIn K (.ref (He.ga K c)) (.type "int") = some false
def binB (K : PySem.W.Frag) (c : Str) (nm : String) : Bool := PySem.W.selfFirst K (He.ga K c) && ((match PySem.W.findIn K (.ref (He.ga K c)) (dunderR nm) with
  | some none => true
  | some (some (.ref _)) => true
  | _ => false) && ((PySem.W.findIn K (.type "int") (PySem.dunder nm)).isSome && ((PySem.W.findIn K (.type "int") (dunderR nm)).isSome && (decide (PySem.W.subIn K (.type "int") (.ref (He.ga K c)) = some false) && decide (PySem.W.subIn K (.ref (He.ga K c)) (.type "int") = some false)))))
theorem bin_ok {K : PySem.W.Frag} {c : Str} {nm : String} (h : binB K c nm = true) : BinC K c nm := by
  obtain ⟨h1, h⟩ := He.ba h
  obtain ⟨h2, h⟩ := He.ba h
  obtain ⟨h3, h⟩ := He.ba h
  obtain ⟨h4, h⟩ := He.ba h
  obtain ⟨h5, h6⟩ := He.ba h
  refine ⟨h1, ?_, Option.isSome_iff_exists.mp h3, Option.isSome_iff_exists.mp h4, of_decide_eq_true h5, of_decide_eq_true h6⟩
  split at h2
  · exact ⟨_, by assumption, .inl rfl⟩
  · exact ⟨_, by assumption, .inr ⟨_, rfl⟩⟩
  · cases h2
/-- the other side: a number, or one of the same class -/
inductive Mate (K : PySem.W.Frag) (c : Str) (H : Hp) : V → Prop
  | int {i : Int} : Mate K c H (.int i)
  | ins {b dy : Addr} {gs : List (Str × V)} (h : H b = some (.ins (He.ga K c) dy gs)) : Mate K c H (.ref b)
def BinK (c : Str) (sp : Sp) (E : XK) (K : PySem.W.Frag) (x y : V) (H : Hp) (Q : VK) : Prop := ∃ a dx fs, x = .ref a ∧ H a = some (.ins (He.ga K c) dx fs) ∧ Mate K c H y ∧ sp [x, y] H Q E
def tBinO (c : Str) (sp : Sp) (E : L2.St → XK) (K : PySem.W.Frag) (ta tb : TE) : TE := fun σ H Q => ta σ H fun x H1 => tb σ H1 fun y H2 => BinK c sp (E σ) K x y H2 Q
def RBinK (c : Str) (sp : Sp) (E : XK) (K : PySem.W.Frag) (x y : V) (H : Hp) (Q : VK) : Prop := ∃ i a dx fs, x = .int i ∧ y = .ref a ∧ H a = some (.ins (He.ga K c) dx fs) ∧ sp [y, x] H Q E
def tRBinO (c : Str) (sp : Sp) (E : L2.St → XK) (K : PySem.W.Frag) (ta tb : TE) : TE := fun σ H Q => ta σ H fun x H1 => tb σ H1 fun y H2 => RBinK c sp (E σ) K x y H2 Q
def IpK (c : Str) (sp : Sp) (K : PySem.W.Frag) (x y : V) (H : Hp) (Q : VK) : Prop := ∃ a dx fs, x = .ref a ∧ H a = some (.ins (He.ga K c) dx fs) ∧ sp [x, y] H Q E0
/-- x in o, o an instance: what its __contains__ says -/
def InO (c : Str) (sp : Sp) (E : XK) (K : PySem.W.Frag) (x y : V) (H : Hp) (Q : VK) : Prop := ∃ a dx fs, y = .ref a ∧ H a = some (.ins (He.ga K c) dx fs) ∧ sp [y, x] H (fun r H3 => ∃ k, r = .bl k ∧ Q (.bl k) H3) E
def tInO (c : Str) (sp : Sp) (E : L2.St → XK) (K : PySem.W.Frag) (ta tb : TE) : TE := fun σ H Q => ta σ H fun x H1 => tb σ H1 fun y H2 => InO c sp (E σ) K x y H2 Q
/-- o[i], o an instance -/
def SubO (c : Str) (sp : Sp) (E : XK) (K : PySem.W.Frag) (x y : V) (H : Hp) (Q : VK) : Prop := ∃ a dx fs, x = .ref a ∧ H a = some (.ins (He.ga K c) dx fs) ∧ sp [x, y] H Q E
def tSubO (c : Str) (sp : Sp) (E : L2.St → XK) (K : PySem.W.Frag) (ta tb : TE) : TE := fun σ H Q => ta σ H fun x H1 => tb σ H1 fun y H2 => SubO c sp (E σ) K x y H2 Q
section
variable {X : Cx} {k : Nat} {c m : Str} {ps : List Str} {sp : Sp} {E : L2.St → XK} {a b : Expr} {ta tb : TE} {pos : Pos} {op : Operator}
theorem pe_binO (G : GMe X.prog X.w X.K X.mg X.base c m k ps sp) (B : BinC X.K c op.info.2) (hr : Room k X.A) (hx : ∀ σ, PassesAt (L2N.CX X.prog X.w) X σ (E σ)) (ha : PE X a ta) (hb : PE X b tb)
    (hd : PySem.dunder op.info.2 = m := by rfl) : PE X (.BinOp a op b pos) (tBinO c sp E X.K ta tb) := by
  obtain ⟨fd, F, bi⟩ := G.fn
  refine ⟨fun pins s σ H Q I h => wpAny_BinOp (binT ha hb I h fun v u s2 x y H2 I2 rx ry q => ?_)⟩
  obtain ⟨p, dx, fs, rfl, hp, hm, hq⟩ := q
  cases (show v = Value.ref p from rx)
  obtain ⟨mA, O, _⟩ := ins_get I2.hok hp
  obtain ⟨od, J, _⟩ := O.look
  obtain ⟨mm, hF⟩ := I2.fr
  have call : wpAny (model X.prog X.w) X.A (PySem.call (.ref (He.ma X.K (He.ga X.K c) m)) [.ref p, u]) (PySem.W.CmpBack (EP X pins σ Q)) X.xe s2 :=
    thn (run_fnS (E := E) (vs := [.ref p, y]) F hr bi (hx σ) I2 (.cons rfl (.cons ry .nil)) hq) fun _ _ z => back_of z
  cases hm with
  | int =>
    obtain ⟨t, rfl⟩ := (show ∃ t, u = Value.int _ t from ry)
    obtain ⟨rc, hrc, hrp⟩ := B.rr
    obtain ⟨fo, hfo⟩ := B.i1
    obtain ⟨ro, hro⟩ := B.i2
    exact PySem.W.ksp_binT hF I2.ok.mod.kin J rfl B.first (by rw [hd]; exact G.me.at_) G.me.fn hrc hrp hfo hro B.sub call
  | ins h =>
    cases (show u = Value.ref _ from ry)
    obtain ⟨_, O2, _⟩ := ins_get I2.hok h
    obtain ⟨_, J2, _⟩ := O2.look
    exact PySem.W.binop_K hF I2.ok.mod.kin J J2.type B.first (by rw [hd]; exact G.me.at_) G.me.fn call
theorem int_add_ref {p : Addr} {i : Int} {t : Tok} {ox : Obj} (hd : ox.data = .plain) : GivesAt (fun s => s.heap.get? p = some ox) (Builtin.«int.__add__» ⟨[.int i t, .ref p], []⟩) (.val Value.notImplemented) := by
  intro prog w A R s hp h
  obtain ⟨hh, g, d, tk, os⟩ := s
  show wpAny _ _ (Builtin.Int.intBinary "__add__" (fun x y => PySem.retInt (x + y)) false ⟨[.int i t, .ref p], []⟩) _ _ _
  unfold Builtin.Int.intBinary
  refine wpAny_bind (wpAny_pure ?_)
  dsimp only
  refine wpAny_bind (wpAny_bind (wpAny_pure (wpAny_pure ?_)))
  refine wpAny_bind (wpAny_bind (m := load p) (wpAny_load hp ?_))
  rw [hd]
  refine wpAny_pure ?_
  exact wpAny_bind (wpAny_rule (wpAny_pure h))
theorem pe_radd {f : Addr} (G : GMe X.prog X.w X.K X.mg X.base c "__radd__" k ps sp) (B : BinC X.K c "add") (hs : PySem.W.findIn X.K (.ref (He.ga X.K c)) "__add__" = some (some (.ref f))) (hr : Room k X.A)
    (hx : ∀ σ, PassesAt (L2N.CX X.prog X.w) X σ (E σ)) (ha : PE X a ta) (hb : PE X b tb) : PE X (.BinOp a .Add b pos) (tRBinO c sp E X.K ta tb) := by
  obtain ⟨fd, F, bi⟩ := G.fn
  refine ⟨fun pins s σ H Q I h => wpAny_BinOp (binT ha hb I h fun v u s2 x y H2 I2 rx ry q => ?_)⟩
  obtain ⟨i, p, dx, fs, rfl, rfl, hp, hq⟩ := q
  cases (show u = Value.ref p from ry)
  obtain ⟨t, rfl⟩ := (show ∃ t, v = Value.int _ t from rx)
  obtain ⟨mA, O, _⟩ := ins_get I2.hok hp
  obtain ⟨od, J, _⟩ := O.look
  obtain ⟨mm, hF⟩ := I2.fr
  have XX := I2.kIn
  have call : wpAny (model X.prog X.w) X.A (PySem.call (.ref (He.ma X.K (He.ga X.K c) "__radd__")) [.ref p, .int i t]) (PySem.W.CmpBack (EP X pins σ Q)) X.xe s2 :=
    thn (run_fnS (E := E) (vs := [.ref p, .int i]) F hr bi (hx σ) I2 (.cons rfl (.cons ⟨t, rfl⟩ .nil)) hq) fun _ _ z => back_of z
  have one := PySem.W.ksp_try XX J G.me.at_ G.me.fn call
  obtain ⟨cd, rest, hcd, hm⟩ := PySem.W.ksp_first B.first
  have L1 : PySem.W.Looks (model X.prog X.w) s2.heap (typeOf (.int i t)) (.type "int") := PySem.W.Looks.of_pure rfl
  have L2 : PySem.W.Looks (model X.prog X.w) s2.heap (typeOf (.ref p)) (.ref (He.ga X.K c)) := J.type
  have L3 : PySem.W.Looks (model X.prog X.w) s2.heap (fillsNumberSlot (.type "int") "add") true := PySem.W.Looks.of_pure PySem.F.fills_int_add
  have L4 : PySem.W.Looks (model X.prog X.w) s2.heap (fillsNumberSlot (.ref (He.ga X.K c)) "add") true := PySem.W.fills_K XX hcd hm hs
  have L5 : PySem.W.Looks (model X.prog X.w) s2.heap (isSubtype (.ref (He.ga X.K c)) (.type "int")) false := PySem.W.looks_subIn XX B.bus
  have hne : (Value.type "int" == Value.ref (He.ga X.K c)) = false := Bool.eq_false_iff.mpr fun q => by cases beq_iff_eq.mp q
  have hpy : numberSlotInPython (.type "int") "add" = pure false := rfl
  show wpAny _ _ (holding _ _) _ _ _
  refine wpAny_holding (wpAny_bind (m := binaryOp1 "add" (.int i t) (.ref p)) ?_)
  unfold binaryOp1
  refine wpAny_bind (L1.here (wpAny_bind (L2.here (wpAny_bind (L3.here ?_)))))
  simp only [hne, Bool.false_eq_true, if_false]
  refine wpAny_bind (L4.here ?_)
  simp only [Bool.and_self, if_true]
  refine wpAny_bind (L5.here ?_)
  simp only [Bool.false_eq_true, if_false, pure_bind, Bool.not_false, Bool.and_self, if_true, hpy]
  refine wpAny_bind ?_
  apply wpAny_tryMethod_declines (typeIs_int s2 i t) PySem.F.slot_int_add
  apply call_givesAt (m := .val Value.notImplemented) PySem.F.slot_int_add (typeIs_int s2 i t) PySem.F.entry_int_add (PySem.F.args_int_add_2 _ _) (int_add_ref (p := p) (i := i) (t := t) rfl) J.at_
  refine ⟨rfl, ?_⟩
  refine wpAny_bind (wpAny_mono one (fun r s' hr' => ?_) fun _ _ e => e)
  obtain ⟨v, rfl, hq⟩ := hr'
  exact wpAny_bind (wpAny_rule (wpAny_pure (wpAny_pure hq)))
theorem pip_own (G : GMe X.prog X.w X.K X.mg X.base c m k ps sp) (hf : PySem.W.selfFirst X.K (He.ga X.K c) = true) (hr : Room k X.A) (hd : dunderI op.info.2 = m := by rfl) : PIp X op (IpK c sp X.K) := by
  obtain ⟨fd, F, bi⟩ := G.fn
  intro pins s σ H x y v u Q I rx ry q
  obtain ⟨p, dx, fs, rfl, hp, hq⟩ := q
  cases (show v = Value.ref p from rx)
  obtain ⟨mA, O, _⟩ := ins_get I.hok hp
  obtain ⟨od, J, _⟩ := O.look
  obtain ⟨mm, hF⟩ := I.fr
  have call : wpAny (model X.prog X.w) X.A (PySem.call (.ref (He.ma X.K (He.ga X.K c) m)) [.ref p, u]) (PySem.W.CmpBack (EP X pins σ Q)) X.xe s :=
    thn (run_fnS (E := fun _ => E0) (vs := [.ref p, y]) F hr bi (pas0 σ) I (.cons rfl (.cons ry .nil)) hq) fun _ _ z => back_of z
  exact PySem.W.ksp_inplace hF I.ok.mod.kin J hf (by rw [hd]; exact G.me.at_) G.me.fn call
theorem pe_inO (G : GMe X.prog X.w X.K X.mg X.base c "__contains__" k ps sp) (hr : Room k X.A) (hx : ∀ σ, PassesAt (L2N.CX X.prog X.w) X σ (E σ)) (ha : PE X a ta) (hb : PE X b tb) (hm : behindInMarks .In b = false := by rfl) :
    PE X (.Compare a [.In] [b] pos) (tInO c sp E X.K ta tb) := by
  obtain ⟨fd, F, bi⟩ := G.fn
  refine ⟨fun pins s σ H Q I h => wpAny_Compare1 (binT ha hb I h fun v u s2 x y H2 I2 rx ry q => ?_) hm⟩
  obtain ⟨p, dx, fs, rfl, hp, hq⟩ := q
  cases (show u = Value.ref p from ry)
  obtain ⟨mA, O, _⟩ := ins_get I2.hok hp
  obtain ⟨od, J, _⟩ := O.look
  obtain ⟨mm, hF⟩ := I2.fr
  refine PySem.W.in_K hF I2.ok.mod.kin J G.me.at_ G.me.fn (thn (run_fnS (E := E) (vs := [.ref p, x]) F hr bi (hx σ) I2 (.cons rfl (.cons rx .nil)) hq) fun r s3 z => ?_)
  obtain ⟨rv, H3, I3, rr, k', rfl, q3⟩ := z
  cases (show r = Value.bool k' from rr)
  exact wpAny_truthy_bool ⟨.bl k', H3, I3, rfl, q3⟩
/-- a method's run, one level deeper -/
theorem run_in1 {CX : CXT} {f : Addr} {fd : FuncData} {E : XK} {pins : List (Addr × Obj)} {σ : L2.St} {H : Hp} {s : Shared} {Q : VK} {us : List Value} {vs : List V} (F : FnOk X.prog X.w X.K X.mg X.base CX k f fd ps sp) (hr : Room (k + 1) X.A) (hb : Binds X.K fd ps [])
    (hx : PassesAt CX X σ E) (I : Inv X pins σ H s) (r : Vals vs us) (h : sp vs H Q E) : wpAny (model X.prog X.w) X.A.in1 (PySem.call (.ref f) us) (EP X pins σ Q) X.xe s := by
  have hl : us.length = ps.length := by rw [← r.length, F.len _ _ _ _ h]
  have b := hb s us I.kIn (by rw [List.append_nil, hl])
  rw [List.append_nil] at b
  refine wpAny_call (codeAny_mono (F.run X.A.in1 X.stack s H ⟨us, []⟩ us vs Q E hr.in1 I.env0.in1 b r h) fun r s' hq => ?_)
  match r, hq with
  | .error e, hq => exact hx pins H s e s' I hq
  | .ok (.ret u), hq => exact I.after hq
  | .ok .next, hq => exact False.elim hq
  | .ok .brk, hq => exact False.elim hq
  | .ok .cont, hq => exact False.elim hq
theorem pe_subO (G : GMe X.prog X.w X.K X.mg X.base c "__getitem__" k ps sp) (gn : PySem.W.fnIn X.K (He.ma X.K (He.ga X.K c) "__getitem__") = true) (hr : Room (k + 1) X.A) (hx : ∀ σ, PassesAt (L2N.CX X.prog X.w) X σ (E σ)) (ha : PE X a ta) (hb : PE X b tb)
    (hsl : ∀ o i, subscripted b true o i = runValue (.builtin "lifetime.subscript" ⟨[o, i], []⟩)) : PE X (.Subscript a b pos) (tSubO c sp E X.K ta tb) := by
  obtain ⟨fd, F, bi⟩ := G.fn
  refine ⟨fun pins s σ H Q I h => Subscript_ (binT ha hb I h fun v u s2 x y H2 I2 rx ry q => ?_)⟩
  obtain ⟨p, dx, fs, rfl, hp, hq⟩ := q
  cases (show v = Value.ref p from rx)
  obtain ⟨mA, O, _⟩ := ins_get I2.hok hp
  obtain ⟨od, J, _⟩ := O.look
  obtain ⟨mm, hF⟩ := I2.fr
  exact PySem.W.sub_K hF I2.ok.mod.kin J G.me.at_ gn G.me.fn (run_in1 (vs := [.ref p, y]) F hr bi (hx σ) I2 (.cons rfl (.cons ry .nil)) hq) (hsl _ _)
end
section
variable {σ : L2.St} {H : Hp} {Q : VK} {K : PySem.W.Frag} {ta tb te : TE} {c : Str} {sp : Sp} {p dx : Addr} {fs : List (Str × V)} {x y : V} {i : Int} {D : Ends} {n : Nat}
theorem z_binO {E : L2.St → XK} (q : ta σ H fun x H1 => tb σ H1 fun y H2 => BinK c sp (E σ) K x y H2 Q) : tBinO c sp E K ta tb σ H Q := q
theorem z_binK {E : XK} (h : H p = some (.ins (He.ga K c) dx fs)) (m : Mate K c H y) (q : sp [.ref p, y] H Q E) : BinK c sp E K (.ref p) y H Q := ⟨p, dx, fs, rfl, h, m, q⟩
theorem z_rbinO {E : L2.St → XK} (q : ta σ H fun x H1 => tb σ H1 fun y H2 => RBinK c sp (E σ) K x y H2 Q) : tRBinO c sp E K ta tb σ H Q := q
theorem z_rbinK {E : XK} (h : H p = some (.ins (He.ga K c) dx fs)) (q : sp [.ref p, .int i] H Q E) : RBinK c sp E K (.int i) (.ref p) H Q := ⟨i, p, dx, fs, rfl, rfl, h, q⟩
theorem z_aug {ti : TIp} (h : σ[n]? = some (some x)) (q : te σ H fun y H1 => ti x y H1 fun z H2 => D.nx (σ.set n (some z)) H2) : tAug n te ti D σ H := ⟨x, h, q⟩
theorem z_ipK (h : H p = some (.ins (He.ga K c) dx fs)) (q : sp [.ref p, y] H Q E0) : IpK c sp K (.ref p) y H Q := ⟨p, dx, fs, rfl, h, q⟩
theorem z_inO {E : L2.St → XK} (q : ta σ H fun x H1 => tb σ H1 fun y H2 => InO c sp (E σ) K x y H2 Q) : tInO c sp E K ta tb σ H Q := q
theorem z_inK {E : XK} (h : H p = some (.ins (He.ga K c) dx fs)) (q : sp [.ref p, x] H (fun r H3 => ∃ k, r = .bl k ∧ Q (.bl k) H3) E) : InO c sp E K x (.ref p) H Q := ⟨p, dx, fs, rfl, h, q⟩
theorem z_subO {E : L2.St → XK} (q : ta σ H fun x H1 => tb σ H1 fun y H2 => SubO c sp (E σ) K x y H2 Q) : tSubO c sp E K ta tb σ H Q := q
theorem z_subK {E : XK} (h : H p = some (.ins (He.ga K c) dx fs)) (q : sp [.ref p, y] H Q E) : SubO c sp E K (.ref p) y H Q := ⟨p, dx, fs, rfl, h, q⟩
theorem z_rep {xs : List V} {k : Int} (h : H p = some (.lst xs)) (h1 : -(2 ^ 63) ≤ k) (h2 : k < 2 ^ 63) (hz : xs.length * k.toNat ≤ 100000) (q : ∀ l, H l = none → Q (.ref l) (upd H l (.lst (List.replicate k.toNat xs).flatten))) : rRep (.ref p) (.int k) H Q :=
  ⟨p, k, xs, rfl, rfl, h, h1, h2, Nat.le_trans hz (by decide), q⟩
end

/-! ### the head: facts as Bools of what is reached, defs by their places -/
/-- a def: where it stands, its name, qualified name, statement -/
structure DefX where
  at_ : PySem.W.Frag → Addr
  name : Str
  qual : Str
  st : Stmt
def fnX (K : PySem.W.Frag) (f : Addr) : He.FnW := match K.lookup f with
  | some ⟨_, _, .func fd, _⟩ => some (fd.name, fd.qualname, fd.params, fd.body, fd.scope, fd.globals, fd.closure, fd.builtins)
  | _ => none
def DefX.val (d : DefX) : He.FnW := some (d.name, d.qual, defArgs d.st, .stmts (defBody d.st), defScope d.st, mainGlobals, [], builtinsNs)
def okX (K : PySem.W.Frag) (f : Addr) (q : Str) : Bool := PySem.W.keepIn K (.ref f) && (match K.lookup f with
  | some ⟨_, _, .func fd, _⟩ => PySem.W.codeIn K fd.code q && (He.dflB K fd.defaults [] && He.kwdB K fd.kwdefaults [])
  | _ => false)
theorem defAt_of {K : PySem.W.Frag} {f : Addr} {d : DefX} (e : fnX K f = d.val) (c : okX K f d.qual = true) : DefAt K d.name d.qual d.st f := by
  obtain ⟨kp, c⟩ := He.ba c
  unfold fnX at e
  match q : K.lookup f with
  | none => rw [q] at c; cases c
  | some ⟨oc, od, dt, osl⟩ =>
    rw [q] at c e
    match dt with
    | .func ⟨n1, n2, n3, n4, n5, n6, n7, n8, n9, n10, n11, n12, n13, n14, n15⟩ =>
      have e : (some (n1, n2, n3, n4, n5, n6, n7, n15) : He.FnW) = some (d.name, d.qual, defArgs d.st, .stmts (defBody d.st), defScope d.st, mainGlobals, [], builtinsNs) := e
      simp only [Option.some.injEq, Prod.mk.injEq] at e
      obtain ⟨h1, h2, h3, h4, h5, h6, h7, h8⟩ := e
      subst h1 h2 h3 h4 h5 h6 h7 h8
      obtain ⟨c1, c⟩ := He.ba (show (PySem.W.codeIn K n13 d.qual && (He.dflB K n8 [] && He.kwdB K n9 [])) = true from c)
      obtain ⟨c2, c3⟩ := He.ba c
      exact ⟨_, ⟨oc, od, n8, n9, n10, n11, n12, n13, n14, osl, rfl, q, c1, He.dflB_ok c2, He.kwdB_ok c3⟩, kp⟩
abbrev AlX : Type := Bool × List He.FnW
def obsX (fa : List (PySem.W.Frag → Bool)) (fn : List DefX) (K : PySem.W.Frag) : AlX := ((fa.all fun f => f K) && fn.all fun d => okX K (d.at_ K) d.qual, fn.map fun d => fnX K (d.at_ K))
def valX (fn : List DefX) : AlX := (true, fn.map DefX.val)
def SaysX (fa : List (PySem.W.Frag → Bool)) (fn : List DefX) (K : PySem.W.Frag) : Prop := obsX fa fn K = valX fn
def obsXG (n : Nat) (fa : List (PySem.W.Frag → Bool)) (fn : List DefX) (g : Addr → Option Obj) : AlX := obsX fa fn (He.frG g (He.asD g n))
def hookX (n : Nat) (fa : List (PySem.W.Frag → Bool)) (fn : List DefX) : PySem.W.Hook where
  α := AlX
  obs := fun s => obsXG n fa fn s.heap.get?
  val := fun _ => valX fn
  says := fun _ h => ∃ K : PySem.W.Frag, K.In h ∧ SaysX fa fn K
  of := fun _ _ e => ⟨_, He.frG_in, e⟩
  keeps := fun _ _ _ ⟨K, hK, c⟩ k => ⟨K, PySem.W.Frag.In.keeps hK k, c⟩
theorem obsXG_eq {n : Nat} {fa : List (PySem.W.Frag → Bool)} {fn : List DefX} {g : Addr → Option Obj} {s : Shared} (h : ∀ a, g a = s.heap.get? a) : obsXG n fa fn g = (hookX n fa fn).obs s := by
  have e : g = s.heap.get? := funext h
  rw [e] <;> rfl
section
variable {fa : List (PySem.W.Frag → Bool)} {fn : List DefX} {K : PySem.W.Frag}
theorem SaysX.fact (c : SaysX fa fn K) (i : Nat) {f : PySem.W.Frag → Bool} (h : fa[i]? = some f := by rfl) : f K = true :=
  List.all_eq_true.mp (He.ba (show ((fa.all fun f => f K) && fn.all fun d => okX K (d.at_ K) d.qual) = true from congrArg (fun z : AlX => z.1) c)).1 f (List.mem_of_getElem? h)
theorem SaysX.def_ (c : SaysX fa fn K) (i : Nat) {d : DefX} (h : fn[i]? = some d := by rfl) : DefAt K d.name d.qual d.st (d.at_ K) := by
  have c2 := (He.ba (show ((fa.all fun f => f K) && fn.all fun d => okX K (d.at_ K) d.qual) = true from congrArg (fun z : AlX => z.1) c)).2
  have e : fn.map (fun d => fnX K (d.at_ K)) = fn.map DefX.val := congrArg (fun z : AlX => z.2) c
  have e2 : (fn.map fun d => fnX K (d.at_ K))[i]? = (fn.map DefX.val)[i]? := by rw [e]
  rw [List.getElem?_map, List.getElem?_map, h] at e2
  exact defAt_of (Option.some.inj e2) (List.all_eq_true.mp c2 d (List.mem_of_getElem? h))
end
/-- a property's object, its getter -/
def propB (K : PySem.W.Frag) (c f : Str) : Bool := He.eqO (PySem.W.findIn K (.ref (He.ga K c)) f) (some (some (.ref (He.ma K (He.ga K c) f)))) && (decide (PySem.W.specialIn K (.ref (He.ma K (He.ga K c) f)) "__get__" = some (some (.builtin "property.__get__"))) &&
  (decide (PySem.W.takesIn K (.ref (He.ma K (He.ga K c) f)) = some true) && decide ((PySem.W.recIn K (He.ma K (He.ga K c) f) "property").map List.head? = some (some (.ref (pg K (He.ga K c) f))))))
theorem prop_ok {K : PySem.W.Frag} {c f : Str} (h : propB K c f = true) : PropOf K (He.ga K c) f (He.ma K (He.ga K c) f) (pg K (He.ga K c) f) := by
  obtain ⟨h1, h⟩ := He.ba h
  obtain ⟨h2, h⟩ := He.ba h
  obtain ⟨h3, h4⟩ := He.ba h
  refine ⟨He.eqO_ok h1, of_decide_eq_true h2, of_decide_eq_true h3, ?_⟩
  have h5 := of_decide_eq_true h4
  generalize pg K (He.ga K c) f = g at h5 ⊢
  cases q : PySem.W.recIn K (He.ma K (He.ga K c) f) "property" with
  | none => rw [q] at h5; cases h5
  | some l =>
    rw [q] at h5
    cases l with
    | nil => cases h5
    | cons v rest =>
      have e : v = .ref g := by simpa using h5
      exact ⟨rest, by rw [e]⟩
def inB (K : PySem.W.Frag) (c : Str) : Bool := (He.Fa.cls c).ok K && (decide (PySem.W.findIn K (.ref (He.ga K c)) "__class__" = some (some (.builtin "object.__class__"))) &&
  (decide (PySem.W.specialIn K (.builtin "object.__class__") "__get__" = some (some (.builtin "getset_descriptor.__get__"))) && (decide (PySem.W.takesIn K (.builtin "object.__class__") = some true) && decide (PySem.W.mroIn K (He.ga K c) (.type "object") = some true))))
theorem in_ok {K : PySem.W.Frag} {c : Str} (h : inB K c = true) : InK K c := by
  obtain ⟨h1, h⟩ := He.ba h
  obtain ⟨h2, h⟩ := He.ba h
  obtain ⟨h3, h⟩ := He.ba h
  obtain ⟨h4, h5⟩ := He.ba h
  exact ⟨He.cls_ok h1, of_decide_eq_true h2, of_decide_eq_true h3, of_decide_eq_true h4, of_decide_eq_true h5⟩
def ecB (K : PySem.W.Frag) (c : Str) : Bool := decide (PySem.W.findIn K (.ref (He.ga K c)) "__getattribute__" = some (some (.builtin "BaseException.__getattribute__"))) && (decide (PySem.W.findIn K (.ref (He.ga K c)) "__getattr__" = some none) &&
  (decide (PySem.W.subIn K (.ref (He.ga K c)) (.type "BaseException") = some true) && (PySem.W.hasDictIn K (He.ga K c) && (decide (PySem.W.findIn K (.ref (He.ga K c)) "__class__" = some (some (.builtin "object.__class__"))) &&
  (decide (PySem.W.specialIn K (.builtin "object.__class__") "__get__" = some (some (.builtin "getset_descriptor.__get__"))) && (decide (PySem.W.takesIn K (.builtin "object.__class__") = some true) && decide (PySem.W.mroIn K (He.ga K c) (.type "object") = some true)))))))
theorem ec_ok {K : PySem.W.Frag} {c : Str} (h : ecB K c = true) : ExcC K (He.ga K c) := by
  obtain ⟨h1, h⟩ := He.ba h
  obtain ⟨h2, h⟩ := He.ba h
  obtain ⟨h3, h⟩ := He.ba h
  obtain ⟨h4, h⟩ := He.ba h
  obtain ⟨h5, h⟩ := He.ba h
  obtain ⟨h6, h⟩ := He.ba h
  obtain ⟨h7, h8⟩ := He.ba h
  exact ⟨of_decide_eq_true h1, of_decide_eq_true h2, of_decide_eq_true h3, h4, of_decide_eq_true h5, of_decide_eq_true h6, of_decide_eq_true h7, of_decide_eq_true h8⟩
theorem exk_ok {K : PySem.W.Frag} {h : Heap} {mg : Str → Option Value} (X : K.In h) (G : h.Ns mainGlobals mg) {x : Str} (c1 : ((He.Fa.glo x).ok K && (He.Fa.exc x).ok K) = true) : ExK K mg x :=
  let ⟨a, b, c, d⟩ := He.exc_ok (He.ba c1).2
  ⟨He.glo_ok X G (He.ba c1).1, a, b, c, d⟩

end HX

set_option Elab.async false
set_option linter.all false
set_option maxRecDepth 100000
set_option maxHeartbeats 4000000
/-! LA: data without a heap. D: values as trees; W: the frozen part of the heap and the changing objects' places; Lk: the slots and the heap bear the data. -/
namespace LA
open PySem PySem.Spec PyProof.Rows L2

/-- a value, as a tree; ptr k: the k-th changing object -/
inductive D where
  | non | bl (b : Bool) | int (i : Int) | str (x : Str) | ty (n : String) | cls (c : Str)
  | tup (xs : List D) | lst (xs : List D) | dk (kvs : List (Key × D)) | dt (kvs : List (List Key × D))
  | ins (c : Str) (fs : List (Str × D)) | ptr (k : Nat) | exn (c : Str) (fs : List (Str × D))
instance : Inhabited D := ⟨.non⟩

structure W where
  F : Hp
  as : List Addr
  /-- the error that is handled -/
  ex : Option Addr := none

mutual
inductive Rep (K : PySem.W.Frag) (w : W) : V → D → Prop
  | non : Rep K w .non .non
  | bl (b : Bool) : Rep K w (.bl b) (.bl b)
  | int (i : Int) : Rep K w (.int i) (.int i)
  | str (x : Str) : Rep K w (.str x) (.str x)
  | ty (n : String) : Rep K w (.ty n) (.ty n)
  | cls (c : Str) : Rep K w (.ref (He.ga K c)) (.cls c)
  | tup {a : Addr} {vs : List V} {ds : List D} (h : w.F a = some (.tup vs)) (r : RepL K w vs ds) : Rep K w (.ref a) (.tup ds)
  | lst {a : Addr} {vs : List V} {ds : List D} (h : w.F a = some (.lst vs)) (r : RepL K w vs ds) : Rep K w (.ref a) (.lst ds)
  | dk {a : Addr} {vs : List (Key × V)} {ds : List (Key × D)} (h : Rd w.F a (.dK vs)) (r : RepK K w vs ds) : Rep K w (.ref a) (.dk ds)
  | dt {a : Addr} {vs : List (List Key × V)} {ds : List (List Key × D)} (h : Rd w.F a (.dT vs)) (r : RepT K w vs ds) : Rep K w (.ref a) (.dt ds)
  | ins {a dx : Addr} {c : Str} {vs : List (Str × V)} {ds : List (Str × D)} (h : w.F a = some (.ins (He.ga K c) dx vs)) (r : RepF K w vs ds) : Rep K w (.ref a) (.ins c ds)
  | ptr {a : Addr} {k : Nat} (h : w.as[k]? = some a) : Rep K w (.ref a) (.ptr k)
inductive RepL (K : PySem.W.Frag) (w : W) : List V → List D → Prop
  | nil : RepL K w [] []
  | cons {v : V} {d : D} {vs : List V} {ds : List D} (h : Rep K w v d) (r : RepL K w vs ds) : RepL K w (v :: vs) (d :: ds)
inductive RepK (K : PySem.W.Frag) (w : W) : List (Key × V) → List (Key × D) → Prop
  | nil : RepK K w [] []
  | cons {k : Key} {v : V} {d : D} {vs : List (Key × V)} {ds : List (Key × D)} (h : Rep K w v d) (r : RepK K w vs ds) : RepK K w ((k, v) :: vs) ((k, d) :: ds)
inductive RepT (K : PySem.W.Frag) (w : W) : List (List Key × V) → List (List Key × D) → Prop
  | nil : RepT K w [] []
  | cons {k : List Key} {v : V} {d : D} {vs : List (List Key × V)} {ds : List (List Key × D)} (h : Rep K w v d) (r : RepT K w vs ds) : RepT K w ((k, v) :: vs) ((k, d) :: ds)
inductive RepF (K : PySem.W.Frag) (w : W) : List (Str × V) → List (Str × D) → Prop
  | nil : RepF K w [] []
  | cons {k : Str} {v : V} {d : D} {vs : List (Str × V)} {ds : List (Str × D)} (h : Rep K w v d) (r : RepF K w vs ds) : RepF K w ((k, v) :: vs) ((k, d) :: ds)
end

/-- what w bears, w' bears -/
structure Le (K : PySem.W.Frag) (w w' : W) : Prop where
  t : ∀ (a : Addr) (vs : List V), w.F a = some (.tup vs) → w'.F a = some (.tup vs)
  l : ∀ (a : Addr) (vs : List V), w.F a = some (.lst vs) → w'.F a = some (.lst vs)
  k : ∀ (a : Addr) (vs : List (Key × V)), Rd w.F a (.dK vs) → Rd w'.F a (.dK vs)
  d : ∀ (a : Addr) (vs : List (List Key × V)), Rd w.F a (.dT vs) → Rd w'.F a (.dT vs)
  i : ∀ (a C dx : Addr) (vs : List (Str × V)), w.F a = some (.ins C dx vs) → w'.F a = some (.ins C dx vs)
  p : ∀ (k : Nat) (a : Addr), w.as[k]? = some a → w'.as[k]? = some a
  x : ∀ (a : Addr) (vs : List (Str × V)), w.F a = some (.xd vs) → w'.F a = some (.xd vs)
section
variable {K : PySem.W.Frag} {w w1 w2 w' : W}
theorem Le.refl (K : PySem.W.Frag) (w : W) : Le K w w := ⟨fun _ _ h => h, fun _ _ h => h, fun _ _ h => h, fun _ _ h => h, fun _ _ _ _ h => h, fun _ _ h => h, fun _ _ h => h⟩
theorem Le.trans (a : Le K w w1) (b : Le K w1 w2) : Le K w w2 :=
  ⟨fun v d h => b.t v d (a.t v d h), fun v d h => b.l v d (a.l v d h), fun v d h => b.k v d (a.k v d h), fun v d h => b.d v d (a.d v d h), fun v d e f h => b.i v d e f (a.i v d e f h), fun v d h => b.p v d (a.p v d h), fun v d h => b.x v d (a.x v d h)⟩
theorem Rep.mono (e : Le K w w') {v : V} {d : D} (h : Rep K w v d) : Rep K w' v d := by
  refine Rep.rec (motive_1 := fun v d _ => Rep K w' v d) (motive_2 := fun v d _ => RepL K w' v d) (motive_3 := fun v d _ => RepK K w' v d) (motive_4 := fun v d _ => RepT K w' v d) (motive_5 := fun v d _ => RepF K w' v d)
    .non .bl .int .str .ty .cls (fun h _ r => .tup (e.t _ _ h) r) (fun h _ r => .lst (e.l _ _ h) r) (fun h _ r => .dk (e.k _ _ h) r) (fun h _ r => .dt (e.d _ _ h) r) (fun h _ r => .ins (e.i _ _ _ _ h) r) (fun h => .ptr (e.p _ _ h))
    .nil (fun _ _ h r => .cons h r) .nil (fun _ _ h r => .cons h r) .nil (fun _ _ h r => .cons h r) .nil (fun _ _ h r => .cons h r) h
theorem RepL.mono (e : Le K w w') : ∀ {v : List V} {d : List D}, RepL K w v d → RepL K w' v d
  | _, _, .nil => .nil
  | _, _, .cons h r => .cons (h.mono e) (RepL.mono e r)
theorem RepK.mono (e : Le K w w') : ∀ {v : List (Key × V)} {d : List (Key × D)}, RepK K w v d → RepK K w' v d
  | _, _, .nil => .nil
  | _, _, .cons h r => .cons (h.mono e) (RepK.mono e r)
theorem RepT.mono (e : Le K w w') : ∀ {v : List (List Key × V)} {d : List (List Key × D)}, RepT K w v d → RepT K w' v d
  | _, _, .nil => .nil
  | _, _, .cons h r => .cons (h.mono e) (RepT.mono e r)
theorem RepF.mono (e : Le K w w') : ∀ {v : List (Str × V)} {d : List (Str × D)}, RepF K w v d → RepF K w' v d
  | _, _, .nil => .nil
  | _, _, .cons h r => .cons (h.mono e) (RepF.mono e r)
theorem Rd.ext {F F' : Hp} {a : Addr} {u : HO} (h : ∀ a o, F a = some o → F' a = some o) (r : Rd F a u) : Rd F' a u := r.elim (fun q => .inl (h _ _ q)) fun ⟨o, q⟩ => .inr ⟨o, h _ _ q⟩
/-- more is frozen, more changes -/
theorem Le.ext (h1 : ∀ a o, w.F a = some o → w'.F a = some o) (h2 : ∀ (k : Nat) (a : Addr), w.as[k]? = some a → w'.as[k]? = some a) : Le K w w' :=
  ⟨fun _ _ h => h1 _ _ h, fun _ _ h => h1 _ _ h, fun _ _ h => Rd.ext h1 h, fun _ _ h => Rd.ext h1 h, fun _ _ _ _ h => h1 _ _ h, h2, fun _ _ h => h1 _ _ h⟩
theorem Le.new {p : Addr} {o : HO} (h : w.F p = none) : Le K w { w with F := upd w.F p o } := .ext (fun a u e => by show upd w.F p o a = some u; rw [upd_ne (ne_of_none e h)]; exact e) fun _ _ h => h
theorem RepL.length : ∀ {v : List V} {d : List D}, RepL K w v d → v.length = d.length
  | _, _, .nil => rfl
  | _, _, .cons _ r => congrArg (· + 1) (RepL.length r)
theorem RepL.get : ∀ {v : List V} {d : List D} {i : Nat} {x : D}, RepL K w v d → d[i]? = some x → ∃ u, v[i]? = some u ∧ Rep K w u x
  | _, _, _, _, .nil, e => by simp at e
  | _, _, 0, _, .cons h _, e => by simp at e; subst e; exact ⟨_, rfl, h⟩
  | _, _, i + 1, x, .cons _ r, e => by
    obtain ⟨u, h1, h2⟩ := RepL.get (i := i) (x := x) r (by simpa using e)
    exact ⟨u, by simpa using h1, h2⟩
theorem RepL.getV : ∀ {v : List V} {d : List D} {i : Nat} {u : V}, RepL K w v d → v[i]? = some u → ∃ x, d[i]? = some x ∧ Rep K w u x
  | _, _, _, _, .nil, e => by simp at e
  | _, _, 0, _, .cons h _, e => by simp at e; subst e; exact ⟨_, rfl, h⟩
  | _, _, i + 1, x, .cons _ r, e => by
    obtain ⟨u, h1, h2⟩ := RepL.getV (i := i) r (by simpa using e)
    exact ⟨u, by simpa using h1, h2⟩
theorem RepL.append : ∀ {v v' : List V} {d d' : List D}, RepL K w v d → RepL K w v' d' → RepL K w (v ++ v') (d ++ d')
  | _, _, _, _, .nil, s => s
  | _, _, _, _, .cons h r, s => .cons h (RepL.append r s)
theorem RepL.take : ∀ {v : List V} {d : List D} (n : Nat), RepL K w v d → RepL K w (v.take n) (d.take n)
  | _, _, 0, _ => .nil
  | _, _, _ + 1, .nil => .nil
  | _, _, n + 1, .cons h r => .cons h (RepL.take n r)
theorem RepL.drop : ∀ {v : List V} {d : List D} (n : Nat), RepL K w v d → RepL K w (v.drop n) (d.drop n)
  | _, _, 0, r => r
  | _, _, _ + 1, .nil => .nil
  | _, _, n + 1, .cons _ r => RepL.drop n r
theorem RepL.set {x : V} {y : D} (h : Rep K w x y) : ∀ {v : List V} {d : List D} (i : Nat), RepL K w v d → RepL K w (v.set i x) (d.set i y)
  | _, _, _, .nil => .nil
  | _, _, 0, .cons _ r => .cons h r
  | _, _, i + 1, .cons q r => .cons q (RepL.set h i r)
theorem RepL.ints : ∀ (ns : List Int), RepL K w (ns.map V.int) (ns.map D.int)
  | [] => .nil
  | n :: r => .cons (.int n) (RepL.ints r)
theorem RepL.strs : ∀ (ns : List Str), RepL K w (ns.map V.str) (ns.map D.str)
  | [] => .nil
  | n :: r => .cons (.str n) (RepL.strs r)
theorem RepL.of_ints : ∀ {ns : List Int} {vs : List V}, RepL K w vs (ns.map D.int) → vs = ns.map V.int
  | [], _, .nil => rfl
  | n :: r, _, .cons h q => by cases h; rw [RepL.of_ints q]; rfl
theorem RepL.of_strs : ∀ {ns : List Str} {vs : List V}, RepL K w vs (ns.map D.str) → vs = ns.map V.str
  | [], _, .nil => rfl
  | n :: r, _, .cons h q => by cases h; rw [RepL.of_strs q]; rfl
theorem RepL.of_bls : ∀ {ns : List Bool} {vs : List V}, RepL K w vs (ns.map D.bl) → vs = ns.map V.bl
  | [], _, .nil => rfl
  | n :: r, _, .cons h q => by cases h; rw [RepL.of_bls q]; rfl
theorem RepF.lookup : ∀ {v : List (Str × V)} {d : List (Str × D)} {f : Str} {x : D}, RepF K w v d → d.lookup f = some x → ∃ u, v.lookup f = some u ∧ Rep K w u x
  | _, _, _, _, .nil, e => by simp at e
  | _, _, f, x, .cons (k := k) h r, e => by
    simp only [List.lookup_cons] at e ⊢
    cases q : f == k with
    | true => rw [q] at e; cases e; exact ⟨_, rfl, h⟩
    | false => rw [q] at e; exact RepF.lookup r e
theorem RepF.lookup_none : ∀ {v : List (Str × V)} {d : List (Str × D)} {f : Str}, RepF K w v d → d.lookup f = none → v.lookup f = none
  | _, _, _, .nil, _ => rfl
  | _, _, f, .cons (k := k) h r, e => by
    simp only [List.lookup_cons] at e ⊢
    cases q : f == k with
    | true => rw [q] at e; cases e
    | false => rw [q] at e; exact RepF.lookup_none r e
theorem RepF.length : ∀ {v : List (Str × V)} {d : List (Str × D)}, RepF K w v d → v.length = d.length
  | _, _, .nil => rfl
  | _, _, .cons _ r => congrArg (· + 1) (RepF.length r)
def putD (f : Str) (y : D) : List (Str × D) → List (Str × D)
  | [] => [(f, y)]
  | (g, x) :: r => if g = f then (f, y) :: r else (g, x) :: putD f y r
theorem RepF.put {f : Str} {x : V} {y : D} (h : Rep K w x y) : ∀ {v : List (Str × V)} {d : List (Str × D)}, RepF K w v d → RepF K w (putF f x v) (putD f y d)
  | _, _, .nil => .cons h .nil
  | _, _, .cons (k := k) q r => by
    unfold putF putD
    by_cases e : k = f
    · rw [if_pos e, if_pos e]; subst e; exact .cons h r
    · rw [if_neg e, if_neg e]; exact .cons q (RepF.put h r)
theorem RepK.length : ∀ {v : List (Key × V)} {d : List (Key × D)}, RepK K w v d → v.length = d.length
  | _, _, .nil => rfl
  | _, _, .cons _ r => congrArg (· + 1) (RepK.length r)
theorem RepT.length : ∀ {v : List (List Key × V)} {d : List (List Key × D)}, RepT K w v d → v.length = d.length
  | _, _, .nil => rfl
  | _, _, .cons _ r => congrArg (· + 1) (RepT.length r)
/-- what a dict holds -/
def valD {κ : Type} [DecidableEq κ] (kvs : List (κ × D)) (k : κ) : Option D := (kvs.find? fun kv => decide (kv.1 = k)).map (·.2)
def putDK {κ : Type} [DecidableEq κ] (kvs : List (κ × D)) (k : κ) (v : D) : List (κ × D) := if (kvs.any fun kv => decide (kv.1 = k)) then kvs.map fun kv => if kv.1 = k then (kv.1, v) else kv else kvs ++ [(k, v)]
theorem RepK.val {v : List (Key × V)} {d : List (Key × D)} (h : RepK K w v d) (k : Key) : (∀ x, valD d k = some x → ∃ u, valV v k = some u ∧ Rep K w u x) ∧ (valD d k = none → valV v k = none) := by
  induction d generalizing v with
  | nil => cases h; exact ⟨fun _ e => by simp [valD] at e, fun _ => rfl⟩
  | cons p d ih =>
    cases h with
    | cons h r =>
      rename_i k' u x vs
      by_cases e : k' = k
      · refine ⟨fun x' q => ?_, fun q => ?_⟩
        · have : valD ((k', x) :: d) k = some x := by simp [valD, List.find?_cons, e]
          rw [this] at q; cases q
          exact ⟨u, by simp [valV, List.find?_cons, e], h⟩
        · have : valD ((k', x) :: d) k = some x := by simp [valD, List.find?_cons, e]
          rw [this] at q; cases q
      · have e1 : valD ((k', x) :: d) k = valD d k := by simp [valD, List.find?_cons, e]
        have e2 : valV ((k', u) :: vs) k = valV vs k := by simp [valV, List.find?_cons, e]
        rw [e1, e2]
        exact ih r
theorem RepT.val {v : List (List Key × V)} {d : List (List Key × D)} (h : RepT K w v d) (k : List Key) : (∀ x, valD d k = some x → ∃ u, valV v k = some u ∧ Rep K w u x) ∧ (valD d k = none → valV v k = none) := by
  induction d generalizing v with
  | nil => cases h; exact ⟨fun _ e => by simp [valD] at e, fun _ => rfl⟩
  | cons p d ih =>
    cases h with
    | cons h r =>
      rename_i k' u x vs
      by_cases e : k' = k
      · refine ⟨fun x' q => ?_, fun q => ?_⟩
        · have : valD ((k', x) :: d) k = some x := by simp [valD, List.find?_cons, e]
          rw [this] at q; cases q
          exact ⟨u, by simp [valV, List.find?_cons, e], h⟩
        · have : valD ((k', x) :: d) k = some x := by simp [valD, List.find?_cons, e]
          rw [this] at q; cases q
      · have e1 : valD ((k', x) :: d) k = valD d k := by simp [valD, List.find?_cons, e]
        have e2 : valV ((k', u) :: vs) k = valV vs k := by simp [valV, List.find?_cons, e]
        rw [e1, e2]
        exact ih r
theorem RepK.snoc {k : Key} {x : V} {y : D} (h : Rep K w x y) : ∀ {v : List (Key × V)} {d : List (Key × D)}, RepK K w v d → RepK K w (v ++ [(k, x)]) (d ++ [(k, y)])
  | _, _, .nil => .cons h .nil
  | _, _, .cons q r => .cons q (RepK.snoc h r)
theorem RepT.snoc {k : List Key} {x : V} {y : D} (h : Rep K w x y) : ∀ {v : List (List Key × V)} {d : List (List Key × D)}, RepT K w v d → RepT K w (v ++ [(k, x)]) (d ++ [(k, y)])
  | _, _, .nil => .cons h .nil
  | _, _, .cons q r => .cons q (RepT.snoc h r)
theorem RepK.any (k : Key) : ∀ {v : List (Key × V)} {d : List (Key × D)}, RepK K w v d → (v.any fun kv => decide (kv.1 = k)) = d.any fun kv => decide (kv.1 = k)
  | _, _, .nil => rfl
  | _, _, .cons _ r => by simp only [List.any_cons]; rw [RepK.any k r]
theorem RepT.any (k : List Key) : ∀ {v : List (List Key × V)} {d : List (List Key × D)}, RepT K w v d → (v.any fun kv => decide (kv.1 = k)) = d.any fun kv => decide (kv.1 = k)
  | _, _, .nil => rfl
  | _, _, .cons _ r => by simp only [List.any_cons]; rw [RepT.any k r]
theorem RepK.map {k : Key} {x : V} {y : D} (h : Rep K w x y) : ∀ {v : List (Key × V)} {d : List (Key × D)}, RepK K w v d → RepK K w (v.map fun kv => if kv.1 = k then (kv.1, x) else kv) (d.map fun kv => if kv.1 = k then (kv.1, y) else kv)
  | _, _, .nil => .nil
  | _, _, .cons (k := k') q r => by
    simp only [List.map_cons]
    by_cases e : k' = k
    · rw [if_pos e, if_pos e]; exact .cons h (RepK.map h r)
    · rw [if_neg e, if_neg e]; exact .cons q (RepK.map h r)
theorem RepT.map {k : List Key} {x : V} {y : D} (h : Rep K w x y) : ∀ {v : List (List Key × V)} {d : List (List Key × D)}, RepT K w v d → RepT K w (v.map fun kv => if kv.1 = k then (kv.1, x) else kv) (d.map fun kv => if kv.1 = k then (kv.1, y) else kv)
  | _, _, .nil => .nil
  | _, _, .cons (k := k') q r => by
    simp only [List.map_cons]
    by_cases e : k' = k
    · rw [if_pos e, if_pos e]; exact .cons h (RepT.map h r)
    · rw [if_neg e, if_neg e]; exact .cons q (RepT.map h r)
theorem RepK.put {k : Key} {x : V} {y : D} {v : List (Key × V)} {d : List (Key × D)} (r : RepK K w v d) (h : Rep K w x y) : RepK K w (putK v k x) (putDK d k y) := by
  unfold putK putDK
  rw [RepK.any k r]
  split
  · exact RepK.map h r
  · exact RepK.snoc h r
theorem RepT.put {k : List Key} {x : V} {y : D} {v : List (List Key × V)} {d : List (List Key × D)} (r : RepT K w v d) (h : Rep K w x y) : RepT K w (putK v k x) (putDK d k y) := by
  unfold putK putDK
  rw [RepT.any k r]
  split
  · exact RepT.map h r
  · exact RepT.snoc h r
theorem RepK.get : ∀ {v : List (Key × V)} {d : List (Key × D)} {i : Nat} {k : Key} {x : V}, RepK K w v d → v[i]? = some (k, x) → ∃ u, d[i]? = some (k, u) ∧ Rep K w x u
  | _, _, _, _, _, .nil, e => by simp at e
  | _, _, 0, _, _, .cons h _, e => by simp at e; obtain ⟨rfl, rfl⟩ := e; exact ⟨_, rfl, h⟩
  | _, _, i + 1, k, x, .cons _ r, e => by
    obtain ⟨u, h1, h2⟩ := RepK.get (i := i) r (by simpa using e)
    exact ⟨u, by simpa using h1, h2⟩
theorem RepT.get : ∀ {v : List (List Key × V)} {d : List (List Key × D)} {i : Nat} {k : List Key} {x : V}, RepT K w v d → v[i]? = some (k, x) → ∃ u, d[i]? = some (k, u) ∧ Rep K w x u
  | _, _, _, _, _, .nil, e => by simp at e
  | _, _, 0, _, _, .cons h _, e => by simp at e; obtain ⟨rfl, rfl⟩ := e; exact ⟨_, rfl, h⟩
  | _, _, i + 1, k, x, .cons _ r, e => by
    obtain ⟨u, h1, h2⟩ := RepT.get (i := i) r (by simpa using e)
    exact ⟨u, by simpa using h1, h2⟩
end

/-! ### objects that change; slots; the state -/
inductive MO where
  | lst (xs : List D) | dk (kvs : List (Key × D)) | dt (kvs : List (List Key × D)) | ins (c : Str) (fs : List (Str × D)) | rng
inductive AV where
  | fr (d : D) | ow (m : MO) | ex (x : Str × List (Str × D))
abbrev ASt := List (Option AV)
abbrev MS := List MO
inductive RepM (K : PySem.W.Frag) (w : W) (H : Hp) (a : Addr) : MO → Prop
  | lst {vs : List V} {ds : List D} (h : H a = some (.lst vs)) (r : RepL K w vs ds) : RepM K w H a (.lst ds)
  | dk {vs : List (Key × V)} {ds : List (Key × D)} (h : H a = some (.dK vs)) (r : RepK K w vs ds) : RepM K w H a (.dk ds)
  | dt {vs : List (List Key × V)} {ds : List (List Key × D)} (h : H a = some (.dT vs)) (r : RepT K w vs ds) : RepM K w H a (.dt ds)
  | ins {dx : Addr} {c : Str} {vs : List (Str × V)} {ds : List (Str × D)} (h : H a = some (.ins (He.ga K c) dx vs)) (r : RepF K w vs ds) : RepM K w H a (.ins c ds)
  | rng {ns : List Int} (h : H a = some (.lst (ns.map V.int))) (l : 2 ≤ ns.length) : RepM K w H a .rng
/-- the error that is handled: its place, its class, its own dict -/
abbrev XI := Option (Addr × Value × Option Addr)
abbrev XD := Str × List (Str × D)
/-- an error: its class, its own dict -/
def RepX (K : PySem.W.Frag) (w : W) (cl : Value) (ad : Option Addr) (x : XD) : Prop := cl = .ref (He.ga K x.1) ∧ ((ad = none ∧ x.2 = []) ∨ ∃ a fs, ad = some a ∧ w.F a = some (.xd fs) ∧ RepF K w fs x.2)
theorem RepX.mono {K : PySem.W.Frag} {w w' : W} {cl : Value} {ad : Option Addr} {x : XD} (e : Le K w w') (h : RepX K w cl ad x) : RepX K w' cl ad x := by
  obtain ⟨h1, h2⟩ := h
  refine ⟨h1, h2.imp id ?_⟩
  rintro ⟨a, fs, e1, e2, r⟩
  exact ⟨a, fs, e1, e.x _ _ e2, r.mono e⟩
structure Bs (ex : XI) where
  H : Hp
  as : List Addr
  F : Hp
  /-- the object that an __init__ is filling, in slot 0 -/
  self : Option Addr := none
structure St0 (K : PySem.W.Frag) (w : W) (ms : MS) (H : Hp) : Prop where
  fh : ∀ a o, w.F a = some o → H a = some o
  nd : w.as.Nodup
  na : ∀ a ∈ w.as, w.F a = none
  ce : ∀ (k : Nat) m, ms[k]? = some m → ∃ a, w.as[k]? = some a ∧ RepM K w H a m
  ln : w.as.length = ms.length
def SlotOk (K : PySem.W.Frag) {ex : XI} (B : Bs ex) (w : W) (σ : L2.St) (H : Hp) (i : Nat) : AV → Prop
  | .fr d => ∃ v, σ[i]? = some (some v) ∧ Rep K w v d
  | .ow m => ∃ p, σ[i]? = some (some (.ref p)) ∧ RepM K w H p m ∧ w.F p = none ∧ p ∉ w.as ∧ B.H p = none
  | .ex x => ∃ a cl ad, ex = some (a, cl, ad) ∧ σ[i]? = some (some (.ref a)) ∧ RepX K w cl ad x
structure Lk (K : PySem.W.Frag) {ex : XI} (B : Bs ex) (w : W) (ms : MS) (s : ASt) (σ : L2.St) (H : Hp) : Prop where
  s0 : St0 K w ms H
  keep : ∀ a o, a ∉ B.as → B.H a = some o → H a = some o
  pre : ∀ a ∈ w.as, a ∈ B.as ∨ B.H a = none
  bas : ∀ a ∈ B.as, a ∈ w.as
  fz : ∀ a o, w.F a = some o → (∃ u, B.F a = some u) ∨ a ∈ B.as ∨ B.H a = none
  len : s.length = σ.length
  sl : ∀ (i : Nat) av, s[i]? = some (some av) → SlotOk K B w σ H i av
  dj : ∀ (i j : Nat) p mi mj, s[i]? = some (some (.ow mi)) → s[j]? = some (some (.ow mj)) → σ[i]? = some (some (.ref p)) → σ[j]? = some (some (.ref p)) → i = j
  bf : ∀ a u, B.F a = some u → ∃ o, B.H a = some o
  sf : ∀ x m, B.self = some x → s[0]? = some (some (.ow m)) → σ[0]? = some (some (.ref x))
section
variable {K : PySem.W.Frag} {ex : XI} {B : Bs ex} {w w' : W} {ms : MS} {s : ASt} {σ : L2.St} {H : Hp} {p : Addr} {o : HO} {m : MO}
theorem RepM.there (h : RepM K w H p m) : ∃ o, H p = some o := by cases h <;> exact ⟨_, by assumption⟩
theorem RepM.mono {H' : Hp} (e : Le K w w') (h : RepM K w H p m) (k : ∀ o, H p = some o → H' p = some o) : RepM K w' H' p m := by
  cases h with
  | lst h r => exact .lst (k _ h) (r.mono e)
  | dk h r => exact .dk (k _ h) (r.mono e)
  | dt h r => exact .dt (k _ h) (r.mono e)
  | ins h r => exact .ins (k _ h) (r.mono e)
  | rng h l => exact .rng (k _ h) l
theorem St0.alive (h : St0 K w ms H) {a : Addr} (ha : a ∈ w.as) : ∃ o, H a = some o := by
  obtain ⟨k, hk, e⟩ := List.mem_iff_getElem.mp ha
  have : k < ms.length := by rw [← h.ln]; exact hk
  obtain ⟨b, hb, r⟩ := h.ce k ms[k] (by simp [this])
  have : b = a := by
    have q : w.as[k]? = some a := by simp [hk, e]
    rw [q] at hb; exact (Option.some.inj hb).symm
  subst this
  exact r.there
theorem Lk.fresh (L : Lk K B w ms s σ H) (hp : H p = none) : w.F p = none ∧ p ∉ w.as ∧ B.H p = none := by
  have h2 : p ∉ w.as := fun ha => by
    obtain ⟨o, e⟩ := L.s0.alive ha
    rw [hp] at e; cases e
  refine ⟨?_, h2, ?_⟩
  · cases q : w.F p with
    | none => rfl
    | some o => have := L.s0.fh p o q; rw [hp] at this; cases this
  · cases q : B.H p with
    | none => rfl
    | some o => have := L.keep p o (fun z => h2 (L.bas p z)) q; rw [hp] at this; cases this
/-- a new frozen object -/
theorem Lk.new (L : Lk K B w ms s σ H) (hp : H p = none) : Lk K B { w with F := upd w.F p o } ms s σ (upd H p o) := by
  obtain ⟨f1, f2, f3⟩ := L.fresh hp
  have le : Le K w { w with F := upd w.F p o } := Le.new f1
  have kp : ∀ a u, H a = some u → upd H p o a = some u := fun a u e => by rw [upd_ne (ne_of_none e hp)]; exact e
  refine ⟨⟨fun a u e => ?_, L.s0.nd, fun a ha => ?_, fun k m e => ?_, L.s0.ln⟩, fun a u na e => kp _ _ (L.keep a u na e), L.pre, L.bas, fun a u e => ?_, L.len, fun i av e => ?_, L.dj, L.bf, L.sf⟩
  · by_cases q : a = p
    · subst q; have e : upd w.F a o a = some u := e; rw [upd_same] at e; rw [upd_same]; exact e
    · have e : upd w.F p o a = some u := e; rw [upd_ne q] at e; exact kp _ _ (L.s0.fh a u e)
  · show upd w.F p o a = none
    rw [upd_ne (show a ≠ p from fun z => f2 (z ▸ ha))]; exact L.s0.na a ha
  · obtain ⟨a, ha, r⟩ := L.s0.ce k m e
    exact ⟨a, ha, r.mono le (kp a)⟩
  · by_cases q : a = p
    · subst q; exact .inr (.inr f3)
    · have e : upd w.F p o a = some u := e; rw [upd_ne q] at e; exact L.fz a u e
  · have := L.sl i av e
    cases av with
    | fr d => obtain ⟨v, e1, r⟩ := this; exact ⟨v, e1, r.mono le⟩
    | ex x => obtain ⟨a, c, d, e0, e1, r⟩ := this; exact ⟨a, c, d, e0, e1, r.mono le⟩
    | ow m =>
      obtain ⟨q, e1, r, n1, n2, n3⟩ := this
      refine ⟨q, e1, r.mono le (kp q), ?_, n2, n3⟩
      show upd w.F p o q = none
      obtain ⟨u, hu⟩ := r.there
      rw [upd_ne (ne_of_none hu hp)]; exact n1
/-- a slot stored -/
theorem Lk.set (L : Lk K B w ms s σ H) {i : Nat} {v : V} {d : D} (r : Rep K w v d) : Lk K B w ms (s.set i (some (.fr d))) (σ.set i (some v)) H := by
  refine ⟨L.s0, L.keep, L.pre, L.bas, L.fz, by simp [L.len], fun j av e => ?_, fun j k q mi mj e1 e2 e3 e4 => ?_, L.bf, fun x m hs e => ?_⟩
  · by_cases h : i = j
    · subst h
      have hl : i < s.length := by
        have := (List.getElem?_eq_some_iff.mp e).1
        simpa using this
      rw [List.getElem?_set_self hl] at e
      cases e
      exact ⟨v, by rw [List.getElem?_set_self (by rw [← L.len]; exact hl)], r⟩
    · rw [List.getElem?_set_ne h] at e
      have := L.sl j av e
      cases av with
      | fr d => obtain ⟨u, e1, r⟩ := this; exact ⟨u, by rw [List.getElem?_set_ne h]; exact e1, r⟩
      | ex x => obtain ⟨a, c, d, e0, e1, r⟩ := this; exact ⟨a, c, d, e0, by rw [List.getElem?_set_ne h]; exact e1, r⟩
      | ow m => obtain ⟨u, e1, r⟩ := this; exact ⟨u, by rw [List.getElem?_set_ne h]; exact e1, r⟩
  · have ne : ∀ {j m}, (s.set i (some (.fr d)))[j]? = some (some (AV.ow m)) → i ≠ j := fun {j m} e z => by
      subst z
      have hl : i < s.length := by have := (List.getElem?_eq_some_iff.mp e).1; simpa using this
      rw [List.getElem?_set_self hl] at e; cases e
    have n1 := ne e1
    have n2 := ne e2
    rw [List.getElem?_set_ne n1] at e1 e3
    rw [List.getElem?_set_ne n2] at e2 e4
    exact L.dj j k q mi mj e1 e2 e3 e4
  · by_cases z : i = 0
    · subst z
      have hl : 0 < s.length := by have := (List.getElem?_eq_some_iff.mp e).1; simpa using this
      rw [List.getElem?_set_self hl] at e; cases e
    · rw [List.getElem?_set_ne z] at e ⊢
      exact L.sf x m hs e
/-- a slot of a new object of one's own -/
theorem Lk.newOwn (L : Lk K B w ms s σ H) {i : Nat} (i0 : 0 < i) (hp : H p = none) (r : RepM K w (upd H p o) p m) : Lk K B w ms (s.set i (some (.ow m))) (σ.set i (some (.ref p))) (upd H p o) := by
  obtain ⟨f1, f2, f3⟩ := L.fresh hp
  have kp : ∀ a u, H a = some u → upd H p o a = some u := fun a u e => by rw [upd_ne (ne_of_none e hp)]; exact e
  refine ⟨⟨fun a u e => kp _ _ (L.s0.fh a u e), L.s0.nd, L.s0.na, fun k m e => ?_, L.s0.ln⟩, fun a u na e => kp _ _ (L.keep a u na e), L.pre, L.bas, L.fz, by simp [L.len], fun j av e => ?_, fun j k q mi mj e1 e2 e3 e4 => ?_, L.bf, fun x m hs e => ?_⟩
  · obtain ⟨a, ha, r⟩ := L.s0.ce k m e
    exact ⟨a, ha, r.mono (Le.refl _ _) (kp a)⟩
  · by_cases h : i = j
    · subst h
      have hl : i < s.length := by have := (List.getElem?_eq_some_iff.mp e).1; simpa using this
      rw [List.getElem?_set_self hl] at e
      cases e
      exact ⟨p, by rw [List.getElem?_set_self (by rw [← L.len]; exact hl)], r, f1, f2, f3⟩
    · rw [List.getElem?_set_ne h] at e
      have := L.sl j av e
      cases av with
      | fr d => obtain ⟨u, e1, r⟩ := this; exact ⟨u, by rw [List.getElem?_set_ne h]; exact e1, r⟩
      | ex x => obtain ⟨a, c, d, e0, e1, r⟩ := this; exact ⟨a, c, d, e0, by rw [List.getElem?_set_ne h]; exact e1, r⟩
      | ow m => obtain ⟨u, e1, r, rest⟩ := this; exact ⟨u, by rw [List.getElem?_set_ne h]; exact e1, r.mono (Le.refl _ _) (kp u), rest⟩
  · have ne : ∀ {j : Nat} {mj : MO}, i ≠ j → (s.set i (some (.ow m)))[j]? = some (some (AV.ow mj)) → (σ.set i (some (.ref p)))[j]? = some (some (.ref q)) → q ≠ p := fun {j mj} h e e' z => by
      rw [List.getElem?_set_ne h] at e e'
      obtain ⟨u, e1, r, _⟩ := L.sl j _ e
      rw [e1] at e'
      obtain ⟨o', ho⟩ := r.there
      have : u = q := by simpa using e'
      rw [this, z, hp] at ho; cases ho
    have at_ : ∀ {j : Nat} {mj : MO}, i = j → (s.set i (some (.ow m)))[j]? = some (some (AV.ow mj)) → (σ.set i (some (.ref p)))[j]? = some (some (.ref q)) → q = p := fun {j mj} h e e' => by
      subst h
      have hl : i < s.length := by have := (List.getElem?_eq_some_iff.mp e).1; simpa using this
      rw [List.getElem?_set_self (by rw [← L.len]; exact hl)] at e'
      simpa using e'.symm
    by_cases hj : i = j <;> by_cases hk : i = k
    · exact hj.symm.trans hk
    · exact absurd (at_ hj e1 e3) (ne hk e2 e4)
    · exact absurd (at_ hk e2 e4) (ne hj e1 e3)
    · rw [List.getElem?_set_ne hj] at e1 e3
      rw [List.getElem?_set_ne hk] at e2 e4
      exact L.dj j k q mi mj e1 e2 e3 e4
  · rw [List.getElem?_set_ne (by omega)] at e ⊢
    exact L.sf x m hs e
/-- an own object changed -/
theorem Lk.updOwn (L : Lk K B w ms s σ H) {i : Nat} {m' : MO} (h : s[i]? = some (some (.ow m))) (e : σ[i]? = some (some (.ref p))) (r : RepM K w (upd H p o) p m') : Lk K B w ms (s.set i (some (.ow m'))) σ (upd H p o) := by
  obtain ⟨p', e1, r0, n1, n2, n3⟩ := L.sl i _ h
  have : p' = p := by rw [e] at e1; simpa using e1.symm
  subst this
  have il : i < s.length := (List.getElem?_eq_some_iff.mp h).1
  refine ⟨⟨fun a u e => ?_, L.s0.nd, L.s0.na, fun k m e => ?_, L.s0.ln⟩, fun a u na e => ?_, L.pre, L.bas, L.fz, by simp [L.len], fun j av e' => ?_, fun j k q mi mj q1 q2 q3 q4 => ?_, L.bf, fun x mm hs e' => ?_⟩
  · rw [upd_ne (fun z => by rw [z, n1] at e; cases e)]; exact L.s0.fh a u e
  · obtain ⟨a, ha, r⟩ := L.s0.ce k m e
    exact ⟨a, ha, r.mono (Le.refl _ _) fun u q => by rw [upd_ne (show a ≠ p' from fun z => n2 (z ▸ List.mem_of_getElem? ha))]; exact q⟩
  · rw [upd_ne (fun z => by rw [z, n3] at e; cases e)]; exact L.keep a u na e
  · by_cases hij : i = j
    · subst hij
      rw [List.getElem?_set_self il] at e'
      cases e'
      exact ⟨p', e, r, n1, n2, n3⟩
    · rw [List.getElem?_set_ne hij] at e'
      have := L.sl j av e'
      cases av with
      | fr d => exact this
      | ex x => exact this
      | ow mm =>
        obtain ⟨u, e1, r, rest⟩ := this
        refine ⟨u, e1, r.mono (Le.refl _ _) fun o q => ?_, rest⟩
        rw [upd_ne (show u ≠ p' from fun z => hij ((L.dj i j p' _ _ h e' e (z ▸ e1))))]; exact q
  · have back : ∀ {j : Nat} {mj : MO}, (s.set i (some (.ow m')))[j]? = some (some (AV.ow mj)) → ∃ mj', s[j]? = some (some (AV.ow mj')) := fun {j mj} e => by
      by_cases hij : i = j
      · subst hij; exact ⟨m, h⟩
      · rw [List.getElem?_set_ne hij] at e; exact ⟨mj, e⟩
    obtain ⟨_, b1⟩ := back q1
    obtain ⟨_, b2⟩ := back q2
    exact L.dj j k q _ _ b1 b2 q3 q4
  · by_cases z : i = 0
    · subst z; exact L.sf x _ hs h
    · rw [List.getElem?_set_ne z] at e'; exact L.sf x mm hs e'
/-- a frozen value of an own object -/
def MO.d : MO → Option D
  | .lst xs => some (.lst xs)
  | .dk k => some (.dk k)
  | .dt k => some (.dt k)
  | .ins c f => some (.ins c f)
  | .rng => none
/-- an own object that changes no more -/
theorem Lk.freeze (L : Lk K B w ms s σ H) {i : Nat} {d : D} (h : s[i]? = some (some (.ow m))) (hd : m.d = some d) : ∃ w', Le K w w' ∧ Lk K B w' ms (s.set i (some (.fr d))) σ H := by
  obtain ⟨p, e1, r0, n1, n2, n3⟩ := L.sl i _ h
  have il : i < s.length := (List.getElem?_eq_some_iff.mp h).1
  obtain ⟨o, ho⟩ := r0.there
  have le : Le K w { w with F := upd w.F p o } := Le.new n1
  have rp : Rep K { w with F := upd w.F p o } (.ref p) d := by
    have hF : ({ w with F := upd w.F p o } : W).F p = some o := upd_same
    cases r0 with
    | lst h' r => cases hd; rw [h'] at ho; cases ho; exact .lst hF (r.mono le)
    | dk h' r => cases hd; rw [h'] at ho; cases ho; exact .dk (.inl hF) (r.mono le)
    | dt h' r => cases hd; rw [h'] at ho; cases ho; exact .dt (.inl hF) (r.mono le)
    | ins h' r => cases hd; rw [h'] at ho; cases ho; exact .ins hF (r.mono le)
    | rng h l => cases hd
  refine ⟨{ w with F := upd w.F p o }, le, ⟨fun a u e => ?_, L.s0.nd, fun a ha => ?_, fun k m e => ?_, L.s0.ln⟩, L.keep, L.pre, L.bas, fun a u e => ?_, by simp [L.len], fun j av e' => ?_, fun j k q mi mj q1 q2 q3 q4 => ?_, L.bf, fun x mm hs e' => ?_⟩
  · by_cases q : a = p
    · subst q; have e : upd w.F a o a = some u := e; rw [upd_same] at e; cases e; exact ho
    · have e : upd w.F p o a = some u := e; rw [upd_ne q] at e; exact L.s0.fh a u e
  · show upd w.F p o a = none
    rw [upd_ne (show a ≠ p from fun z => n2 (z ▸ ha))]; exact L.s0.na a ha
  · obtain ⟨a, ha, r⟩ := L.s0.ce k m e
    exact ⟨a, ha, r.mono le fun _ q => q⟩
  · by_cases q : a = p
    · subst q; exact .inr (.inr n3)
    · have e : upd w.F p o a = some u := e; rw [upd_ne q] at e; exact L.fz a u e
  · by_cases hij : i = j
    · subst hij
      rw [List.getElem?_set_self il] at e'
      cases e'
      exact ⟨_, e1, rp⟩
    · rw [List.getElem?_set_ne hij] at e'
      have := L.sl j av e'
      cases av with
      | fr d => obtain ⟨v, a, b⟩ := this; exact ⟨v, a, b.mono le⟩
      | ex x => obtain ⟨a, c, d, e0, e1, r⟩ := this; exact ⟨a, c, d, e0, e1, r.mono le⟩
      | ow mm =>
        obtain ⟨u, e2, r, m1, m2, m3⟩ := this
        refine ⟨u, e2, r.mono le fun _ q => q, ?_, m2, m3⟩
        show upd w.F p o u = none
        rw [upd_ne (show u ≠ p from fun z => hij ((L.dj i j p _ _ h e' e1 (z ▸ e2))))]; exact m1
  · have back : ∀ {j : Nat} {mj : MO}, (s.set i (some (.fr d)))[j]? = some (some (AV.ow mj)) → s[j]? = some (some (AV.ow mj)) := fun {j mj} e => by
      by_cases hij : i = j
      · subst hij; rw [List.getElem?_set_self il] at e; cases e
      · rw [List.getElem?_set_ne hij] at e; exact e
    exact L.dj j k q _ _ (back q1) (back q2) q3 q4
  · by_cases z : i = 0
    · subst z; rw [List.getElem?_set_self il] at e'; cases e'
    · rw [List.getElem?_set_ne z] at e'; exact L.sf x mm hs e'
end
end LA

set_option Elab.async false
set_option linter.all false
set_option maxRecDepth 100000
set_option maxHeartbeats 4000000
/-! LA2: readings over data: expressions, tests, arguments, statements. -/
namespace LA
open PySem PySem.Spec PyProof.Rows L2

/-- a mark: what it speaks of is not looked at by the way -/
inductive Tag {α β : Type} (a : α) (b : β) : Type | mk
abbrev aE := ASt → MS → (D → MS → Prop) → (XD → MS → Prop) → Prop
abbrev aT := ASt → MS → (Bool → MS → Prop) → (XD → MS → Prop) → Prop
abbrev aA := ASt → MS → (List D → MS → Prop) → (XD → MS → Prop) → Prop
structure AEnds where
  nx : ASt → MS → Prop
  rt : D → MS → Prop
  bk : ASt → MS → Prop := fun _ _ => False
  ct : ASt → MS → Prop := fun _ _ => False
  ex : XD → ASt → MS → Prop := fun _ _ _ => False
abbrev aS := AEnds → ASt → MS → Prop
abbrev aG := D → ASt → MS → (ASt → MS → Prop) → Prop
abbrev aGs := List D → ASt → MS → (ASt → MS → Prop) → Prop

/-- a wish about errors; the error that is handled -/
structure WXA where
  w : WX
  ex : XI
section
variable (K : PySem.W.Frag) {ex : XI} (B : Bs ex) (w : W) (s : ASt) (σ : L2.St)
def PostV (Q : D → MS → Prop) (R : VK) : Prop := ∀ w' ms' H' v d, Le K w w' → Lk K B w' ms' s σ H' → Rep K w' v d → Q d ms' → R v H'
def PostB (Q : Bool → MS → Prop) (R : Bool → Hp → Prop) : Prop := ∀ w' ms' H' b, Le K w w' → Lk K B w' ms' s σ H' → Q b ms' → R b H'
def PostL (Q : List D → MS → Prop) (R : List V → Hp → Prop) : Prop := ∀ w' ms' H' v d, Le K w w' → Lk K B w' ms' s σ H' → RepL K w' v d → Q d ms' → R v H'
def PostX (E : XD → MS → Prop) (Wx : WXA) : Prop := ∀ w' ms' H' cl ad x, Le K w w' → Lk K B w' ms' s σ H' → RepX K w' cl ad x → E x ms' → Wx.w cl ad σ H'
end
section
variable {K : PySem.W.Frag} {ex : XI} {B : Bs ex} {w w' : W} {s : ASt} {σ : L2.St} {Wx : WXA}
theorem PostV.le {Q : D → MS → Prop} {R : VK} (h : PostV K B w s σ Q R) (e : Le K w w') : PostV K B w' s σ Q R := fun w2 ms H v d e2 L r q => h w2 ms H v d (e.trans e2) L r q
theorem PostB.le {Q : Bool → MS → Prop} {R : Bool → Hp → Prop} (h : PostB K B w s σ Q R) (e : Le K w w') : PostB K B w' s σ Q R := fun w2 ms H b e2 L q => h w2 ms H b (e.trans e2) L q
theorem PostL.le {Q : List D → MS → Prop} {R : List V → Hp → Prop} (h : PostL K B w s σ Q R) (e : Le K w w') : PostL K B w' s σ Q R := fun w2 ms H v d e2 L r q => h w2 ms H v d (e.trans e2) L r q
theorem PostX.le {E : XD → MS → Prop} (h : PostX K B w s σ E Wx) (e : Le K w w') : PostX K B w' s σ E Wx := fun w2 ms H c a x e2 L r q => h w2 ms H c a x (e.trans e2) L r q
end
def cE (K : PySem.W.Frag) (Wx : WXA) (a : aE) : TE := fun σ H R => ∃ B : Bs Wx.ex, ∃ w ms s Q E, Lk K B w ms s σ H ∧ a s ms Q E ∧ PostV K B w s σ Q R ∧ PostX K B w s σ E Wx
def cT (K : PySem.W.Frag) (Wx : WXA) (a : aT) : TT := fun σ H R => ∃ B : Bs Wx.ex, ∃ w ms s Q E, Lk K B w ms s σ H ∧ a s ms Q E ∧ PostB K B w s σ Q R ∧ PostX K B w s σ E Wx
def cA (K : PySem.W.Frag) (Wx : WXA) (a : aA) : TA := fun σ H R => ∃ B : Bs Wx.ex, ∃ w ms s Q E, Lk K B w ms s σ H ∧ a s ms Q E ∧ PostL K B w s σ Q R ∧ PostX K B w s σ E Wx
/-- the ends of a block -/
structure EndsR (K : PySem.W.Frag) {ex : XI} (B : Bs ex) (w : W) (Wx : WXA) (A : AEnds) (De : Ends) : Prop where
  nx : ∀ w' ms' H' s' σ', Le K w w' → Lk K B w' ms' s' σ' H' → A.nx s' ms' → De.nx σ' H'
  bk : ∀ w' ms' H' s' σ', Le K w w' → Lk K B w' ms' s' σ' H' → A.bk s' ms' → De.bk σ' H'
  ct : ∀ w' ms' H' s' σ', Le K w w' → Lk K B w' ms' s' σ' H' → A.ct s' ms' → De.ct σ' H'
  rt : ∀ w' ms' H' s' σ' v d, Le K w w' → Lk K B w' ms' s' σ' H' → Rep K w' v d → A.rt d ms' → De.rt v H'
  ex : ∀ w' ms' H' s' σ' cl ad x, Le K w w' → Lk K B w' ms' s' σ' H' → RepX K w' cl ad x → A.ex x s' ms' → Wx.w cl ad σ' H'
theorem EndsR.le {K : PySem.W.Frag} {ex : XI} {B : Bs ex} {w w' : W} {Wx : WXA} {A : AEnds} {De : Ends} (h : EndsR K B w Wx A De) (e : Le K w w') : EndsR K B w' Wx A De :=
  ⟨fun w2 ms H s σ e2 => h.nx w2 ms H s σ (e.trans e2), fun w2 ms H s σ e2 => h.bk w2 ms H s σ (e.trans e2), fun w2 ms H s σ e2 => h.ct w2 ms H s σ (e.trans e2), fun w2 ms H s σ v d e2 => h.rt w2 ms H s σ v d (e.trans e2), fun w2 ms H s σ c a x e2 => h.ex w2 ms H s σ c a x (e.trans e2)⟩
theorem EndsR.px {K : PySem.W.Frag} {ex : XI} {B : Bs ex} {w : W} {s : ASt} {σ : L2.St} {Wx : WXA} {A : AEnds} {De : Ends} (h : EndsR K B w Wx A De) : PostX K B w s σ (fun x ms => A.ex x s ms) Wx := fun w' ms' H' cl ad x le L r q => h.ex w' ms' H' s σ cl ad x le L r q
def cS (K : PySem.W.Frag) (Wx : WXA) (a : aS) : TS := fun De σ H => ∃ B : Bs Wx.ex, ∃ w ms s A, Lk K B w ms s σ H ∧ a A s ms ∧ EndsR K B w Wx A De
/-- but for the slots vs -/
def OnlyAt {α : Type} (vs : List Nat) (σ σ' : List α) : Prop := σ'.length = σ.length ∧ ∀ j, j ∉ vs → σ'[j]? = σ[j]?
def cG (K : PySem.W.Frag) (Wx : WXA) (vs : List Nat) (g : aG) : TG := fun v σ H R => ∃ B : Bs Wx.ex, ∃ w ms s d Q, Lk K B w ms s σ H ∧ Rep K w v d ∧ g d s ms Q ∧ ∀ w' ms' H' s' σ', Le K w w' → Lk K B w' ms' s' σ' H' → OnlyAt vs σ σ' → OnlyAt vs s s' → Q s' ms' → R σ' H'
def cGs (K : PySem.W.Frag) (Wx : WXA) (vs : List Nat) (g : aGs) : TGs := fun v σ H R => ∃ B : Bs Wx.ex, ∃ w ms s d Q, Lk K B w ms s σ H ∧ RepL K w v d ∧ g d s ms Q ∧ ∀ w' ms' H' s' σ', Le K w w' → Lk K B w' ms' s' σ' H' → OnlyAt vs σ σ' → OnlyAt vs s s' → Q s' ms' → R σ' H'

abbrev AE (X : Cx) (Wx : WXA) (e : Expr) (a : aE) : Prop := PE X e (cE X.K Wx a)
abbrev AT (X : Cx) (Wx : WXA) (e : Expr) (a : aT) : Prop := PT X e (cT X.K Wx a)
abbrev AW (X : Cx) (Wx : WXA) (e : Expr) (a : aT) : Prop := PW X e (cT X.K Wx a)
abbrev AA (X : Cx) (Wx : WXA) (e : List Expr) (a : aA) : Prop := PA X e (cA X.K Wx a)
abbrev AS (X : Cx) (Wx : WXA) (e : Stmt) (a : aS) : Prop := PS X e (cS X.K Wx a)
abbrev ASs (X : Cx) (Wx : WXA) (e : List Stmt) (a : aS) : Prop := PSs X e (cS X.K Wx a)
abbrev AG (X : Cx) (Wx : WXA) (vs : List Nat) (e : Expr) (a : aG) : Prop := PG X e (cG X.K Wx vs a)
abbrev AGs (X : Cx) (Wx : WXA) (vs : List Nat) (e : List Expr) (a : aGs) : Prop := PGs X e (cGs X.K Wx vs a)

section
variable {X : Cx}
theorem PE.imp {e : Expr} {t t' : TE} (h : PE X e t) (k : ∀ σ H R, t' σ H R → t σ H R) : PE X e t' := ⟨fun pins s σ H Q I q => h.run pins s σ H Q I (k _ _ _ q)⟩
theorem PT.imp {e : Expr} {t t' : TT} (h : PT X e t) (k : ∀ σ H R, t' σ H R → t σ H R) : PT X e t' := ⟨fun pins s σ H Q I q => h.run pins s σ H Q I (k _ _ _ q)⟩
theorem PW.imp {e : Expr} {t t' : TT} (h : PW X e t) (k : ∀ σ H R, t' σ H R → t σ H R) : PW X e t' := ⟨fun whole pins s σ H Q I q => h.run whole pins s σ H Q I (k _ _ _ q)⟩
theorem PA.imp {e : List Expr} {t t' : TA} (h : PA X e t) (k : ∀ σ H R, t' σ H R → t σ H R) : PA X e t' := ⟨fun pos pins s σ H Q I q => h.run pos pins s σ H Q I (k _ _ _ q)⟩
theorem PS.imp {e : Stmt} {t t' : TS} (h : PS X e t) (k : ∀ De σ H, t' De σ H → t De σ H) : PS X e t' := ⟨fun pins s σ H De I q => h.run pins s σ H De I (k _ _ _ q)⟩
theorem PSs.imp {e : List Stmt} {t t' : TS} (h : PSs X e t) (k : ∀ De σ H, t' De σ H → t De σ H) : PSs X e t' := ⟨fun pins s σ H De I q => h.run pins s σ H De I (k _ _ _ q)⟩
theorem PG.imp {e : Expr} {t t' : TG} (h : PG X e t) (k : ∀ v σ H R, t' v σ H R → t v σ H R) : PG X e t' := ⟨fun pins s σ H v u Q I r q => h.run pins s σ H v u Q I r (k _ _ _ _ q)⟩
theorem PGs.imp {e : List Expr} {t t' : TGs} (h : PGs X e t) (k : ∀ v σ H R, t' v σ H R → t v σ H R) : PGs X e t' := ⟨fun pins s σ H v u Q I r q => h.run pins s σ H v u Q I r (k _ _ _ _ q)⟩
end

/-! ### operators by data -/
def rC (K : PySem.W.Frag) (f : D → D → (D → Prop) → Prop) : R2 := fun x y H R => ∃ ex : XI, ∃ B : Bs ex, ∃ w ms s σ dx dy Qd, Lk K B w ms s σ H ∧ Rep K w x dx ∧ Rep K w y dy ∧ f dx dy Qd ∧ ∀ w' H' z d, Le K w w' → Lk K B w' ms s σ H' → Rep K w' z d → Qd d → R z H'
def rC1 (K : PySem.W.Frag) (f : D → (D → Prop) → Prop) : V → Hp → VK → Prop := fun x H R => ∃ ex : XI, ∃ B : Bs ex, ∃ w ms s σ dx Qd, Lk K B w ms s σ H ∧ Rep K w x dx ∧ f dx Qd ∧ ∀ w' H' z d, Le K w w' → Lk K B w' ms s σ H' → Rep K w' z d → Qd d → R z H'
def rCL (K : PySem.W.Frag) (f : List D → (D → Prop) → Prop) : List V → Hp → VK → Prop := fun xs H R => ∃ ex : XI, ∃ B : Bs ex, ∃ w ms s σ ds Qd, Lk K B w ms s σ H ∧ RepL K w xs ds ∧ f ds Qd ∧ ∀ w' H' z d, Le K w w' → Lk K B w' ms s σ H' → Rep K w' z d → Qd d → R z H'
def rCM (K : PySem.W.Frag) (f : D → List D → (D → Prop) → Prop) : V → List V → Hp → VK → Prop := fun x xs H R => ∃ ex : XI, ∃ B : Bs ex, ∃ w ms s σ dx ds Qd, Lk K B w ms s σ H ∧ Rep K w x dx ∧ RepL K w xs ds ∧ f dx ds Qd ∧ ∀ w' H' z d, Le K w w' → Lk K B w' ms s σ H' → Rep K w' z d → Qd d → R z H'
abbrev OpA (X : Cx) (g : Value → Value → Sem Value) (f : D → D → (D → Prop) → Prop) : Prop := OpR X g (rC X.K f)
abbrev UnA (X : Cx) (g : Value → Sem Value) (f : D → (D → Prop) → Prop) : Prop := UnR X g (rC1 X.K f)
abbrev CallA (X : Cx) (g : Value) (f : List D → (D → Prop) → Prop) : Prop := CallR X g (rCL X.K f)
abbrev IxA (X : Cx) (f : D → D → (D → Prop) → Prop) : Prop := IxR X (rC X.K f)

/-! ### expressions -/
def aVar (i : Nat) : aE := fun s ms Q _ => match s[i]? with
  | some (some (.fr d)) => Q d ms
  | _ => False
def aC (d : D) : aE := fun _ ms Q _ => Q d ms
def aBin (f : D → D → (D → Prop) → Prop) (ra rb : aE) : aE := fun s ms Q E => ra s ms (fun x ms1 => rb s ms1 (fun y ms2 => f x y fun z => Q z ms2) E) E
def aUn (f : D → (D → Prop) → Prop) (ra : aE) : aE := fun s ms Q E => ra s ms (fun x ms1 => f x fun z => Q z ms1) E
/-- a bool -/
def isB (d : D) (k : Bool → Prop) : Prop := match d with
  | .bl b => k b
  | _ => False
/-- a branch -/
def Br (b : Bool) (p q : MS → Prop) (ms : MS) (t : Tag p q := .mk) : Prop := match b with
  | true => p ms
  | false => q ms
def aAndV (ra rb : aE) : aE := fun s ms Q E => ra s ms (fun x ms1 => isB x fun c => Br c (fun ms => rb s ms Q E) (Q (.bl false)) ms1) E
def aOrV (ra rb : aE) : aE := fun s ms Q E => ra s ms (fun x ms1 => isB x fun c => Br c (Q (.bl true)) (fun ms => rb s ms Q E) ms1) E
def aNotV (ra : aE) : aE := fun s ms Q E => ra s ms (fun x ms1 => isB x fun c => Q (.bl (!c)) ms1) E
def aB (ra : aE) : aT := fun s ms Q E => ra s ms (fun x ms1 => isB x fun c => Q c ms1) E
def aAnd (ra rb : aT) : aT := fun s ms Q E => ra s ms (fun c ms1 => Br c (fun ms => rb s ms Q E) (Q false) ms1) E
def aOr (ra rb : aT) : aT := fun s ms Q E => ra s ms (fun c ms1 => Br c (Q true) (fun ms => rb s ms Q E) ms1) E
def aNot (ra : aT) : aT := fun s ms Q E => ra s ms (fun c ms1 => Q (!c) ms1) E
def aIf (rc : aT) (ra rb : aE) : aE := fun s ms Q E => rc s ms (fun c ms1 => Br c (fun ms => ra s ms Q E) (fun ms => rb s ms Q E) ms1) E
def aChain (f g : D → D → (D → Prop) → Prop) (ra rb rc : aE) : aE := fun s ms Q E => ra s ms (fun x ms1 => rb s ms1 (fun y ms2 => f x y fun z => isB z fun c => Br c (fun ms => rc s ms (fun u ms3 => g y u fun z => Q z ms3) E) (Q (.bl false)) ms2) E) E
def aNil : aA := fun _ ms Q _ => Q [] ms
def aCons (ra : aE) (rr : aA) : aA := fun s ms Q E => ra s ms (fun x ms1 => rr s ms1 (fun xs ms2 => Q (x :: xs) ms2) E) E
def aTup (rr : aA) : aE := fun s ms Q E => rr s ms (fun xs ms1 => xs.length ≤ sizeLine ∧ Q (.tup xs) ms1) E
def aLst (rr : aA) : aE := fun s ms Q E => rr s ms (fun xs ms1 => xs.length ≤ sizeLine ∧ Q (.lst xs) ms1) E
def aCB (f : List D → (D → Prop) → Prop) (rr : aA) : aE := fun s ms Q E => rr s ms (fun xs ms1 => f xs fun z => Q z ms1) E

section
variable {X : Cx} {Wx : WXA} {a b c e : Expr} {es rest : List Expr} {pos : Pos} {ra rb rc : aE} {qa qb : aT} {rr : aA} {f g : D → D → (D → Prop) → Prop}
theorem ae_var {i : Nat} (h : PE X e (tVar i)) : AE X Wx e (aVar i) := PE.imp h fun σ H R ⟨B, w, ms, s, Q, E, L, h, hq, hx⟩ => by
  unfold aVar at h
  split at h
  · rename_i d e
    obtain ⟨v, e1, r⟩ := L.sl i _ e
    exact ⟨v, e1, hq w ms H v d (Le.refl _ _) L r h⟩
  · exact h.elim
theorem ae_c {v : V} {d : D} (h : PE X e (tC v)) (r : ∀ w, Rep X.K w v d) : AE X Wx e (aC d) := PE.imp h fun σ H R ⟨B, w, ms, s, Q, E, L, h, hq, hx⟩ => hq w ms H v d (Le.refl _ _) L (r w) h
theorem ae_int {i j pos} : AE X Wx (.Constant (.int i) j pos) (aC (.int i)) := ae_c pe_int fun _ => .int _
theorem ae_bl {i j pos} : AE X Wx (.Constant (.bool i) j pos) (aC (.bl i)) := ae_c pe_bl fun _ => .bl _
theorem ae_str {i j pos} : AE X Wx (.Constant (.str i) j pos) (aC (.str i)) := ae_c pe_str fun _ => .str _
theorem ae_non {j pos} : AE X Wx (.Constant .none j pos) (aC .non) := ae_c pe_non fun _ => .non
/-- two in a row -/
theorem two {σ : L2.St} {H : Hp} {B : Bs Wx.ex} {w : W} {ms : MS} {s : ASt} {E : XD → MS → Prop} {P : D → D → MS → Prop} {R : V → V → Hp → Prop} (L : Lk X.K B w ms s σ H)
    (h : ra s ms (fun x ms1 => rb s ms1 (P x) E) E) (hx : PostX X.K B w s σ E Wx) (k : ∀ w2 ms2 H2 v v2 d d2, Le X.K w w2 → Lk X.K B w2 ms2 s σ H2 → Rep X.K w2 v d → Rep X.K w2 v2 d2 → P d d2 ms2 → R v v2 H2) :
    cE X.K Wx ra σ H fun x H1 => cE X.K Wx rb σ H1 fun y H2 => R x y H2 :=
  ⟨B, w, ms, s, _, E, L, h, fun w1 ms1 H1 v d e1 L1 r1 h1 => ⟨B, w1, ms1, s, _, E, L1, h1, fun w2 ms2 H2 v2 d2 e2 L2 r2 h2 => k w2 ms2 H2 v v2 d d2 (e1.trans e2) L2 (r1.mono e2) r2 h2, hx.le e1⟩, hx⟩
theorem ae_bin {op : Operator} (ho : OpA X (binaryOp op) f) (ha : AE X Wx a ra) (hb : AE X Wx b rb) : AE X Wx (.BinOp a op b pos) (aBin f ra rb) :=
  PE.imp (pe_op ho ha hb) fun σ H R ⟨B, w, ms, s, Q, E, L, h, hq, hx⟩ => two (X := X) L h hx fun w2 ms2 H2 v v2 d d2 e2 L2 r1 r2 h2 =>
    ⟨_, B, w2, ms2, s, σ, d, d2, _, L2, r1, r2, h2, fun w3 H3 z dz e3 L3 r3 q3 => hq w3 ms2 H3 z dz (e2.trans e3) L3 r3 q3⟩
theorem ae_un {op : UnaryOp} {f : D → (D → Prop) → Prop} (ho : UnA X (unaryOp op) f) (ha : AE X Wx a ra) : AE X Wx (.UnaryOp op a pos) (aUn f ra) :=
  PE.imp (pe_un ho ha) fun σ H R ⟨B, w, ms, s, Q, E, L, h, hq, hx⟩ => ⟨B, w, ms, s, _, E, L, h, fun w1 ms1 H1 v d e1 L1 r1 h1 =>
    ⟨_, B, w1, ms1, s, σ, d, _, L1, r1, h1, fun w3 H3 z dz e3 L3 r3 q3 => hq w3 ms1 H3 z dz (e1.trans e3) L3 r3 q3⟩, hx⟩
theorem ae_cmp {op : CmpOp} (ho : OpA X (compareOp op) f) (ha : AE X Wx a ra) (hb : AE X Wx b rb) (hm : behindInMarks op b = false) : AE X Wx (.Compare a [op] [b] pos) (aBin f ra rb) :=
  PE.imp (pe_cmpR ho ha hb hm) fun σ H R ⟨B, w, ms, s, Q, E, L, h, hq, hx⟩ => two (X := X) L h hx fun w2 ms2 H2 v v2 d d2 e2 L2 r1 r2 h2 =>
    ⟨_, B, w2, ms2, s, σ, d, d2, _, L2, r1, r2, h2, fun w3 H3 z dz e3 L3 r3 q3 => hq w3 ms2 H3 z dz (e2.trans e3) L3 r3 q3⟩
theorem isB_rep {w : W} {v : V} {d : D} {p : Bool → Prop} (r : Rep X.K w v d) (h : isB d p) : ∃ c, v = .bl c ∧ d = .bl c ∧ p c := by
  cases r <;> first | exact ⟨_, rfl, rfl, h⟩ | exact h.elim
theorem at_val {t : aE} (h : AE X Wx e t) (he : ∀ whole, isTrue e X.env whole = (do let v ← whole; standAt e.pos; holding [v] (truthy v)) := by intro _; rfl) : AT X Wx e (aB t) :=
  PT.imp (pt_val h he) fun σ H R ⟨B, w, ms, s, Q, E, L, h, hq, hx⟩ => ⟨B, w, ms, s, _, E, L, h, fun w1 ms1 H1 v d e1 L1 r1 h1 => by
    obtain ⟨c, rfl, rfl, q⟩ := isB_rep (X := X) r1 h1
    exact ⟨c, rfl, hq w1 ms1 H1 c e1 L1 q⟩, hx⟩
theorem at_cmp {op : CmpOp} (ho : OpA X (compareOp op) f) (ha : AE X Wx a ra) (hb : AE X Wx b rb) (hm : behindInMarks op b = false) : AT X Wx (.Compare a [op] [b] pos) (aB (aBin f ra rb)) :=
  PT.imp (pt_cmpR ho ha hb hm) fun σ H R ⟨B, w, ms, s, Q, E, L, h, hq, hx⟩ => two (X := X) L h hx fun w2 ms2 H2 v v2 d d2 e2 L2 r1 r2 h2 =>
    ⟨_, B, w2, ms2, s, σ, d, d2, _, L2, r1, r2, h2, fun w3 H3 z dz e3 L3 r3 q3 => by
      obtain ⟨c, rfl, rfl, q⟩ := isB_rep (X := X) r3 q3
      exact ⟨c, rfl, hq w3 ms2 H3 c (e2.trans e3) L3 q⟩⟩
theorem chain_ok {w : W} {B : Bs Wx.ex} {ms : MS} {s : ASt} {σ : L2.St} {H : Hp} {E : XD → MS → Prop} {P : D → MS → Prop} {R : VK} (L : Lk X.K B w ms s σ H) (h : aChain f g ra rb rc s ms P E) (hx : PostX X.K B w s σ E Wx)
    (hq : ∀ w' ms' H' v d, Le X.K w w' → Lk X.K B w' ms' s σ H' → Rep X.K w' v d → P d ms' → R v H') : tChain (rC X.K f) (rC X.K g) (cE X.K Wx ra) (cE X.K Wx rb) (cE X.K Wx rc) σ H R :=
  two (X := X) L h hx fun w2 ms2 H2 v v2 d d2 e2 L2 r1 r2 h2 => ⟨_, B, w2, ms2, s, σ, d, d2, _, L2, r1, r2, h2, fun w3 H3 z dz e3 L3 r3 q3 => by
    obtain ⟨k, rfl, rfl, q⟩ := isB_rep (X := X) r3 q3
    refine ⟨k, rfl, ?_⟩
    cases k with
    | false => exact hq w3 ms2 H3 _ _ (e2.trans e3) L3 r3 q
    | true =>
      rw [if_pos rfl]
      exact ⟨B, w3, ms2, s, _, E, L3, q, fun w4 ms4 H4 v4 d4 e4 L4 r4 h4 => ⟨_, B, w4, ms4, s, σ, d2, d4, _, L4, (r2.mono e3).mono e4, r4, h4, fun w5 H5 z5 d5 e5 L5 r5 q5 => hq w5 ms4 H5 z5 d5 (((e2.trans e3).trans e4).trans e5) L5 r5 q5⟩, hx.le (e2.trans e3)⟩⟩
theorem ae_chain {op op' : CmpOp} (ho : OpA X (compareOp op) f) (ho' : OpA X (compareOp op') g) (ha : AE X Wx a ra) (hb : AE X Wx b rb) (hc : AE X Wx c rc)
    (hm : lastMarks [op, op'] [b, c] = false := by with_unfolding_all rfl) : AE X Wx (.Compare a [op, op'] [b, c] pos) (aChain f g ra rb rc) :=
  PE.imp (pe_chain ho ho' ha hb hc hm) fun σ H R ⟨B, w, ms, s, Q, E, L, h, hq, hx⟩ => chain_ok (X := X) L h hx hq
theorem at_chain {op op' : CmpOp} (ho : OpA X (compareOp op) f) (ho' : OpA X (compareOp op') g) (ha : AE X Wx a ra) (hb : AE X Wx b rb) (hc : AE X Wx c rc)
    (hm : lastMarks [op, op'] [b, c] = false := by with_unfolding_all rfl) : AT X Wx (.Compare a [op, op'] [b, c] pos) (aB (aChain f g ra rb rc)) :=
  PT.imp (pt_chain ho ho' ha hb hc hm) fun σ H R ⟨B, w, ms, s, Q, E, L, h, hq, hx⟩ => chain_ok (X := X) L h hx fun w3 ms3 H3 v d e3 L3 r3 q3 => by
      obtain ⟨c, rfl, rfl, q⟩ := isB_rep (X := X) r3 q3
      exact ⟨c, rfl, hq w3 ms3 H3 c e3 L3 q⟩
theorem aw_and1 (ha : AT X Wx a qa) : AW X Wx (.BoolOp .And [a] pos) qa := pw_and1 ha
theorem aw_or1 (ha : AT X Wx a qa) : AW X Wx (.BoolOp .Or [a] pos) qa := pw_or1 ha
theorem aw_and (ha : AT X Wx a qa) (hb : AW X Wx (.BoolOp .And (b :: rest) pos) qb) : AW X Wx (.BoolOp .And (a :: b :: rest) pos) (aAnd qa qb) :=
  PW.imp (pw_and ha hb) fun σ H R ⟨B, w, ms, s, Q, E, L, h, hq, hx⟩ => ⟨B, w, ms, s, _, E, L, h, fun w1 ms1 H1 c e1 L1 h1 => by
    cases c with
    | true => rw [if_pos rfl]; exact ⟨B, w1, ms1, s, Q, E, L1, h1, hq.le e1, hx.le e1⟩
    | false => rw [if_neg (by decide)]; exact hq w1 ms1 H1 false e1 L1 h1, hx⟩
theorem aw_or (ha : AT X Wx a qa) (hb : AW X Wx (.BoolOp .Or (b :: rest) pos) qb) : AW X Wx (.BoolOp .Or (a :: b :: rest) pos) (aOr qa qb) :=
  PW.imp (pw_or ha hb) fun σ H R ⟨B, w, ms, s, Q, E, L, h, hq, hx⟩ => ⟨B, w, ms, s, _, E, L, h, fun w1 ms1 H1 c e1 L1 h1 => by
    cases c with
    | true => rw [if_pos rfl]; exact hq w1 ms1 H1 true e1 L1 h1
    | false => rw [if_neg (by decide)]; exact ⟨B, w1, ms1, s, Q, E, L1, h1, hq.le e1, hx.le e1⟩, hx⟩
theorem at_bool (h : AW X Wx e qa) : AT X Wx e qa := h.pt
theorem at_not (ha : AT X Wx a qa) : AT X Wx (.UnaryOp .Not a pos) (aNot qa) :=
  PT.imp (pt_not ha) fun σ H R ⟨B, w, ms, s, Q, E, L, h, hq, hx⟩ => ⟨B, w, ms, s, _, E, L, h, fun w1 ms1 H1 c e1 L1 h1 => hq w1 ms1 H1 (!c) e1 L1 h1, hx⟩
theorem ae_one {op} (h : AE X Wx a ra) : AE X Wx (.BoolOp op [a] pos) ra := pe_one h
theorem ae_and (ha : AE X Wx a ra) (hb : AE X Wx (.BoolOp .And (b :: rest) pos) rb) : AE X Wx (.BoolOp .And (a :: b :: rest) pos) (aAndV ra rb) :=
  PE.imp (pe_and ha hb) fun σ H R ⟨B, w, ms, s, Q, E, L, h, hq, hx⟩ => ⟨B, w, ms, s, _, E, L, h, fun w1 ms1 H1 v d e1 L1 r1 h1 => by
    obtain ⟨c, rfl, rfl, q⟩ := isB_rep (X := X) r1 h1
    refine ⟨c, rfl, ?_⟩
    cases c with
    | true => rw [if_pos rfl]; exact ⟨B, w1, ms1, s, Q, E, L1, q, hq.le e1, hx.le e1⟩
    | false => rw [if_neg (by decide)]; exact hq w1 ms1 H1 _ _ e1 L1 r1 q, hx⟩
theorem ae_or (ha : AE X Wx a ra) (hb : AE X Wx (.BoolOp .Or (b :: rest) pos) rb) : AE X Wx (.BoolOp .Or (a :: b :: rest) pos) (aOrV ra rb) :=
  PE.imp (pe_or ha hb) fun σ H R ⟨B, w, ms, s, Q, E, L, h, hq, hx⟩ => ⟨B, w, ms, s, _, E, L, h, fun w1 ms1 H1 v d e1 L1 r1 h1 => by
    obtain ⟨c, rfl, rfl, q⟩ := isB_rep (X := X) r1 h1
    refine ⟨c, rfl, ?_⟩
    cases c with
    | true => rw [if_pos rfl]; exact hq w1 ms1 H1 _ _ e1 L1 r1 q
    | false => rw [if_neg (by decide)]; exact ⟨B, w1, ms1, s, Q, E, L1, q, hq.le e1, hx.le e1⟩, hx⟩
theorem ae_not (ha : AE X Wx a ra) : AE X Wx (.UnaryOp .Not a pos) (aNotV ra) :=
  PE.imp (pe_not ha) fun σ H R ⟨B, w, ms, s, Q, E, L, h, hq, hx⟩ => ⟨B, w, ms, s, _, E, L, h, fun w1 ms1 H1 v d e1 L1 r1 h1 => by
    obtain ⟨c, rfl, rfl, q⟩ := isB_rep (X := X) r1 h1
    exact ⟨c, rfl, hq w1 ms1 H1 _ _ e1 L1 (.bl _) q⟩, hx⟩
theorem ae_if (hc : AT X Wx c qa) (ha : AE X Wx a ra) (hb : AE X Wx b rb) : AE X Wx (.IfExp c a b pos) (aIf qa ra rb) :=
  PE.imp (pe_ifExp hc ha hb) fun σ H R ⟨B, w, ms, s, Q, E, L, h, hq, hx⟩ => ⟨B, w, ms, s, _, E, L, h, fun w1 ms1 H1 c e1 L1 h1 => by
    cases c with
    | true => rw [if_pos rfl]; exact ⟨B, w1, ms1, s, Q, E, L1, h1, hq.le e1, hx.le e1⟩
    | false => rw [if_neg (by decide)]; exact ⟨B, w1, ms1, s, Q, E, L1, h1, hq.le e1, hx.le e1⟩, hx⟩
theorem aa_nil : AA X Wx [] aNil := PA.imp pa_nil fun σ H R ⟨B, w, ms, s, Q, E, L, h, hq, hx⟩ => hq w ms H [] [] (Le.refl _ _) L .nil h
theorem aa_cons (ha : AE X Wx e ra) (hr : AA X Wx es rr) (hs : starEach (e :: es) X.env = (false, eval e X.env) :: starEach es X.env := by rfl) : AA X Wx (e :: es) (aCons ra rr) :=
  PA.imp (pa_cons ha hr hs) fun σ H R ⟨B, w, ms, s, Q, E, L, h, hq, hx⟩ => ⟨B, w, ms, s, _, E, L, h, fun w1 ms1 H1 v d e1 L1 r1 h1 =>
    ⟨B, w1, ms1, s, _, E, L1, h1, fun w2 ms2 H2 vs ds e2 L2 r2 h2 => hq w2 ms2 H2 _ _ (e1.trans e2) L2 (.cons (r1.mono e2) r2) h2, hx.le e1⟩, hx⟩
theorem ae_tup {x1} (h : AA X Wx es rr) : AE X Wx (.Tuple es x1 pos) (aTup rr) :=
  PE.imp (pe_tup h) fun σ H R ⟨B, w, ms, s, Q, E, L, h, hq, hx⟩ => ⟨B, w, ms, s, _, E, L, h, fun w1 ms1 H1 vs ds e1 L1 r1 h1 => ⟨r1.length ▸ h1.1, fun p hp => by
    have f := L1.fresh hp
    exact hq _ ms1 _ _ _ (e1.trans (Le.new f.1)) (L1.new hp) (.tup upd_same (r1.mono (Le.new f.1))) h1.2⟩, hx⟩
theorem ae_lst (h : AA X Wx es rr) : AE X Wx (.List es pos) (aLst rr) :=
  PE.imp (pe_lst h) fun σ H R ⟨B, w, ms, s, Q, E, L, h, hq, hx⟩ => ⟨B, w, ms, s, _, E, L, h, fun w1 ms1 H1 vs ds e1 L1 r1 h1 => ⟨r1.length ▸ h1.1, fun p hp => by
    have f := L1.fresh hp
    exact hq _ ms1 _ _ _ (e1.trans (Le.new f.1)) (L1.new hp) (.lst upd_same (r1.mono (Le.new f.1))) h1.2⟩, hx⟩
theorem ae_ix (ho : IxA X f) (ha : AE X Wx a ra) (hb : AE X Wx b rb) (hs : PlainIx b) : AE X Wx (.Subscript a b pos) (aBin f ra rb) :=
  PE.imp (pe_ix ho ha hb hs) fun σ H R ⟨B, w, ms, s, Q, E, L, h, hq, hx⟩ => two (X := X) L h hx fun w2 ms2 H2 v v2 d d2 e2 L2 r1 r2 h2 =>
    ⟨_, B, w2, ms2, s, σ, d, d2, _, L2, r1, r2, h2, fun w3 H3 z dz e3 L3 r3 q3 => hq w3 ms2 H3 z dz (e2.trans e3) L3 r3 q3⟩
/-- a call of a builtin -/
theorem cb_ok {f : List D → (D → Prop) → Prop} {σ : L2.St} {H : Hp} {R : VK} (h : cE X.K Wx (aCB f rr) σ H R) : tCB (rCL X.K f) (cA X.K Wx rr) σ H R := by
  obtain ⟨B, w, ms, s, Q, E, L, h, hq, hx⟩ := h
  exact ⟨B, w, ms, s, _, E, L, h, fun w1 ms1 H1 vs ds e1 L1 r1 h1 => ⟨_, B, w1, ms1, s, σ, ds, _, L1, r1, h1, fun w3 H3 z dz e3 L3 r3 q3 => hq w3 ms1 H3 z dz (e1.trans e3) L3 r3 q3⟩, hx⟩
end
end LA

set_option Elab.async false
set_option linter.all false
set_option maxRecDepth 100000
set_option maxHeartbeats 4000000
/-! LA3: calls, promises by data, statements. -/
namespace LA
open PySem PySem.Spec PyProof.Rows L2

/-! ### promises -/
abbrev ASp := List D → MS → (D → MS → Prop) → (XD → MS → Prop) → Prop
/-- behind a call -/
structure Aft (K : PySem.W.Frag) (w : W) (H : Hp) (w' : W) (ms' : MS) (H' : Hp) : Prop where
  s0 : St0 K w' ms' H'
  keep : ∀ a o, a ∉ w.as → H a = some o → H' a = some o
  pre : ∀ a ∈ w'.as, a ∈ w.as ∨ H a = none
  bas : ∀ a ∈ w.as, a ∈ w'.as
  fz : ∀ a o, w'.F a = some o → (∃ u, w.F a = some u) ∨ a ∈ w.as ∨ H a = none
theorem Lk.after {K : PySem.W.Frag} {ex : XI} {B : Bs ex} {w w' : W} {ms ms' : MS} {s : ASt} {σ : L2.St} {H H' : Hp} (L : Lk K B w ms s σ H) (e : Le K w w') (A : Aft K w H w' ms' H') : Lk K B w' ms' s σ H' := by
  have hn : ∀ a, a ∉ B.as → H a = none → B.H a = none := fun a na n => by
    cases q : B.H a with
    | none => rfl
    | some o => have := L.keep a o na q; rw [n] at this; cases this
  refine ⟨A.s0, fun a o na h => A.keep a o (fun z => ?_) (L.keep a o na h), fun a ha => ?_, fun a ha => A.bas a (L.bas a ha), fun a o h => ?_, L.len, fun i av h => ?_, L.dj, L.bf, L.sf⟩
  · rcases L.pre a z with q | q
    · exact na q
    · rw [q] at h; cases h
  · rcases A.pre a ha with q | q
    · exact L.pre a q
    · by_cases z : a ∈ B.as
      · exact .inl z
      · exact .inr (hn a z q)
  · rcases A.fz a o h with ⟨u, q⟩ | q | q
    · exact L.fz a u q
    · rcases L.pre a q with z | z
      · exact .inr (.inl z)
      · exact .inr (.inr z)
    · by_cases z : a ∈ B.as
      · exact .inr (.inl z)
      · exact .inr (.inr (hn a z q))
  · have := L.sl i av h
    cases av with
    | fr d => obtain ⟨v, e1, r⟩ := this; exact ⟨v, e1, r.mono e⟩
    | ex x => obtain ⟨a, c, d, e0, e1, r⟩ := this; exact ⟨a, c, d, e0, e1, r.mono e⟩
    | ow m =>
      obtain ⟨p, e1, r, n1, n2, n3⟩ := this
      obtain ⟨o, ho⟩ := r.there
      refine ⟨p, e1, r.mono e fun o q => A.keep p o n2 q, ?_, fun z => ?_, n3⟩
      · cases q : w'.F p with
        | none => rfl
        | some u =>
          rcases A.fz p u q with ⟨u', z⟩ | z | z
          · rw [n1] at z; cases z
          · exact absurd z n2
          · rw [ho] at z; cases z
      · rcases A.pre p z with q | q
        · exact n2 q
        · rw [ho] at q; cases q
def spA (K : PySem.W.Frag) (S : ASp) : Sp := fun vs H Q E => ∃ w ms ds Qa Ea, St0 K w ms H ∧ RepL K w vs ds ∧ S ds ms Qa Ea ∧
  (∀ w' ms' H' v d, Le K w w' → Aft K w H w' ms' H' → Rep K w' v d → Qa d ms' → Q v H') ∧ (∀ w' ms' H' cl ad x, Le K w w' → Aft K w H w' ms' H' → RepX K w' cl ad x → Ea x ms' → E cl ad H')
/-- the entry -/
def base0 (w : W) (H : Hp) : Bs none := ⟨H, w.as, w.F, none⟩
def startA (N : List Str) (ds : List D) : ASt := ds.map (fun d => some (.fr d)) ++ List.replicate (N.length - ds.length) none
theorem Lk.entry {K : PySem.W.Frag} {w : W} {ms : MS} {H : Hp} {N : List Str} {vs : List V} {ds : List D} (h0 : St0 K w ms H) (r : RepL K w vs ds) : Lk K (base0 w H) w ms (startA N ds) (start N vs) H := by
  have hl := r.length
  refine ⟨h0, fun _ _ _ h => h, fun a h => .inl h, fun a h => h, fun a o h => .inl ⟨o, h⟩, by simp [startA, L2.start, hl], fun i av h => ?_, fun i j p mi mj h _ _ _ => ?_, fun a u q => ⟨u, h0.fh a u q⟩, fun _ _ h => nomatch h⟩
  · unfold startA at h
    by_cases hi : i < ds.length
    · rw [List.getElem?_append_left (by simpa using hi), List.getElem?_map] at h
      cases q : ds[i]? with
      | none => rw [q] at h; cases h
      | some d =>
        rw [q] at h; cases h
        obtain ⟨v, e1, rv⟩ := r.get q
        exact ⟨v, by unfold L2.start; rw [List.getElem?_append_left (by rw [List.length_map, hl]; exact hi), List.getElem?_map, e1]; rfl, rv⟩
    · rw [List.getElem?_append_right (by simpa using Nat.le_of_not_lt hi), List.getElem?_replicate] at h
      split at h <;> cases h
  · unfold startA at h
    by_cases hi : i < ds.length
    · rw [List.getElem?_append_left (by simpa using hi), List.getElem?_map] at h
      cases q : ds[i]? with
      | none => rw [q] at h; cases h
      | some d => rw [q] at h; cases h
    · rw [List.getElem?_append_right (by simpa using Nat.le_of_not_lt hi), List.getElem?_replicate] at h
      split at h <;> cases h
/-- what a body has reached, for the caller -/
theorem Lk.aft {K : PySem.W.Frag} {w w' : W} {ms' : MS} {H H' : Hp} {s : ASt} {σ : L2.St} (L : Lk K (base0 w H) w' ms' s σ H') : Aft K w H w' ms' H' := ⟨L.s0, L.keep, L.pre, L.bas, L.fz⟩
/-- a body keeps a promise -/
theorem body_ok {K : PySem.W.Frag} {N : List Str} {S : ASp} {a : aS} (hb : ∀ ds ms Q E, S ds ms Q E → a ⟨fun _ ms => Q .non ms, Q, fun _ _ => False, fun _ _ => False, fun x _ ms => E x ms⟩ (startA N ds) ms)
    {vs : List V} {H : Hp} {Q : VK} {E : XK} (h : spA K S vs H Q E) : cS K ⟨fun cl ad _ H => E cl ad H, none⟩ a { nx := fun _ H' => Q .non H', rt := Q } (start N vs) H := by
  obtain ⟨w, ms, ds, Qa, Ea, h0, r, hS, hq, he⟩ := h
  exact ⟨base0 w H, w, ms, startA N ds, _, Lk.entry h0 r, hb ds ms Qa Ea hS,
    ⟨fun w' ms' H' s' σ' le L q => hq w' ms' H' .non .non le L.aft .non q, fun _ _ _ _ _ _ _ q => q.elim, fun _ _ _ _ _ _ _ q => q.elim, fun w' ms' H' s' σ' v d le L r q => hq w' ms' H' v d le L.aft r q, fun w' ms' H' s' σ' cl ad x le L r q => he w' ms' H' cl ad x le L.aft r q⟩⟩
section
variable {P : Program} {w : World} {K : PySem.W.Frag} {mg : Str → Option Value} {base : Heap}
abbrev BodyA (P : Program) (w : World) (K : PySem.W.Frag) (mg : Str → Option Value) (base : Heap) (N : List Str) (q : Str) (st : Stmt) (f : Addr) (k : Nat) (S : ASp) : Prop :=
  ∀ (cdv : Value) (A : Around) (outer : List Env) (s : Shared) (H : Hp) (E : XK), Room k (A.deeper (envOfC q (defScope st) s.heap.objs.size f cdv)) →
    ∃ a, ASs (HX.cxR P w K mg base N q (defScope st) f cdv A outer s H E) ⟨fun cl ad _ H => E cl ad H, none⟩ (defBody st) a ∧ ∀ ds ms Q E', S ds ms Q E' → a ⟨fun _ ms => Q .non ms, Q, fun _ _ => False, fun _ _ => False, fun x _ ms => E' x ms⟩ (startA N ds) ms
theorem len_of {S : ASp} {ps : List Str} (len : ∀ ds ms Q E, S ds ms Q E → ds.length = ps.length) : ∀ vs H Q E, spA K S vs H Q E → vs.length = ps.length := fun vs H Q E ⟨w, ms, ds, Qa, Ea, h0, r, hS, _⟩ => r.length.trans (len ds ms Qa Ea hS)
/-- a def of the text -/
theorem gfn_of {x : Str} {st : Stmt} {N ps : List Str} {k : Nat} {S : ASp} (D : HX.DefAt K x x st (He.ga K x)) (gm : mg x = some (.ref (He.ga K x))) (Sc : FnScope N ps (defScope st)) (len : ∀ ds ms Q E, S ds ms Q E → ds.length = ps.length)
    (hb : ∀ (kV doc pm : Value) (an : Option Addr) (cdv ct : Value) (us : List Value), us.length = ps.length → bindArgs (PySem.W.fnOf x x (defArgs st) (defBody st) (defScope st) .none kV doc pm an cdv ct) ⟨us, []⟩ = pure (ps.zip us))
    (h : BodyA P w K mg base N x st (He.ga K x) k S) : HX.GFn P w K mg base x (k + 1) ps (spA K S) :=
  HX.gfn_of D gm Sc (len_of len) hb fun cdv A outer s H vs Q E hr hs => by
    obtain ⟨a, ha, hb⟩ := h cdv A outer s H E hr
    exact ⟨_, ha, body_ok hb hs⟩
/-- a method -/
theorem fn_of {x q : Str} {st : Stmt} {f : Addr} {N ps : List Str} {k : Nat} {S : ASp} (D : HX.DefAt K x q st f) (Sc : FnScope N ps (defScope st)) (len : ∀ ds ms Q E, S ds ms Q E → ds.length = ps.length)
    (hb : ∀ (kV doc pm : Value) (an : Option Addr) (cdv ct : Value) (us : List Value), us.length = ps.length → bindArgs (PySem.W.fnOf x q (defArgs st) (defBody st) (defScope st) .none kV doc pm an cdv ct) ⟨us, []⟩ = pure (ps.zip us))
    (h : BodyA P w K mg base N q st f k S) : ∃ fd, FnOk P w K mg base (L2N.CX P w) (k + 1) f fd ps (spA K S) ∧ Binds K fd ps [] :=
  HX.fn_of D Sc (len_of len) hb fun cdv A outer s H vs Q E hr hs => by
    obtain ⟨a, ha, hb⟩ := h cdv A outer s H E hr
    exact ⟨_, ha, body_ok hb hs⟩
theorem fnok_of {x q : Str} {st : Stmt} {f : Addr} {fd : FuncData} {N ps : List Str} {k : Nat} {S : ASp} (F : HX.FdAt K x q st f fd) (Sc : FnScope N ps (defScope st)) (len : ∀ ds ms Q E, S ds ms Q E → ds.length = ps.length)
    (h : BodyA P w K mg base N q st f k S) : FnOk P w K mg base (L2N.CX P w) (k + 1) f fd ps (spA K S) :=
  HX.fnok_of F Sc (len_of len) fun cdv A outer s H vs Q E hr hs => by
    obtain ⟨a, ha, hb⟩ := h cdv A outer s H E hr
    exact ⟨_, ha, body_ok hb hs⟩
end

/-! ### calls -/
/-- a call, to be answered -/
structure DoCall (S : ASp) (ds : List D) (ms : MS) (Q : D → MS → Prop) (E : XD → MS → Prop) (t : Tag Q E := .mk) : Prop where
  h : S ds ms Q E
def aCall (S : ASp) (rr : aA) : aE := fun s ms Q E => rr s ms (fun ds ms1 => DoCall S ds ms1 Q E) E
/-- an instance of the class c: its fields -/
def isIns (c : Str) (x : D) (ms : MS) (k : List (Str × D) → Prop) : Prop := match x with
  | .ins c' fs => c' = c ∧ k fs
  | .ptr i => match ms[i]? with
    | some (.ins c' fs) => c' = c ∧ k fs
    | _ => False
  | _ => False
/-- an instance of one of the classes -/
def isInC (cs : List Str) (x : D) (ms : MS) (k : List (Str × D) → Prop) : Prop := match x with
  | .ins c' fs => c' ∈ cs ∧ k fs
  | .ptr i => match ms[i]? with
    | some (.ins c' fs) => c' ∈ cs ∧ k fs
    | _ => False
  | _ => False
/-- a field's value -/
def gotF (o : Option D) (k : D → Prop) (t : Tag k k := .mk) : Prop := match o with
  | some d => k d
  | none => False
def aFld (cs : List Str) (f : Str) (ra : aE) : aE := fun s ms Q E => ra s ms (fun x ms1 => isInC cs x ms1 fun fs => gotF (fs.lookup f) fun d => Q d ms1) E
def aMeth (c m : Str) (S : ASp) (ra : aE) (rr : aA) : aE := fun s ms Q E => ra s ms (fun x ms1 => isIns c x ms1 fun fs => fs.lookup m = none ∧ rr s ms1 (fun ds ms2 => DoCall S (x :: ds) ms2 Q E) E) E
def aProp (c : Str) (S : ASp) (ra : aE) : aE := fun s ms Q E => ra s ms (fun x ms1 => isIns c x ms1 fun _ => DoCall S [x] ms1 Q fun _ _ => False) E
/-- e(..) by __call__ -/
def aInst (c : Str) (S : ASp) (ra : aE) (rr : aA) : aE := fun s ms Q E => ra s ms (fun x ms1 => isIns c x ms1 fun _ => rr s ms1 (fun ds ms2 => isIns c x ms2 fun _ => DoCall S (x :: ds) ms2 Q E) E) E
section
variable {X : Cx} {Wx : WXA} {e o : Expr} {es : List Expr} {p pos apos : Pos} {ra : aE} {rr : aA} {k : Nat} {x c m f : Str} {ps : List Str} {S : ASp}
theorem isIns_rep {w : W} {ms : MS} {H : Hp} {v : V} {d : D} {kk : List (Str × D) → Prop} (h0 : St0 X.K w ms H) (r : Rep X.K w v d) (h : isIns c d ms kk) : ∃ a dx fs ds, v = .ref a ∧ H a = some (.ins (He.ga X.K c) dx fs) ∧ RepF X.K w fs ds ∧ kk ds := by
  cases r with
  | ins h1 r1 =>
    obtain ⟨rfl, h⟩ := h
    exact ⟨_, _, _, _, rfl, h0.fh _ _ h1, r1, h⟩
  | @ptr a i h1 =>
    unfold isIns at h
    dsimp only at h
    split at h
    · rename_i c' fs q
      obtain ⟨rfl, h⟩ := h
      obtain ⟨b, hb, rm⟩ := h0.ce _ _ q
      rw [h1] at hb; cases hb
      cases rm with
      | ins h2 r2 => exact ⟨_, _, _, _, rfl, h2, r2, h⟩
    · exact h.elim
  | _ => exact False.elim h
theorem isInC_rep {cs : List Str} {w : W} {ms : MS} {H : Hp} {v : V} {d : D} {kk : List (Str × D) → Prop} (h0 : St0 X.K w ms H) (r : Rep X.K w v d) (h : isInC cs d ms kk) : ∃ c a dx fs ds, c ∈ cs ∧ v = .ref a ∧ H a = some (.ins (He.ga X.K c) dx fs) ∧ RepF X.K w fs ds ∧ kk ds := by
  cases r with
  | ins h1 r1 =>
    obtain ⟨hc, h⟩ := h
    exact ⟨_, _, _, _, _, hc, rfl, h0.fh _ _ h1, r1, h⟩
  | @ptr a i h1 =>
    unfold isInC at h
    dsimp only at h
    split at h
    · rename_i c' fs q
      obtain ⟨hc, h⟩ := h
      obtain ⟨b, hb, rm⟩ := h0.ce _ _ q
      rw [h1] at hb; cases hb
      cases rm with
      | ins h2 r2 => exact ⟨_, _, _, _, _, hc, rfl, h2, r2, h⟩
    · exact h.elim
  | _ => exact False.elim h
/-- the callee's promise, from the caller's state -/
theorem spA_of {ex : XI} {B : Bs ex} {w : W} {ms : MS} {s : ASt} {σ : L2.St} {H : Hp} {Q : D → MS → Prop} {E : XD → MS → Prop} {R : VK} {vs : List V} {ds : List D} (L : Lk X.K B w ms s σ H) (r : RepL X.K w vs ds) (h : S ds ms Q E) (hq : PostV X.K B w s σ Q R) (hx : PostX X.K B w s σ E Wx) :
    spA X.K S vs H R (WE Wx.w σ) :=
  ⟨w, ms, ds, Q, E, L.s0, r, h, fun w' ms' H' v d le A rv q => hq w' ms' H' v d le (L.after le A) rv q, fun w' ms' H' cl ad x le A rx q => hx w' ms' H' cl ad x le (L.after le A) rx q⟩
theorem ae_call (tk : L2N.Takes X Wx.w) (G : HX.GFn X.prog X.w X.K X.mg X.base x k ps (spA X.K S)) (hr : Room k X.A) (hg : Gl X x) (ha : AA X Wx (e :: es) rr) (hdb : (x == ("__debug__" : Str)) = false := by decide)
    (he : starEach (e :: es) X.env = (false, eval e X.env) :: starEach es X.env := by rfl) (hpl : (backTo pos (starEach es X.env)).any (·.1) = false := by rfl) : AE X Wx (.Call (.Name x p) (e :: es) [] pos) (aCall S rr) :=
  PE.imp (HX.pe_g G hr (fun σ => L2N.passAt tk σ) hg ha hdb he hpl) fun σ H R ⟨B, w, ms, s, Q, E, L, h, hq, hx⟩ => ⟨B, w, ms, s, _, E, L, h, fun w1 ms1 H1 vs ds e1 L1 r1 h1 => spA_of (X := X) L1 r1 h1.h (hq.le e1) (hx.le e1), hx⟩
theorem ae_fld {cs : List Str} (hc : ∀ c ∈ cs, Cls X.K (He.ga X.K c) ∧ NoAttr X.K (He.ga X.K c) f) (he : AE X Wx e ra) (hb : attributeBase e f X.env (eval e X.env) = eval e X.env) : AE X Wx (.Attribute e f pos) (aFld cs f ra) :=
  PE.imp (pe_fld he hb) fun σ H R ⟨B, w, ms, s, Q, E, L, h, hq, hx⟩ => ⟨B, w, ms, s, _, E, L, h, fun w1 ms1 H1 v d e1 L1 r1 h1 => by
    obtain ⟨c, a, dx, fs, ds, hcs, rfl, hH, rf, q⟩ := isInC_rep (X := X) L1.s0 r1 h1
    unfold gotF at q
    split at q
    · rename_i y hy
      obtain ⟨u, hu, ru⟩ := rf.lookup hy
      exact ⟨a, _, dx, fs, u, rfl, hH, (hc c hcs).1, (hc c hcs).2, hu, hq _ _ _ _ _ e1 L1 ru q⟩
    · exact q.elim, hx⟩
theorem ae_meth {pl : Sem Bool} (tk : L2N.Takes X Wx.w) (G : HX.GMe X.prog X.w X.K X.mg X.base c m k ps (spA X.K S)) (he : AE X Wx o ra) (hr : Room k X.A) (ha : AA X Wx (e :: es) rr)
    (hst : starEach (e :: es) X.env = (false, eval e X.env) :: starEach es X.env := by rfl) (hpl : (backTo pos (starEach es X.env)).any (·.1) = false := by rfl)
    (ht : eval (.Call (.Attribute o m apos) (e :: es) [] pos) X.env = (do
      let r ← eval o X.env
      standAt apos.atName
      let (g, one) ← holding [r] (getMethod r m pl)
      callWith pos g one (backTo pos (starEach (e :: es) X.env)) (backToKw pos (keywordEach [] X.env))) := by rfl) : AE X Wx (.Call (.Attribute o m apos) (e :: es) [] pos) (aMeth c m S ra rr) :=
  PE.imp (HX.pe_gm G he hr (fun σ => L2N.passAt tk σ) ha hst hpl ht) fun σ H R ⟨B, w, ms, s, Q, E, L, h, hq, hx⟩ => ⟨B, w, ms, s, _, E, L, h, fun w1 ms1 H1 v d e1 L1 r1 h1 => by
    obtain ⟨a, dx, fs, ds, rfl, hH, rf, hl, q⟩ := isIns_rep (X := X) L1.s0 r1 h1
    exact ⟨a, dx, fs, rfl, hH, rf.lookup_none hl, B, w1, ms1, s, _, E, L1, q, fun w2 ms2 H2 vs es e2 L2 r2 h2 => spA_of (X := X) L2 (.cons (r1.mono e2) r2) h2.h (hq.le (e1.trans e2)) (hx.le (e1.trans e2)), hx.le e1⟩, hx⟩
theorem ae_meth0 {pl : Sem Bool} (tk : L2N.Takes X Wx.w) (G : HX.GMe X.prog X.w X.K X.mg X.base c m k ps (spA X.K S)) (he : AE X Wx o ra) (hr : Room k X.A)
    (ht : eval (.Call (.Attribute o m apos) [] [] pos) X.env = (do
      let r ← eval o X.env
      standAt apos.atName
      let (g, one) ← holding [r] (getMethod r m pl)
      callWith pos g one (backTo pos (starEach [] X.env)) (backToKw pos (keywordEach [] X.env))) := by rfl) : AE X Wx (.Call (.Attribute o m apos) [] [] pos) (aMeth c m S ra aNil) :=
  PE.imp (HX.pe_gm0 G he hr (fun σ => L2N.passAt tk σ) ht) fun σ H R ⟨B, w, ms, s, Q, E, L, h, hq, hx⟩ => ⟨B, w, ms, s, _, E, L, h, fun w1 ms1 H1 v d e1 L1 r1 h1 => by
    obtain ⟨a, dx, fs, ds, rfl, hH, rf, hl, q⟩ := isIns_rep (X := X) L1.s0 r1 h1
    exact ⟨a, dx, fs, rfl, hH, rf.lookup_none hl, spA_of (X := X) L1 (.cons r1 .nil) q.h (hq.le e1) (hx.le e1)⟩, hx⟩
theorem ae_prop (G : HX.GPr X.prog X.w X.K X.mg X.base c f k (spA X.K S)) (he : AE X Wx e ra) (hr : Room (k + 1) X.A) (hab : attributeBase e f X.env (eval e X.env) = eval e X.env) : AE X Wx (.Attribute e f pos) (aProp c S ra) :=
  PE.imp (HX.pe_gp G he hr hab) fun σ H R ⟨B, w, ms, s, Q, E, L, h, hq, hx⟩ => ⟨B, w, ms, s, _, E, L, h, fun w1 ms1 H1 v d e1 L1 r1 h1 => by
    obtain ⟨a, dx, fs, ds, rfl, hH, rf, q⟩ := isIns_rep (X := X) L1.s0 r1 h1
    refine ⟨a, dx, fs, rfl, hH, w1, ms1, _, Q, _, L1.s0, .cons r1 .nil, q.h, fun w' ms' H' v d le A rv q => hq w' ms' H' v d (e1.trans le) (L1.after le A) rv q, fun _ _ _ _ _ _ _ _ _ z => z.elim⟩, hx⟩
theorem ae_inst (tk : L2N.Takes X Wx.w) (G : HX.GMe X.prog X.w X.K X.mg X.base c "__call__" k ps (spA X.K S)) (gn : PySem.W.fnIn X.K (He.ma X.K (He.ga X.K c) "__call__") = true) (he : AE X Wx o ra) (hr : Room k X.A) (ha : AA X Wx (e :: es) rr)
    (hst : starEach (e :: es) X.env = (false, eval e X.env) :: starEach es X.env := by rfl) (hpl : (backTo pos (starEach es X.env)).any (·.1) = false := by rfl)
    (ht : eval (.Call o (e :: es) [] pos) X.env = (do callWith pos (← eval o X.env) [] (backTo pos (starEach (e :: es) X.env)) (backToKw pos (keywordEach [] X.env))) := by rfl) : AE X Wx (.Call o (e :: es) [] pos) (aInst c S ra rr) :=
  PE.imp (HX.pe_gi G gn he hr (fun σ => L2N.passAt tk σ) ha hst hpl ht) fun σ H R ⟨B, w, ms, s, Q, E, L, h, hq, hx⟩ => ⟨B, w, ms, s, _, E, L, h, fun w1 ms1 H1 v d e1 L1 r1 h1 => by
    obtain ⟨a, _, _, _, rfl, _, _, h1⟩ := isIns_rep (X := X) L1.s0 r1 h1
    refine ⟨a, rfl, B, w1, ms1, s, _, E, L1, h1, fun w2 ms2 H2 vs2 es2 e2 L2 r2 h2 => ?_, hx.le e1⟩
    obtain ⟨a', dx', fs', ds', e, hH, rf, q⟩ := isIns_rep (X := X) L2.s0 (r1.mono e2) h2
    cases e
    exact ⟨⟨dx', fs', hH⟩, spA_of (X := X) L2 (.cons (r1.mono e2) r2) q.h (hq.le (e1.trans e2)) (hx.le (e1.trans e2))⟩, hx⟩
end
end LA

set_option Elab.async false
set_option linter.all false
set_option maxRecDepth 100000
set_option maxHeartbeats 4000000
/-! LA4: builtins, instances made, statements, loops. -/
namespace LA
open PySem PySem.Spec PyProof.Rows L2

section
variable {X : Cx} {Wx : WXA} {e o : Expr} {es : List Expr} {p pos apos : Pos} {ra : aE} {rr : aA} {k : Nat} {x c m f : Str} {ps : List Str} {id T : String} {fn : List D → (D → Prop) → Prop}
theorem ae_callB (hc : CallA X (.builtin id) fn) (hg : Gl X x) (hm : X.mg x = none) (hv : bootBuiltins x = some (.builtin id)) (ha : AA X Wx (e :: es) rr) (hn : x ≠ "__name__" := by decide) (hdb : (x == ("__debug__" : Str)) = false := by decide)
    (he : starEach (e :: es) X.env = (false, eval e X.env) :: starEach es X.env := by rfl) (hpl : (backTo pos (starEach es X.env)).any (·.1) = false := by rfl) : AE X Wx (.Call (.Name x p) (e :: es) [] pos) (aCB fn rr) :=
  PE.imp (pe_callB hc hg hm hv ha hn hdb he hpl) fun σ H R h => cb_ok (X := X) h
theorem ae_callTy (hc : CallA X (.type T) fn) (hg : Gl X x) (hm : X.mg x = none) (hv : bootBuiltins x = some (.type T)) (ha : AA X Wx (e :: es) rr) (hn : x ≠ "__name__" := by decide) (hdb : (x == ("__debug__" : Str)) = false := by decide)
    (he : starEach (e :: es) X.env = (false, eval e X.env) :: starEach es X.env := by rfl) (hpl : (backTo pos (starEach es X.env)).any (·.1) = false := by rfl) : AE X Wx (.Call (.Name x p) (e :: es) [] pos) (aCB fn rr) :=
  PE.imp (pe_callTy hc hg hm hv ha hn hdb he hpl) fun σ H R h => cb_ok (X := X) h
end

/-! ### instances made -/
abbrev ISp := List D → MS → (List (Str × D) → MS → Prop) → (XD → MS → Prop) → Prop
/-- the heap but for one place -/
def but (H : Hp) (x : Addr) : Hp := fun a => if a = x then none else H a
theorem but_ne {H : Hp} {x a : Addr} (h : a ≠ x) : but H x a = H a := by unfold but; rw [if_neg h]
theorem but_same {H : Hp} {x : Addr} : but H x x = none := by unfold but; rw [if_pos rfl]
/-- behind a call that wrote at x -/
structure AftX (K : PySem.W.Frag) (w : W) (H : Hp) (x : Addr) (w' : W) (ms' : MS) (H' : Hp) : Prop where
  s0 : St0 K w' ms' H'
  keep : ∀ a o, a ∉ w.as → a ≠ x → H a = some o → H' a = some o
  pre : ∀ a ∈ w'.as, a ∈ w.as ∨ but H x a = none
  bas : ∀ a ∈ w.as, a ∈ w'.as
  fz : ∀ a o, w'.F a = some o → (∃ u, w.F a = some u) ∨ a ∈ w.as ∨ but H x a = none
  fx : w'.F x = none
  nx : x ∉ w'.as
def spI (K : PySem.W.Frag) (c : Str) (S : ISp) : Sp := fun vs H Q E => ∃ x dx vr w ms ds Qa Ea, vs = .ref x :: vr ∧ H x = some (.ins (He.ga K c) dx []) ∧ w.F x = none ∧ x ∉ w.as ∧ St0 K w ms H ∧ RepL K w vr ds ∧ S ds ms Qa Ea ∧
  (∀ w' ms' H' dx' fs gs, Le K w w' → AftX K w H x w' ms' H' → H' x = some (.ins (He.ga K c) dx' fs) → RepF K w' fs gs → Qa gs ms' → Q .non H') ∧
  (∀ w' ms' H' cl ad y, Le K w w' → AftX K w H x w' ms' H' → RepX K w' cl ad y → Ea y ms' → E cl ad H')
/-- the body's end, by what the new object has become -/
def selfIs (s : ASt) (c : Str) (k : List (Str × D) → Prop) (t : Tag k k := .mk) : Prop := match s[0]? with
  | some (some (AV.ow (MO.ins c' fs))) => c' = c ∧ k fs
  | _ => False
theorem selfIs_of {s : ASt} {c : Str} {k : List (Str × D) → Prop} (h : selfIs s c k) : ∃ fs, s[0]? = some (some (AV.ow (MO.ins c fs))) ∧ k fs := by
  unfold selfIs at h
  split at h
  · rename_i c' fs q
    obtain ⟨rfl, h⟩ := h
    exact ⟨fs, q, h⟩
  · exact h.elim
def startI (N : List Str) (c : Str) (ds : List D) : ASt := some (.ow (.ins c [])) :: (ds.map (fun d => some (.fr d)) ++ List.replicate (N.length - (ds.length + 1)) none)
theorem Lk.entryI {K : PySem.W.Frag} {w : W} {ms : MS} {H : Hp} {N : List Str} {vs : List V} {ds : List D} {x dx : Addr} {c : Str} (h0 : St0 K w ms H) (r : RepL K w vs ds) (hx : H x = some (.ins (He.ga K c) dx [])) (f1 : w.F x = none) (f2 : x ∉ w.as) :
    Lk K (⟨but H x, w.as, w.F, some x⟩ : Bs none) w ms (startI N c ds) (L2.start N (.ref x :: vs)) H := by
  have hl := r.length
  have inv : ∀ (i : Nat) av, (startI N c ds)[i]? = some (some av) → (i = 0 ∧ av = .ow (.ins c [])) ∨ ∃ j d, i = j + 1 ∧ ds[j]? = some d ∧ av = .fr d := fun i av h => by
    cases i with
    | zero => left; exact ⟨rfl, by simpa [startI] using h.symm⟩
    | succ i =>
      right
      have h : (ds.map (fun d => some (AV.fr d)) ++ List.replicate (N.length - (ds.length + 1)) none)[i]? = some (some av) := h
      by_cases hi : i < ds.length
      · rw [List.getElem?_append_left (by simpa using hi), List.getElem?_map] at h
        cases q : ds[i]? with
        | none => rw [q] at h; cases h
        | some d => rw [q] at h; cases h; exact ⟨i, d, rfl, q, rfl⟩
      · rw [List.getElem?_append_right (by simpa using Nat.le_of_not_lt hi), List.getElem?_replicate] at h
        split at h <;> cases h
  refine ⟨h0, fun a o na h => ?_, fun a h => .inl h, fun a h => h, fun a o h => .inl ⟨o, h⟩, by simp [startI, L2.start, hl], fun i av h => ?_, fun i j p mi mj h1 h2 _ _ => ?_, fun a u q => ⟨u, by show but H x a = some u; rw [but_ne (fun z => by rw [z] at q; have q : w.F x = some u := q; rw [f1] at q; cases q)]; exact h0.fh a u q⟩, fun y m hs _ => by cases hs; rfl⟩
  · by_cases q : a = x
    · subst q; have h : but H a a = some o := h; rw [but_same] at h; cases h
    · have h : but H x a = some o := h; rw [but_ne q] at h; exact h
  · rcases inv i av h with ⟨rfl, rfl⟩ | ⟨j, d, rfl, q, rfl⟩
    · exact ⟨x, rfl, .ins hx .nil, f1, f2, but_same⟩
    · obtain ⟨v, e1, rv⟩ := r.get q
      refine ⟨v, ?_, rv⟩
      show ((V.ref x :: vs).map some ++ _)[j + 1]? = _
      rw [List.map_cons, List.cons_append, List.getElem?_cons_succ, List.getElem?_append_left (by rw [List.length_map]; exact (List.getElem?_eq_some_iff.mp e1).1), List.getElem?_map, e1]; rfl
  · rcases inv i _ h1 with ⟨rfl, _⟩ | ⟨_, _, _, _, e⟩
    · rcases inv j _ h2 with ⟨rfl, _⟩ | ⟨_, _, _, _, e⟩
      · rfl
      · cases e
    · cases e
theorem Lk.aftX {K : PySem.W.Frag} {w w' : W} {ms' : MS} {H H' : Hp} {s : ASt} {σ : L2.St} {x : Addr} {c : Str} {gs : List (Str × D)} (L : Lk K (⟨but H x, w.as, w.F, some x⟩ : Bs none) w' ms' s σ H') (h : s[0]? = some (some (.ow (.ins c gs)))) :
    AftX K w H x w' ms' H' ∧ ∃ dx fs, H' x = some (.ins (He.ga K c) dx fs) ∧ RepF K w' fs gs := by
  obtain ⟨p, e1, r, n1, n2, n3⟩ := L.sl 0 _ h
  have e2 := L.sf x _ rfl h
  have : p = x := by rw [e1] at e2; simpa using e2
  subst this
  refine ⟨⟨L.s0, fun a o na ne h => L.keep a o na (by show but H p a = some o; rw [but_ne ne]; exact h), L.pre, L.bas, L.fz, n1, n2⟩, ?_⟩
  cases r with
  | ins h r => exact ⟨_, _, h, r⟩
/-- an __init__'s body keeps its promise -/
theorem bodyI_ok {K : PySem.W.Frag} {N : List Str} {c : Str} {S : ISp} {a : aS}
    (hb : ∀ ds ms Q E, S ds ms Q E → a ⟨fun s ms => selfIs s c fun gs => Q gs ms, fun _ _ => False, fun _ _ => False, fun _ _ => False, fun x s ms => selfIs s c fun _ => E x ms⟩ (startI N c ds) ms)
    {vs : List V} {H : Hp} {Q : VK} {E : XK} (h : spI K c S vs H Q E) : cS K ⟨fun cl ad _ H => E cl ad H, none⟩ a { nx := fun _ H' => Q .non H', rt := Q } (L2.start N vs) H := by
  obtain ⟨x, dx, vr, w, ms, ds, Qa, Ea, rfl, hx, f1, f2, h0, r, hS, hq, he⟩ := h
  refine ⟨⟨but H x, w.as, w.F, some x⟩, w, ms, startI N c ds, _, Lk.entryI h0 r hx f1 f2, hb ds ms Qa Ea hS, ⟨fun w' ms' H' s' σ' le L q => ?_, fun _ _ _ _ _ _ _ q => q.elim, fun _ _ _ _ _ _ _ q => q.elim, fun _ _ _ _ _ _ _ _ _ _ q => q.elim, fun w' ms' H' s' σ' cl ad y le L rx q => ?_⟩⟩
  · obtain ⟨gs, h1, q⟩ := selfIs_of q
    obtain ⟨A, dx', fs, h2, r2⟩ := L.aftX h1
    exact hq w' ms' H' dx' fs gs le A h2 r2 q
  · obtain ⟨gs, h1, q⟩ := selfIs_of q
    exact he w' ms' H' cl ad y le (L.aftX h1).1 rx q
section
variable {P : Program} {w : World} {K : PySem.W.Frag} {mg : Str → Option Value} {base : Heap}
/-- a class, by its __init__ -/
theorem gmk_of {c q : Str} {st : Stmt} {N ps : List Str} {k : Nat} {S : ISp} (M : Mk K (He.ga K c) (He.ma K (He.ga K c) "__init__")) (gm : mg c = some (.ref (He.ga K c))) (D : HX.DefAt K "__init__" q st (He.ma K (He.ga K c) "__init__")) (Sc : FnScope N ps (defScope st))
    (len : ∀ ds ms Q E, S ds ms Q E → ds.length + 1 = ps.length)
    (hb : ∀ (kV doc pm : Value) (an : Option Addr) (cdv ct : Value) (us : List Value), us.length = ps.length → bindArgs (PySem.W.fnOf "__init__" q (defArgs st) (defBody st) (defScope st) .none kV doc pm an cdv ct) ⟨us, []⟩ = pure (ps.zip us))
    (h : ∀ (cdv : Value) (A : Around) (outer : List Env) (s : Shared) (H : Hp) (E : XK), Room k (A.deeper (envOfC q (defScope st) s.heap.objs.size (He.ma K (He.ga K c) "__init__") cdv)) →
      ∃ a, ASs (HX.cxR P w K mg base N q (defScope st) (He.ma K (He.ga K c) "__init__") cdv A outer s H E) ⟨fun cl ad _ H => E cl ad H, none⟩ (defBody st) a ∧
        ∀ ds ms Q E', S ds ms Q E' → a ⟨fun s ms => selfIs s c fun gs => Q gs ms, fun _ _ => False, fun _ _ => False, fun _ _ => False, fun x s ms => selfIs s c fun _ => E' x ms⟩ (startI N c ds) ms) :
    HX.GMk P w K mg base c (k + 1) ps (spI K c S) :=
  ⟨M, gm, HX.fn_of D Sc (fun vs H Q E ⟨x, dx, vr, w, ms, ds, Qa, Ea, e, _, _, _, _, r, hS, _⟩ => by rw [e]; show vr.length + 1 = _; rw [r.length]; exact len ds ms Qa Ea hS) hb fun cdv A outer s H vs Q E hr hs => by
    obtain ⟨a, ha, hb⟩ := h cdv A outer s H E hr
    exact ⟨_, ha, bodyI_ok hb hs⟩⟩
end
structure DoMake (S : ISp) (ds : List D) (ms : MS) (Q : List (Str × D) → MS → Prop) (E : XD → MS → Prop) (t : Tag Q E := .mk) : Prop where
  h : S ds ms Q E
def aMake (c : Str) (S : ISp) (rr : aA) : aE := fun s ms Q E => rr s ms (fun ds ms1 => DoMake S ds ms1 (fun gs ms2 => Q (.ins c gs) ms2) E) E
/-- .. an object that changes -/
def aMakeP (c : Str) (S : ISp) (rr : aA) : aE := fun s ms Q E => rr s ms (fun ds ms1 => DoMake S ds ms1 (fun gs ms2 => Q (.ptr ms2.length) (ms2 ++ [.ins c gs])) E) E
section
variable {X : Cx} {Wx : WXA} {e : Expr} {es : List Expr} {p pos : Pos} {rr : aA} {k : Nat} {c : Str} {ps : List Str} {S : ISp}
theorem Lk.made {K : PySem.W.Frag} {ex : XI} {B : Bs ex} {w w' : W} {ms ms' : MS} {s : ASt} {σ : L2.St} {H H' : Hp} {x dx C : Addr} (L : Lk K B w ms s σ H) (hx : H x = none) (hd : H dx = none) (e : Le K w w') (A : AftX K w (upd (upd H dx (.own x)) x (.ins C dx [])) x w' ms' H') : Aft K w H w' ms' H' := by
  have hk : ∀ a o, H a = some o → upd (upd H dx (.own x)) x (.ins C dx []) a = some o := fun a o q => by rw [upd_ne (ne_of_none q hx), upd_ne (ne_of_none q hd)]; exact q
  have hn : ∀ a, but (upd (upd H dx (.own x)) x (.ins C dx [])) x a = none → H a = none := fun a q => by
    cases z : H a with
    | none => rfl
    | some o => rw [but_ne (ne_of_none z hx), hk a o z] at q; cases q
  exact ⟨A.s0, fun a o na h => A.keep a o na (ne_of_none h hx) (hk a o h), fun a ha => (A.pre a ha).imp id (hn a), A.bas, fun a o h => (A.fz a o h).imp id fun q => q.imp id (hn a)⟩
theorem mk_pre {ex : XI} {B : Bs ex} {w : W} {ms : MS} {s : ASt} {σ : L2.St} {H : Hp} {x dx : Addr} (L : Lk X.K B w ms s σ H) (hx : H x = none) (hd : H dx = none) : St0 X.K w ms (upd (upd H dx (.own x)) x (.ins (He.ga X.K c) dx [])) := by
  have hk : ∀ a o, H a = some o → upd (upd H dx (.own x)) x (.ins (He.ga X.K c) dx []) a = some o := fun a o q => by rw [upd_ne (ne_of_none q hx), upd_ne (ne_of_none q hd)]; exact q
  exact ⟨fun a o q => hk a o (L.s0.fh a o q), L.s0.nd, L.s0.na, fun k m q => let ⟨a, h1, r⟩ := L.s0.ce k m q; ⟨a, h1, r.mono (Le.refl _ _) (hk a)⟩, L.s0.ln⟩
theorem ae_make (tk : L2N.Takes X Wx.w) (G : HX.GMk X.prog X.w X.K X.mg X.base c k ps (spI X.K c S)) (hr : Room (k + 1) X.A) (hg : Gl X c) (ha : AA X Wx (e :: es) rr) (hdb : (c == ("__debug__" : Str)) = false := by decide)
    (he : starEach (e :: es) X.env = (false, eval e X.env) :: starEach es X.env := by rfl) (hpl : (backTo pos (starEach es X.env)).any (·.1) = false := by rfl) : AE X Wx (.Call (.Name c p) (e :: es) [] pos) (aMake c S rr) :=
  PE.imp (HX.pe_gk G hr (fun σ => L2N.passAt tk σ) hg ha hdb he hpl) fun σ H R ⟨B, w, ms, s, Q, E, L, h, hq, hx⟩ => ⟨B, w, ms, s, _, E, L, h, fun w1 ms1 H1 vs ds e1 L1 r1 h1 => fun x dx hx' hd' hne => by
    obtain ⟨f1, f2, f3⟩ := L1.fresh hx'
    refine ⟨x, dx, vs, w1, ms1, ds, _, E, rfl, upd_same, f1, f2, mk_pre (X := X) L1 hx' hd', r1, h1.h, fun w' ms' H' dx' fs gs le A h2 r2 q => ⟨rfl, ?_⟩, fun w' ms' H' cl ad y le A rx q => hx _ _ _ _ _ _ (e1.trans le) (L1.after le (L1.made hx' hd' le A)) rx q⟩
    have L3 := L1.after le (L1.made hx' hd' le A)
    have le2 : Le X.K w' { w' with F := upd w'.F x (.ins (He.ga X.K c) dx' fs) } := Le.new A.fx
    refine hq { w' with F := upd w'.F x (.ins (He.ga X.K c) dx' fs) } ms' H' (.ref x) (.ins c gs) ((e1.trans le).trans le2) ?_ (.ins upd_same (r2.mono le2)) q
    refine ⟨⟨fun a o h => ?_, L3.s0.nd, fun a ha => ?_, fun k m h => ?_, L3.s0.ln⟩, L3.keep, L3.pre, L3.bas, fun a o h => ?_, L3.len, fun i av h => ?_, L3.dj, L3.bf, L3.sf⟩
    · by_cases z : a = x
      · subst z; have h : upd w'.F a _ a = some o := h; rw [upd_same] at h; cases h; exact h2
      · have h : upd w'.F x _ a = some o := h; rw [upd_ne z] at h; exact L3.s0.fh a o h
    · show upd w'.F x _ a = none
      rw [upd_ne (show a ≠ x from fun z => A.nx (z ▸ ha))]; exact L3.s0.na a ha
    · obtain ⟨a, ha, r⟩ := L3.s0.ce k m h
      exact ⟨a, ha, r.mono le2 fun _ q => q⟩
    · by_cases z : a = x
      · subst z; exact .inr (.inr f3)
      · have h : upd w'.F x _ a = some o := h; rw [upd_ne z] at h; exact L3.fz a o h
    · have := L3.sl i av h
      cases av with
      | fr d => obtain ⟨v, a, b⟩ := this; exact ⟨v, a, b.mono le2⟩
      | ex x => obtain ⟨a, c, d, e0, e1, r⟩ := this; exact ⟨a, c, d, e0, e1, r.mono le2⟩
      | ow m =>
        obtain ⟨u, a, r, m1, m2, m3⟩ := this
        have hu : u ≠ x := fun z => by
          subst z
          have z2 : σ[i]? = some (some (.ref u)) := a
          obtain ⟨u', a', r', _⟩ := L1.sl i _ h
          rw [a] at a'
          have : u = u' := by simpa using a'
          subst this
          obtain ⟨o, ho⟩ := r'.there
          rw [hx'] at ho; cases ho
        exact ⟨u, a, r.mono le2 fun _ q => q, by show upd w'.F x _ u = none; rw [upd_ne hu]; exact m1, m2, m3⟩, hx⟩
end
end LA

set_option Elab.async false
set_option linter.all false
set_option maxRecDepth 100000
set_option maxHeartbeats 4000000
/-! LA5: statements, loops, comprehensions. -/
namespace LA
open PySem PySem.Spec PyProof.Rows L2

def aSeq (t u : aS) : aS := fun A s ms => t { A with nx := u A } s ms
def aNext : aS := fun A s ms => A.nx s ms
def aBreak : aS := fun A s ms => A.bk s ms
def aCont : aS := fun A s ms => A.ct s ms
def aDrop (ra : aE) : aS := fun A s ms => ra s ms (fun _ ms1 => A.nx s ms1) fun x ms => A.ex x s ms
def aRet (ra : aE) : aS := fun A s ms => ra s ms A.rt fun x ms => A.ex x s ms
def aRetN : aS := fun A _ ms => A.rt .non ms
def aIfS (c : aT) (t u : aS) : aS := fun A s ms => c s ms (fun b ms1 => Br b (t A s) (u A s) ms1) fun x ms => A.ex x s ms
def aNever : aS := fun _ _ _ => False
def aAsg (ra : aE) (g : aG) : aS := fun A s ms => ra s ms (fun x ms1 => g x s ms1 A.nx) fun x ms => A.ex x s ms
def aName (i : Nat) : aG := fun d s ms Q => Q (s.set i (some (.fr d))) ms
def aGNil : aGs := fun ds s ms Q => ds = [] ∧ Q s ms
def aGCons (g : aG) (r : aGs) : aGs := fun ds s ms Q => match ds with
  | d :: ds => g d s ms fun s1 ms1 => r ds s1 ms1 Q
  | [] => False
def aGTup (n : Nat) (r : aGs) : aG := fun d s ms Q => match d with
  | .tup ds => ds.length = n ∧ r ds s ms Q
  | _ => False
/-- the ways behind an if joined -/
def aCut (t u : aS) : aS := fun A s ms => ∃ M : ASt → MS → Prop, t { A with nx := M } s ms ∧ ∀ s' ms', M s' ms' → u A s' ms'
/-- an own object changes no more from here on -/
def aFz (i : Nat) (t : aS) : aS := fun A s ms => match s[i]? with
  | some (some (.ow m)) => match m.d with
    | some d => t A (s.set i (some (.fr d))) ms
    | none => False
  | some (some (.fr _)) => t A s ms
  | _ => False
section
variable {X : Cx} {Wx : WXA} {st : Stmt} {rest sa sb : List Stmt} {e c : Expr} {es : List Expr} {pos : Pos} {ra : aE} {rc : aT} {t u : aS} {rr : aA}
theorem ass_nil : ASs X Wx [] aNext := PSs.imp pss_nil fun De σ H ⟨B, w, ms, s, A, L, h, en⟩ => en.nx w ms H s σ (Le.refl _ _) L h
theorem ass_cons (h1 : AS X Wx st t) (h2 : ASs X Wx rest u) : ASs X Wx (st :: rest) (aSeq t u) :=
  PSs.imp (pss_cons h1 h2) fun De σ H ⟨B, w, ms, s, A, L, h, en⟩ => ⟨B, w, ms, s, _, L, h, ⟨fun w' ms' H' s' σ' le L' q => ⟨B, w', ms', s', A, L', q, en.le le⟩, en.bk, en.ct, en.rt, en.ex⟩⟩
theorem ass_one (h1 : AS X Wx st t) : ASs X Wx [st] t := pss_one h1
theorem ass_cut (h1 : AS X Wx st t) (h2 : ASs X Wx rest u) : ASs X Wx (st :: rest) (aCut t u) :=
  PSs.imp (pss_cons h1 h2) fun De σ H ⟨B, w, ms, s, A, L, ⟨M, h, k⟩, en⟩ => ⟨B, w, ms, s, _, L, h, ⟨fun w' ms' H' s' σ' le L' q => ⟨B, w', ms', s', A, L', k _ _ q, en.le le⟩, en.bk, en.ct, en.rt, en.ex⟩⟩
theorem ass_never {sts : List Stmt} : ASs X Wx sts aNever := PSs.imp pss_never fun De σ H ⟨B, w, ms, s, A, L, h, en⟩ => h.elim
theorem as_pass : AS X Wx (.Pass pos) aNext := PS.imp ps_pass fun De σ H ⟨B, w, ms, s, A, L, h, en⟩ => en.nx w ms H s σ (Le.refl _ _) L h
theorem as_break : AS X Wx (.Break pos) aBreak := PS.imp ps_break fun De σ H ⟨B, w, ms, s, A, L, h, en⟩ => en.bk w ms H s σ (Le.refl _ _) L h
theorem as_cont : AS X Wx (.Continue pos) aCont := PS.imp ps_continue fun De σ H ⟨B, w, ms, s, A, L, h, en⟩ => en.ct w ms H s σ (Le.refl _ _) L h
theorem as_expr (he : AE X Wx e ra) (hs : swapsWith e none pos.line X.env = pure false := by rfl) : AS X Wx (.Expr e pos) (aDrop ra) :=
  PS.imp (ps_expr he hs) fun De σ H ⟨B, w, ms, s, A, L, h, en⟩ => ⟨B, w, ms, s, _, _, L, h, fun w' ms' H' v d le L' r q => en.nx w' ms' H' s σ le L' q, en.px⟩
theorem as_ret (he : AE X Wx e ra) : AS X Wx (.Return (some e) pos) (aRet ra) :=
  PS.imp (ps_ret he) fun De σ H ⟨B, w, ms, s, A, L, h, en⟩ => ⟨B, w, ms, s, _, _, L, h, fun w' ms' H' v d le L' r q => en.rt w' ms' H' s σ v d le L' r q, en.px⟩
theorem as_retN : AS X Wx (.Return none pos) aRetN := PS.imp ps_retN fun De σ H ⟨B, w, ms, s, A, L, h, en⟩ => en.rt w ms H s σ .non .non (Le.refl _ _) L .non h
theorem as_if (hc : AT X Wx c rc) (ha : ASs X Wx sa t) (hb : ASs X Wx sb u) : AS X Wx (.If c sa sb pos) (aIfS rc t u) :=
  PS.imp (ps_if hc ha hb) fun De σ H ⟨B, w, ms, s, A, L, h, en⟩ => ⟨B, w, ms, s, _, _, L, h, fun w' ms' H' b le L' q => by
    cases b with
    | true => rw [if_pos rfl]; exact ⟨B, w', ms', s, A, L', q, en.le le⟩
    | false => rw [if_neg (by decide)]; exact ⟨B, w', ms', s, A, L', q, en.le le⟩, en.px⟩
theorem OnlyAt.app {α : Type} {vs ws : List Nat} {a b c : List α} (h : OnlyAt vs a b) (k : OnlyAt ws b c) : OnlyAt (vs ++ ws) a c := ⟨k.1.trans h.1, fun j hj => by
  simp only [List.mem_append, not_or] at hj
  rw [k.2 j hj.2, h.2 j hj.1]⟩
theorem ag_name {i : Nat} (h : PG X e (gName i)) : AG X Wx [i] e (aName i) :=
  PG.imp h fun v σ H R ⟨B, w, ms, s, d, Q, L, r, q, k⟩ => k w ms H _ _ (Le.refl _ _) (L.set r) ⟨by simp, fun j hj => List.getElem?_set_ne (fun z => hj (by simp [z]))⟩ ⟨by simp, fun j hj => List.getElem?_set_ne (fun z => hj (by simp [z]))⟩ q
theorem ags_nil : AGs X Wx [] [] aGNil := PGs.imp pgs_nil fun v σ H R ⟨B, w, ms, s, d, Q, L, r, ⟨e, q⟩, k⟩ => by
  subst e; cases r; exact ⟨rfl, k w ms H _ _ (Le.refl _ _) L ⟨rfl, fun _ _ => rfl⟩ ⟨rfl, fun _ _ => rfl⟩ q⟩
theorem ags_cons {g : aG} {r : aGs} {vs ws : List Nat} (h1 : AG X Wx vs e g) (h2 : AGs X Wx ws es r) (hs : (assignEach (e :: es) X.env).map (·.2) = assign e X.env :: (assignEach es X.env).map (·.2) := by rfl) : AGs X Wx (vs ++ ws) (e :: es) (aGCons g r) :=
  PGs.imp (pgs_cons h1 h2 hs) fun v σ H R ⟨B, w, ms, s, d, Q, L, rv, q, k⟩ => by
    cases rv with
    | nil => exact False.elim q
    | cons rh rt => exact ⟨_, _, rfl, B, w, ms, s, _, _, L, rh, q, fun w' ms' H' s' σ' le L' oa ol q' => ⟨B, w', ms', s', _, Q, L', rt.mono le, q', fun w2 ms2 H2 s2 σ2 le2 L2 oa2 ol2 q2 => k w2 ms2 H2 s2 σ2 (le.trans le2) L2 (oa.app oa2) (ol.app ol2) q2⟩⟩
theorem SqT.up {K : PySem.W.Frag} {w : W} {ms : MS} {H : Hp} {a : Addr} {vs : List V} (h0 : St0 K w ms H) (h : w.F a = some (.tup vs)) : SqT K H a vs := .inl (.inl (h0.fh _ _ h))
theorem SqL.up {K : PySem.W.Frag} {w : W} {ms : MS} {H : Hp} {a : Addr} {vs : List V} (h0 : St0 K w ms H) (h : w.F a = some (.lst vs)) : SqL K H a vs := SqL.of (h0.fh _ _ h)
theorem ag_tup {k n : Nat} {r : aGs} {vs : List Nat} (hc : X.calm = true) (h : AGs X Wx vs es r) (hn : (assignEach es X.env).length = n := by rfl) (hst : (assignEach es X.env).findIdx? (·.1) = none := by rfl) : AG X Wx vs (.Tuple es k pos) (aGTup n r) :=
  PG.imp (pg_tup hc h hn hst) fun v σ H R ⟨B, w, ms, s, d, Q, L, rv, q, kk⟩ => by
    cases rv with
    | tup hs rl => exact ⟨_, _, rfl, SqT.up L.s0 hs, rl.length.trans q.1, B, w, ms, s, _, Q, L, rl, q.2, kk⟩
    | _ => exact False.elim q
theorem as_asg {tg : Expr} {g : aG} {vs : List Nat} (he : AE X Wx e ra) (hg : AG X Wx vs tg g) (hs : swapsWithSole [tg] e pos.line X.env = pure false := by rfl) (hw : swappedStores [tg] e X.env = pure none := by rfl)
    (h1 : (assignEach [tg] X.env).map (·.2) = [assign tg X.env] := by rfl) : AS X Wx (.Assign [tg] e pos) (aAsg ra g) :=
  PS.imp (ps_asg he hg hs hw h1) fun De σ H ⟨B, w, ms, s, A, L, h, en⟩ => ⟨B, w, ms, s, _, _, L, h, fun w' ms' H' v d le L' r q => ⟨B, w', ms', s, d, _, L', r, q, fun w2 ms2 H2 s2 σ2 le2 L2 _ _ q2 => en.nx w2 ms2 H2 s2 σ2 (le.trans le2) L2 q2⟩, en.px⟩
theorem as_set {i : Nat} {y : Str} {pos' : Pos} (hN : X.N.Nodup) (hi : X.N[i]? = some y) (hx : Loc X.env.scope y) (he : AE X Wx e ra) (hs : swapsWith e (some (.Name y pos')) pos.line X.env = pure false := by rfl) (hf : X.fn y = true ∨ X.env.scope.names.lookup y = some .local := by first | exact .inl rfl | exact .inr rfl | assumption) :
    AS X Wx (.Assign [.Name y pos'] e pos) (aAsg ra (aName i)) :=
  PS.imp (ps_set hN hi hx he hs hf) fun De σ H ⟨B, w, ms, s, A, L, h, en⟩ => ⟨B, w, ms, s, _, _, L, h, fun w' ms' H' v d le L' r q => en.nx w' ms' H' _ _ le (L'.set r) q, en.px⟩
theorem as_fz {i : Nat} (h : AS X Wx st t) : AS X Wx st (aFz i t) :=
  PS.imp h fun De σ H ⟨B, w, ms, s, A, L, h, en⟩ => by
    unfold aFz at h
    split at h
    · rename_i m e
      split at h
      · rename_i d hd
        obtain ⟨w', le, L'⟩ := L.freeze e hd
        exact ⟨B, w', ms, _, A, L', h, en.le le⟩
      · exact h.elim
    · exact ⟨B, w, ms, s, A, L, h, en⟩
    · exact h.elim

end

/-! ### new objects -/
abbrev aF := ASt → MS → (MO → MS → Prop) → (XD → MS → Prop) → Prop
def PostF (K : PySem.W.Frag) {ex : XI} (B : Bs ex) (w : W) (s : ASt) (σ : L2.St) (Q : MO → MS → Prop) (R : VK) : Prop := ∀ w' ms' H' p o m, Le K w w' → Lk K B w' ms' s σ H' → H' p = none → RepM K w' (upd H' p o) p m → Q m ms' → R (.ref p) (upd H' p o)
def cF (K : PySem.W.Frag) (Wx : WXA) (a : aF) : TE := fun σ H R => ∃ B : Bs Wx.ex, ∃ w ms s Q E, Lk K B w ms s σ H ∧ a s ms Q E ∧ PostF K B w s σ Q R ∧ PostX K B w s σ E Wx
abbrev FE (X : Cx) (Wx : WXA) (e : Expr) (a : aF) : Prop := PE X e (cF X.K Wx a)
/-- .. that change no more -/
def aNew (f : aF) : aE := fun s ms Q E => f s ms (fun m ms1 => match m.d with
  | some d => Q d ms1
  | none => False) E
/-- .. of one's own -/
def aOwn (i : Nat) (f : aF) : aS := fun A s ms => f s ms (fun m ms1 => A.nx (s.set i (some (.ow m))) ms1) fun x ms => A.ex x s ms
def fLst (rr : aA) : aF := fun s ms Q E => rr s ms (fun xs ms1 => xs.length ≤ sizeLine ∧ Q (.lst xs) ms1) E
def fDK : aF := fun _ ms Q _ => Q (.dk []) ms
def fDT : aF := fun _ ms Q _ => Q (.dt []) ms
section
variable {X : Cx} {Wx : WXA} {e : Expr} {es : List Expr} {pos : Pos} {rr : aA} {f : aF}
theorem Rep.ofM {K : PySem.W.Frag} {w : W} {H : Hp} {p : Addr} {o : HO} {m : MO} {d : D} (hp : w.F p = none) (h : H p = some o) (r : RepM K w H p m) (hd : m.d = some d) : Rep K { w with F := upd w.F p o } (.ref p) d := by
  have le : Le K w { w with F := upd w.F p o } := Le.new hp
  have hF : ({ w with F := upd w.F p o } : W).F p = some o := upd_same
  cases r with
  | lst h' r => cases hd; rw [h'] at h; cases h; exact .lst hF (r.mono le)
  | dk h' r => cases hd; rw [h'] at h; cases h; exact .dk (.inl hF) (r.mono le)
  | dt h' r => cases hd; rw [h'] at h; cases h; exact .dt (.inl hF) (r.mono le)
  | ins h' r => cases hd; rw [h'] at h; cases h; exact .ins hF (r.mono le)
  | rng h l => cases hd
theorem ae_new (h : FE X Wx e f) : AE X Wx e (aNew f) :=
  PE.imp h fun σ H R ⟨B, w, ms, s, Q, E, L, h, hq, hx⟩ => ⟨B, w, ms, s, _, E, L, h, fun w1 ms1 H1 p o m e1 L1 hp r1 h1 => by
    dsimp only at h1
    split at h1
    · rename_i d hd
      have f := L1.fresh hp
      exact hq _ ms1 _ _ _ (e1.trans (Le.new f.1)) (L1.new hp) (Rep.ofM f.1 upd_same r1 hd) h1
    · exact h1.elim, hx⟩
theorem as_own {i : Nat} {y : Str} {pos' : Pos} (i0 : 0 < i) (hN : X.N.Nodup) (hi : X.N[i]? = some y) (hx : Loc X.env.scope y) (he : FE X Wx e f) (hs : swapsWith e (some (.Name y pos')) pos.line X.env = pure false := by rfl) (hf : X.fn y = true ∨ X.env.scope.names.lookup y = some .local := by first | exact .inl rfl | exact .inr rfl | assumption) :
    AS X Wx (.Assign [.Name y pos'] e pos) (aOwn i f) :=
  PS.imp (ps_set hN hi hx he hs hf) fun De σ H ⟨B, w, ms, s, A, L, h, en⟩ => ⟨B, w, ms, s, _, _, L, h, fun w' ms' H' p o m le L' hp r q => en.nx w' ms' _ _ _ le (L'.newOwn i0 hp r) q, en.px⟩
theorem fe_lst (h : AA X Wx es rr) : FE X Wx (.List es pos) (fLst rr) :=
  PE.imp (pe_lst h) fun σ H R ⟨B, w, ms, s, Q, E, L, h, hq, hx⟩ => ⟨B, w, ms, s, _, E, L, h, fun w1 ms1 H1 vs ds e1 L1 r1 h1 => ⟨r1.length ▸ h1.1, fun p hp => hq w1 ms1 H1 p _ _ e1 L1 hp (.lst upd_same r1) h1.2⟩, hx⟩
theorem fe_dk : FE X Wx (.Dict [] [] pos) fDK := PE.imp pe_dnewK fun σ H R ⟨B, w, ms, s, Q, E, L, h, hq, hx⟩ p hp => hq w ms H p _ _ (Le.refl _ _) L hp (.dk upd_same .nil) h
theorem fe_dt : FE X Wx (.Dict [] [] pos) fDT := PE.imp pe_dnewT fun σ H R ⟨B, w, ms, s, Q, E, L, h, hq, hx⟩ p hp => hq w ms H p _ _ (Le.refl _ _) L hp (.dt upd_same .nil) h
end

/-! ### what is walked -/
abbrev aI := ASt → MS → (List D → MS → Prop) → (XD → MS → Prop) → Prop
structure WalkA (K : PySem.W.Frag) (w : W) (J : It) (ds : List D) : Prop where
  goes : ∀ {ex : XI} (B : Bs ex) w1 ms s σ H i, Le K w w1 → Lk K B w1 ms s σ H → i < ds.length → J.go i H
  stops : ∀ {ex : XI} (B : Bs ex) w1 ms s σ H, Le K w w1 → Lk K B w1 ms s σ H → J.stop ds.length H
  yields : ∀ {ex : XI} (B : Bs ex) w1 ms s σ H i d x H', Le K w w1 → Lk K B w1 ms s σ H → ds[i]? = some d → J.yld i H x H' → ∃ w2, Le K w1 w2 ∧ Lk K B w2 ms s σ H' ∧ Rep K w2 x d
def cI (K : PySem.W.Frag) (Wx : WXA) (a : aI) : TI := fun σ H R => ∃ B : Bs Wx.ex, ∃ w ms s Q E, Lk K B w ms s σ H ∧ a s ms Q E ∧ (∀ w' ms' H' J ds, Le K w w' → Lk K B w' ms' s σ H' → WalkA K w' J ds → Q ds ms' → R J H') ∧ PostX K B w s σ E Wx
abbrev AI (X : Cx) (Wx : WXA) (tg e : Expr) (a : aI) : Prop := PI X tg e (cI X.K Wx a)
theorem PI.imp {X : Cx} {tg e : Expr} {t t' : TI} (h : PI X tg e t) (k : ∀ σ H R, t' σ H R → t σ H R) : PI X tg e t' := ⟨fun pins s σ H R I q => h.run pins s σ H R I (k _ _ _ q)⟩
/-- the items of a list, a tuple -/
def aItems (ra : aE) : aI := fun s ms Q E => ra s ms (fun x ms1 => match x with
  | .lst ds => Q ds ms1
  | .tup ds => Q ds ms1
  | _ => False) E
def aForL (g : aG) (tb : aS) : List D → aS
  | [] => fun A s ms => A.nx s ms
  | d :: r => fun A s ms => g d s ms fun s1 ms1 => tb { A with nx := aForL g tb r A, ct := aForL g tb r A, bk := A.nx } s1 ms1
structure ForL (g : aG) (tb : aS) (ds : List D) (A : AEnds) (s : ASt) (ms : MS) (t : Tag A A := .mk) : Prop where
  h : aForL g tb ds A s ms
def aFor (ri : aI) (g : aG) (tb : aS) : aS := fun A s ms => ri s ms (fun ds ms1 => ForL g tb ds A s ms1) fun x ms => A.ex x s ms
def aWh (c : aT) (tb : aS) : Nat → aS
  | 0 => fun _ _ _ => False
  | n + 1 => fun A s ms => c s ms (fun b ms1 => Br b (tb { A with nx := aWh c tb n A, ct := aWh c tb n A, bk := A.nx } s) (A.nx s) ms1) fun x ms => A.ex x s ms
structure While (c : aT) (tb : aS) (A : AEnds) (s : ASt) (ms : MS) (t : Tag A A := .mk) : Prop where
  h : ∃ n, aWh c tb n A s ms
def aWhile (c : aT) (tb : aS) : aS := fun A s ms => While c tb A s ms
section
variable {X : Cx} {Wx : WXA} {e tg : Expr} {body : List Stmt} {pos : Pos} {ra : aE} {ri : aI} {g : aG} {vs : List Nat} {tb : aS} {c : aT}
/-- what may be walked of data -/
def iAny (K : PySem.W.Frag) (tl : TE) : TI := fun σ H R => tl σ H fun x H1 => ∃ a, x = .ref a ∧ ((∃ xs, SqL K H1 a xs) ∧ R (Itl K a) H1 ∨ (∃ xs, SqT K H1 a xs) ∧ R (Itt K a) H1)
theorem pi_any {tl : TE} (hl : PE X e tl) : PI X tg e (iAny X.K tl) := by
  refine ⟨fun pins s σ H R I h => ?_⟩
  refine thn (hl.run pins s σ H _ I h) fun v s1 ⟨x, H1, I1, r1, q1⟩ => ?_
  obtain ⟨a, ex, q1⟩ := q1
  subst ex
  cases r1
  rcases q1 with ⟨⟨xs, hq⟩, q⟩ | ⟨⟨xs, hq⟩, q⟩
  · obtain ⟨its, rv, p, hz⟩ := I1.list hq
    refine wpAny_pyIter_list p.isList ?_
    refine ⟨s1.heap.objs.size, [s1.heap.objs.size], _, _, H1, rfl, I1.kept (t' := s1.toks) fun b o e => Heap.get?_push_of_some _ e, turn_list a _, ⟨_, Heap.get?_push_size _ rfl, rfl, rfl⟩, fun b hb => ?_, q⟩
    have e : b = s1.heap.objs.size := by simpa using hb
    subst e
    exact I1.fpOk (Nat.le_refl _) (I1.hok.fresh (Nat.le_refl _))
  · obtain ⟨its, rv, p, hz⟩ := I1.tuple hq
    refine wpAny_pyIter_tuple (show s1.heap.IsTuple a its.toArray from p) ?_
    refine ⟨s1.heap.objs.size, [s1.heap.objs.size], _, _, H1, rfl, I1.kept (t' := s1.toks) fun b o e => Heap.get?_push_of_some _ e, turn_tuple a _, ⟨_, Heap.get?_push_size _ rfl, rfl, rfl⟩, fun b hb => ?_, q⟩
    have e : b = s1.heap.objs.size := by simpa using hb
    subst e
    exact I1.fpOk (Nat.le_refl _) (I1.hok.fresh (Nat.le_refl _))
theorem walk_l {K : PySem.W.Frag} {w : W} {a : Addr} {vs : List V} {ds : List D} (h : w.F a = some (.lst vs)) (r : RepL K w vs ds) : WalkA K w (Itl K a) ds := by
  have hl := r.length
  have hS : ∀ {ex : XI} {B : Bs ex} {w1 ms s σ H}, Le K w w1 → Lk K B w1 ms s σ H → SqL K H a vs := fun le L => SqL.of (L.s0.fh _ _ (le.l _ _ h))
  refine ⟨fun B w1 ms s σ H i le L hi => ⟨vs, vs[i]'(by omega), hS le L, by simp [hl, hi]⟩, fun B w1 ms s σ H le L => ⟨vs, hS le L, by omega⟩, fun B w1 ms s σ H i d x H' le L hd y => ?_⟩
  obtain ⟨rfl, y⟩ := y
  have := y vs (hS le L)
  obtain ⟨u, hu, ru⟩ := r.get hd
  rw [hu] at this; cases this
  exact ⟨w1, Le.refl _ _, L, ru.mono le⟩
theorem walk_t {K : PySem.W.Frag} {w : W} {a : Addr} {vs : List V} {ds : List D} (h : w.F a = some (.tup vs)) (r : RepL K w vs ds) : WalkA K w (Itt K a) ds := by
  have hl := r.length
  have hS : ∀ {ex : XI} {B : Bs ex} {w1 ms s σ H}, Le K w w1 → Lk K B w1 ms s σ H → SqT K H a vs := fun le L => SqT.up L.s0 (le.t _ _ h)
  refine ⟨fun B w1 ms s σ H i le L hi => ⟨vs, vs[i]'(by omega), hS le L, by simp [hl, hi]⟩, fun B w1 ms s σ H le L => ⟨vs, hS le L, by omega⟩, fun B w1 ms s σ H i d x H' le L hd y => ?_⟩
  obtain ⟨rfl, y⟩ := y
  have := y vs (hS le L)
  obtain ⟨u, hu, ru⟩ := r.get hd
  rw [hu] at this; cases this
  exact ⟨w1, Le.refl _ _, L, ru.mono le⟩
theorem ai_items (h : AE X Wx e ra) : AI X Wx tg e (aItems ra) :=
  PI.imp (pi_any h) fun σ H R ⟨B, w, ms, s, Q, E, L, h, hq, hx⟩ => ⟨B, w, ms, s, _, E, L, h, fun w1 ms1 H1 v d e1 L1 r1 h1 => by
    cases r1 with
    | lst hf rl => exact ⟨_, rfl, .inl ⟨⟨_, SqL.up L1.s0 hf⟩, hq w1 ms1 H1 _ _ e1 L1 (walk_l hf rl) h1⟩⟩
    | tup hf rl => exact ⟨_, rfl, .inr ⟨⟨_, SqT.up L1.s0 hf⟩, hq w1 ms1 H1 _ _ e1 L1 (walk_t hf rl) h1⟩⟩
    | _ => exact False.elim h1, hx⟩
theorem as_for (hp : PassesOwn (model X.prog X.w) X.A X.env X.xe) (hc : X.calm = true) (hi : AI X Wx tg e ri) (hg : AG X Wx vs tg g) (hb : ASs X Wx body tb) (hs : ∀ x, foldedSetIterable e X.env x = pure x := by intro _; rfl) : AS X Wx (.For tg e body [] pos) (aFor ri g tb) :=
  PS.imp (ps_for hp hc hi hg hb hs) fun De σ H ⟨B, w, ms, s, A, L, h, en⟩ => ⟨B, w, ms, s, _, _, L, h, fun w1 ms1 H1 J ds e1 L1 wk h1 => by
    refine ⟨fun i m σ H => m + i = ds.length ∧ ∃ w2 ms2 s2, Le X.K w1 w2 ∧ Lk X.K B w2 ms2 s2 σ H ∧ aForL g tb (ds.drop i) A s2 ms2, ⟨ds.length, rfl, w1, ms1, s, Le.refl _ _, L1, h1.h⟩, ?_⟩
    rintro i m σ2 H2 ⟨hm, w2, ms2, s2, e2, L2, h2⟩
    by_cases hi : i < ds.length
    · refine .inr ⟨wk.goes B w2 ms2 s2 σ2 H2 i e2 L2 hi, fun σ H => m - 1 + (i + 1) = ds.length ∧ ∃ w2 ms2 s2, Le X.K w1 w2 ∧ Lk X.K B w2 ms2 s2 σ H ∧ aForL g tb (ds.drop (i + 1)) A s2 ms2, fun σ' H' n => ⟨m - 1, by omega, n⟩, fun x H' y => ?_⟩
      obtain ⟨w3, e3, L3, rx⟩ := wk.yields B w2 ms2 s2 σ2 H2 i ds[i] x H' e2 L2 (List.getElem?_eq_getElem hi) y
      rw [List.drop_eq_getElem_cons hi] at h2
      refine ⟨B, w3, ms2, s2, _, _, L3, rx, h2, fun w4 ms4 H4 s4 σ4 e4 L4 _ _ h4 => ?_⟩
      have e14 := ((e2.trans e3).trans e4)
      exact ⟨B, w4, ms4, s4, _, L4, h4, ⟨fun w5 ms5 H5 s5 σ5 e5 L5 q => ⟨by omega, w5, ms5, s5, e14.trans e5, L5, q⟩, fun w5 ms5 H5 s5 σ5 e5 L5 q => en.nx _ _ _ _ _ ((e1.trans e14).trans e5) L5 q, fun w5 ms5 H5 s5 σ5 e5 L5 q => ⟨by omega, w5, ms5, s5, e14.trans e5, L5, q⟩,
        fun w5 ms5 H5 s5 σ5 v d e5 L5 r q => en.rt _ _ _ _ _ _ _ ((e1.trans e14).trans e5) L5 r q, fun w5 ms5 H5 s5 σ5 cl ad x e5 L5 r q => en.ex _ _ _ _ _ _ _ _ ((e1.trans e14).trans e5) L5 r q⟩⟩
    · have hi : i = ds.length := by omega
      subst hi
      rw [List.drop_length] at h2
      exact .inl ⟨wk.stops B w2 ms2 s2 σ2 H2 e2 L2, en.nx w2 ms2 H2 s2 σ2 (e1.trans e2) L2 h2⟩, en.px⟩
theorem as_while (hp : PassesOwn (model X.prog X.w) X.A X.env X.xe) (hc : AT X Wx e c) (hb : ASs X Wx body tb) : AS X Wx (.While e body [] pos) (aWhile c tb) :=
  PS.imp (ps_while hp hc hb) fun De σ H ⟨B, w, ms, s, A, L, ⟨⟨n, h⟩⟩, en⟩ => by
    refine ⟨fun m σ H => ∃ w2 ms2 s2, Le X.K w w2 ∧ Lk X.K B w2 ms2 s2 σ H ∧ aWh c tb m A s2 ms2, ⟨n, w, ms, s, Le.refl _ _, L, h⟩, ?_⟩
    rintro m σ2 H2 ⟨w2, ms2, s2, e2, L2, h2⟩
    cases m with
    | zero => exact h2.elim
    | succ m =>
      refine ⟨B, w2, ms2, s2, _, _, L2, h2, fun w3 ms3 H3 b e3 L3 h3 => ?_, (en.le e2).px⟩
      cases b with
      | true =>
        rw [if_pos rfl]
        exact ⟨_, fun σ' H' n => ⟨m, Nat.lt_succ_self m, n⟩, B, w3, ms3, s2, _, L3, h3, ⟨fun w5 ms5 H5 s5 σ5 e5 L5 q => ⟨w5, ms5, s5, (e2.trans e3).trans e5, L5, q⟩, fun w5 ms5 H5 s5 σ5 e5 L5 q => en.nx _ _ _ _ _ ((e2.trans e3).trans e5) L5 q, fun w5 ms5 H5 s5 σ5 e5 L5 q => ⟨w5, ms5, s5, (e2.trans e3).trans e5, L5, q⟩,
          fun w5 ms5 H5 s5 σ5 v d e5 L5 r q => en.rt _ _ _ _ _ _ _ ((e2.trans e3).trans e5) L5 r q, fun w5 ms5 H5 s5 σ5 cl ad x e5 L5 r q => en.ex _ _ _ _ _ _ _ _ ((e2.trans e3).trans e5) L5 r q⟩⟩
      | false => rw [if_neg (by decide)]; exact en.nx w3 ms3 H3 s2 σ2 (e2.trans e3) L3 h3
end

/-! ### comprehensions -/
def wipeA (s : ASt) : List Nat → ASt
  | [] => s
  | v :: vs => (wipeA s vs).set v none
theorem wipeA_length (s : ASt) : ∀ vs, (wipeA s vs).length = s.length
  | [] => rfl
  | v :: vs => by unfold wipeA; rw [List.length_set, wipeA_length s vs]
theorem wipeA_some {s : ASt} {i : Nat} {x : AV} : ∀ {vs : List Nat}, (wipeA s vs)[i]? = some (some x) → s[i]? = some (some x) ∧ i ∉ vs
  | [], h => ⟨h, by simp⟩
  | v :: vs, h => by
    unfold wipeA at h
    by_cases hi : v = i
    · subst hi
      by_cases hv : v < (wipeA s vs).length
      · rw [List.getElem?_set_self hv] at h; cases h
      · rw [List.getElem?_eq_none (by simpa using hv)] at h; cases h
    · rw [List.getElem?_set_ne hi] at h
      obtain ⟨h1, h2⟩ := wipeA_some h
      exact ⟨h1, by simp only [List.mem_cons, not_or]; exact ⟨fun e => hi e.symm, h2⟩⟩
theorem wipe_only {σ σ' : L2.St} {vs ws : List Nat} (h : OnlyAt ws σ σ') (hs : ∀ j ∈ ws, j ∈ vs) : wipe σ' vs = wipe σ vs := by
  have at_ : ∀ (τ : L2.St) (vs : List Nat) (j : Nat), (wipe τ vs)[j]? = if j ∈ vs then (if j < τ.length then some none else none) else τ[j]? := by
    intro τ vs j
    induction vs with
    | nil => simp [wipe]
    | cons v vs ih =>
      unfold wipe
      by_cases e : v = j
      · subst e
        by_cases hv : v < τ.length
        · rw [List.getElem?_set_self (by rw [wipe_length]; exact hv)]; simp [hv]
        · rw [List.getElem?_eq_none (by rw [List.length_set, wipe_length]; omega)]; simp [hv]
      · rw [List.getElem?_set_ne e, ih]
        have : j ≠ v := fun z => e z.symm
        simp [this]
  refine List.ext_getElem? fun j => ?_
  rw [at_, at_, h.1]
  by_cases hj : j ∈ vs
  · rw [if_pos hj, if_pos hj]
  · rw [if_neg hj, if_neg hj]; exact h.2 j fun z => hj (hs j z)
theorem wipeA_only {σ σ' : ASt} {vs ws : List Nat} (h : OnlyAt ws σ σ') (hs : ∀ j ∈ ws, j ∈ vs) : wipeA σ' vs = wipeA σ vs := by
  have at_ : ∀ (τ : ASt) (vs : List Nat) (j : Nat), (wipeA τ vs)[j]? = if j ∈ vs then (if j < τ.length then some none else none) else τ[j]? := by
    intro τ vs j
    induction vs with
    | nil => simp [wipeA]
    | cons v vs ih =>
      unfold wipeA
      by_cases e : v = j
      · subst e
        by_cases hv : v < τ.length
        · rw [List.getElem?_set_self (by rw [wipeA_length]; exact hv)]; simp [hv]
        · rw [List.getElem?_eq_none (by rw [List.length_set, wipeA_length]; omega)]; simp [hv]
      · rw [List.getElem?_set_ne e, ih]
        have : j ≠ v := fun z => e z.symm
        simp [this]
  refine List.ext_getElem? fun j => ?_
  rw [at_, at_, h.1]
  by_cases hj : j ∈ vs
  · rw [if_pos hj, if_pos hj]
  · rw [if_neg hj, if_neg hj]; exact h.2 j fun z => hj (hs j z)
theorem wipe_wipe (σ : L2.St) (vs : List Nat) : wipe (wipe σ vs) vs = wipe σ vs := wipe_only (ws := vs) ⟨by rw [wipe_length], fun j hj => wipe_out hj⟩ fun _ h => h
theorem wipeA_out {σ : ASt} {i : Nat} : ∀ {vs : List Nat}, i ∉ vs → (wipeA σ vs)[i]? = σ[i]?
  | [], _ => rfl
  | v :: vs, h => by
    simp only [List.mem_cons, not_or] at h
    unfold wipeA
    rw [List.getElem?_set_ne (fun z => h.1 z.symm)]
    exact wipeA_out h.2
theorem wipeA_wipeA (σ : ASt) (vs : List Nat) : wipeA (wipeA σ vs) vs = wipeA σ vs := wipeA_only (ws := vs) ⟨by rw [wipeA_length], fun j hj => wipeA_out hj⟩ fun _ h => h
section
variable {K : PySem.W.Frag} {ex : XI} {B : Bs ex} {w : W} {ms : MS} {s : ASt} {σ : L2.St} {H : Hp} {vs : List Nat}
theorem Lk.wipe (L : Lk K B w ms s σ H) : Lk K B w ms (wipeA s vs) (L2.wipe σ vs) H := by
  have look : ∀ {i : Nat} {av : AV}, (wipeA s vs)[i]? = some (some av) → s[i]? = some (some av) ∧ (L2.wipe σ vs)[i]? = σ[i]? := fun {i av} h => by
    obtain ⟨h1, h2⟩ := wipeA_some h
    exact ⟨h1, wipe_out h2⟩
  refine ⟨L.s0, L.keep, L.pre, L.bas, L.fz, by rw [wipeA_length, wipe_length, L.len], fun i av h => ?_, fun i j p mi mj h1 h2 h3 h4 => ?_, L.bf, fun x m hs h => ?_⟩
  · obtain ⟨h1, h2⟩ := look h
    have := L.sl i av h1
    cases av with
    | fr d => obtain ⟨v, e, r⟩ := this; exact ⟨v, h2.trans e, r⟩
    | ex x => obtain ⟨a, c, d, e0, e, r⟩ := this; exact ⟨a, c, d, e0, h2.trans e, r⟩
    | ow m => obtain ⟨p, e, r⟩ := this; exact ⟨p, h2.trans e, r⟩
  · obtain ⟨a1, a2⟩ := look h1
    obtain ⟨b1, b2⟩ := look h2
    exact L.dj i j p mi mj a1 b1 (a2.symm.trans h3) (b2.symm.trans h4)
  · obtain ⟨a1, a2⟩ := look h
    exact a2.trans (L.sf x m hs a1)
/-- back from a block whose own slots bore nothing -/
theorem Lk.unwipe (L : Lk K B w ms (wipeA s vs) (L2.wipe σ vs) H) (hs : wipeA s vs = s) : Lk K B w ms s σ H := by
  have look : ∀ {i : Nat} {av : AV}, s[i]? = some (some av) → (L2.wipe σ vs)[i]? = σ[i]? := fun {i av} h => by
    rw [← hs] at h
    exact wipe_out (wipeA_some h).2
  rw [hs] at L
  refine ⟨L.s0, L.keep, L.pre, L.bas, L.fz, by rw [L.len, wipe_length], fun i av h => ?_, fun i j p mi mj h1 h2 h3 h4 => ?_, L.bf, fun x m hb h => ?_⟩
  · have := L.sl i av h
    cases av with
    | fr d => obtain ⟨v, e, r⟩ := this; exact ⟨v, (look h).symm.trans e, r⟩
    | ex x => obtain ⟨a, c, d, e0, e, r⟩ := this; exact ⟨a, c, d, e0, (look h).symm.trans e, r⟩
    | ow m => obtain ⟨p, e, r⟩ := this; exact ⟨p, (look h).symm.trans e, r⟩
  · exact L.dj i j p mi mj h1 h2 ((look h1).trans h3) ((look h2).trans h4)
  · exact (look h).symm.trans (L.sf x m hb h)
/-- the base, with an object that is being made at D -/
def Bs.at {ex : XI} (B : Bs ex) (D : Addr) (o : HO) : Bs ex := { B with H := upd B.H D o }
theorem Lk.side (L : Lk K B w ms s σ H) {D : Addr} {o : HO} (hD : H D = none) : Lk K (B.at D o) w ms s σ (upd H D o) := by
  obtain ⟨f1, f2, f3⟩ := L.fresh hD
  have kp : ∀ a u, H a = some u → upd H D o a = some u := fun a u e => by rw [upd_ne (ne_of_none e hD)]; exact e
  have nb : ∀ a, a ∈ w.as → (B.at D o).H a = B.H a := fun a ha => upd_ne (show a ≠ D from fun z => f2 (z ▸ ha))
  refine ⟨⟨fun a u e => kp _ _ (L.s0.fh a u e), L.s0.nd, L.s0.na, fun k m e => let ⟨a, h1, r⟩ := L.s0.ce k m e; ⟨a, h1, r.mono (Le.refl _ _) (kp a)⟩, L.s0.ln⟩, fun a u na e => ?_, fun a ha => (L.pre a ha).imp id fun q => by rw [nb a ha]; exact q, L.bas,
    fun a u e => (L.fz a u e).imp id fun q => q.imp id fun z => by show upd B.H D o a = none; rw [upd_ne (show a ≠ D from fun y => by rw [y, f1] at e; cases e)]; exact z, L.len, fun i av e => ?_, L.dj, fun a u e => ?_, L.sf⟩
  · have e : upd B.H D o a = some u := e
    by_cases q : a = D
    · subst q; rw [upd_same] at e; rw [upd_same]; exact e
    · rw [upd_ne q] at e; exact kp _ _ (L.keep a u na e)
  · have := L.sl i av e
    cases av with
    | fr d => exact this
    | ex x => exact this
    | ow m =>
      obtain ⟨p, e1, r, n1, n2, n3⟩ := this
      refine ⟨p, e1, r.mono (Le.refl _ _) (kp p), n1, n2, ?_⟩
      obtain ⟨u, hu⟩ := r.there
      show upd B.H D o p = none
      rw [upd_ne (ne_of_none hu hD)]; exact n3
  · obtain ⟨u', q⟩ := L.bf a u e
    exact ⟨u', by show upd B.H D o a = some u'; rw [upd_ne (ne_of_none q f3)]; exact q⟩
theorem at_at {D : Addr} {o u : HO} : (B.at D o).at D u = B.at D u := by unfold Bs.at; rw [upd_upd]
theorem but_upd {H : Hp} {D : Addr} {o u : HO} (h : H D = some o) : upd (but H D) D u = upd H D u := by
  funext a; unfold upd but; split <;> rfl
theorem but_back {H : Hp} {D : Addr} {o : HO} (h : H D = some o) : upd (but H D) D o = H := by
  funext a; unfold upd but; split
  · rename_i e; rw [e, h]
  · rfl
/-- without the object at D -/
theorem Lk.drop {o : HO} {D : Addr} (L : Lk K (B.at D o) w ms s σ H) (hB : B.H D = none) (hb : D ∉ B.as) (hF : B.F D = none) : Lk K B w ms s σ (but H D) ∧ H D = some o ∧ w.F D = none ∧ D ∉ w.as := by
  have nD : (B.at D o).H D = some o := upd_same
  have hD : H D = some o := L.keep D o hb nD
  have f2 : D ∉ w.as := fun h => by
    rcases L.pre D h with q | q
    · exact hb q
    · rw [nD] at q; cases q
  have f1 : w.F D = none := by
    cases q : w.F D with
    | none => rfl
    | some x =>
      rcases L.fz D x q with ⟨y, z⟩ | z | z
      · have z : B.F D = some y := z
        rw [hF] at z; cases z
      · exact absurd z hb
      · rw [nD] at z; cases z
  have bh : ∀ a, a ≠ D → (B.at D o).H a = B.H a := fun a h => upd_ne h
  have kp : ∀ a u, a ≠ D → H a = some u → but H D a = some u := fun a u n e => by rw [but_ne n]; exact e
  refine ⟨⟨⟨fun a u e => kp _ _ (fun z => by rw [z, f1] at e; cases e) (L.s0.fh a u e), L.s0.nd, L.s0.na, fun k m e => ?_, L.s0.ln⟩, fun a u na e => ?_, fun a ha => ?_, L.bas, fun a u e => ?_, L.len, fun i av e => ?_, L.dj, fun a u e => ?_, L.sf⟩, hD, f1, f2⟩
  · obtain ⟨a, h1, r⟩ := L.s0.ce k m e
    have ha : a ≠ D := fun z => f2 (z ▸ List.mem_of_getElem? h1)
    exact ⟨a, h1, r.mono (Le.refl _ _) fun u q => kp a u ha q⟩
  · have n : a ≠ D := fun z => by rw [z, hB] at e; cases e
    exact kp a u n (L.keep a u na (by rw [bh a n]; exact e))
  · have n : a ≠ D := fun z => f2 (z ▸ ha)
    exact (L.pre a ha).imp id fun q => by rw [← bh a n]; exact q
  · have n : a ≠ D := fun z => by rw [z, f1] at e; cases e
    exact (L.fz a u e).imp id fun q => q.imp id fun z => by rw [← bh a n]; exact z
  · have := L.sl i av e
    cases av with
    | fr d => exact this
    | ex x => exact this
    | ow m =>
      obtain ⟨p, e1, r, n1, n2, n3⟩ := this
      have n : p ≠ D := fun z => by rw [z, nD] at n3; cases n3
      exact ⟨p, e1, r.mono (Le.refl _ _) fun u q => kp p u n q, n1, n2, by rw [← bh p n]; exact n3⟩
  · obtain ⟨u', q⟩ := L.bf a u e
    have n : a ≠ D := fun z => by
      have e : B.F a = some u := e
      rw [z, hF] at e; cases e
    exact ⟨u', by rw [← bh a n]; exact q⟩
theorem Lk.sideUpd {o u : HO} {D : Addr} (L : Lk K (B.at D o) w ms s σ H) (hB : B.H D = none) (hb : D ∉ B.as) (hF : B.F D = none) : Lk K (B.at D u) w ms s σ (upd H D u) := by
  obtain ⟨L1, hD, _, _⟩ := L.drop hB hb hF
  have := L1.side (o := u) (show but H D D = none from but_same)
  rw [but_upd hD] at this
  exact this
end
/-- the items, one after another -/
def aLcL (g : aG) (tt : aT) (te : aE) (s : ASt) : List D → List D → MS → (List D → MS → Prop) → Prop
  | [], acc, ms, Q => Q acc ms
  | d :: r, acc, ms, Q => g d s ms fun s2 ms2 => tt s2 ms2 (fun b ms3 => Br b (fun ms3 => te s2 ms3 (fun y ms4 => acc.length < sizeLine ∧ aLcL g tt te s r (acc ++ [y]) ms4 Q) fun _ _ => False) (fun ms3 => aLcL g tt te s r acc ms3 Q) ms3) fun _ _ => False
structure LcL (g : aG) (tt : aT) (te : aE) (s : ASt) (ds acc : List D) (ms : MS) (Q : List D → MS → Prop) (t : Tag Q Q := .mk) : Prop where
  h : aLcL g tt te s ds acc ms Q
def fLc (ri : aI) (g : aG) (tt : aT) (te : aE) (vs : List Nat) : aF := fun s ms Q E => wipeA s vs = s ∧ ri s ms (fun ds ms1 => LcL g tt te s ds [] ms1 fun acc ms2 => Q (.lst acc) ms2) E
def aYes : aT := fun _ ms Q _ => Q true ms
abbrev WXA.blk (Wx : WXA) : WXA := ⟨fun _ _ _ _ => False, Wx.ex⟩
abbrev ATs (X : Cx) (Wx : WXA) (es : List Expr) (t : aT) : Prop := PTs X es (cT X.K Wx t)
theorem PTs.imp {X : Cx} {es : List Expr} {t t' : TT} (h : PTs X es t) (k : ∀ σ H R, t' σ H R → t σ H R) : PTs X es t' := ⟨fun pins s σ H Q I q => h.run pins s σ H Q I (k _ _ _ q)⟩
section
variable {X : Cx} {Wx : WXA} {e elt tg iter : Expr} {ifs : List Expr} {scope : Scope} {own : List (Str × Nat)} {pos : Pos} {ra te : aE} {ri : aI} {g : aG} {gs : List Nat} {tt : aT}
theorem ats_nil : ATs X Wx [] aYes := PTs.imp pts_nil fun σ H R ⟨B, w, ms, s, Q, E, L, h, hq, hx⟩ => hq w ms H true (Le.refl _ _) L h
theorem ats_one (h : AT X Wx e tt) : ATs X Wx [e] tt := pts_one h
theorem lc_ok {σ : L2.St} {H : Hp} {R : VK} {vs : List Nat} (hgs : ∀ j ∈ gs, j ∈ vs) (h : cF X.K Wx (fLc ri g tt te vs) σ H R) : tLc (cI X.K Wx ri) (cG X.K Wx.blk gs g) (cT X.K Wx.blk tt) (cE X.K Wx.blk te) vs σ H R := by
  obtain ⟨B, w, ms, s, Q, E, L, ⟨hs, h⟩, hq, hx⟩ := h
  refine ⟨B, w, ms, s, _, E, L, h, fun w1 ms1 H1 J ds e1 L1 wk h1 D hD => ?_, hx⟩
  replace h1 := h1.h
  obtain ⟨d1, d2, d3⟩ := L1.fresh hD
  have d4 : D ∉ B.as := fun z => d2 (L1.bas D z)
  have d5 : B.F D = none := by
    cases q : B.F D with
    | none => rfl
    | some u => obtain ⟨o, z⟩ := L1.bf D u q; rw [d3] at z; cases z
  refine ⟨fun i m H => m + i = ds.length ∧ ∃ w2 ms2 acc ad, Le X.K w1 w2 ∧ Lk X.K (B.at D (.lst acc)) w2 ms2 (wipeA s vs) (wipe σ vs) H ∧ RepL X.K w2 acc ad ∧ aLcL g tt te s (ds.drop i) ad ms2 fun acc ms2 => Q (.lst acc) ms2, ⟨ds.length, rfl, w1, ms1, [], [], Le.refl _ _, (L1.side hD).wipe, .nil, h1⟩, ?_⟩
  rintro i m H2 ⟨hm, w2, ms2, acc, ad, e2, L2', racc, h2⟩
  by_cases hi : i < ds.length
  · refine .inr ⟨wk.goes _ w2 ms2 _ _ H2 i e2 L2' hi, fun H => m - 1 + (i + 1) = ds.length ∧ ∃ w2 ms2 acc ad, Le X.K w1 w2 ∧ Lk X.K (B.at D (.lst acc)) w2 ms2 (wipeA s vs) (wipe σ vs) H ∧ RepL X.K w2 acc ad ∧ aLcL g tt te s (ds.drop (i + 1)) ad ms2 fun acc ms2 => Q (.lst acc) ms2,
      fun H' n => ⟨m - 1, by omega, n⟩, fun x H' y => ?_⟩
    obtain ⟨w3, e3, L3, rx⟩ := wk.yields _ w2 ms2 _ _ H2 i ds[i] x H' e2 L2' (List.getElem?_eq_getElem hi) y
    rw [List.drop_eq_getElem_cons hi] at h2
    refine ⟨_, w3, ms2, _, _, _, L3, rx, by rw [hs]; exact h2, fun w4 ms4 H4 s4 σ4 e4 L4 oa ol h4 => ⟨(wipe_only oa hgs).trans (wipe_wipe σ vs), ?_⟩⟩
    have e14 := (e2.trans e3).trans e4
    have back : ∀ {w5 : W} {ms5 : MS} {H5 : Hp} {o : HO}, Lk X.K (B.at D o) w5 ms5 s4 σ4 H5 → Lk X.K (B.at D o) w5 ms5 (wipeA s vs) (wipe σ vs) H5 := fun L => by
      have := L.wipe (vs := vs)
      rw [wipe_only oa hgs, wipe_wipe, wipeA_only ol hgs, wipeA_wipeA] at this
      exact this
    refine ⟨_, w4, ms4, s4, _, _, L4, h4, fun w5 ms5 H5 b e5 L5 h5 => ?_, fun _ _ _ _ _ _ _ _ _ z => z.elim⟩
    cases b with
    | false => rw [if_neg (by decide)]; exact ⟨by omega, w5, ms5, acc, ad, e14.trans e5, back L5, racc.mono (((e3.trans e4).trans e5)), h5⟩
    | true =>
      rw [if_pos rfl]
      refine ⟨_, w5, ms5, s4, _, _, L5, h5, fun w6 ms6 H6 v d e6 L6 r6 h6 => ?_, fun _ _ _ _ _ _ _ _ _ z => z.elim⟩
      have ra6 := racc.mono (((e3.trans e4).trans e5).trans e6)
      obtain ⟨_, hD6, _, _⟩ := L6.drop d3 d4 d5
      exact ⟨acc, hD6, by rw [racc.length]; exact h6.1, by omega, w6, ms6, acc ++ [v], ad ++ [d], (e14.trans e5).trans e6, back (L6.sideUpd d3 d4 d5), ra6.append (.cons r6 .nil), h6.2⟩
  · have hi : i = ds.length := by omega
    subst hi
    rw [List.drop_length] at h2
    obtain ⟨L5, hD5, f5, _⟩ := (L2'.unwipe hs).drop d3 d4 d5
    refine .inl ⟨wk.stops _ w2 ms2 _ _ H2 e2 L2', ?_⟩
    have := hq w2 ms2 (but H2 D) D (.lst acc) (.lst ad) (e1.trans e2) L5 but_same (.lst upd_same racc) h2
    rw [but_back hD5] at this
    exact this
theorem fe_lc (hc : X.calm = true) (hN : X.N.Nodup) (hi : AI X Wx tg iter ri) (ok : BlkOk X.N X.env.scope scope own) (hgs : ∀ j ∈ gs, j ∈ own.map (·.2))
    (hg : ∀ (s : Shared) (H : Hp) (C : Addr) (cl : List (Str × Addr)) (fp : List Addr), AG (X.blk s H scope (compEnvC scope cl C X.env) fp) Wx.blk gs tg g) (ht : ∀ (s : Shared) (H : Hp) (C : Addr) (cl : List (Str × Addr)) (fp : List Addr), ATs (X.blk s H scope (compEnvC scope cl C X.env) fp) Wx.blk ifs tt)
    (he : ∀ (s : Shared) (H : Hp) (C : Addr) (cl : List (Str × Addr)) (fp : List Addr), AE (X.blk s H scope (compEnvC scope cl C X.env) fp) Wx.blk elt te) (hs : ∀ x, foldedSetIterable iter X.env x = pure x := by intro _; rfl) :
    FE X Wx (.ListComp elt [⟨tg, iter, ifs, 0⟩] scope pos) (fLc ri g tt te (own.map (·.2))) :=
  PE.imp (pe_lc hc hN hi ok hg ht he hs) fun σ H R h => lc_ok (X := X) hgs h
/-- x = [..] on one line -/
theorem as_setLc {i : Nat} {y : Str} {py spos : Pos} (hc : X.calm = true) (hN : X.N.Nodup) (hy : X.N[i]? = some y) (hyl : X.env.scope.names.lookup y = some .local)
    (hsw : swapsWith (.ListComp elt [⟨tg, iter, ifs, 0⟩] scope pos) (some (.Name y py)) spos.line X.env = pure true) (hi : AI X Wx tg iter ri) (ok : BlkOk X.N X.env.scope scope own) (hgs : ∀ j ∈ gs, j ∈ own.map (·.2))
    (hg : ∀ (s : Shared) (H : Hp) (C : Addr) (cl : List (Str × Addr)) (fp : List Addr), AG (X.blk s H scope (compEnvC scope cl C X.env) fp) Wx.blk gs tg g) (ht : ∀ (s : Shared) (H : Hp) (C : Addr) (cl : List (Str × Addr)) (fp : List Addr), ATs (X.blk s H scope (compEnvC scope cl C X.env) fp) Wx.blk ifs tt)
    (he : ∀ (s : Shared) (H : Hp) (C : Addr) (cl : List (Str × Addr)) (fp : List Addr), AE (X.blk s H scope (compEnvC scope cl C X.env) fp) Wx.blk elt te) (hs : ∀ x, foldedSetIterable iter X.env x = pure x := by intro _; rfl) :
    AS X Wx (.Assign [.Name y py] (.ListComp elt [⟨tg, iter, ifs, 0⟩] scope pos) spos) (aAsg (aNew (fLc ri g tt te (own.map (·.2)))) (aName i)) :=
  PS.imp (ps_setLc hc hN hy hyl hsw hi ok hg ht he hs) fun De σ H ⟨B, w, ms, s, A, L, h, en⟩ => by
    refine lc_ok (X := X) (Wx := Wx) (ri := ri) (g := g) (tt := tt) (te := te) hgs ⟨B, w, ms, s, fun m ms1 => match m.d with
      | some d => A.nx (s.set i (some (.fr d))) ms1
      | none => False, _, L, h, fun w' ms' H' p o m le L' hp r q => ?_, en.px⟩
    dsimp only at q
    split at q
    · rename_i d hd
      have f := L'.fresh hp
      exact en.nx _ ms' _ _ _ (le.trans (Le.new f.1)) ((L'.new hp).set (Rep.ofM f.1 upd_same r hd)) q
    · exact q.elim
theorem as_ownLc {i : Nat} {y : Str} {py spos : Pos} (i0 : 0 < i) (hc : X.calm = true) (hN : X.N.Nodup) (hy : X.N[i]? = some y) (hyl : X.env.scope.names.lookup y = some .local)
    (hsw : swapsWith (.ListComp elt [⟨tg, iter, ifs, 0⟩] scope pos) (some (.Name y py)) spos.line X.env = pure true) (hi : AI X Wx tg iter ri) (ok : BlkOk X.N X.env.scope scope own) (hgs : ∀ j ∈ gs, j ∈ own.map (·.2))
    (hg : ∀ (s : Shared) (H : Hp) (C : Addr) (cl : List (Str × Addr)) (fp : List Addr), AG (X.blk s H scope (compEnvC scope cl C X.env) fp) Wx.blk gs tg g) (ht : ∀ (s : Shared) (H : Hp) (C : Addr) (cl : List (Str × Addr)) (fp : List Addr), ATs (X.blk s H scope (compEnvC scope cl C X.env) fp) Wx.blk ifs tt)
    (he : ∀ (s : Shared) (H : Hp) (C : Addr) (cl : List (Str × Addr)) (fp : List Addr), AE (X.blk s H scope (compEnvC scope cl C X.env) fp) Wx.blk elt te) (hs : ∀ x, foldedSetIterable iter X.env x = pure x := by intro _; rfl) :
    AS X Wx (.Assign [.Name y py] (.ListComp elt [⟨tg, iter, ifs, 0⟩] scope pos) spos) (aOwn i (fLc ri g tt te (own.map (·.2)))) :=
  PS.imp (ps_setLc hc hN hy hyl hsw hi ok hg ht he hs) fun De σ H ⟨B, w, ms, s, A, L, h, en⟩ =>
    lc_ok (X := X) (Wx := Wx) hgs ⟨B, w, ms, s, _, _, L, h, fun w' ms' H' p o m le L' hp r q => en.nx _ ms' _ _ _ le (L'.newOwn i0 hp r) q, en.px⟩
end
end LA

set_option Elab.async false
set_option linter.all false
set_option maxRecDepth 100000
set_option maxHeartbeats 4000000
/-! LA6: operators by data. -/
namespace LA
open PySem PySem.Spec PyProof.Rows L2

theorem str_eq (a b : String) : (Str.ofString a = Str.ofString b) = (a = b) := by
  refine propext ⟨fun h => ?_, fun h => by rw [h]⟩
  rw [Str.ofString_eq_toList, Str.ofString_eq_toList] at h
  have h1 : (a.toList.map Char.toNat).toArray = (b.toList.map Char.toNat).toArray := Str.mk.inj h
  have h2 : a.toList.map Char.toNat = b.toList.map Char.toNat := by simpa using h1
  have inj : ∀ (l l' : List Char), l.map Char.toNat = l'.map Char.toNat → l = l' := by
    intro l
    induction l with
    | nil => intro l' e; cases l' with
      | nil => rfl
      | cons c r => cases e
    | cons c r ih =>
      intro l' e
      cases l' with
      | nil => cases e
      | cons d q =>
        simp only [List.map_cons, List.cons.injEq] at e
        have : c = d := by
          have h := e.1
          exact Char.ext (UInt32.toNat_inj.mp h)
        rw [this, ih q e.2]
  exact String.toList_inj.mp (inj _ _ h2)

/-! ### arithmetic -/
/-- * of ints -/
def MulOk (i j : Int) : Prop := CMul i j ∨ CMulW i j
/-- // of ints -/
def DivOk (i j : Int) : Prop := CDivW i j
def fAdd (x y : D) (Q : D → Prop) : Prop := match x, y with
  | .int i, .int j => Q (.int (i + j))
  | .str i, .str j => i.length + j.length ≤ sizeLine ∧ Q (.str (i ++ j))
  | .tup xs, .tup ys => xs.length + ys.length ≤ sizeLine ∧ Q (.tup (xs ++ ys))
  | .lst xs, .lst ys => xs.length + ys.length ≤ sizeLine ∧ Q (.lst (xs ++ ys))
  | _, _ => False
def fSub (x y : D) (Q : D → Prop) : Prop := match x, y with
  | .int i, .int j => Q (.int (i - j))
  | _, _ => False
def fMul (x y : D) (Q : D → Prop) : Prop := match x, y with
  | .int i, .int j => MulOk i j ∧ Q (.int (i * j))
  | .lst xs, .int k => -(2 ^ 63) ≤ k ∧ k < 2 ^ 63 ∧ xs.length * k.toNat ≤ sizeLine ∧ Q (.lst (List.replicate k.toNat xs).flatten)
  | _, _ => False
def fMod (x y : D) (Q : D → Prop) : Prop := match x, y with
  | .int i, .int j => 0 < j ∧ Q (.int (i % j))
  | _, _ => False
def fDiv (x y : D) (Q : D → Prop) : Prop := match x, y with
  | .int i, .int j => DivOk i j ∧ Q (.int (i / j))
  | _, _ => False
def fPow (x y : D) (Q : D → Prop) : Prop := match x, y with
  | .int i, .int j => CPow i j ∧ Q (.int (i ^ j.toNat))
  | _, _ => False
def fNeg (x : D) (Q : D → Prop) : Prop := match x with
  | .int i => Q (.int (-i))
  | _ => False
/-- closing an operator's answer, nothing new in the heap -/
theorem same_ {K : PySem.W.Frag} {ex : XI} {B : Bs ex} {w : W} {ms : MS} {s : ASt} {σ : L2.St} {H : Hp} {Qd : D → Prop} {R : VK} {v : V} {d : D} (L : Lk K B w ms s σ H) (k : ∀ w' H' z d, Le K w w' → Lk K B w' ms s σ H' → Rep K w' z d → Qd d → R z H') (r : Rep K w v d) (q : Qd d) : R v H :=
  k w H v d (Le.refl _ _) L r q
/-- a new frozen object -/
theorem new_ {K : PySem.W.Frag} {ex : XI} {B : Bs ex} {w : W} {ms : MS} {s : ASt} {σ : L2.St} {H : Hp} {Qd : D → Prop} {R : VK} {p : Addr} {o : HO} {d : D} (L : Lk K B w ms s σ H) (k : ∀ w' H' z d, Le K w w' → Lk K B w' ms s σ H' → Rep K w' z d → Qd d → R z H') (hp : H p = none)
    (r : ∀ w', Le K w w' → w'.F p = some o → Rep K w' (.ref p) d) (q : Qd d) : R (.ref p) (upd H p o) :=
  k { w with F := upd w.F p o } _ _ d (Le.new (L.fresh hp).1) (L.new hp) (r _ (Le.new (L.fresh hp).1) upd_same) q
section
variable {X : Cx}
theorem oa_add : OpA X (binaryOp .Add) fAdd := by
  rintro pins s σ H x y v u R I rx ry ⟨xi, B, w, ms, st, σ', dx, dy, Qd, L, r1, r2, h, k⟩
  cases r1 with
  | int i => cases r2 with
    | int j => exact op_add pins s σ H _ _ v u R I rx ry ⟨i, j, rfl, rfl, same_ L k (.int _) h⟩
    | _ => exact False.elim h
  | str i => cases r2 with
    | str j => exact op_add_str pins s σ H _ _ v u R I rx ry ⟨i, j, rfl, rfl, h.1, same_ L k (.str _) h.2⟩
    | _ => exact False.elim h
  | tup h1 q1 => cases r2 with
    | tup h2 q2 =>
      have e1 := q1.length
      have e2 := q2.length
      refine op_catA pins s σ H _ _ v u R I rx ry ⟨_, _, _, _, rfl, rfl, SqT.up L.s0 h1, SqT.up L.s0 h2, by rw [e1, e2]; exact h.1, fun e => ?_, fun _ e => ?_, fun _ _ p hp => ?_⟩
      · subst e; cases q1; exact same_ L k (.tup h2 q2) h.2
      · subst e; cases q2; exact same_ L k (.tup h1 q1) (by have := h.2; rw [List.append_nil] at this; exact this)
      · exact new_ L k hp (fun w' le hf => .tup hf ((q1.mono le).append (q2.mono le))) h.2
    | _ => exact False.elim h
  | lst h1 q1 => cases r2 with
    | lst h2 q2 =>
      refine op_cat pins s σ H _ _ v u R I rx ry ⟨_, _, _, _, rfl, rfl, L.s0.fh _ _ h1, L.s0.fh _ _ h2, by rw [q1.length, q2.length]; exact h.1, fun p hp => ?_⟩
      exact new_ L k hp (fun w' le hf => .lst hf ((q1.mono le).append (q2.mono le))) h.2
    | _ => exact False.elim h
  | _ => exact False.elim h
theorem oa_sub : OpA X (binaryOp .Sub) fSub := by
  rintro pins s σ H x y v u R I rx ry ⟨xi, B, w, ms, st, σ', dx, dy, Qd, L, r1, r2, h, k⟩
  cases r1 with
  | int i => cases r2 with
    | int j => exact op_sub pins s σ H _ _ v u R I rx ry ⟨i, j, rfl, rfl, same_ L k (.int _) h⟩
    | _ => exact False.elim h
  | _ => exact False.elim h
theorem RepL.rep {K : PySem.W.Frag} {w : W} {vs : List V} {ds : List D} (r : RepL K w vs ds) : ∀ n, RepL K w (List.replicate n vs).flatten (List.replicate n ds).flatten
  | 0 => .nil
  | n + 1 => by simp only [List.replicate_succ, List.flatten_cons]; exact r.append (RepL.rep r n)
theorem oa_mul : OpA X (binaryOp .Mult) fMul := by
  rintro pins s σ H x y v u R I rx ry ⟨xi, B, w, ms, st, σ', dx, dy, Qd, L, r1, r2, h, k⟩
  cases r1 with
  | int i => cases r2 with
    | int j =>
      rcases h.1 with c | c
      · exact op_mul pins s σ H _ _ v u R I rx ry ⟨i, j, rfl, rfl, c, same_ L k (.int _) h.2⟩
      · exact op_mulW pins s σ H _ _ v u R I rx ry ⟨i, j, rfl, rfl, c, same_ L k (.int _) h.2⟩
    | _ => exact False.elim h
  | lst h1 q1 => cases r2 with
    | int j => exact op_rep pins s σ H _ _ v u R I rx ry ⟨_, j, _, rfl, rfl, L.s0.fh _ _ h1, h.1, h.2.1, by rw [q1.length]; exact h.2.2.1, fun p hp => new_ L k hp (fun w' le hf => .lst hf ((q1.mono le).rep _)) h.2.2.2⟩
    | _ => exact False.elim h
  | _ => exact False.elim h
theorem oa_mod : OpA X (binaryOp .Mod) fMod := by
  rintro pins s σ H x y v u R I rx ry ⟨xi, B, w, ms, st, σ', dx, dy, Qd, L, r1, r2, h, k⟩
  cases r1 with
  | int i => cases r2 with
    | int j =>
      refine op_modN pins s σ H _ _ v u R I rx ry ⟨i, j, rfl, rfl, by have := h.1; omega, same_ L k (.int _) ?_⟩
      rw [HX.fm_eq h.1]; exact h.2
    | _ => exact False.elim h
  | _ => exact False.elim h
theorem oa_div : OpA X (binaryOp .FloorDiv) fDiv := by
  rintro pins s σ H x y v u R I rx ry ⟨xi, B, w, ms, st, σ', dx, dy, Qd, L, r1, r2, h, k⟩
  cases r1 with
  | int i => cases r2 with
    | int j => exact op_fdivW pins s σ H _ _ v u R I rx ry ⟨i, j, rfl, rfl, h.1, same_ L k (.int _) h.2⟩
    | _ => exact False.elim h
  | _ => exact False.elim h
theorem oa_pow : OpA X (binaryOp .Pow) fPow := by
  rintro pins s σ H x y v u R I rx ry ⟨xi, B, w, ms, st, σ', dx, dy, Qd, L, r1, r2, h, k⟩
  cases r1 with
  | int i => cases r2 with
    | int j => exact op_pow pins s σ H _ _ v u R I rx ry ⟨i, j, rfl, rfl, h.1, same_ L k (.int _) h.2⟩
    | _ => exact False.elim h
  | _ => exact False.elim h
theorem ua_neg : UnA X (unaryOp .USub) fNeg := by
  rintro pins s σ H x v R I rx ⟨xi, B, w, ms, st, σ', dx, Qd, L, r1, h, k⟩
  cases r1 with
  | int i => exact un_neg pins s σ H _ v R I rx ⟨i, rfl, same_ L k (.int _) h⟩
  | _ => exact False.elim h
end

/-! ### comparisons -/
/-- data as the library has them -/
inductive PyOf : D → PyData → Prop
  | non : PyOf .non .none
  | bl (b : Bool) : PyOf (.bl b) (.bool b)
  | int (i : Int) : PyOf (.int i) (.int i)
  | str (x : Str) : PyOf (.str x) (.str x)
  | lnil : PyOf (.lst []) (.list [])
  | lcons {d : D} {ds : List D} {p : PyData} {ps : List PyData} : PyOf d p → PyOf (.lst ds) (.list ps) → PyOf (.lst (d :: ds)) (.list (p :: ps))
  | tnil : PyOf (.tup []) (.tuple [])
  | tcons {d : D} {ds : List D} {p : PyData} {ps : List PyData} : PyOf d p → PyOf (.tup ds) (.tuple ps) → PyOf (.tup (d :: ds)) (.tuple (p :: ps))
theorem dp_of {K : PySem.W.Frag} {w : W} {ms : MS} {H : Hp} (h0 : St0 K w ms H) {d : D} {p : PyData} (h : PyOf d p) : (∀ v, Rep K w v d → Dp K H v p) ∧ (∀ ds, (d = .lst ds ∨ d = .tup ds) → ∀ ps, (p = .list ps ∨ p = .tuple ps) → ∀ vs, RepL K w vs ds → DpAll K H vs ps) := by
  induction h with
  | non => exact ⟨fun v r => by cases r; exact .non, fun ds e => by rcases e with e | e <;> cases e⟩
  | bl b => exact ⟨fun v r => by cases r; exact .bl _, fun ds e => by rcases e with e | e <;> cases e⟩
  | int b => exact ⟨fun v r => by cases r; exact .int _, fun ds e => by rcases e with e | e <;> cases e⟩
  | str b => exact ⟨fun v r => by cases r; exact .str _, fun ds e => by rcases e with e | e <;> cases e⟩
  | lnil => exact ⟨fun v r => by cases r with | lst hf q => cases q; exact .lst (SqL.up h0 hf) .nil, fun ds e ps e' vs q => by rcases e with e | e <;> cases e <;> rcases e' with e' | e' <;> cases e' <;> cases q <;> exact .nil⟩
  | tnil => exact ⟨fun v r => by cases r with | tup hf q => cases q; exact .tup (SqT.up h0 hf) .nil, fun ds e ps e' vs q => by rcases e with e | e <;> cases e <;> rcases e' with e' | e' <;> cases e' <;> cases q <;> exact .nil⟩
  | lcons h1 h2 ih1 ih2 =>
    refine ⟨fun v r => ?_, fun ds e ps e' vs q => ?_⟩
    · cases r with
      | lst hf q => cases q with | cons a b => exact .lst (SqL.up h0 hf) (.cons (ih1.1 _ a) (ih2.2 _ (.inl rfl) _ (.inl rfl) _ b))
    · rcases e with e | e <;> cases e
      rcases e' with e' | e' <;> cases e'
      cases q with | cons a b => exact .cons (ih1.1 _ a) (ih2.2 _ (.inl rfl) _ (.inl rfl) _ b)
  | tcons h1 h2 ih1 ih2 =>
    refine ⟨fun v r => ?_, fun ds e ps e' vs q => ?_⟩
    · cases r with
      | tup hf q => cases q with | cons a b => exact .tup (SqT.up h0 hf) (.cons (ih1.1 _ a) (ih2.2 _ (.inr rfl) _ (.inr rfl) _ b))
    · rcases e with e | e <;> cases e
      rcases e' with e' | e' <;> cases e'
      cases q with | cons a b => exact .cons (ih1.1 _ a) (ih2.2 _ (.inr rfl) _ (.inr rfl) _ b)
/-- data of any depth compared -/
def EqDeep (x y : D) (k : Bool → Prop) : Prop := ∃ d e, PyOf x d ∧ PyOf y e ∧ SeqAt.shaped d = true ∧ SeqAt.shaped e = true ∧ k (PyData.eqv d e)
def fEq (x y : D) (Q : D → Prop) : Prop := match x, y with
  | .int i, .int j => Q (.bl (decide (i = j)))
  | .str i, .str j => Q (.bl (decide (i = j)))
  | .bl i, .bl j => Q (.bl (decide (i = j)))
  | .int _, .str _ => Q (.bl false)
  | .str _, .int _ => Q (.bl false)
  | .non, .str _ => Q (.bl false)
  | .str _, .non => Q (.bl false)
  | x, y => EqDeep x y fun b => Q (.bl b)
def fNe (x y : D) (Q : D → Prop) : Prop := match x, y with
  | .int i, .int j => Q (.bl (!decide (i = j)))
  | .str i, .str j => Q (.bl (!decide (i = j)))
  | .bl i, .bl j => Q (.bl (!decide (i = j)))
  | .int _, .str _ => Q (.bl true)
  | .str _, .int _ => Q (.bl true)
  | .non, .str _ => Q (.bl true)
  | .str _, .non => Q (.bl true)
  | x, y => EqDeep x y fun b => Q (.bl (!b))
section
variable {X : Cx}
theorem dV_int {i j : Int} : decide (V.int i = V.int j) = decide (i = j) := HX.dec_i
theorem dV_str {i j : Str} : decide (V.str i = V.str j) = decide (i = j) := by simp
theorem dV_bl {i j : Bool} : decide (V.bl i = V.bl j) = decide (i = j) := by simp
theorem oa_eq (hu : X.A.units + 64 < cLine) : OpA X (compareOp .Eq) fEq := by
  rintro pins s σ H x y v u R I rx ry ⟨xi, B, w, ms, st, σ', dx, dy, Qd, L, r1, r2, h, k⟩
  unfold fEq at h
  split at h
  · cases r1; cases r2; exact op_eq pins s σ H _ _ v u R I rx ry ⟨rfl, by rw [dV_int]; exact same_ L k (.bl _) h⟩
  · cases r1; cases r2; exact op_eq pins s σ H _ _ v u R I rx ry ⟨rfl, by rw [dV_str]; exact same_ L k (.bl _) h⟩
  · cases r1; cases r2; exact op_eq pins s σ H _ _ v u R I rx ry ⟨rfl, by rw [dV_bl]; exact same_ L k (.bl _) h⟩
  · cases r1; cases r2; exact op_eq pins s σ H _ _ v u R I rx ry ⟨rfl, by rw [decide_eq_false (by intro e; cases e)]; exact same_ L k (.bl _) h⟩
  · cases r1; cases r2; exact op_eq pins s σ H _ _ v u R I rx ry ⟨rfl, by rw [decide_eq_false (by intro e; cases e)]; exact same_ L k (.bl _) h⟩
  · cases r1; cases r2; exact op_eq pins s σ H _ _ v u R I rx ry ⟨rfl, by rw [decide_eq_false (by intro e; cases e)]; exact same_ L k (.bl _) h⟩
  · cases r1; cases r2; exact op_eq pins s σ H _ _ v u R I rx ry ⟨rfl, by rw [decide_eq_false (by intro e; cases e)]; exact same_ L k (.bl _) h⟩
  · obtain ⟨d, e, h1, h2, s1, s2, q⟩ := h
    exact op_eqD hu pins s σ H _ _ v u R I rx ry ⟨d, e, (dp_of L.s0 h1).1 _ r1, (dp_of L.s0 h2).1 _ r2, s1, s2, same_ L k (.bl _) q⟩
theorem oa_ne (hu : X.A.units + 64 < cLine) : OpA X (compareOp .NotEq) fNe := by
  rintro pins s σ H x y v u R I rx ry ⟨xi, B, w, ms, st, σ', dx, dy, Qd, L, r1, r2, h, k⟩
  unfold fNe at h
  split at h
  · cases r1; cases r2; exact op_ne pins s σ H _ _ v u R I rx ry ⟨rfl, by rw [dV_int]; exact same_ L k (.bl _) h⟩
  · cases r1; cases r2; exact op_ne pins s σ H _ _ v u R I rx ry ⟨rfl, by rw [dV_str]; exact same_ L k (.bl _) h⟩
  · cases r1; cases r2; exact op_ne pins s σ H _ _ v u R I rx ry ⟨rfl, by rw [dV_bl]; exact same_ L k (.bl _) h⟩
  · cases r1; cases r2; exact op_ne pins s σ H _ _ v u R I rx ry ⟨rfl, by rw [decide_eq_false (by intro e; cases e)]; exact same_ L k (.bl _) h⟩
  · cases r1; cases r2; exact op_ne pins s σ H _ _ v u R I rx ry ⟨rfl, by rw [decide_eq_false (by intro e; cases e)]; exact same_ L k (.bl _) h⟩
  · cases r1; cases r2; exact op_ne pins s σ H _ _ v u R I rx ry ⟨rfl, by rw [decide_eq_false (by intro e; cases e)]; exact same_ L k (.bl _) h⟩
  · cases r1; cases r2; exact op_ne pins s σ H _ _ v u R I rx ry ⟨rfl, by rw [decide_eq_false (by intro e; cases e)]; exact same_ L k (.bl _) h⟩
  · obtain ⟨d, e, h1, h2, s1, s2, q⟩ := h
    exact op_neD hu pins s σ H _ _ v u R I rx ry ⟨d, e, (dp_of L.s0 h1).1 _ r1, (dp_of L.s0 h2).1 _ r2, s1, s2, same_ L k (.bl _) q⟩
end
def fLt (x y : D) (Q : D → Prop) : Prop := match x, y with
  | .int i, .int j => Q (.bl (decide (i < j)))
  | _, _ => False
def fLe (x y : D) (Q : D → Prop) : Prop := match x, y with
  | .int i, .int j => Q (.bl (decide (i ≤ j)))
  | _, _ => False
def fGt (x y : D) (Q : D → Prop) : Prop := match x, y with
  | .int i, .int j => Q (.bl (decide (j < i)))
  | _, _ => False
def fGe (x y : D) (Q : D → Prop) : Prop := match x, y with
  | .int i, .int j => Q (.bl (decide (j ≤ i)))
  | _, _ => False
def isNon : D → Bool
  | .non => true
  | _ => false
def fIs (x y : D) (Q : D → Prop) : Prop := match y with
  | .non => Q (.bl (isNon x))
  | _ => False
def fIsNot (x y : D) (Q : D → Prop) : Prop := match y with
  | .non => Q (.bl (!isNon x))
  | _ => False
section
variable {X : Cx}
theorem oa_lt : OpA X (compareOp .Lt) fLt := by
  rintro pins s σ H x y v u R I rx ry ⟨xi, B, w, ms, st, σ', dx, dy, Qd, L, r1, r2, h, k⟩
  unfold fLt at h
  split at h
  · cases r1; cases r2; exact op_lt pins s σ H _ _ v u R I rx ry ⟨_, _, rfl, rfl, same_ L k (.bl _) h⟩
  · exact h.elim
theorem oa_le : OpA X (compareOp .LtE) fLe := by
  rintro pins s σ H x y v u R I rx ry ⟨xi, B, w, ms, st, σ', dx, dy, Qd, L, r1, r2, h, k⟩
  unfold fLe at h
  split at h
  · cases r1; cases r2; exact op_le pins s σ H _ _ v u R I rx ry ⟨_, _, rfl, rfl, same_ L k (.bl _) h⟩
  · exact h.elim
theorem oa_gt : OpA X (compareOp .Gt) fGt := by
  rintro pins s σ H x y v u R I rx ry ⟨xi, B, w, ms, st, σ', dx, dy, Qd, L, r1, r2, h, k⟩
  unfold fGt at h
  split at h
  · cases r1; cases r2; exact op_gt pins s σ H _ _ v u R I rx ry ⟨_, _, rfl, rfl, same_ L k (.bl _) h⟩
  · exact h.elim
theorem oa_ge : OpA X (compareOp .GtE) fGe := by
  rintro pins s σ H x y v u R I rx ry ⟨xi, B, w, ms, st, σ', dx, dy, Qd, L, r1, r2, h, k⟩
  unfold fGe at h
  split at h
  · cases r1; cases r2; exact op_ge pins s σ H _ _ v u R I rx ry ⟨_, _, rfl, rfl, same_ L k (.bl _) h⟩
  · exact h.elim
theorem isNon_rep {K : PySem.W.Frag} {w : W} {v : V} {d : D} (r : Rep K w v d) : decide (v = .non) = isNon d := by
  cases r <;> first | rfl | exact decide_eq_false (by intro e; cases e)
theorem oa_is : OpA X (compareOp .Is) fIs := by
  rintro pins s σ H x y v u R I rx ry ⟨xi, B, w, ms, st, σ', dx, dy, Qd, L, r1, r2, h, k⟩
  unfold fIs at h
  split at h
  · cases r2; exact op_isN pins s σ H _ _ v u R I rx ry ⟨rfl, by rw [isNon_rep r1]; exact same_ L k (.bl _) h⟩
  · exact h.elim
theorem oa_isnot : OpA X (compareOp .IsNot) fIsNot := by
  rintro pins s σ H x y v u R I rx ry ⟨xi, B, w, ms, st, σ', dx, dy, Qd, L, r1, r2, h, k⟩
  unfold fIsNot at h
  split at h
  · cases r2; exact op_notN pins s σ H _ _ v u R I rx ry ⟨rfl, by rw [isNon_rep r1]; exact same_ L k (.bl _) h⟩
  · exact h.elim
end

/-! ### in; items; slices -/
def flatD : D → Bool
  | .non => true
  | .bl _ => true
  | .int _ => true
  | .str _ => true
  | _ => false
def eqFlat : D → D → Bool
  | .non, .non => true
  | .bl a, .bl b => decide (a = b)
  | .bl a, .int b => decide ((if a then 1 else 0) = b)
  | .int a, .bl b => decide (a = (if b then 1 else 0))
  | .int a, .int b => decide (a = b)
  | .str a, .str b => decide (a = b)
  | _, _ => false
def inFlat (x : D) (xs : List D) : Bool := xs.any fun y => eqFlat y x
theorem flat_rep {K : PySem.W.Frag} {w : W} {v : V} {d : D} (r : Rep K w v d) (h : flatD d = true) : flatV v = true := by
  cases r <;> first | rfl | exact (Bool.false_ne_true h).elim
theorem flats_rep {K : PySem.W.Frag} {w : W} : ∀ {vs : List V} {ds : List D}, RepL K w vs ds → ds.all flatD = true → vs.all flatV = true
  | _, _, .nil, _ => rfl
  | _, _, .cons a b, h => by
    rw [List.all_cons, Bool.and_eq_true] at h ⊢
    exact ⟨flat_rep a h.1, flats_rep b h.2⟩
theorem eqFlat_rep {K : PySem.W.Frag} {w : W} {v u : V} {d e : D} (r : Rep K w v d) (q : Rep K w u e) (h : flatD d = true) (k : flatD e = true) : eqV v u = eqFlat d e := by
  cases r <;> first
    | exact (Bool.false_ne_true h).elim
    | (cases q <;> first | exact (Bool.false_ne_true k).elim | rfl | simp [eqV, eqFlat])
theorem inFlat_rep {K : PySem.W.Frag} {w : W} {u : V} {e : D} (q : Rep K w u e) (k : flatD e = true) : ∀ {vs : List V} {ds : List D}, RepL K w vs ds → ds.all flatD = true → inV u vs = inFlat e ds
  | _, _, .nil, _ => rfl
  | _, _, .cons a b, h => by
    rw [List.all_cons, Bool.and_eq_true] at h
    have := inFlat_rep q k b h.2
    unfold inV inFlat at this ⊢
    rw [List.any_cons, List.any_cons, eqFlat_rep a q h.1 k, this]
/-- one text within another -/
def subStr (x z : Str) : Bool := !(Builtin.Str.occurrences z x 0 z.length 1).isEmpty
def fIn (x y : D) (Q : D → Prop) : Prop := match y with
  | .lst ys => flatD x = true ∧ ys.all flatD = true ∧ Q (.bl (inFlat x ys))
  | .tup ys => (flatD x = true ∧ ys.all flatD = true ∧ Q (.bl (inFlat x ys)))
  | .str z => match x with
    | .str a => Q (.bl (subStr a z))
    | _ => False
  | _ => False
def fNotIn (x y : D) (Q : D → Prop) : Prop := match y with
  | .lst ys => flatD x = true ∧ ys.all flatD = true ∧ Q (.bl (!inFlat x ys))
  | .tup ys => (flatD x = true ∧ ys.all flatD = true ∧ Q (.bl (!inFlat x ys)))
  | .str z => match x with
    | .str a => Q (.bl (!subStr a z))
    | _ => False
  | _ => False
section
variable {X : Cx}
theorem oa_in : OpA X (compareOp .In) fIn := by
  rintro pins s σ H x y v u R I rx ry ⟨xi, B, w, ms, st, σ', dx, dy, Qd, L, r1, r2, h, k⟩
  cases r2 with
  | lst hf q => exact op_in_seq pins s σ H _ _ v u R I rx ry ⟨_, _, rfl, .inl (SqL.up L.s0 hf), flat_rep r1 h.1, flats_rep q h.2.1, by rw [if_neg (by decide), inFlat_rep r1 h.1 q h.2.1]; exact same_ L k (.bl _) h.2.2⟩
  | tup hf q => exact op_in_seq pins s σ H _ _ v u R I rx ry ⟨_, _, rfl, .inr (SqT.up L.s0 hf), flat_rep r1 h.1, flats_rep q h.2.1, by rw [if_neg (by decide), inFlat_rep r1 h.1 q h.2.1]; exact same_ L k (.bl _) h.2.2⟩
  | str z => cases r1 with
    | str a => exact op_in_str pins s σ H _ _ v u R I rx ry ⟨a, z, rfl, rfl, same_ L k (.bl _) h⟩
    | _ => exact False.elim h
  | _ => exact False.elim h
theorem oa_notin : OpA X (compareOp .NotIn) fNotIn := by
  rintro pins s σ H x y v u R I rx ry ⟨xi, B, w, ms, st, σ', dx, dy, Qd, L, r1, r2, h, k⟩
  cases r2 with
  | lst hf q => exact op_notIn_seq pins s σ H _ _ v u R I rx ry ⟨_, _, rfl, .inl (SqL.up L.s0 hf), flat_rep r1 h.1, flats_rep q h.2.1, by rw [if_pos rfl, inFlat_rep r1 h.1 q h.2.1]; exact same_ L k (.bl _) h.2.2⟩
  | tup hf q => exact op_notIn_seq pins s σ H _ _ v u R I rx ry ⟨_, _, rfl, .inr (SqT.up L.s0 hf), flat_rep r1 h.1, flats_rep q h.2.1, by rw [if_pos rfl, inFlat_rep r1 h.1 q h.2.1]; exact same_ L k (.bl _) h.2.2⟩
  | str z => cases r1 with
    | str a => exact op_notIn_str pins s σ H _ _ v u R I rx ry ⟨a, z, rfl, rfl, same_ L k (.bl _) h⟩
    | _ => exact False.elim h
  | _ => exact False.elim h
end
/-- an item by its index -/
def gotI {α : Type} (o : Option α) (k : α → Prop) (t : Tag k k := .mk) : Prop := match o with
  | some d => k d
  | none => False
def fIx (x y : D) (Q : D → Prop) : Prop := match x, y with
  | .lst xs, .int i => gotI (atI xs i) Q
  | .tup xs, .int i => gotI (atI xs i) Q
  | .str z, .int i => z.length ≤ sizeLine ∧ gotI (atI z.cps.toList i) fun c => Q (.str ⟨#[c]⟩)
  | _, _ => False
theorem RepL.at {K : PySem.W.Frag} {w : W} {vs : List V} {ds : List D} (r : RepL K w vs ds) {i : Int} {d : D} (h : atI ds i = some d) : ∃ v, atI vs i = some v ∧ Rep K w v d := by
  unfold atI at h ⊢
  rw [r.length]
  cases e : ixN ds.length i with
  | none => rw [e] at h; cases h
  | some j =>
    rw [e] at h
    obtain ⟨v, h1, h2⟩ := r.get (i := j) (x := d) h
    exact ⟨v, h1, h2⟩
theorem gotI_of {α : Type} {o : Option α} {k : α → Prop} (h : gotI o k) : ∃ d, o = some d ∧ k d := by
  unfold gotI at h
  split at h
  · exact ⟨_, rfl, h⟩
  · exact h.elim
theorem ia_any {X : Cx} : IxA X fIx := by
  rintro b hb pins s σ H x y v u R I rx ry ⟨xi, B, w, ms, st, σ', dx, dy, Qd, L, r1, r2, h, k⟩ hs
  cases r1 with
  | lst hf q => cases r2 with
    | int i =>
      obtain ⟨d, h1, h2⟩ := gotI_of h
      obtain ⟨z, e, rz⟩ := q.at h1
      exact ix_list b hb pins s σ H _ _ v u R I rx ry ⟨_, _, i, z, rfl, rfl, SqL.up L.s0 hf, e, same_ L k rz h2⟩ hs
    | _ => exact False.elim h
  | tup hf q => cases r2 with
    | int i =>
      obtain ⟨d, h1, h2⟩ := gotI_of h
      obtain ⟨z, e, rz⟩ := q.at h1
      exact ix_tup b hb pins s σ H _ _ v u R I rx ry ⟨_, _, i, z, rfl, rfl, SqT.up L.s0 hf, e, same_ L k rz h2⟩ hs
    | _ => exact False.elim h
  | str z => cases r2 with
    | int i =>
      obtain ⟨c, h1, h2⟩ := gotI_of h.2
      exact ix_str b hb pins s σ H _ _ v u R I rx ry ⟨z, i, c, rfl, rfl, h.1, h1, same_ L k (.str _) h2⟩ hs
    | _ => exact False.elim h
  | _ => exact False.elim h
/-- slices -/
def cutD (xs : List D) (lo hi : Option Int) : List D := (xs.drop (HT.sIx xs.length 0 lo)).take (HT.sIx xs.length xs.length hi - HT.sIx xs.length 0 lo)
theorem RepL.cut {K : PySem.W.Frag} {w : W} {vs : List V} {ds : List D} (r : RepL K w vs ds) (lo hi : Option Int) : RepL K w (cutV vs lo hi) (cutD ds lo hi) := by
  unfold cutV cutD
  rw [r.length]
  exact (r.drop _).take _
/-- a part of a slice -/
def pInt (d : D) (k : Option Int → Prop) : Prop := match d with
  | .int i => k (some i)
  | _ => False
abbrev aO := ASt → MS → (Option Int → MS → Prop) → (XD → MS → Prop) → Prop
def aNoPart : aO := fun _ ms Q _ => Q none ms
def aPart (ra : aE) : aO := fun s ms Q E => ra s ms (fun x ms1 => pInt x fun i => Q i ms1) E
def fCut (x : D) (lo hi : Option Int) (Q : D → Prop) : Prop := match x with
  | .lst xs => Q (.lst (cutD xs lo hi))
  | .tup xs => Q (.tup (cutD xs lo hi))
  | _ => False
def aSl (ra : aE) (rl rh : aO) : aE := fun s ms Q E => ra s ms (fun x ms1 => rl s ms1 (fun lo ms2 => rh s ms2 (fun hi ms3 => fCut x lo hi fun z => Q z ms3) E) E) E
def cO (K : PySem.W.Frag) (Wx : WXA) (a : aO) : TO := fun σ H R => ∃ B : Bs Wx.ex, ∃ w ms s Q E, Lk K B w ms s σ H ∧ a s ms Q E ∧ (∀ w' ms' H' o, Le K w w' → Lk K B w' ms' s σ H' → Q o ms' → R o H') ∧ PostX K B w s σ E Wx
theorem PO.imp {X : Cx} {e : Option Expr} {t t' : TO} (h : PO X e t) (k : ∀ σ H R, t' σ H R → t σ H R) : PO X e t' := ⟨fun pins s σ H Q I q => h.run pins s σ H Q I (k _ _ _ q)⟩
abbrev AO (X : Cx) (Wx : WXA) (e : Option Expr) (a : aO) : Prop := PO X e (cO X.K Wx a)
section
variable {X : Cx} {Wx : WXA} {e : Expr} {lo hi : Option Expr} {ra : aE} {rl rh : aO} {pos p2 : Pos}
theorem ao_none : AO X Wx none aNoPart := PO.imp po_none fun σ H R ⟨B, w, ms, s, Q, E, L, h, hq, hx⟩ => hq w ms H none (Le.refl _ _) L h
theorem ao_some (h : AE X Wx e ra) : AO X Wx (some e) (aPart ra) := PO.imp (po_some h) fun σ H R ⟨B, w, ms, s, Q, E, L, h, hq, hx⟩ => ⟨B, w, ms, s, _, E, L, h, fun w1 ms1 H1 v d e1 L1 r1 h1 => by
  cases r1 with
  | int i => exact ⟨i, rfl, hq w1 ms1 H1 _ e1 L1 h1⟩
  | _ => exact False.elim h1, hx⟩
def rCut (K : PySem.W.Frag) : V → Option Int → Option Int → Hp → VK → Prop := fun x lo hi H R => ∃ ex : XI, ∃ B : Bs ex, ∃ w ms s σ dx Qd, Lk K B w ms s σ H ∧ Rep K w x dx ∧ fCut dx lo hi Qd ∧ ∀ w' H' z d, Le K w w' → Lk K B w' ms s σ H' → Rep K w' z d → Qd d → R z H'
theorem sl_any : SlR X (rCut X.K) := by
  rintro pins s σ H x v vl vu lo hi sl R I rx hs pl pu ⟨xi, B, w, ms, st, σ', dx, Qd, L, r1, h, k⟩
  cases r1 with
  | lst hf q => exact sl_list pins s σ H _ v vl vu lo hi sl R I rx hs pl pu ⟨_, _, rfl, SqL.up L.s0 hf, fun p hp => new_ L k hp (fun w' le hf => .lst hf ((q.cut lo hi).mono le)) h⟩
  | tup hf q =>
    refine sl_tupA pins s σ H _ v vl vu lo hi sl R I rx hs pl pu ⟨_, _, rfl, SqT.up L.s0 hf, fun e => ?_, fun _ p hp => new_ L k hp (fun w' le hf => .tup hf ((q.cut lo hi).mono le)) h⟩
    refine same_ L k (.tup hf q) ?_
    rename_i ds
    have hh : Qd (.tup (cutD ds lo hi)) := h
    rw [q.length] at e
    have : cutD ds lo hi = ds := by
      unfold cutD
      rw [e.1, e.2]
      simp
    rw [this] at hh
    exact hh
  | _ => exact False.elim h
theorem ae_slice (he : AE X Wx e ra) (hl : AO X Wx lo rl) (hh : AO X Wx hi rh) : AE X Wx (.Subscript e (.Slice lo hi none p2) pos) (aSl ra rl rh) :=
  PE.imp (pe_slice sl_any he hl hh) fun σ H R ⟨B, w, ms, s, Q, E, L, h, hq, hx⟩ => ⟨B, w, ms, s, _, E, L, h, fun w1 ms1 H1 v d e1 L1 r1 h1 => ⟨B, w1, ms1, s, _, E, L1, h1, fun w2 ms2 H2 lo e2 L2 h2 => ⟨B, w2, ms2, s, _, E, L2, h2, fun w3 ms3 H3 hi e3 L3 h3 =>
    ⟨_, B, w3, ms3, s, σ, d, _, L3, r1.mono (e2.trans e3), h3, fun w4 H4 z dz e4 L4 r4 q4 => hq w4 ms3 H4 z dz ((e1.trans (e2.trans e3)).trans e4) L4 r4 q4⟩, hx.le (e1.trans e2)⟩, hx.le e1⟩, hx⟩
end
end LA

set_option Elab.async false
set_option linter.all false
set_option maxRecDepth 100000
set_option maxHeartbeats 4000000
/-! LA7: builtins by data; what own objects suffer; dicts. -/
namespace LA
open PySem PySem.Spec PyProof.Rows L2

/-- one argument, two -/
def on1 (ds : List D) (k : D → Prop) : Prop := match ds with
  | [x] => k x
  | _ => False
def on2 (ds : List D) (k : D → D → Prop) : Prop := match ds with
  | [x, y] => k x y
  | _ => False
theorem on1_of {ds : List D} {k : D → Prop} (h : on1 ds k) : ∃ x, ds = [x] ∧ k x := by
  unfold on1 at h
  split at h
  · exact ⟨_, rfl, h⟩
  · exact h.elim
theorem on2_of {ds : List D} {k : D → D → Prop} (h : on2 ds k) : ∃ x y, ds = [x, y] ∧ k x y := by
  unfold on2 at h
  split at h
  · exact ⟨_, _, rfl, h⟩
  · exact h.elim
theorem RepL.one {K : PySem.W.Frag} {w : W} {vs : List V} {d : D} (r : RepL K w vs [d]) : ∃ v, vs = [v] ∧ Rep K w v d := by
  cases r with | cons a b => cases b; exact ⟨_, rfl, a⟩
theorem RepL.two {K : PySem.W.Frag} {w : W} {vs : List V} {d e : D} (r : RepL K w vs [d, e]) : ∃ v u, vs = [v, u] ∧ Rep K w v d ∧ Rep K w u e := by
  cases r with | cons a b => cases b with | cons c b => cases b; exact ⟨_, _, rfl, a, c⟩
def fLen (ds : List D) (Q : D → Prop) : Prop := on1 ds fun x => match x with
  | .lst xs => Q (.int xs.length)
  | .tup xs => Q (.int xs.length)
  | .str z => z.length ≤ sizeLine ∧ Q (.int z.length)
  | .dk kvs => Q (.int kvs.length)
  | _ => False
def fInt (ds : List D) (Q : D → Prop) : Prop := on1 ds fun x => match x with
  | .int i => Q (.int i)
  | .bl k => Q (.int (if k then 1 else 0))
  | _ => False
def fAbs (ds : List D) (Q : D → Prop) : Prop := on1 ds fun x => match x with
  | .int i => Q (.int (if i < 0 then -i else i))
  | _ => False
def fStr (ds : List D) (Q : D → Prop) : Prop := on1 ds fun x => match x with
  | .int i => i.natAbs.log2 < 1920 ∧ Q (.str (toString i))
  | .str z => Q (.str z)
  | _ => False
/-- data that is a list of ints (of truth values, of texts) -/
def intsD : List D → Option (List Int)
  | [] => some []
  | .int i :: r => (intsD r).map (i :: ·)
  | _ => none
def blsD : List D → Option (List Bool)
  | [] => some []
  | .bl i :: r => (blsD r).map (i :: ·)
  | _ => none
theorem intsD_of : ∀ {ds : List D} {ns : List Int}, intsD ds = some ns → ds = ns.map D.int
  | [], ns, h => by simp [intsD] at h; subst h; rfl
  | .int i :: r, ns, h => by
    simp only [intsD] at h
    cases q : intsD r with
    | none => rw [q] at h; cases h
    | some ms => rw [q] at h; cases h; rw [intsD_of q]; rfl
  | .non :: r, ns, h => by simp [intsD] at h
  | .bl _ :: r, ns, h => by simp [intsD] at h
  | .str _ :: r, ns, h => by simp [intsD] at h
  | .ty _ :: r, ns, h => by simp [intsD] at h
  | .cls _ :: r, ns, h => by simp [intsD] at h
  | .tup _ :: r, ns, h => by simp [intsD] at h
  | .lst _ :: r, ns, h => by simp [intsD] at h
  | .dk _ :: r, ns, h => by simp [intsD] at h
  | .dt _ :: r, ns, h => by simp [intsD] at h
  | .ins _ _ :: r, ns, h => by simp [intsD] at h
  | .ptr _ :: r, ns, h => by simp [intsD] at h
  | .exn _ _ :: r, ns, h => by simp [intsD] at h
theorem intsD_map : ∀ (ns : List Int), intsD (ns.map D.int) = some ns
  | [] => rfl
  | i :: r => by simp [intsD, intsD_map r]
theorem blsD_of : ∀ {ds : List D} {ns : List Bool}, blsD ds = some ns → ds = ns.map D.bl
  | [], ns, h => by simp [blsD] at h; subst h; rfl
  | .bl i :: r, ns, h => by
    simp only [blsD] at h
    cases q : blsD r with
    | none => rw [q] at h; cases h
    | some ms => rw [q] at h; cases h; rw [blsD_of q]; rfl
  | .non :: r, ns, h => by simp [blsD] at h
  | .int _ :: r, ns, h => by simp [blsD] at h
  | .str _ :: r, ns, h => by simp [blsD] at h
  | .ty _ :: r, ns, h => by simp [blsD] at h
  | .cls _ :: r, ns, h => by simp [blsD] at h
  | .tup _ :: r, ns, h => by simp [blsD] at h
  | .lst _ :: r, ns, h => by simp [blsD] at h
  | .dk _ :: r, ns, h => by simp [blsD] at h
  | .dt _ :: r, ns, h => by simp [blsD] at h
  | .ins _ _ :: r, ns, h => by simp [blsD] at h
  | .ptr _ :: r, ns, h => by simp [blsD] at h
  | .exn _ _ :: r, ns, h => by simp [blsD] at h
theorem blsD_map : ∀ (ns : List Bool), blsD (ns.map D.bl) = some ns
  | [] => rfl
  | i :: r => by simp [blsD, blsD_map r]
/-- a list -/
def isL (x : D) (k : List D → Prop) : Prop := match x with
  | .lst xs => k xs
  | _ => False
def fSum (ds : List D) (Q : D → Prop) : Prop := on1 ds fun x => isL x fun xs => gotI (intsD xs) fun ns => Q (.int ns.sum)
def fMax (ds : List D) (Q : D → Prop) : Prop := on1 ds fun x => isL x fun xs => gotI (intsD xs) fun ns => 0 < ns.length ∧ ∀ m, m ∈ ns → (∀ y, y ∈ ns → y ≤ m) → Q (.int m)
def fMin (ds : List D) (Q : D → Prop) : Prop := on1 ds fun x => isL x fun xs => gotI (intsD xs) fun ns => 0 < ns.length ∧ ∀ m, m ∈ ns → (∀ y, y ∈ ns → m ≤ y) → Q (.int m)
def fMax2 (ds : List D) (Q : D → Prop) : Prop := on2 ds fun x y => match x, y with
  | .int i, .int j => Q (.int (if j > i then j else i))
  | _, _ => False
def fMin2 (ds : List D) (Q : D → Prop) : Prop := on2 ds fun x y => match x, y with
  | .int i, .int j => Q (.int (if j < i then j else i))
  | _, _ => False
def fAll (ds : List D) (Q : D → Prop) : Prop := on1 ds fun x => isL x fun xs => gotI (blsD xs) fun bs => Q (.bl (bs.all id))
def fAny (ds : List D) (Q : D → Prop) : Prop := on1 ds fun x => isL x fun xs => gotI (blsD xs) fun bs => Q (.bl (bs.any id))
def fList (ds : List D) (Q : D → Prop) : Prop := on1 ds fun x => match x with
  | .lst xs => Q (.lst xs)
  | .tup xs => Q (.lst xs)
  | _ => False
def fTuple (ds : List D) (Q : D → Prop) : Prop := on1 ds fun x => match x with
  | .lst xs => Q (.tup xs)
  | .tup xs => Q (.tup xs)
  | _ => False
section
variable {X : Cx}
theorem ca_len : CallA X (.builtin "len") fLen := by
  rintro pins s σ H vs us R I rx ⟨xi, B, w, ms, st, σ', ds, Qd, L, r, h, k⟩
  obtain ⟨x, rfl, hh⟩ := on1_of h
  clear h
  obtain ⟨v, rfl, rr⟩ := r.one
  clear r
  have h := hh
  have r := rr
  cases r with
  | lst hf q => exact call_len_seq pins s σ H _ us R I rx ⟨_, _, rfl, .inl (SqL.up L.s0 hf), same_ L k (.int _) (by rw [q.length]; exact h)⟩
  | tup hf q => exact call_len_seq pins s σ H _ us R I rx ⟨_, _, rfl, .inr (SqT.up L.s0 hf), same_ L k (.int _) (by rw [q.length]; exact h)⟩
  | str z => exact call_len_str pins s σ H _ us R I rx ⟨z, rfl, h.1, same_ L k (.int _) h.2⟩
  | dk hf q =>
    obtain ⟨u, rfl, ru⟩ := vals1 rx
    cases ru
    exact d_len I (hf.elim (fun z => .inl (L.s0.fh _ _ z)) fun ⟨o, z⟩ => .inr ⟨o, L.s0.fh _ _ z⟩) fun t s' I' => ⟨.int _, H, I', ⟨t, rfl⟩, same_ L k (.int _) (by rw [q.length]; exact h)⟩
  | _ => exact False.elim h
theorem ca_int : CallA X (.type "int") fInt := by
  rintro pins s σ H vs us R I rx ⟨xi, B, w, ms, st, σ', ds, Qd, L, r, h, k⟩
  obtain ⟨x, rfl, hh⟩ := on1_of h
  clear h
  obtain ⟨v, rfl, rr⟩ := r.one
  clear r
  have h := hh
  have r := rr
  cases r with
  | int i => exact call_int1 pins s σ H _ us R I rx (.inl ⟨i, rfl, same_ L k (.int _) h⟩)
  | bl b => exact call_int1 pins s σ H _ us R I rx (.inr ⟨b, rfl, same_ L k (.int _) h⟩)
  | _ => exact False.elim h
theorem ca_abs : CallA X (.builtin "abs") fAbs := by
  rintro pins s σ H vs us R I rx ⟨xi, B, w, ms, st, σ', ds, Qd, L, r, h, k⟩
  obtain ⟨x, rfl, hh⟩ := on1_of h
  clear h
  obtain ⟨v, rfl, rr⟩ := r.one
  clear r
  have h := hh
  have r := rr
  cases r with
  | int i => exact call_abs pins s σ H _ us R I rx ⟨i, rfl, same_ L k (.int _) h⟩
  | _ => exact False.elim h
theorem ca_str : CallA X (.type "str") fStr := by
  rintro pins s σ H vs us R I rx ⟨xi, B, w, ms, st, σ', ds, Qd, L, r, h, k⟩
  obtain ⟨x, rfl, hh⟩ := on1_of h
  clear h
  obtain ⟨v, rfl, rr⟩ := r.one
  clear r
  have h := hh
  have r := rr
  cases r with
  | int i => exact call_str_int pins s σ H _ us R I rx ⟨i, rfl, h.1, same_ L k (.str _) h.2⟩
  | str z => exact SkE.call_str_str pins s σ H _ us R I rx ⟨z, rfl, same_ L k (.str _) h⟩
  | _ => exact False.elim h
theorem lst_case {K : PySem.W.Frag} {w : W} {v : V} {x : D} {F : List D → Prop} (r : Rep K w v x) (h : isL x F) : ∃ a vs xs, v = .ref a ∧ x = .lst xs ∧ w.F a = some (.lst vs) ∧ RepL K w vs xs ∧ F xs := by
  cases r with
  | lst hf q => exact ⟨_, _, _, rfl, rfl, hf, q, h⟩
  | _ => exact False.elim h
theorem ca_sum (hc : X.calm = true) : CallA X (.builtin "sum") fSum := by
  rintro pins s σ H vs us R I rx ⟨xi, B, w, ms, st, σ', ds, Qd, L, r, h, k⟩
  obtain ⟨x, rfl, hh⟩ := on1_of h
  clear h
  obtain ⟨v, rfl, rr⟩ := r.one
  clear r
  have h := hh
  have r := rr
  obtain ⟨a, vs, xs, rfl, rfl, hf, q, h⟩ := lst_case r h
  obtain ⟨ns, e, g⟩ := gotI_of h
  obtain rfl := intsD_of e
  exact cr_sum hc pins s σ H _ us R I rx ⟨a, ns, rfl, by rw [← q.of_ints]; exact SqL.up L.s0 hf, same_ L k (.int _) g⟩
theorem ca_max (hc : X.calm = true) : CallA X (.builtin "max") fMax := by
  rintro pins s σ H vs us R I rx ⟨xi, B, w, ms, st, σ', ds, Qd, L, r, h, k⟩
  obtain ⟨x, rfl, hh⟩ := on1_of h
  clear h
  obtain ⟨v, rfl, rr⟩ := r.one
  clear r
  have h := hh
  have r := rr
  obtain ⟨a, vs, xs, rfl, rfl, hf, q, h⟩ := lst_case r h
  obtain ⟨ns, e, g⟩ := gotI_of h
  obtain rfl := intsD_of e
  exact cr_max hc pins s σ H _ us R I rx ⟨a, ns, rfl, by rw [← q.of_ints]; exact SqL.up L.s0 hf, g.1, fun m h1 h2 => same_ L k (.int _) (g.2 m h1 h2)⟩
theorem ca_min (hc : X.calm = true) : CallA X (.builtin "min") fMin := by
  rintro pins s σ H vs us R I rx ⟨xi, B, w, ms, st, σ', ds, Qd, L, r, h, k⟩
  obtain ⟨x, rfl, hh⟩ := on1_of h
  clear h
  obtain ⟨v, rfl, rr⟩ := r.one
  clear r
  have h := hh
  have r := rr
  obtain ⟨a, vs, xs, rfl, rfl, hf, q, h⟩ := lst_case r h
  obtain ⟨ns, e, g⟩ := gotI_of h
  obtain rfl := intsD_of e
  exact cr_min hc pins s σ H _ us R I rx ⟨a, ns, rfl, by rw [← q.of_ints]; exact SqL.up L.s0 hf, g.1, fun m h1 h2 => same_ L k (.int _) (g.2 m h1 h2)⟩
theorem ca_max2 (hc : X.calm = true) : CallA X (.builtin "max") fMax2 := by
  rintro pins s σ H vs us R I rx ⟨xi, B, w, ms, st, σ', ds, Qd, L, r, h, k⟩
  obtain ⟨x, y, rfl, hh⟩ := on2_of h
  clear h
  have h := hh
  obtain ⟨v, u, rfl, r1, r2⟩ := r.two
  cases r1 with
  | int i => cases r2 with
    | int j => exact call_max2 hc pins s σ H _ us R I rx ⟨i, j, rfl, same_ L k (.int _) h⟩
    | _ => exact False.elim h
  | _ => exact False.elim h
theorem ca_min2 (hc : X.calm = true) : CallA X (.builtin "min") fMin2 := by
  rintro pins s σ H vs us R I rx ⟨xi, B, w, ms, st, σ', ds, Qd, L, r, h, k⟩
  obtain ⟨x, y, rfl, hh⟩ := on2_of h
  clear h
  have h := hh
  obtain ⟨v, u, rfl, r1, r2⟩ := r.two
  cases r1 with
  | int i => cases r2 with
    | int j => exact call_min2 hc pins s σ H _ us R I rx ⟨i, j, rfl, same_ L k (.int _) h⟩
    | _ => exact False.elim h
  | _ => exact False.elim h
theorem ca_all (hc : X.calm = true) : CallA X (.builtin "all") fAll := by
  rintro pins s σ H vs us R I rx ⟨xi, B, w, ms, st, σ', ds, Qd, L, r, h, k⟩
  obtain ⟨x, rfl, hh⟩ := on1_of h
  clear h
  obtain ⟨v, rfl, rr⟩ := r.one
  clear r
  have h := hh
  have r := rr
  obtain ⟨a, vs, xs, rfl, rfl, hf, q, h⟩ := lst_case r h
  obtain ⟨ns, e, g⟩ := gotI_of h
  obtain rfl := blsD_of e
  exact cr_all hc pins s σ H _ us R I rx ⟨a, ns, rfl, by rw [← q.of_bls]; exact SqL.up L.s0 hf, same_ L k (.bl _) g⟩
theorem ca_any (hc : X.calm = true) : CallA X (.builtin "any") fAny := by
  rintro pins s σ H vs us R I rx ⟨xi, B, w, ms, st, σ', ds, Qd, L, r, h, k⟩
  obtain ⟨x, rfl, hh⟩ := on1_of h
  clear h
  obtain ⟨v, rfl, rr⟩ := r.one
  clear r
  have h := hh
  have r := rr
  obtain ⟨a, vs, xs, rfl, rfl, hf, q, h⟩ := lst_case r h
  obtain ⟨ns, e, g⟩ := gotI_of h
  obtain rfl := blsD_of e
  exact cr_any hc pins s σ H _ us R I rx ⟨a, ns, rfl, by rw [← q.of_bls]; exact SqL.up L.s0 hf, same_ L k (.bl _) g⟩
theorem ca_list : CallA X (.type "list") fList := by
  rintro pins s σ H vs us R I rx ⟨xi, B, w, ms, st, σ', ds, Qd, L, r, h, k⟩
  obtain ⟨x, rfl, hh⟩ := on1_of h
  clear h
  obtain ⟨v, rfl, rr⟩ := r.one
  clear r
  have h := hh
  have r := rr
  cases r with
  | lst hf q => exact call_list_of pins s σ H _ us R I rx ⟨_, _, rfl, .inl (SqL.up L.s0 hf), fun p hp => new_ L k hp (fun w' le hf => .lst hf (q.mono le)) h⟩
  | tup hf q => exact call_list_of pins s σ H _ us R I rx ⟨_, _, rfl, .inr (SqT.up L.s0 hf), fun p hp => new_ L k hp (fun w' le hf => .lst hf (q.mono le)) h⟩
  | _ => exact False.elim h
theorem ca_tuple : CallA X (.type "tuple") fTuple := by
  rintro pins s σ H vs us R I rx ⟨xi, B, w, ms, st, σ', ds, Qd, L, r, h, k⟩
  obtain ⟨x, rfl, hh⟩ := on1_of h
  clear h
  obtain ⟨v, rfl, rr⟩ := r.one
  clear r
  have h := hh
  have r := rr
  cases r with
  | lst hf q => exact call_tuple_of pins s σ H _ us R I rx ⟨_, _, rfl, .inl ⟨SqL.up L.s0 hf, fun p hp => new_ L k hp (fun w' le hf => .tup hf (q.mono le)) h⟩⟩
  | tup hf q => exact call_tuple_of pins s σ H _ us R I rx ⟨_, _, rfl, .inr ⟨SqT.up L.s0 hf, same_ L k (.tup hf q) h⟩⟩
  | _ => exact False.elim h
end

/-! ### isinstance -/
/-- is a datum of this built-in type? -/
def isTy (n : String) : D → Option Bool
  | .non => kitB "NoneType" n
  | .bl _ => kitB "bool" n
  | .int _ => kitB "int" n
  | .str _ => kitB "str" n
  | .tup _ => kitB "tuple" n
  | .lst _ => kitB "list" n
  | .dk _ => kitB "dict" n
  | _ => none
theorem kt_NoneType_int : kitB "NoneType" "int" = some false := by decide +kernel
theorem kt_NoneType_bool : kitB "NoneType" "bool" = some false := by decide +kernel
theorem kt_NoneType_str : kitB "NoneType" "str" = some false := by decide +kernel
theorem kt_NoneType_tuple : kitB "NoneType" "tuple" = some false := by decide +kernel
theorem kt_NoneType_list : kitB "NoneType" "list" = some false := by decide +kernel
theorem kt_NoneType_dict : kitB "NoneType" "dict" = some false := by decide +kernel
theorem kt_bool_int : kitB "bool" "int" = some true := by decide +kernel
theorem kt_bool_bool : kitB "bool" "bool" = some true := by decide +kernel
theorem kt_bool_str : kitB "bool" "str" = some false := by decide +kernel
theorem kt_bool_tuple : kitB "bool" "tuple" = some false := by decide +kernel
theorem kt_bool_list : kitB "bool" "list" = some false := by decide +kernel
theorem kt_bool_dict : kitB "bool" "dict" = some false := by decide +kernel
theorem kt_int_int : kitB "int" "int" = some true := by decide +kernel
theorem kt_int_bool : kitB "int" "bool" = some false := by decide +kernel
theorem kt_int_str : kitB "int" "str" = some false := by decide +kernel
theorem kt_int_tuple : kitB "int" "tuple" = some false := by decide +kernel
theorem kt_int_list : kitB "int" "list" = some false := by decide +kernel
theorem kt_int_dict : kitB "int" "dict" = some false := by decide +kernel
theorem kt_str_int : kitB "str" "int" = some false := by decide +kernel
theorem kt_str_bool : kitB "str" "bool" = some false := by decide +kernel
theorem kt_str_str : kitB "str" "str" = some true := by decide +kernel
theorem kt_str_tuple : kitB "str" "tuple" = some false := by decide +kernel
theorem kt_str_list : kitB "str" "list" = some false := by decide +kernel
theorem kt_str_dict : kitB "str" "dict" = some false := by decide +kernel
theorem kt_tuple_int : kitB "tuple" "int" = some false := by decide +kernel
theorem kt_tuple_bool : kitB "tuple" "bool" = some false := by decide +kernel
theorem kt_tuple_str : kitB "tuple" "str" = some false := by decide +kernel
theorem kt_tuple_tuple : kitB "tuple" "tuple" = some true := by decide +kernel
theorem kt_tuple_list : kitB "tuple" "list" = some false := by decide +kernel
theorem kt_tuple_dict : kitB "tuple" "dict" = some false := by decide +kernel
theorem kt_list_int : kitB "list" "int" = some false := by decide +kernel
theorem kt_list_bool : kitB "list" "bool" = some false := by decide +kernel
theorem kt_list_str : kitB "list" "str" = some false := by decide +kernel
theorem kt_list_tuple : kitB "list" "tuple" = some false := by decide +kernel
theorem kt_list_list : kitB "list" "list" = some true := by decide +kernel
theorem kt_list_dict : kitB "list" "dict" = some false := by decide +kernel
theorem kt_dict_int : kitB "dict" "int" = some false := by decide +kernel
theorem kt_dict_bool : kitB "dict" "bool" = some false := by decide +kernel
theorem kt_dict_str : kitB "dict" "str" = some false := by decide +kernel
theorem kt_dict_tuple : kitB "dict" "tuple" = some false := by decide +kernel
theorem kt_dict_list : kitB "dict" "list" = some false := by decide +kernel
theorem kt_dict_dict : kitB "dict" "dict" = some true := by decide +kernel
def fIsTy (ds : List D) (Q : D → Prop) : Prop := on2 ds fun x c => match c with
  | .ty n => gotI (isTy n x) fun b => Q (.bl b)
  | _ => False
/-- .. of this own class? -/
def isOwn (c : Str) : D → Option Bool
  | .non => some false
  | .bl _ => some false
  | .int _ => some false
  | .str _ => some false
  | .tup _ => some false
  | .lst _ => some false
  | .ins c' _ => if c' = c then some true else none
  | _ => none
def fIsOwn (c : Str) (ds : List D) (Q : D → Prop) : Prop := on2 ds fun x y => match y with
  | .cls c' => c' = c ∧ gotI (isOwn c x) fun b => Q (.bl b)
  | _ => False
/-- what a class must say of itself -/
structure OwnK (K : PySem.W.Frag) (c : Str) : Prop where
  inK : HX.InK K c
  self : PySem.W.kitOne K (.ref (He.ga K c)) (.ref (He.ga K c)) = some true
  non : PySem.W.kitOne K (.type "NoneType") (.ref (He.ga K c)) = some false
  bl : PySem.W.kitOne K (.type "bool") (.ref (He.ga K c)) = some false
  int : PySem.W.kitOne K (.type "int") (.ref (He.ga K c)) = some false
  str : PySem.W.kitOne K (.type "str") (.ref (He.ga K c)) = some false
  tup : PySem.W.kitOne K (.type "tuple") (.ref (He.ga K c)) = some false
  lst : PySem.W.kitOne K (.type "list") (.ref (He.ga K c)) = some false
def ownB (K : PySem.W.Frag) (c : Str) : Bool := HX.inB K c && (decide (PySem.W.kitOne K (.ref (He.ga K c)) (.ref (He.ga K c)) = some true) && (decide (PySem.W.kitOne K (.type "NoneType") (.ref (He.ga K c)) = some false) &&
  (decide (PySem.W.kitOne K (.type "bool") (.ref (He.ga K c)) = some false) && (decide (PySem.W.kitOne K (.type "int") (.ref (He.ga K c)) = some false) && (decide (PySem.W.kitOne K (.type "str") (.ref (He.ga K c)) = some false) &&
  (decide (PySem.W.kitOne K (.type "tuple") (.ref (He.ga K c)) = some false) && decide (PySem.W.kitOne K (.type "list") (.ref (He.ga K c)) = some false)))))))
theorem own_ok {K : PySem.W.Frag} {c : Str} (h : ownB K c = true) : OwnK K c := by
  obtain ⟨h1, h⟩ := He.ba h
  obtain ⟨h2, h⟩ := He.ba h
  obtain ⟨h3, h⟩ := He.ba h
  obtain ⟨h4, h⟩ := He.ba h
  obtain ⟨h5, h⟩ := He.ba h
  obtain ⟨h6, h⟩ := He.ba h
  obtain ⟨h7, h8⟩ := He.ba h
  exact ⟨HX.in_ok h1, of_decide_eq_true h2, of_decide_eq_true h3, of_decide_eq_true h4, of_decide_eq_true h5, of_decide_eq_true h6, of_decide_eq_true h7, of_decide_eq_true h8⟩
section
variable {X : Cx}
theorem ty_tup {K : PySem.W.Frag} {w : W} {ms : MS} {H : Hp} {a : Addr} {vs : List V} (h0 : St0 K w ms H) (h : w.F a = some (.tup vs)) : TyX K H (.ref a) (.type "tuple") := HX.ty_T (SqT.up h0 h)
theorem ty_dk {K : PySem.W.Frag} {w : W} {ms : MS} {H : Hp} {a : Addr} {vs : List (Key × V)} (h0 : St0 K w ms H) (h : Rd w.F a (.dK vs)) : TyX K H (.ref a) (.type "dict") := by
  rcases h with h | ⟨o, h⟩
  · exact .base (.dK (h0.fh _ _ h))
  · exact .fDict (h0.fh _ _ h)
theorem ca_isTy : CallA X (.builtin "isinstance") fIsTy := by
  rintro pins s σ H vs us R I rx ⟨xi, B, w, ms, st, σ', ds, Qd, L, r, h, k⟩
  obtain ⟨x, c, rfl, hh⟩ := on2_of h
  clear h
  obtain ⟨v, u, rfl, r1, r2⟩ := r.two
  cases r2 with
  | ty n =>
    obtain ⟨b, hb, h⟩ := gotI_of hh
    have go : ∀ {t : String}, TyX X.K H v (.type t) → kitB t n = some b → wpAny (model X.prog X.w) X.A (call (.builtin "isinstance") us) (EP X pins σ R) X.xe s := fun {t} ht hk =>
      call_isi pins s σ H _ us R I rx ⟨v, .ty n, _, _, b, rfl, .ty n, ht, kit_ty hk, same_ L k (.bl _) h⟩
    cases r1 with
    | non => exact go (.base .non) hb
    | bl i => exact go (.base (.bl i)) hb
    | int i => exact go (.base (.int i)) hb
    | str i => exact go (.base (.str i)) hb
    | tup hf q => exact go (ty_tup L.s0 hf) hb
    | lst hf q => exact go (.base (.lst (L.s0.fh _ _ hf))) hb
    | dk hf q => exact go (ty_dk L.s0 hf) hb
    | _ => cases hb
  | _ => exact False.elim hh
theorem ca_isOwn {c : Str} (T : OwnK X.K c) : CallA X (.builtin "isinstance") (fIsOwn c) := by
  rintro pins s σ H vs us R I rx ⟨xi, B, w, ms, st, σ', ds, Qd, L, r, h, k⟩
  obtain ⟨x, y, rfl, hh⟩ := on2_of h
  clear h
  obtain ⟨v, u, rfl, r1, r2⟩ := r.two
  cases r2 with
  | cls c' =>
    obtain ⟨rfl, g⟩ := hh
    obtain ⟨b, hb, h⟩ := gotI_of g
    have go : ∀ {t : Value}, TyX X.K H v t → PySem.W.kitOne X.K t (.ref (He.ga X.K c')) = some b → wpAny (model X.prog X.w) X.A (call (.builtin "isinstance") us) (EP X pins σ R) X.xe s := fun {t} ht hk =>
      call_isi pins s σ H _ us R I rx ⟨v, .ref _, _, _, b, rfl, .own _, ht, hk, same_ L k (.bl _) h⟩
    cases r1 with
    | non => cases hb; exact go (.base .non) T.non
    | bl i => cases hb; exact go (.base (.bl i)) T.bl
    | int i => cases hb; exact go (.base (.int i)) T.int
    | str i => cases hb; exact go (.base (.str i)) T.str
    | tup hf q => cases hb; exact go (ty_tup L.s0 hf) T.tup
    | lst hf q => cases hb; exact go (.base (.lst (L.s0.fh _ _ hf))) T.lst
    | @ins a dx c vs ds hf q =>
      have hb : (if c = c' then some true else none) = some b := hb
      by_cases e : c = c'
      · subst e
        rw [if_pos rfl] at hb
        cases hb
        exact go (T.inK.ty (L.s0.fh _ _ hf)) T.self
      · rw [if_neg e] at hb
        cases hb
    | _ => cases hb
  | _ => exact False.elim hh
end

/-! ### what own objects suffer -/
/-- the own object in a slot -/
def ownAt (i : Nat) (s : ASt) (k : MO → Prop) : Prop := match s[i]? with
  | some (some (AV.ow m)) => k m
  | _ => False
theorem ownAt_of {i : Nat} {s : ASt} {k : MO → Prop} (h : ownAt i s k) : ∃ m, s[i]? = some (some (.ow m)) ∧ k m := by
  unfold ownAt at h
  split at h
  · exact ⟨_, by assumption, h⟩
  · exact h.elim
def moL (m : MO) (k : List D → Prop) : Prop := match m with
  | .lst xs => k xs
  | _ => False
theorem moL_of {m : MO} {k : List D → Prop} (h : moL m k) : ∃ xs, m = .lst xs ∧ k xs := by
  unfold moL at h
  split at h
  · exact ⟨_, rfl, h⟩
  · exact h.elim
def moK (m : MO) (k : List (Key × D) → Prop) : Prop := match m with
  | .dk xs => k xs
  | _ => False
theorem moK_of {m : MO} {k : List (Key × D) → Prop} (h : moK m k) : ∃ xs, m = .dk xs ∧ k xs := by
  unfold moK at h
  split at h
  · exact ⟨_, rfl, h⟩
  · exact h.elim
def moT (m : MO) (k : List (List Key × D) → Prop) : Prop := match m with
  | .dt xs => k xs
  | _ => False
theorem moT_of {m : MO} {k : List (List Key × D) → Prop} (h : moT m k) : ∃ xs, m = .dt xs ∧ k xs := by
  unfold moT at h
  split at h
  · exact ⟨_, rfl, h⟩
  · exact h.elim
def aApp (i : Nat) (ra : aE) : aS := fun A s ms => ownAt i s fun m => moL m fun _ => ra s ms (fun y ms1 => ownAt i s fun m => moL m fun xs => xs.length < sizeLine ∧ A.nx (s.set i (some (.ow (.lst (xs ++ [y]))))) ms1) fun x ms => A.ex x s ms
def aExt (i : Nat) (ra : aE) : aS := fun A s ms => ownAt i s fun m => moL m fun _ => ra s ms (fun y ms1 => isL y fun zs => ownAt i s fun m => moL m fun xs => xs.length + zs.length ≤ sizeLine ∧ A.nx (s.set i (some (.ow (.lst (xs ++ zs))))) ms1) fun x ms => A.ex x s ms
/-- y = x.pop() -/
def aPop (j i : Nat) : aS := fun A s ms => ownAt i s fun m => moL m fun xs => gotI xs.getLast? fun y => A.nx ((s.set i (some (.ow (.lst xs.dropLast)))).set j (some (.fr y))) ms
/-- len(x) of an own list -/
def aLenO (i : Nat) : aE := fun s ms Q _ => ownAt i s fun m => moL m fun xs => Q (.int xs.length) ms
/-- a key -/
def isKey (d : D) (k : Key → Prop) : Prop := match d with
  | .int i => k (.inl i)
  | .str x => k (.inr x)
  | _ => False
theorem isKey_rep {K : PySem.W.Frag} {w : W} {v : V} {d : D} {k : Key → Prop} (r : Rep K w v d) (h : isKey d k) : ∃ x, v = kV x ∧ k x := by
  cases r <;> first | exact ⟨_, rfl, h⟩ | exact False.elim h
/-- d[k] = v -/
def aPutO (i : Nat) (rk rv : aE) : aS := fun A s ms => ownAt i s fun m => moK m fun _ => rv s ms (fun y ms1 => rk s ms1 (fun x ms2 => isKey x fun k => ownAt i s fun m => moK m fun kvs => kvs.length < sizeLine ∧ A.nx (s.set i (some (.ow (.dk (putDK kvs k y))))) ms2) fun x ms => A.ex x s ms) fun x ms => A.ex x s ms
/-- d[k], d.get(k, e), k in d of a dict -/
def fGet (x y : D) (Q : D → Prop) : Prop := match x with
  | .dk kvs => isKey y fun k => gotI (valD kvs k) Q
  | _ => False
def fHas (x y : D) (Q : D → Prop) : Prop := match y with
  | .dk kvs => isKey x fun k => Q (.bl (valD kvs k).isSome)
  | _ => False
def fHasNot (x y : D) (Q : D → Prop) : Prop := match y with
  | .dk kvs => isKey x fun k => Q (.bl (!(valD kvs k).isSome))
  | _ => False
def isDK (x : D) (k : List (Key × D) → Prop) : Prop := match x with
  | .dk kvs => k kvs
  | _ => False
def aGetD (rd rk re : aE) : aE := fun s ms Q E => rd s ms (fun x ms1 => isDK x fun kvs => rk s ms1 (fun y ms2 => re s ms2 (fun z ms3 => isKey y fun k => Q ((valD kvs k).getD z) ms3) E) E) E
/-- .. of an own dict -/
def aGetO (i : Nat) (rk re : aE) : aE := fun s ms Q E => rk s ms (fun y ms2 => re s ms2 (fun z ms3 => isKey y fun k => ownAt i s fun m => moK m fun kvs => Q ((valD kvs k).getD z) ms3) E) E
section
variable {X : Cx} {Wx : WXA} {e o f : Expr} {ra rd rk re : aE} {pos p2 apos cpos : Pos}
theorem as_app {i : Nat} (h : ∀ {te : TE}, PE X e te → PE X o (tBM X.K "list" rAppend (tVar i) (tCons te tNil))) (he : AE X Wx e ra) (hs : swapsWith o none pos.line X.env = pure false := by rfl) : AS X Wx (.Expr o pos) (aApp i ra) :=
  PS.imp (ps_expr (h he) hs) fun De σ H ⟨B, w, ms, s, A, L, h, en⟩ => by
    obtain ⟨m, e0, h⟩ := ownAt_of h
    obtain ⟨xs0, rfl, h⟩ := moL_of h
    obtain ⟨p, e1, r0, n⟩ := L.sl i _ e0
    cases r0 with
    | lst hp r0 =>
      refine ⟨_, e1, .inl ⟨rfl, _, SqL.of hp⟩, B, w, ms, s, _, _, L, h, fun w1 ms1 H1 v d le L1 r1 h1 => ?_, en.px⟩
      obtain ⟨m, e2, h1⟩ := ownAt_of h1
      obtain ⟨xs, rfl, h1⟩ := moL_of h1
      obtain ⟨p', e3, r2, n2⟩ := L1.sl i _ e2
      have : p' = p := by rw [e1] at e3; simpa using e3.symm
      subst this
      cases r2 with
      | lst hp2 r2 =>
        refine ⟨p', _, v, rfl, rfl, hp2, by rw [r2.length]; exact h1.1, ?_⟩
        exact en.nx w1 ms1 _ _ _ le (L1.updOwn e2 e1 (.lst upd_same (r2.append (.cons r1 .nil)))) h1.2
theorem as_ext {i : Nat} (h : ∀ {te : TE}, PE X e te → PE X o (tBM X.K "list" rExtend (tVar i) (tCons te tNil))) (he : AE X Wx e ra) (hs : swapsWith o none pos.line X.env = pure false := by rfl) : AS X Wx (.Expr o pos) (aExt i ra) :=
  PS.imp (ps_expr (h he) hs) fun De σ H ⟨B, w, ms, s, A, L, h, en⟩ => by
    obtain ⟨m, e0, h⟩ := ownAt_of h
    obtain ⟨xs0, rfl, h⟩ := moL_of h
    obtain ⟨p, e1, r0, n⟩ := L.sl i _ e0
    cases r0 with
    | lst hp r0 =>
      refine ⟨_, e1, .inl ⟨rfl, _, SqL.of hp⟩, B, w, ms, s, _, _, L, h, fun w1 ms1 H1 v d le L1 r1 h1 => ?_, en.px⟩
      obtain ⟨b, vz, zs, rfl, rfl, hb, rz, h1⟩ := lst_case r1 h1
      obtain ⟨m, e2, h1⟩ := ownAt_of h1
      obtain ⟨xs, rfl, h1⟩ := moL_of h1
      obtain ⟨p', e3, r2, n2⟩ := L1.sl i _ e2
      have : p' = p := by rw [e1] at e3; simpa using e3.symm
      subst this
      cases r2 with
      | lst hp2 r2 =>
        refine ⟨p', b, _, _, rfl, rfl, hp2, L1.s0.fh _ _ hb, by rw [r2.length, rz.length]; exact h1.1, ?_⟩
        exact en.nx w1 ms1 _ _ _ le (L1.updOwn e2 e1 (.lst upd_same (r2.append rz))) h1.2
theorem as_pop {i j : Nat} {y : Str} {py : Pos} (hij : i ≠ j) (hN : X.N.Nodup) (hi : X.N[j]? = some y) (hx : Loc X.env.scope y) (he : PE X o (tBM0 X.K "list" rPop (tVar i))) (hs : swapsWith o (some (.Name y py)) pos.line X.env = pure false := by rfl) (hf : X.fn y = true ∨ X.env.scope.names.lookup y = some .local := by first | exact .inl rfl | exact .inr rfl | assumption) :
    AS X Wx (.Assign [.Name y py] o pos) (aPop j i) :=
  PS.imp (ps_set hN hi hx he hs hf) fun De σ H ⟨B, w, ms, s, A, L, h, en⟩ => by
    obtain ⟨m, e0, h⟩ := ownAt_of h
    obtain ⟨xs, rfl, h⟩ := moL_of h
    obtain ⟨d, hd, h⟩ := gotI_of h
    obtain ⟨p, e1, r0, n⟩ := L.sl i _ e0
    cases r0 with
    | @lst vs _ hp r0 =>
      rw [List.getLast?_eq_getElem?] at hd
      obtain ⟨v, hv, rv⟩ := r0.get hd
      refine ⟨_, e1, .inl ⟨rfl, _, SqL.of hp⟩, p, vs, v, rfl, rfl, hp, by rw [r0.length]; exact hv, ?_⟩
      have rd : RepL X.K w vs.dropLast xs.dropLast := by
        rw [List.dropLast_eq_take, List.dropLast_eq_take, r0.length]; exact r0.take _
      exact en.nx w ms _ _ _ (Le.refl _ _) ((L.updOwn e0 e1 (.lst upd_same rd)).set rv) h
theorem ae_lenO {i : Nat} (h : PE X e (tCB (HX.rLenSq X.K) (tCons (tVar i) tNil))) : AE X Wx e (aLenO i) :=
  PE.imp h fun σ H R ⟨B, w, ms, s, Q, E, L, h, hq, hx⟩ => by
    obtain ⟨m, e0, h⟩ := ownAt_of h
    obtain ⟨xs, rfl, h⟩ := moL_of h
    obtain ⟨p, e1, r0, n⟩ := L.sl i _ e0
    cases r0 with
    | lst hp r0 => exact ⟨_, e1, p, _, rfl, .inl (SqL.of hp), by rw [r0.length]; exact hq w ms H _ _ (Le.refl _ _) L (.int _) h⟩
theorem dget_k {w : W} {ms : MS} {H : Hp} {a : Addr} {vs : List (Key × V)} {k : Key} (h0 : St0 X.K w ms H) (h : Rd w.F a (.dK vs)) : DGet H a (kV k) (valV vs k) := .inl ⟨vs, k, h.elim (fun q => .inl (h0.fh _ _ q)) fun ⟨o, q⟩ => .inr ⟨o, h0.fh _ _ q⟩, rfl, rfl⟩
theorem ae_dget (hu : X.A.units + 1 < cLine) (ho : AE X Wx o rd) (hi : AE X Wx e rk) (hs : NoSl e) : AE X Wx (.Subscript o e pos) (aBin fGet rd rk) :=
  PE.imp (pe_dget hu ho hi hs) fun σ H R ⟨B, w, ms, s, Q, E, L, h, hq, hx⟩ => two (X := X) L h hx fun w2 ms2 H2 v v2 d d2 e2 L2 r1 r2 h2 => by
    cases r1 with
    | @dk a vs ds hd q =>
      have h3 : isKey d2 (fun k => gotI (valD ds k) fun z => Q z ms2) := h2
      obtain ⟨x, rfl, g⟩ := isKey_rep r2 h3
      obtain ⟨y, hy, g⟩ := gotI_of g
      obtain ⟨u, hu, ru⟩ := (q.val x).1 y hy
      exact ⟨_, u, rfl, by rw [← hu]; exact dget_k (X := X) L2.s0 hd, hq w2 ms2 H2 _ _ e2 L2 ru g⟩
    | _ => exact False.elim h2
theorem has_rep {w : W} {vs : List (Key × V)} {ds : List (Key × D)} (q : RepK X.K w vs ds) (x : Key) : (valV vs x).isSome = (valD ds x).isSome := by
  cases z : valD ds x with
  | none => rw [(q.val x).2 z]; rfl
  | some y => obtain ⟨u, hu, _⟩ := (q.val x).1 y z; rw [hu]; rfl
theorem din_ok {σ : L2.St} {H : Hp} {R : VK} (h : cE X.K Wx (aBin fHas rk rd) σ H R) : tDIn (cE X.K Wx rk) (cE X.K Wx rd) σ H R := by
  obtain ⟨B, w, ms, s, Q, E, L, h, hq, hx⟩ := h
  refine two (X := X) L h hx fun w2 ms2 H2 v v2 d d2 e2 L2 r1 r2 h2 => ?_
  cases r2 with
  | @dk a vs ds hd q =>
    have h3 : isKey d (fun k => Q (.bl (valD ds k).isSome) ms2) := h2
    obtain ⟨x, rfl, g⟩ := isKey_rep r1 h3
    exact ⟨_, _, rfl, dget_k (X := X) (k := x) L2.s0 hd, hq w2 ms2 H2 _ _ e2 L2 (.bl _) (by rw [has_rep (X := X) q x]; exact g)⟩
  | _ => exact False.elim h2
theorem dnotin_ok {σ : L2.St} {H : Hp} {R : VK} (h : cE X.K Wx (aBin fHasNot rk rd) σ H R) : tDNotIn (cE X.K Wx rk) (cE X.K Wx rd) σ H R := by
  obtain ⟨B, w, ms, s, Q, E, L, h, hq, hx⟩ := h
  refine two (X := X) L h hx fun w2 ms2 H2 v v2 d d2 e2 L2 r1 r2 h2 => ?_
  cases r2 with
  | @dk a vs ds hd q =>
    have h3 : isKey d (fun k => Q (.bl (!(valD ds k).isSome)) ms2) := h2
    obtain ⟨x, rfl, g⟩ := isKey_rep r1 h3
    exact ⟨_, _, rfl, dget_k (X := X) (k := x) L2.s0 hd, hq w2 ms2 H2 _ _ e2 L2 (.bl _) (by rw [has_rep (X := X) q x]; exact g)⟩
  | _ => exact False.elim h2
theorem ae_din (hu : X.A.units + 1 < cLine) (hi : AE X Wx e rk) (ho : AE X Wx o rd) (hm : behindInMarks .In o = false) : AE X Wx (.Compare e [.In] [o] pos) (aBin fHas rk rd) := PE.imp (pe_cmp (pc_din hu hi ho) hm) fun σ H R h => din_ok (X := X) h
theorem ae_dnotin (hu : X.A.units + 1 < cLine) (hi : AE X Wx e rk) (ho : AE X Wx o rd) (hm : behindInMarks .NotIn o = false) : AE X Wx (.Compare e [.NotIn] [o] pos) (aBin fHasNot rk rd) := PE.imp (pe_cmp (pc_dnotin hu hi ho) hm) fun σ H R h => dnotin_ok (X := X) h
theorem tb_of {t : TE} {a : aE} (k : ∀ σ H R, cE X.K Wx a σ H R → t σ H R) : ∀ σ H R, cT X.K Wx (aB a) σ H R → tB t σ H R := fun σ H R ⟨B, w, ms, s, Q, E, L, h, hq, hx⟩ => k σ H _ ⟨B, w, ms, s, _, E, L, h, fun w1 ms1 H1 v d e1 L1 r1 h1 => by
    obtain ⟨c, rfl, rfl, q⟩ := isB_rep (X := X) r1 h1
    exact ⟨c, rfl, hq w1 ms1 H1 c e1 L1 q⟩, hx⟩
theorem at_din (hu : X.A.units + 1 < cLine) (hi : AE X Wx e rk) (ho : AE X Wx o rd) (hm : behindInMarks .In o = false) : AT X Wx (.Compare e [.In] [o] pos) (aB (aBin fHas rk rd)) := PT.imp (pt_cmp (pc_din hu hi ho) hm) (tb_of fun σ H R h => din_ok (X := X) h)
theorem at_dnotin (hu : X.A.units + 1 < cLine) (hi : AE X Wx e rk) (ho : AE X Wx o rd) (hm : behindInMarks .NotIn o = false) : AT X Wx (.Compare e [.NotIn] [o] pos) (aB (aBin fHasNot rk rd)) := PT.imp (pt_cmp (pc_dnotin hu hi ho) hm) (tb_of fun σ H R h => dnotin_ok (X := X) h)
theorem isD_k {w : W} {ms : MS} {H : Hp} {a : Addr} {vs : List (Key × V)} (h0 : St0 X.K w ms H) (h : Rd w.F a (.dK vs)) : IsD H a := .inl ⟨vs, h.elim (fun q => .inl (h0.fh _ _ q)) fun ⟨o, q⟩ => .inr ⟨o, h0.fh _ _ q⟩⟩
/-- d.get(k, e) -/
theorem ae_get (hu : X.A.units + 1 < cLine) (ho : AE X Wx o rd) (hk : AE X Wx e rk) (he : AE X Wx f re) (m : M2 X o "get" apos e f cpos) : AE X Wx (.Call (.Attribute o "get" apos) [e, f] [] cpos) (aGetD rd rk re) :=
  PE.imp (pe_dget2 hu ho hk he m) fun σ H R ⟨B, w, ms, s, Q, E, L, h, hq, hx⟩ => ⟨B, w, ms, s, _, E, L, h, fun w1 ms1 H1 v d e1 L1 r1 h1 => by
    cases r1 with
    | @dk a vs ds hd q =>
      have h1 : rk s ms1 (fun y ms2 => re s ms2 (fun z ms3 => isKey y fun k => Q ((valD ds k).getD z) ms3) E) E := h1
      refine ⟨a, rfl, isD_k (X := X) L1.s0 hd, B, w1, ms1, s, _, E, L1, h1, fun w2 ms2 H2 v2 d2 e2 L2 r2 h2 => ⟨B, w2, ms2, s, _, E, L2, h2, fun w3 ms3 H3 v3 d3 e3 L3 r3 h3 => ?_, hx.le (e1.trans e2)⟩, hx.le e1⟩
      obtain ⟨x, rfl, g⟩ := isKey_rep (r2.mono e3) h3
      refine ⟨_, dget_k (X := X) (k := x) L3.s0 ((e2.trans e3).k _ _ hd), hq w3 ms3 H3 _ _ ((e1.trans e2).trans e3) L3 ?_ g⟩
      have q3 := q.mono (e2.trans e3)
      cases z : valD ds x with
      | none => rw [(q3.val x).2 z]; exact r3
      | some y => obtain ⟨u, hu, ru⟩ := (q3.val x).1 y z; rw [hu]; exact ru
    | _ => exact False.elim h1, hx⟩
/-- d[k] = v, d an own dict -/
theorem as_putO {i : Nat} {value : Expr} {tpos : Pos} {rv : aE} (hu : X.A.units + 1 < cLine) (ho : PE X o (tVar i)) (hk : AE X Wx e rk) (hv : AE X Wx value rv) (hs : swapsWith value (some (.Subscript o e tpos)) pos.line X.env = pure false := by rfl) : AS X Wx (.Assign [.Subscript o e tpos] value pos) (aPutO i rk rv) :=
  PS.imp (ps_dput hu ho hk hv hs) fun De σ H ⟨B, w, ms, s, A, L, h, en⟩ => by
    obtain ⟨m, e0, h⟩ := ownAt_of h
    obtain ⟨xs0, rfl, h⟩ := moK_of h
    obtain ⟨p, e1, r0, n⟩ := L.sl i _ e0
    refine ⟨B, w, ms, s, _, _, L, h, fun w1 ms1 H1 y dy le1 L1 r1 h1 => ⟨_, e1, B, w1, ms1, s, _, _, L1, h1, fun w2 ms2 H2 x dx le2 L2 r2 h2 => ?_, (en.le le1).px⟩, en.px⟩
    obtain ⟨k, rfl, h2⟩ := isKey_rep r2 h2
    obtain ⟨m, e2, h2⟩ := ownAt_of h2
    obtain ⟨xs, rfl, h2⟩ := moK_of h2
    obtain ⟨p', e3, q, n2⟩ := L2.sl i _ e2
    have : p' = p := by rw [e1] at e3; simpa using e3.symm
    subst this
    cases q with
    | dk hp q =>
      refine ⟨p', _, rfl, DPut.k (k := k) hp (by rw [q.length]; exact h2.1), ?_⟩
      exact en.nx w2 ms2 _ _ _ (le1.trans le2) (L2.updOwn e2 e1 (.dk upd_same (q.put (r1.mono le2)))) h2.2
end
end LA

set_option Elab.async false
set_option linter.all false
set_option maxRecDepth 100000
set_option maxHeartbeats 4000000
/-! LA8: constants, own ==, fields stored, errors, try, more walks. -/
namespace LA
open PySem PySem.Spec PyProof.Rows L2

theorem fc_nil {P : Str → Prop} : ∀ c ∈ ([] : List Str), P c := fun _ h => nomatch h
theorem fc_cons {P : Str → Prop} {c : Str} {cs : List Str} (h : P c) (r : ∀ c ∈ cs, P c) : ∀ x ∈ c :: cs, P x := fun x hx => by
  rcases List.mem_cons.mp hx with e | e
  · rw [e]; exact h
  · exact r x e
/-! ### the module's constants -/
/-- a tuple of texts of the module -/
def StrTup (K : PySem.W.Frag) (mg : Str → Option Value) (x : Str) (zs : List Str) : Prop := mg x = some (.ref (He.ga K x)) ∧ ∃ (o : Obj) (its : Array Value) (n : Nat), K.lookup (He.ga K x) = some o ∧ o.cls = .type "tuple" ∧ o.data = .seq its n ∧ its.size ≤ sizeLine ∧ Vals (zs.map V.str) its.toList
def strsB : List Str → List Value → Bool
  | [], [] => true
  | z :: zs, .str y _ :: r => decide (y = z) && strsB zs r
  | _, _ => false
theorem strsB_ok : ∀ {zs : List Str} {us : List Value}, strsB zs us = true → Vals (zs.map V.str) us
  | [], [], _ => .nil
  | z :: zs, .str y t :: r, h => by
    obtain ⟨h1, h2⟩ := He.ba (show (decide (y = z) && strsB zs r) = true from h)
    have := of_decide_eq_true h1
    subst this
    exact .cons ⟨t, rfl⟩ (strsB_ok h2)
  | [], _ :: _, h => by simp [strsB] at h
  | z :: zs, [], h => by simp [strsB] at h
  | z :: zs, .none :: r, h => by simp [strsB] at h
  | z :: zs, .bool _ :: r, h => by simp [strsB] at h
  | z :: zs, .int _ _ :: r, h => by simp [strsB] at h
  | z :: zs, .bytes _ _ :: r, h => by simp [strsB] at h
  | z :: zs, .float _ _ :: r, h => by simp [strsB] at h
  | z :: zs, .ref _ :: r, h => by simp [strsB] at h
  | z :: zs, .type _ :: r, h => by simp [strsB] at h
  | z :: zs, .builtin _ :: r, h => by simp [strsB] at h
  | z :: zs, .notImplemented :: r, h => by simp [strsB] at h
  | z :: zs, .ellipsis :: r, h => by simp [strsB] at h
def strTupB (K : PySem.W.Frag) (x : Str) (zs : List Str) : Bool := (He.Fa.glo x).ok K && (match K.lookup (He.ga K x) with
  | some ⟨.type "tuple", _, .seq its _, _⟩ => decide (its.size ≤ 1000) && strsB zs its.toList
  | _ => false)
theorem strTup_ok {K : PySem.W.Frag} {h : Heap} {mg : Str → Option Value} (X : K.In h) (G : h.Ns mainGlobals mg) {x : Str} {zs : List Str} (c : strTupB K x zs = true) : StrTup K mg x zs := by
  obtain ⟨h1, h2⟩ := He.ba c
  refine ⟨He.glo_ok X G h1, ?_⟩
  split at h2
  · rename_i dd its n sl e
    obtain ⟨h3, h4⟩ := He.ba h2
    exact ⟨_, its, n, e, rfl, rfl, Nat.le_trans (of_decide_eq_true h3) (by decide), strsB_ok h4⟩
  · cases h2
section
variable {X : Cx} {Wx : WXA} {x : Str} {pos : Pos}
/-- x in a tuple of texts of the module -/
theorem ae_inC {zs : List Str} {a : Expr} {ra : aE} {p : Pos} (hg : Gl X x) (h : StrTup X.K X.mg x zs) (ha : AE X Wx a ra) (hm : behindInMarks .In (.Name x p) = false) (hdb : (x == ("__debug__" : Str)) = false := by decide) : AE X Wx (.Compare a [.In] [.Name x p] pos) (aBin fIn ra (aC (.tup (zs.map D.str)))) :=
  PE.imp (pe_cmpR op_in_seq ha (pe_glob (v := .ref (He.ga X.K x)) hg h.1 rfl hdb) hm) fun σ H R ⟨B, w, ms, s, Q, E, L, h', hq, hx⟩ => ⟨B, w, ms, s, _, E, L, h', fun w1 ms1 H1 v d e1 L1 r1 h1 => by
    have h1 : fIn d (.tup (zs.map D.str)) fun z => Q z ms1 := h1
    exact ⟨_, _, rfl, .inr (.inr h.2), flat_rep r1 h1.1, flats_rep (K := X.K) (w := w1) (RepL.strs zs) h1.2.1, by rw [if_neg (by decide), inFlat_rep r1 h1.1 (RepL.strs zs) h1.2.1]; exact hq w1 ms1 H1 _ _ e1 L1 (.bl _) h1.2.2⟩, hx⟩
theorem at_inC {zs : List Str} {a : Expr} {ra : aE} {p : Pos} (hg : Gl X x) (h : StrTup X.K X.mg x zs) (ha : AE X Wx a ra) (hm : behindInMarks .In (.Name x p) = false) (hdb : (x == ("__debug__" : Str)) = false := by decide) : AT X Wx (.Compare a [.In] [.Name x p] pos) (aB (aBin fIn ra (aC (.tup (zs.map D.str))))) :=
  PT.imp (pt_cmpR op_in_seq ha (pe_glob (v := .ref (He.ga X.K x)) hg h.1 rfl hdb) hm) fun σ H R ⟨B, w, ms, s, Q, E, L, h', hq, hx⟩ => ⟨B, w, ms, s, _, E, L, h', fun w1 ms1 H1 v d e1 L1 r1 h1 => by
    have h1 : fIn d (.tup (zs.map D.str)) fun z => isB z fun c => Q c ms1 := h1
    exact ⟨_, _, rfl, .inr (.inr h.2), flat_rep r1 h1.1, flats_rep (K := X.K) (w := w1) (RepL.strs zs) h1.2.1, by rw [if_neg (by decide), inFlat_rep r1 h1.1 (RepL.strs zs) h1.2.1]; exact ⟨_, rfl, hq w1 ms1 H1 _ e1 L1 h1.2.2⟩⟩, hx⟩
theorem ae_gint {i : Int} (hg : Gl X x) (h : ∃ t, X.mg x = some (.int i t)) (hdb : (x == ("__debug__" : Str)) = false := by decide) : AE X Wx (.Name x pos) (aC (.int i)) := by
  obtain ⟨t, h⟩ := h
  exact ae_c (pe_glob (v := .int i) hg h ⟨t, rfl⟩ hdb) fun w => .int i
theorem ae_gstr {z : Str} (hg : Gl X x) (h : ∃ t, X.mg x = some (.str z t)) (hdb : (x == ("__debug__" : Str)) = false := by decide) : AE X Wx (.Name x pos) (aC (.str z)) := by
  obtain ⟨t, h⟩ := h
  exact ae_c (pe_glob (v := .str z) hg h ⟨t, rfl⟩ hdb) fun w => .str z
end

/-! ### own == -/
/-- what may stand to the right -/
def othD (c : Str) (y : D) (ms : MS) (k : Prop) : Prop := match y with
  | .int _ => k
  | .tup _ => k
  | .ins c' _ => c' = c ∧ k
  | .ptr i => match ms[i]? with
    | some (.ins c' _) => c' = c ∧ k
    | _ => False
  | _ => False
def NotFirst (K : PySem.W.Frag) (c : Str) : Prop := PySem.W.notFirst K (He.ga K c) (.type "int") = true ∧ PySem.W.notFirst K (He.ga K c) (.type "tuple") = true
def notFirstB (K : PySem.W.Frag) (c : Str) : Bool := PySem.W.notFirst K (He.ga K c) (.type "int") && PySem.W.notFirst K (He.ga K c) (.type "tuple")
theorem notFirst_ok {K : PySem.W.Frag} {c : Str} (h : notFirstB K c = true) : NotFirst K c := Bool.and_eq_true_iff.mp h
theorem oth_rep {K : PySem.W.Frag} {c : Str} {w : W} {ms : MS} {H : Hp} {v : V} {d : D} {k : Prop} (nf : NotFirst K c) (h0 : St0 K w ms H) (r : Rep K w v d) (h : othD c d ms k) : HX.Oth K (He.ga K c) H v ∧ k := by
  cases r with
  | int i => exact ⟨.int nf.1, h⟩
  | tup hs r1 => exact ⟨.tup (SqT.up h0 hs) nf.2, h⟩
  | ins h1 r1 =>
    obtain ⟨rfl, h⟩ := h
    exact ⟨.ins (h0.fh _ _ h1) (by simp [PySem.W.notFirst]), h⟩
  | @ptr a i h1 =>
    unfold othD at h
    dsimp only at h
    split at h
    · rename_i c' fs q
      obtain ⟨rfl, h⟩ := h
      obtain ⟨b, hb, rm⟩ := h0.ce _ _ q
      rw [h1] at hb; cases hb
      cases rm with
      | ins h2 r2 => exact ⟨.ins h2 (by simp [PySem.W.notFirst]), h⟩
    · exact h.elim
  | _ => exact False.elim h
def aEqO (c : Str) (S : ASp) (ra rb : aE) : aE := fun s ms Q E => ra s ms (fun x ms1 => rb s ms1 (fun y ms2 => isIns c x ms2 fun _ => othD c y ms2 (DoCall S [x, y] ms2 Q fun _ _ => False)) E) E
section
variable {X : Cx} {Wx : WXA} {a b : Expr} {ra rb : aE} {pos : Pos} {k : Nat} {c : Str} {ps : List Str} {S : ASp}
theorem eqO_ok (nf : NotFirst X.K c) {σ : L2.St} {H : Hp} {R : VK} (h : cE X.K Wx (aEqO c S ra rb) σ H R) : tOp (HX.rEqO c (spA X.K S) (fun _ => E0) X.K) (cE X.K Wx ra) (cE X.K Wx rb) σ H R := by
  obtain ⟨B, w, ms, s, Q, E, L, h, hq, hx⟩ := h
  refine two (X := X) L h hx fun w2 ms2 H2 v v2 d d2 e2 L2 r1 r2 h2 => ?_
  obtain ⟨p, dx, fs, ds, rfl, hH, rf, h2⟩ := isIns_rep (X := X) L2.s0 r1 h2
  obtain ⟨o, h2⟩ := oth_rep nf L2.s0 r2 h2
  exact ⟨p, dx, fs, rfl, hH, o, w2, ms2, _, Q, _, L2.s0, .cons r1 (.cons r2 .nil), h2.h, fun w' ms' H' v d le A rv q => hq w' ms' H' v d (e2.trans le) (L2.after le A) rv q, fun _ _ _ _ _ _ _ _ _ z => z.elim⟩
theorem ae_eqO (G : HX.GMe X.prog X.w X.K X.mg X.base c "__eq__" k ps (spA X.K S)) (nf : NotFirst X.K c) (hr : Room k X.A) (ha : AE X Wx a ra) (hb : AE X Wx b rb) : AE X Wx (.Compare a [.Eq] [b] pos) (aEqO c S ra rb) :=
  PE.imp (pe_cmpR (HX.op_eqO G hr) ha hb (nomark _)) fun σ H R h => eqO_ok (X := X) nf h
theorem at_eqO (G : HX.GMe X.prog X.w X.K X.mg X.base c "__eq__" k ps (spA X.K S)) (nf : NotFirst X.K c) (hr : Room k X.A) (ha : AE X Wx a ra) (hb : AE X Wx b rb) : AT X Wx (.Compare a [.Eq] [b] pos) (aB (aEqO c S ra rb)) :=
  PT.imp (pt_cmpR (HX.op_eqO G hr) ha hb (nomark _)) fun σ H R ⟨B, w, ms, s, Q, E, L, h, hq, hx⟩ => eqO_ok (X := X) nf (Wx := Wx) (S := S) ⟨B, w, ms, s, _, E, L, h, fun w1 ms1 H1 v d e1 L1 r1 h1 => by
    obtain ⟨c, rfl, rfl, q⟩ := isB_rep (X := X) r1 h1
    exact ⟨c, rfl, hq w1 ms1 H1 c e1 L1 q⟩, hx⟩
end

/-! ### fields stored -/
def moI (c : Str) (m : MO) (k : List (Str × D) → Prop) : Prop := match m with
  | .ins c' fs => c' = c ∧ k fs
  | _ => False
theorem moI_of {c : Str} {m : MO} {k : List (Str × D) → Prop} (h : moI c m k) : ∃ fs, m = .ins c fs ∧ k fs := by
  unfold moI at h
  split at h
  · obtain ⟨rfl, h⟩ := h; exact ⟨_, rfl, h⟩
  · exact h.elim
/-- self.f = e in an __init__ -/
def aFldO (c f : Str) (rv : aE) : aS := fun A s ms => ownAt 0 s fun m => moI c m fun _ => rv s ms (fun y ms1 => ownAt 0 s fun m => moI c m fun fs => fs.length < 900 ∧ A.nx (s.set 0 (some (.ow (.ins c (putD f y fs))))) ms1) fun x ms => A.ex x s ms
/-- o.f = e, o an object that changes -/
def aFldP (c f : Str) (ra rv : aE) : aS := fun A s ms => rv s ms (fun y ms1 => ra s ms1 (fun x ms2 => match x with
  | .ptr k => match ms2[k]? with
    | some (.ins c' fs) => c' = c ∧ fs.length < 900 ∧ A.nx s (ms2.set k (.ins c (putD f y fs)))
    | _ => False
  | _ => False) fun x ms => A.ex x s ms) fun x ms => A.ex x s ms
theorem nodup_at {l : List Addr} {i j : Nat} {x : Addr} (h : l.Nodup) (a : l[i]? = some x) (b : l[j]? = some x) : i = j := by
  obtain ⟨h1, e1⟩ := List.getElem?_eq_some_iff.mp a
  obtain ⟨h2, e2⟩ := List.getElem?_eq_some_iff.mp b
  exact (List.getElem_inj h).mp (e1.trans e2.symm)
theorem Lk.updCell {K : PySem.W.Frag} {ex : XI} {B : Bs ex} {w : W} {ms : MS} {s : ASt} {σ : L2.St} {H : Hp} {k : Nat} {a : Addr} {o : HO} {m : MO} (L : Lk K B w ms s σ H) (hk : k < ms.length) (ha : w.as[k]? = some a) (r : RepM K w (upd H a o) a m) : Lk K B w (ms.set k m) s σ (upd H a o) := by
  have am : a ∈ w.as := List.mem_of_getElem? ha
  refine ⟨⟨fun b u e => ?_, L.s0.nd, L.s0.na, fun j mj e => ?_, by simp [L.s0.ln]⟩, fun b u nb e => ?_, L.pre, L.bas, L.fz, L.len, fun i av e => ?_, L.dj, L.bf, L.sf⟩
  · rw [upd_ne (show b ≠ a from fun z => by rw [z, L.s0.na a am] at e; cases e)]; exact L.s0.fh b u e
  · by_cases h : k = j
    · subst h
      rw [List.getElem?_set_self hk] at e
      cases e
      exact ⟨a, ha, r⟩
    · rw [List.getElem?_set_ne h] at e
      obtain ⟨b, hb, rb⟩ := L.s0.ce j mj e
      refine ⟨b, hb, rb.mono (Le.refl _ _) fun u q => ?_⟩
      rw [upd_ne (show b ≠ a from fun z => h (nodup_at L.s0.nd ha (z ▸ hb)))]; exact q
  · rw [upd_ne (show b ≠ a from fun z => ?_)]
    · exact L.keep b u nb e
    · subst z
      rcases L.pre b am with q | q
      · exact nb q
      · rw [q] at e; cases e
  · have := L.sl i av e
    cases av with
    | fr d => exact this
    | ex x => exact this
    | ow mm =>
      obtain ⟨p, e1, r1, n1, n2, n3⟩ := this
      exact ⟨p, e1, r1.mono (Le.refl _ _) fun u q => by rw [upd_ne (show p ≠ a from fun z => n2 (z ▸ am))]; exact q, n1, n2, n3⟩
section
variable {X : Cx} {Wx : WXA} {o value : Expr} {ra rv : aE} {pos pos' : Pos} {c f : Str}
theorem as_fldO (T : Cls X.K (He.ga X.K c) ∧ NoAttr X.K (He.ga X.K c) f) (ho : PE X o (tVar 0)) (hv : AE X Wx value rv) (hs : swapsWith value (some (.Attribute o f pos')) pos.line X.env = pure false) : AS X Wx (.Assign [.Attribute o f pos'] value pos) (aFldO c f rv) :=
  PS.imp (ps_fld ho hv hs) fun De σ H ⟨B, w, ms, s, A, L, h, en⟩ => by
    obtain ⟨m, e0, h'⟩ := ownAt_of h
    obtain ⟨fs0, em, g⟩ := moI_of h'
    obtain ⟨p, e1, r0, n⟩ := L.sl 0 _ e0
    refine ⟨B, w, ms, s, _, _, L, g, fun w1 ms1 H1 y dy le1 L1 r1 h1 => ⟨_, e1, ?_⟩, en.px⟩
    obtain ⟨m, e2, h3⟩ := ownAt_of h1
    obtain ⟨fs, em2, h2⟩ := moI_of h3
    subst em2
    obtain ⟨p', e3, q, n2⟩ := L1.sl 0 _ e2
    have : p' = p := by rw [e1] at e3; simpa using e3.symm
    subst this
    cases q with
    | ins hp q =>
      refine ⟨p', _, _, _, rfl, hp, T.1, T.2, by rw [q.length]; have := h2.1; omega, ?_⟩
      exact en.nx w1 ms1 _ _ _ le1 (L1.updOwn e2 e1 (.ins upd_same (q.put r1))) h2.2
theorem as_fldP (T : Cls X.K (He.ga X.K c) ∧ NoAttr X.K (He.ga X.K c) f) (ho : AE X Wx o ra) (hv : AE X Wx value rv) (hs : swapsWith value (some (.Attribute o f pos')) pos.line X.env = pure false) : AS X Wx (.Assign [.Attribute o f pos'] value pos) (aFldP c f ra rv) :=
  PS.imp (ps_fld ho hv hs) fun De σ H ⟨B, w, ms, s, A, L, h, en⟩ => ⟨B, w, ms, s, _, _, L, h, fun w1 ms1 H1 y dy le1 L1 r1 h1 => ⟨B, w1, ms1, s, _, _, L1, h1, fun w2 ms2 H2 x dx le2 L2 r2 h2 => by
    cases r2 with
    | @ptr a k hk =>
      dsimp only at h2
      split at h2
      · rename_i c' fs e
        obtain ⟨rfl, hl, h2⟩ := h2
        obtain ⟨b, hb, rb⟩ := L2.s0.ce _ _ e
        rw [hk] at hb; cases hb
        cases rb with
        | ins hp q =>
          refine ⟨a, _, _, _, rfl, hp, T.1, T.2, by rw [q.length]; omega, ?_⟩
          exact en.nx w2 _ _ _ _ (le1.trans le2) (L2.updCell (List.getElem?_eq_some_iff.mp e).1 hk (.ins upd_same (q.put (r1.mono le2)))) h2
      · exact h2.elim
    | _ => exact False.elim h2, (en.le le1).px⟩, en.px⟩
end

/-! ### errors -/
def aRaise0 (c : Str) : aS := fun A s ms => A.ex (c, []) s ms
/-- c(e1, ..): the fields, the last first -/
def aRaise (c : Str) (fns : List Str) (rr : aA) : aS := fun A s ms => rr s ms (fun ds ms1 => ds.length = fns.length ∧ A.ex (c, (fns.zip ds).reverse) s ms1) fun x ms => A.ex x s ms
/-- an __init__ that stores its arguments -/
def spX (K : PySem.W.Frag) (c : Str) (fns : List Str) : Sp := fun vs H Q _ => ∃ a ws, vs = .ref a :: ws ∧ ws.length = fns.length ∧ H a = some (exo a (He.ga K c) none) ∧
  ∀ H2 dx, H dx = none → dx ≠ a → H2 a = some (exo a (He.ga K c) (some dx)) → H2 dx = some (exd dx ((fns.zip ws).reverse)) → (∀ b, b ≠ a → b ≠ dx → H2 b = H b) → Q .non H2
structure GEx (P : Program) (w : World) (K : PySem.W.Frag) (mg : Str → Option Value) (base : Heap) (c : Str) (k : Nat) (fns : List Str) : Prop where
  T : OexC K (He.ga K c)
  iC : PySem.W.findIn K (.ref (He.ga K c)) "__init__" = some (some (.ref (He.ma K (He.ga K c) "__init__")))
  tI : PySem.W.typeIn K (.ref (He.ma K (He.ga K c) "__init__")) = some (.type "function")
  gm : mg c = some (.ref (He.ga K c))
  fn : ∃ fd ps, FnOk P w K mg base (L2N.CX P w) k (He.ma K (He.ga K c) "__init__") fd ps (spX K c fns) ∧ Binds K fd ps []
section
variable {X : Cx} {Wx : WXA} {e : Expr} {es : List Expr} {rr : aA} {p pos pos' : Pos} {c : Str} {fns : List Str} {k : Nat}
theorem as_raise0 (hc : X.calm = true) (tk : L2N.Takes X Wx.w) (T : HX.ExK X.K X.mg c) (hg : Gl X c) (hdb : (c == ("__debug__" : Str)) = false := by decide) : AS X Wx (.Raise (some (.Call (.Name c p) [] [] pos)) none pos') (aRaise0 c) :=
  PS.imp (HX.ps_raise0 hc tk T hg hdb) fun De σ H ⟨B, w, ms, s, A, L, h, en⟩ => en.ex w ms H s σ _ _ _ (Le.refl _ _) L ⟨rfl, .inl ⟨rfl, rfl⟩⟩ h
theorem RepF.zip {K : PySem.W.Frag} {w : W} : ∀ {fns : List Str} {vs : List V} {ds : List D}, RepL K w vs ds → RepF K w (fns.zip vs) (fns.zip ds)
  | [], _, _, _ => by simp only [List.zip_nil_left]; exact .nil
  | f :: fns, _, _, .nil => by simp only [List.zip_nil_right]; exact .nil
  | f :: fns, _, _, .cons h r => by simp only [List.zip_cons_cons]; exact .cons h (RepF.zip r)
theorem RepF.app {K : PySem.W.Frag} {w : W} : ∀ {vs us : List (Str × V)} {ds es : List (Str × D)}, RepF K w vs ds → RepF K w us es → RepF K w (vs ++ us) (ds ++ es)
  | _, _, _, _, .nil, s => s
  | _, _, _, _, .cons h r, s => .cons h (RepF.app r s)
theorem RepF.rev {K : PySem.W.Frag} {w : W} : ∀ {vs : List (Str × V)} {ds : List (Str × D)}, RepF K w vs ds → RepF K w vs.reverse ds.reverse
  | _, _, .nil => .nil
  | _, _, .cons h r => by simp only [List.reverse_cons]; exact RepF.app (RepF.rev r) (.cons h .nil)
/-- c(e1, ..): an own error with an own __init__, its context none -/
theorem pmk_oexN {x : Str} {C fI : Addr} {kk0 : Nat} {fd : FuncData} {ps0 : List Str} {sp : Sp} {ta : TA} {e0 : Expr} {es0 : List Expr} {p0 pos0 : Pos} (T : OexC X.K C) (iC : PySem.W.findIn X.K (.ref C) "__init__" = some (some (.ref fI))) (tI : PySem.W.typeIn X.K (.ref fI) = some (.type "function"))
    (Fn : FnOk X.prog X.w X.K X.mg X.base (L2N.CX X.prog X.w) kk0 fI fd ps0 sp) (hr : Room (kk0 + 1) X.A) (hb : Binds X.K fd ps0 []) (hg : Gl X x) (hm : X.mg x = some (.ref C)) (ha : PA X (e0 :: es0) ta)
    (hdb : (x == ("__debug__" : Str)) = false := by decide) (he : starEach (e0 :: es0) X.env = (false, eval e0 X.env) :: starEach es0 X.env := by rfl) (hpl : (backTo pos0 (starEach es0 X.env)).any (·.1) = false := by rfl) :
    L2N.PMk X (.Call (.Name x p0) (e0 :: es0) [] pos0) (tMkO C sp [] ta) := by
  intro pins s σ H Q I h
  obtain ⟨nm, qn, N, bs, bm, sn, sub, ab, col, dd, k0, k1, k2, k3, k5, hC, hbm⟩ := T.cls
  refine wpAny_Call_Name_kw (ld_glob I hg hm ?_ hdb)
  refine PySem.W.callWith_K (h₀ := X.base) I.ok.mod.kin T.kC (thn (ha.run pos0 pins s σ H _ I h) fun us sA ⟨vs, HA, IA, rA, hz, qA⟩ => ⟨IA.kIn, ?_⟩) he hpl
  show wpAny _ _ (call (.ref C) us) _ _ _
  obtain ⟨hp, g, dr, tk, os⟩ := sA
  generalize ex : hp.objs.size + 1 = x1
  have le1 : hp.objs.size ≤ x1 := by omega
  have free1 : HA x1 = none := IA.hok.fresh le1
  have qB := qA x1 free1
  rw [List.append_nil] at qB
  generalize eh : (hp.push (PySem.W.kdv_tup us)).push (PySem.HandSPX.excO C hp.objs.size) = hB
  have keepB : ∀ b o, hp.get? b = some o → hB.get? b = some o := fun b o z => by rw [← eh]; exact Heap.get?_push_of_some _ (Heap.get?_push_of_some _ z)
  have atB : hB.get? x1 = some (PySem.HandSPX.excO C hp.objs.size) := by rw [← eh, ← ex]; heap_get
  have IB : Inv X pins σ (upd HA x1 (exo x1 C none)) ⟨hB, g, dr, tk, os⟩ := IA.laid (t' := tk) (a := x1) (o := exo x1 C none) (h' := hB) keepB le1 (exo_ok atB)
  have rB : Vals (V.ref x1 :: vs) (Value.ref x1 :: us) := .cons rfl rA
  have lenB : (Value.ref x1 :: us ++ []).length = ps0.length := by rw [List.append_nil, ← rB.length]; exact Fn.len _ _ _ _ qB
  have bind := hb ⟨hB, g, dr, tk, os⟩ (Value.ref x1 :: us) IB.kIn lenB
  rw [List.append_nil] at bind
  have few : us.length ≤ sizeLine := by rw [← Paired.length rA, sizeLine_eq]; omega
  refine wpAny_call (PySem.HandSPX.call_own F.excBase_ValueError (fun Y => PySem.HandSPX.refsVE_contains Y bm hbm) (IA.kIn _ _ hC) (PySem.W.looks_findIn IA.kIn iC) (fun self => PySem.W.bind_fn IA.kIn self tI) few ?_)
  rw [eh, ex]
  refine codeAny_mono (Fn.run _ X.stack _ _ ⟨Value.ref x1 :: us, []⟩ (Value.ref x1 :: us) _ _ (fun _ _ _ => False) (hr.make C us []) (IB.env0.make C us []) bind rB qB) fun r s' hq' => ?_
  match r, hq' with
  | .error er, hq' => exact HX.passLN (X := X) pins σ _ _ er s' IB hq'
  | .ok .next, hq' => exact False.elim hq'
  | .ok .brk, hq' => exact False.elim hq'
  | .ok .cont, hq' => exact False.elim hq'
  | .ok (.ret u), hq' =>
    obtain ⟨v, HC, osC, bareC, unC, hokC, rv, ev, d, fs, ea, ed, hd1, q2⟩ := hq'
    subst ev
    obtain ⟨hC2, gC, dC, tC2, oC⟩ := s'
    obtain ⟨t0, G, J, kG, ge, hoe, na⟩ := mk_end0 (d2 := dC) (t2 := tC2) IA le1 keepB unC hokC osC bareC ea ed hd1
    exact ⟨rv, ⟨x1, _, _, ⟨G, gC, dC, tC2, oC⟩, _, .ref C, some d, rfl, J, kG, ge, hoe, ⟨rfl, rfl, fun w z => by cases z; rfl⟩, rfl, rfl, na, rfl, bareC, raises_own T.exC T.tyC, q2⟩⟩
theorem as_raise (hc : X.calm = true) (tk : L2N.Takes X Wx.w) (G : GEx X.prog X.w X.K X.mg X.base c k fns) (hr : Room (k + 1) X.A) (ha : AA X Wx (e :: es) rr) (hfn : fns.length ≤ 900 := by decide) (hg : Gl X c := by rfl) (hdb : (c == ("__debug__" : Str)) = false := by decide)
    (he : starEach (e :: es) X.env = (false, eval e X.env) :: starEach es X.env := by rfl) (hpl : (backTo pos (starEach es X.env)).any (·.1) = false := by rfl) : AS X Wx (.Raise (some (.Call (.Name c p) (e :: es) [] pos)) none pos') (aRaise c fns rr) := by
  obtain ⟨fd, ps, F, b⟩ := G.fn
  refine PS.imp (L2N.ps_raise hc tk (pmk_oexN G.T G.iC G.tI F hr b hg G.gm ha hdb he hpl)) fun De σ H ⟨B, w, ms, s, A, L, h, en⟩ => ?_
  refine ⟨B, w, ms, s, _, _, L, h, fun w1 ms1 H1 vs ds e1 L1 r1 h1 => ⟨by rw [r1.length, h1.1]; omega, fun a hn => ?_⟩, en.px⟩
  have hl : vs.length = fns.length := r1.length.trans h1.1
  refine ⟨a, vs, by rw [List.append_nil], hl, upd_same, fun H2 dx hdx hne ha hd hk => ⟨rfl, dx, _, ha, hd, ?_, ?_⟩⟩
  · rw [upd_ne hne] at hdx; exact hdx
  · rw [upd_ne hne] at hdx
    have e : upd (del H2 a) dx (.xd ((fns.zip vs).reverse)) = upd H1 dx (.xd ((fns.zip vs).reverse)) := by
      funext b
      by_cases h1 : b = dx
      · rw [h1, upd_same, upd_same]
      · rw [upd_ne h1, upd_ne h1]
        by_cases h2 : b = a
        · rw [h2, del_same, hn]
        · rw [del_ne h2, hk b h2 h1, upd_ne h2]
    rw [e]
    have f := L1.fresh hdx
    refine en.ex _ ms1 _ s σ _ _ (c, (fns.zip ds).reverse) (e1.trans (Le.new f.1)) (L1.new hdx) ⟨rfl, .inr ⟨dx, _, rfl, upd_same, ?_⟩⟩ h1.2
    exact (RepF.zip (r1.mono (Le.new f.1))).rev
end
end LA

set_option Elab.async false
set_option linter.all false
set_option maxRecDepth 100000
set_option maxHeartbeats 4000000
/-! LA9: enumerate, range, texts walked; try. -/
namespace PySem
open Sem (wp)
open Builtin Builtin.Str
set_option maxHeartbeats 1000000 in
theorem LAmeets_enum1 {v : Value} {o : Obj} {H : Heap → Prop} (B : Begins v o H) :
    Meets (Builtin.«enumerate.__new__» ⟨[.type "enumerate", v], []⟩) (fun _ R s => H s.heap ∧
      R (.ok (.ret (.ref (s.heap.push o).objs.size))) { s with heap := (s.heap.push o).push { cls := .type "enumerate", data := .fields #[.none, .bool false, .ref s.heap.objs.size, rawInt 0, .none, .none] } }) :=
  .of_wp fun prog w A R s h => by
    obtain ⟨hp, g, d, tk, os⟩ := s; obtain ⟨h1, h⟩ := h
    have hsub := sub_enumerate
    have q1 : ∀ {A' : Around} {E : Value → Shared → Prop} {Q : Value → Shared → Prop}, Q (.ref hp.objs.size) ⟨hp.push o, g, d, tk, os⟩ → wpAny (model prog w) A' (pyIter v) Q E ⟨hp, g, d, tk, os⟩ :=
      fun q => B.iter prog w _ _ ⟨hp, g, d, tk, os⟩ _ h1 q
    wp_walk using q1
    refine wpAny_stack_any fun st => wpAny_pure ?_
    split
    · rename_i c _ _ _ _ _
      cases (c == Value.type "enumerate")
      · wp_walk using q1
        exact ⟨_, rfl, h⟩
      · wp_walk using q1
        exact ⟨_, rfl, h⟩
    · wp_walk using q1
      exact ⟨_, rfl, h⟩
end PySem
namespace LA
open PySem PySem.Spec PyProof.Rows L2
/-! ### enumerate(a tuple), enumerate(a text) -/
def IteT (K : PySem.W.Frag) (a : Addr) : It :=
  ⟨fun i H => ∃ (xs : List V) (x : V), SqT K H a xs ∧ xs[i]? = some x, fun i H v H' => ∃ T x, v = .ref T ∧ H T = none ∧ H' = upd H T (.tup [.int (i : Nat), x]) ∧ ∀ xs, SqT K H a xs → xs[i]? = some x, fun i H => ∃ xs : List V, SqT K H a xs ∧ xs.length = i⟩
theorem turn_enumT {P : Program} {w : World} {K : PySem.W.Frag} {elts : List Expr} {kk : Nat} {tpos : Pos} (a e it : Addr) :
    Turn P w K (.Tuple elts kk tpos) (IteT K a) [e, it] e (fun i h => (∃ old, IsEnum h e it ((i : Nat) : Int) old) ∧ h.IsTupleIter it a i ∧ e ≠ it) where
  mem := by simp
  obj := fun i h st b hb => by
    obtain ⟨⟨old, he⟩, ⟨o, ho, hc, hd⟩, _⟩ := st
    have e' : b = e ∨ b = it := by simpa using hb
    rcases e' with z | z
    · rw [z]; exact ⟨_, he, fun v q => nomatch q⟩
    · rw [z]; exact ⟨o, ho, fun v q => by rw [hd] at q; cases q⟩
  keep := fun i h h' st k => let ⟨⟨old, he⟩, hi, hne⟩ := st; ⟨⟨old, k e (by simp) _ he⟩, hi.at fun o q => k it (by simp) o q, hne⟩
  item := by
    intro X hP hw hK hc i pins s σ H E I hf st hg
    subst hP hw hK
    obtain ⟨⟨old, he⟩, hit, hne⟩ := st
    obtain ⟨xs, x, hq, hx⟩ := hg
    obtain ⟨its, rv, p, hz⟩ := I.tuple hq
    obtain ⟨u, hu, ru⟩ := rv.get hx
    have hel : e < s.heap.objs.size := Heap.lt_size he
    have hil : it < s.heap.objs.size := by obtain ⟨_, q, _⟩ := hit; exact Heap.lt_size q
    have hai : a ≠ it := fun z => by
      subst z
      obtain ⟨o, q1, c1, _⟩ := hit
      obtain ⟨o', q2, c2, _⟩ := p
      rw [q1] at q2; cases q2; rw [c1] at c2; exact absurd c2 (by decide)
    have hea : a ≠ e := fun z => by
      subst z
      obtain ⟨o', q2, c2, _⟩ := p
      rw [he] at q2; cases q2; exact absurd (Value.type.inj (show Value.type "enumerate" = Value.type "tuple" from c2)) (by decide)
    have hlt : i < its.toArray.size := by
      have := (List.getElem?_eq_some_iff.mp hu).1
      simpa using this
    refine wpAny_pyNext_enum_itemD (Draws.tuple (A := X.A.in1) (I.ok.hd hc) it a hai its.toArray) he ⟨hit, show s.heap.IsTuple a its.toArray from p⟩ hlt hne (by simp; exact ⟨hne, fun z => hea z.symm⟩) fun u' h' tk hP ho hst' hT hsz hk => ?_
    have eu : u' = u := by
      have q : its.toArray[i]? = some u := by simpa using hu
      rw [q] at hP; exact (Option.some.inj hP).symm
    subst eu
    refine ⟨_, rfl, wpAny_letOwnedTupleGo_enum (s := { s with heap := h', toks := tk + 1 }) ho fun h'' he' sb => ?_⟩
    have hT2 : h''.get? s.heap.objs.size = some { cls := .type "tuple", data := .seq #[.int i tk, u'] } := (sb.2 _ (Nat.ne_of_gt hel)).trans hT
    have new : ObjOk X.prog X.w (upd H s.heap.objs.size (.tup [.int (i : Nat), x])) h'' s.heap.objs.size (.tup [.int (i : Nat), x]) :=
      ⟨by show 2 ≤ sizeLine; decide, [.int i tk, u'], .cons ⟨_, rfl⟩ (.cons ru .nil), ⟨_, hT2, rfl, _, rfl⟩⟩
    have I1 : Inv X pins σ (upd H s.heap.objs.size (.tup [.int (i : Nat), x])) { s with heap := h'', toks := tk + 1 } :=
      I.turnedNew (ch := [e, it]) (fun b ob hb q => (sb.2 b (fun z => hb (by simp [z]))).trans (hk b ob (fun z => hb (by simp [z])) (fun z => hb (by simp [z])) q)) hf (Nat.le_refl _) new
    refine ⟨.ref s.heap.objs.size, _, I1, rfl, ⟨_, x, rfl, I.hok.fresh (Nat.le_refl _), rfl, fun ys hy => by rw [I.tuple_inj hy hq]; exact hx⟩, ⟨⟨u', ?_⟩, hst'.1.at fun o q => (sb.2 it (Ne.symm hne)).trans q, hne⟩, fun b hb => ?_⟩
    · have e1 : ((i + 1 : Nat) : Int) = (i : Int) + 1 := by omega
      rw [e1]; exact he'
    · have hb' : b < s.heap.objs.size := by
        have e' : b = e ∨ b = it := by simpa using hb
        rcases e' with z | z
        · rw [z]; exact hel
        · rw [z]; exact hil
      rw [upd_ne (Nat.ne_of_lt hb')]
      exact (hf b hb).1
  done := by
    intro X hP hw hK hc i pins s σ H E I hf st hg
    subst hP hw hK
    obtain ⟨⟨old, he⟩, hit, hne⟩ := st
    obtain ⟨xs, hq, hx⟩ := hg
    obtain ⟨its, rv, p, hz⟩ := I.tuple hq
    obtain ⟨f0, f1, f2, f3, f4, f5⟩ := hf it (by simp)
    have hl := rv.length
    have hai : a ≠ it := fun z => by
      subst z
      obtain ⟨o, q1, c1, _⟩ := hit
      obtain ⟨o', q2, c2, _⟩ := p
      rw [q1] at q2; cases q2; rw [c1] at c2; exact absurd c2 (by decide)
    have hs : its.toArray.size = i := by simp; omega
    subst hs
    exact wpAny_pyNext_enum_endD (Draws.tuple (A := X.A.in1) (I.ok.hd hc) it a hai its.toArray) he ⟨hit, show s.heap.IsTuple a its.toArray from p⟩ fun h' eb => ⟨rfl, I.turned (t' := s.toks) (fun b o hb q => eb b o hb q) f0 f1 f3 f4 f5⟩
  self := fun A i s Q E st h => let ⟨⟨_, he⟩, _⟩ := st; wpAny_pyIter_enum he h
/-- enumerate over a text -/
def IteS (z : Str) : It :=
  ⟨fun i _ => i < z.cps.size, fun i H v H' => ∃ T c, v = .ref T ∧ H T = none ∧ H' = upd H T (.tup [.int (i : Nat), .str ⟨#[c]⟩]) ∧ z.cps[i]? = some c, fun i _ => i = z.cps.size⟩
theorem turn_enumS {P : Program} {w : World} {K : PySem.W.Frag} {elts : List Expr} {kk : Nat} {tpos : Pos} (z : Str) (t : Tok) (e it : Addr) :
    Turn P w K (.Tuple elts kk tpos) (IteS z) [e, it] e (fun i h => (∃ old, IsEnum h e it ((i : Nat) : Int) old) ∧ h.IsStrIter it (strIterType z) z t i ∧ e ≠ it) where
  mem := by simp
  obj := fun i h st b hb => by
    obtain ⟨⟨old, he⟩, ⟨o, ho, hc, hd⟩, _⟩ := st
    have e' : b = e ∨ b = it := by simpa using hb
    rcases e' with z | z
    · rw [z]; exact ⟨_, he, fun v q => nomatch q⟩
    · rw [z]; exact ⟨o, ho, fun v q => by rw [hd] at q; cases q⟩
  keep := fun i h h' st k => by
    obtain ⟨⟨old, he⟩, ⟨o, ho, hr⟩, hne⟩ := st
    exact ⟨⟨old, k e (by simp) _ he⟩, ⟨o, k it (by simp) o ho, hr⟩, hne⟩
  item := by
    intro X hP hw hK hc i pins s σ H E I hf st hg
    subst hP hw hK
    obtain ⟨⟨old, he⟩, hit, hne⟩ := st
    have hel : e < s.heap.objs.size := Heap.lt_size he
    have hil : it < s.heap.objs.size := by obtain ⟨_, q, _⟩ := hit; exact Heap.lt_size q
    refine wpAny_pyNext_enum_itemD (Draws.text (A := X.A.in1) (I.ok.hd hc) it z t) he hit hg hne (by simp; exact hne) fun u' h' tk hP ho hst' hT hsz hk => ?_
    obtain ⟨c, tk2, hcp, rfl⟩ := hP
    refine ⟨_, rfl, wpAny_letOwnedTupleGo_enum (s := { s with heap := h', toks := tk + 1 }) ho fun h'' he' sb => ?_⟩
    have hT2 : h''.get? s.heap.objs.size = some { cls := .type "tuple", data := .seq #[.int i tk, .str ⟨#[c]⟩ tk2] } := (sb.2 _ (Nat.ne_of_gt hel)).trans hT
    have new : ObjOk X.prog X.w (upd H s.heap.objs.size (.tup [.int (i : Nat), .str ⟨#[c]⟩])) h'' s.heap.objs.size (.tup [.int (i : Nat), .str ⟨#[c]⟩]) :=
      ⟨by show 2 ≤ sizeLine; decide, [.int i tk, .str ⟨#[c]⟩ tk2], .cons ⟨_, rfl⟩ (.cons ⟨_, rfl⟩ .nil), ⟨_, hT2, rfl, _, rfl⟩⟩
    have I1 : Inv X pins σ (upd H s.heap.objs.size (.tup [.int (i : Nat), .str ⟨#[c]⟩])) { s with heap := h'', toks := tk + 1 } :=
      I.turnedNew (ch := [e, it]) (fun b ob hb q => (sb.2 b (fun z => hb (by simp [z]))).trans (hk b ob (fun z => hb (by simp [z])) (fun z => hb (by simp [z])) q)) hf (Nat.le_refl _) new
    refine ⟨.ref s.heap.objs.size, _, I1, rfl, ⟨_, c, rfl, I.hok.fresh (Nat.le_refl _), rfl, hcp⟩, ⟨⟨.str ⟨#[c]⟩ tk2, ?_⟩, ?_, hne⟩, fun b hb => ?_⟩
    · have e1 : ((i + 1 : Nat) : Int) = (i : Int) + 1 := by omega
      rw [e1]; exact he'
    · obtain ⟨o, ho, hr⟩ := hst'
      exact ⟨o, (sb.2 it (Ne.symm hne)).trans ho, hr⟩
    · have hb' : b < s.heap.objs.size := by
        have e' : b = e ∨ b = it := by simpa using hb
        rcases e' with z | z
        · rw [z]; exact hel
        · rw [z]; exact hil
      rw [upd_ne (Nat.ne_of_lt hb')]
      exact (hf b hb).1
  done := by
    intro X hP hw hK hc i pins s σ H E I hf st hg
    subst hP hw hK
    obtain ⟨⟨old, he⟩, hit, hne⟩ := st
    obtain ⟨f0, f1, f2, f3, f4, f5⟩ := hf it (by simp)
    have hs : i = z.cps.size := hg
    subst hs
    exact wpAny_pyNext_enum_endD (Draws.text (A := X.A.in1) (I.ok.hd hc) it z t) he hit fun h' eb => ⟨rfl, I.turned (t' := s.toks) (fun b o hb q => eb b o hb q) f0 f1 f3 f4 f5⟩
  self := fun A i s Q E st h => let ⟨⟨_, he⟩, _⟩ := st; wpAny_pyIter_enum he h
/-- enumerate(a list, a tuple, a text) -/
def iEnumX (K : PySem.W.Frag) (ta : TA) : TI := fun σ H R => ta σ H fun vs H1 => (∃ a, vs = [.ref a] ∧ ((∃ xs, SqL K H1 a xs) ∧ R (Ite K a) H1 ∨ (∃ xs, SqT K H1 a xs) ∧ R (IteT K a) H1)) ∨ ∃ z, vs = [.str z] ∧ R (IteS z) H1
theorem call_enum_tuple {prog : Program} {w : World} {A : Around} {E : Value → Shared → Prop} {s : Shared} {l : Addr} {items : Array Value} {Q : Value → Shared → Prop} (hL : s.heap.IsTuple l items)
    (h : ∀ h', IsEnum h' (s.heap.objs.size + 1) s.heap.objs.size 0 .none → h'.IsTupleIter s.heap.objs.size l 0 → h'.objs.size = s.heap.objs.size + 2 →
      (∀ b o, s.heap.get? b = some o → h'.get? b = some o) → Q (.ref (s.heap.objs.size + 1)) { s with heap := h' }) :
    wpAny (model prog w) A (call (.type "enumerate") [.ref l]) Q E s := by
  refine callType_new PySem.F.called_enumerate (by decide) (PySem.F.typeCall_enumerate_1 _) (PySem.F.newCall_enumerate_1 _) (fun obj => PySem.F.args_object_init_2 obj _) PySem.F.entry_enumerate_new
    (LAmeets_enum1 (begins_tuple l items)) ⟨hL, ?_⟩
  have hz : (s.heap.push { cls := .type "tuple_iterator", data := .fields #[.ref l, .int 0 0] }).objs.size = s.heap.objs.size + 1 := Heap.size_push ..
  show _ ∧ _
  rw [hz]
  have he : IsEnum ((s.heap.push { cls := .type "tuple_iterator", data := .fields #[.ref l, .int 0 0] }).push
      { cls := .type "enumerate", data := .fields #[.none, .bool false, .ref s.heap.objs.size, rawInt 0, .none, .none] }) (s.heap.objs.size + 1) s.heap.objs.size 0 .none := by
    have := Heap.get?_push_size (s.heap.push { cls := .type "tuple_iterator", data := .fields #[.ref l, .int 0 0] })
      (o := { cls := .type "enumerate", data := .fields #[.none, .bool false, .ref s.heap.objs.size, rawInt 0, .none, .none] }) rfl
    rw [hz] at this; exact this
  refine ⟨⟨_, he, rfl⟩, h _ he ⟨_, Heap.get?_push_of_some _ (Heap.get?_push_size _ rfl), rfl, rfl⟩ (by rw [Heap.size_push, hz]) fun b o x => Heap.get?_push_of_some _ (Heap.get?_push_of_some _ x)⟩
theorem pi_enumX {X : Cx} {e : Expr} {ta : TA} {p pos tpos : Pos} {elts : List Expr} {kk : Nat} (hg : Gl X "enumerate") (hm : X.mg "enumerate" = none) (ha : PA X [e] ta) (hs : starEach [e] X.env = [(false, eval e X.env)] := by rfl) :
    PI X (.Tuple elts kk tpos) (.Call (.Name "enumerate" p) [e] [] pos) (iEnumX X.K ta) := by
  refine ⟨fun pins s σ H R I h => ?_⟩
  refine Call_ (ld_blt I hg hm boot_enumerate (PyProof.Rows.callWith_type1 (thn (ha.run pos pins s σ H _ I h) fun us s1 ⟨vs, H1, I1, r1, q1⟩ => ?_) hs rfl))
  have hle : ∀ b, b ∈ [s1.heap.objs.size + 1, s1.heap.objs.size] → s1.heap.objs.size ≤ b := fun b hb => by
    have e' : b = s1.heap.objs.size + 1 ∨ b = s1.heap.objs.size := by simpa using hb
    rcases e' with z | z
    · rw [z]; exact Nat.le_add_right _ _
    · rw [z]; exact Nat.le_refl _
  rcases q1 with ⟨a, ex, q1⟩ | ⟨z, ex, q⟩
  · subst ex
    cases r1 with
    | cons r rr =>
      cases rr
      cases r
      rcases q1 with ⟨⟨xs, hq⟩, q⟩ | ⟨⟨xs, hq⟩, q⟩
      · obtain ⟨its, rv, p', hz⟩ := I1.list hq
        refine call_enumerate_list p'.isList fun h' he hit hsz hk => wpAny_pyIter_enum he ?_
        have I2 : Inv X pins σ H1 { s1 with heap := h' } := I1.kept (t' := s1.toks) hk
        exact ⟨s1.heap.objs.size + 1, [s1.heap.objs.size + 1, s1.heap.objs.size], _, _, H1, rfl, I2, turn_enum a (s1.heap.objs.size + 1) s1.heap.objs.size, ⟨⟨.none, he⟩, hit, Nat.succ_ne_self _⟩, fun b hb => I1.fpOk (hle b hb) (I1.hok.fresh (hle b hb)), q⟩
      · obtain ⟨its, rv, p', hz⟩ := I1.tuple hq
        refine call_enum_tuple (show s1.heap.IsTuple a its.toArray from p') fun h' he hit hsz hk => wpAny_pyIter_enum he ?_
        have I2 : Inv X pins σ H1 { s1 with heap := h' } := I1.kept (t' := s1.toks) hk
        exact ⟨s1.heap.objs.size + 1, [s1.heap.objs.size + 1, s1.heap.objs.size], _, _, H1, rfl, I2, turn_enumT a (s1.heap.objs.size + 1) s1.heap.objs.size, ⟨⟨.none, he⟩, hit, Nat.succ_ne_self _⟩, fun b hb => I1.fpOk (hle b hb) (I1.hok.fresh (hle b hb)), q⟩
  · subst ex
    cases r1 with
    | cons r rr =>
      cases rr
      obtain ⟨t, rfl⟩ := r
      refine call_enumerate_str fun h' he hit hsz hk => wpAny_pyIter_enum he ?_
      have I2 : Inv X pins σ H1 { s1 with heap := h' } := I1.kept (t' := s1.toks) hk
      exact ⟨s1.heap.objs.size + 1, [s1.heap.objs.size + 1, s1.heap.objs.size], _, _, H1, rfl, I2, turn_enumS z t (s1.heap.objs.size + 1) s1.heap.objs.size, ⟨⟨.none, he⟩, hit, Nat.succ_ne_self _⟩, fun b hb => I1.fpOk (hle b hb) (I1.hok.fresh (hle b hb)), q⟩

/-! ### walks by data -/
/-- a text's signs -/
def signs (z : Str) : List D := z.cps.toList.map fun c => .str ⟨#[c]⟩
/-- with their places -/
def enumD (i : Nat) : List D → List D
  | [] => []
  | d :: ds => .tup [.int (i : Nat), d] :: enumD (i + 1) ds
theorem enumD_length : ∀ (ds : List D) (i : Nat), (enumD i ds).length = ds.length
  | [], _ => rfl
  | _ :: ds, i => by simp [enumD, enumD_length ds (i + 1)]
theorem enumD_at : ∀ (ds : List D) (i j : Nat), (enumD i ds)[j]? = ds[j]?.map fun d => .tup [.int ((i + j : Nat) : Int), d]
  | [], _, _ => by simp [enumD]
  | d :: ds, i, 0 => by simp [enumD]
  | d :: ds, i, j + 1 => by
    simp only [enumD, List.getElem?_cons_succ]
    rw [enumD_at ds (i + 1) j]
    have : i + 1 + j = i + (j + 1) := by omega
    rw [this]
/-- 0, 1, .. below n -/
def rangeD (lo : Int) (n : Nat) : List D := (List.range n).map fun i => .int (lo + (i : Nat))
def aSigns (ra : aE) : aI := fun s ms Q E => ra s ms (fun x ms1 => match x with
  | .str z => Q (signs z) ms1
  | _ => False) E
def aEnum (ra : aE) : aI := fun s ms Q E => ra s ms (fun x ms1 => match x with
  | .lst ds => Q (enumD 0 ds) ms1
  | .tup ds => Q (enumD 0 ds) ms1
  | .str z => Q (enumD 0 (signs z)) ms1
  | _ => False) E
def aRange1 (ra : aE) : aI := fun s ms Q E => ra s ms (fun x ms1 => match x with
  | .int j => -(2 ^ 62) ≤ j ∧ j < 2 ^ 62 ∧ Q (rangeD 0 j.toNat) ms1
  | _ => False) E
def aRange2 (ra rb : aE) : aI := fun s ms Q E => ra s ms (fun x ms1 => rb s ms1 (fun y ms2 => match x, y with
  | .int i, .int j => -(2 ^ 62) ≤ i ∧ i < 2 ^ 62 ∧ -(2 ^ 62) ≤ j ∧ j < 2 ^ 62 ∧ Q (rangeD i (j - i).toNat) ms2
  | _, _ => False) E) E
section
variable {X : Cx} {Wx : WXA} {tg e e2 : Expr} {ra rb : aE} {p pos tpos : Pos} {elts : List Expr} {kk : Nat}
theorem walk_s {K : PySem.W.Frag} {w : W} {z : Str} : WalkA K w (Its z) (signs z) := by
  have hl : (signs z).length = z.cps.size := by simp [signs]
  refine ⟨fun B w1 ms s σ H i le L hi => by rw [hl] at hi; exact hi, fun B w1 ms s σ H le L => by rw [hl]; exact Nat.le_refl _, fun B w1 ms s σ H i d x H' le L hd y => ?_⟩
  obtain ⟨rfl, c, hc, rfl⟩ := y
  refine ⟨w1, Le.refl _ _, L, ?_⟩
  have : d = .str ⟨#[c]⟩ := by
    unfold signs at hd
    rw [List.getElem?_map] at hd
    have e : z.cps.toList[i]? = some c := by simpa using hc
    rw [e] at hd; exact (Option.some.inj hd).symm
  subst this
  exact .str _
theorem ai_str (h : AE X Wx e ra) : AI X Wx tg e (aSigns ra) :=
  PI.imp (pi_str h) fun σ H R ⟨B, w, ms, s, Q, E, L, h, hq, hx⟩ => ⟨B, w, ms, s, _, E, L, h, fun w1 ms1 H1 v d e1 L1 r1 h1 => by
    cases r1 with
    | str z => exact ⟨z, rfl, hq w1 ms1 H1 _ _ e1 L1 walk_s h1⟩
    | _ => exact False.elim h1, hx⟩
theorem newPair {K : PySem.W.Frag} {ex : XI} {B : Bs ex} {w1 : W} {ms : MS} {s : ASt} {σ : L2.St} {H : Hp} {T : Addr} {i : Nat} {x : V} {d : D} (L : Lk K B w1 ms s σ H) (hT : H T = none) (r : Rep K w1 x d) :
    ∃ w2, Le K w1 w2 ∧ Lk K B w2 ms s σ (upd H T (.tup [.int (i : Nat), x])) ∧ Rep K w2 (.ref T) (.tup [.int (i : Nat), d]) :=
  let f := L.fresh hT
  ⟨_, Le.new f.1, L.new hT, .tup upd_same (.cons (.int _) (.cons (r.mono (Le.new f.1)) .nil))⟩
theorem walk_enL {K : PySem.W.Frag} {w : W} {a : Addr} {vs : List V} {ds : List D} (h : w.F a = some (.lst vs)) (r : RepL K w vs ds) : WalkA K w (Ite K a) (enumD 0 ds) := by
  have hl := r.length
  have hS : ∀ {ex : XI} {B : Bs ex} {w1 ms s σ H}, Le K w w1 → Lk K B w1 ms s σ H → SqL K H a vs := fun le L => SqL.of (L.s0.fh _ _ (le.l _ _ h))
  refine ⟨fun B w1 ms s σ H i le L hi => ?_, fun B w1 ms s σ H le L => ⟨vs, hS le L, by rw [enumD_length]; omega⟩, fun B w1 ms s σ H i d x H' le L hd y => ?_⟩
  · rw [enumD_length] at hi
    exact ⟨vs, vs[i]'(by omega), hS le L, by simp [hl, hi]⟩
  · obtain ⟨T, u, rfl, hT, rfl, hu⟩ := y
    rw [enumD_at] at hd
    cases e : ds[i]? with
    | none => rw [e] at hd; cases hd
    | some d0 =>
      rw [e] at hd
      obtain ⟨v, hv, rv⟩ := r.get e
      have := hu vs (hS le L)
      rw [hv] at this; cases this
      have hd := Option.some.inj hd
      subst hd
      have := newPair (i := i) L hT (rv.mono le)
      simpa using this
theorem walk_enT {K : PySem.W.Frag} {w : W} {a : Addr} {vs : List V} {ds : List D} (h : w.F a = some (.tup vs)) (r : RepL K w vs ds) : WalkA K w (IteT K a) (enumD 0 ds) := by
  have hl := r.length
  have hS : ∀ {ex : XI} {B : Bs ex} {w1 ms s σ H}, Le K w w1 → Lk K B w1 ms s σ H → SqT K H a vs := fun le L => SqT.up L.s0 (le.t _ _ h)
  refine ⟨fun B w1 ms s σ H i le L hi => ?_, fun B w1 ms s σ H le L => ⟨vs, hS le L, by rw [enumD_length]; omega⟩, fun B w1 ms s σ H i d x H' le L hd y => ?_⟩
  · rw [enumD_length] at hi
    exact ⟨vs, vs[i]'(by omega), hS le L, by simp [hl, hi]⟩
  · obtain ⟨T, u, rfl, hT, rfl, hu⟩ := y
    rw [enumD_at] at hd
    cases e : ds[i]? with
    | none => rw [e] at hd; cases hd
    | some d0 =>
      rw [e] at hd
      obtain ⟨v, hv, rv⟩ := r.get e
      have := hu vs (hS le L)
      rw [hv] at this; cases this
      have hd := Option.some.inj hd
      subst hd
      have := newPair (i := i) L hT (rv.mono le)
      simpa using this
theorem walk_enS {K : PySem.W.Frag} {w : W} {z : Str} : WalkA K w (IteS z) (enumD 0 (signs z)) := by
  have hl : (enumD 0 (signs z)).length = z.cps.size := by rw [enumD_length]; simp [signs]
  refine ⟨fun B w1 ms s σ H i le L hi => by rw [hl] at hi; exact hi, fun B w1 ms s σ H le L => hl, fun B w1 ms s σ H i d x H' le L hd y => ?_⟩
  obtain ⟨T, c, rfl, hT, rfl, hc⟩ := y
  rw [enumD_at] at hd
  have e : (signs z)[i]? = some (.str ⟨#[c]⟩) := by
    unfold signs
    rw [List.getElem?_map]
    have e : z.cps.toList[i]? = some c := by simpa using hc
    rw [e]; rfl
  rw [e] at hd
  have hd := Option.some.inj hd
  subst hd
  have := newPair (i := i) L hT (.str ⟨#[c]⟩)
  simpa using this
theorem ai_enum (hg : Gl X "enumerate") (hm : X.mg "enumerate" = none) (h : AE X Wx e ra) (hs : starEach [e] X.env = (false, eval e X.env) :: starEach [] X.env := by rfl) : AI X Wx (.Tuple elts kk tpos) (.Call (.Name "enumerate" p) [e] [] pos) (aEnum ra) :=
  PI.imp (pi_enumX hg hm (pa_cons h pa_nil hs) hs) fun σ H R ⟨B, w, ms, s, Q, E, L, h, hq, hx⟩ => ⟨B, w, ms, s, _, E, L, h, fun w1 ms1 H1 v d e1 L1 r1 h1 => by
    cases r1 with
    | lst hf rl => exact .inl ⟨_, rfl, .inl ⟨⟨_, SqL.up L1.s0 hf⟩, hq w1 ms1 H1 _ _ e1 L1 (walk_enL hf rl) h1⟩⟩
    | tup hf rl => exact .inl ⟨_, rfl, .inr ⟨⟨_, SqT.up L1.s0 hf⟩, hq w1 ms1 H1 _ _ e1 L1 (walk_enT hf rl) h1⟩⟩
    | str z => exact .inr ⟨z, rfl, hq w1 ms1 H1 _ _ e1 L1 walk_enS h1⟩
    | _ => exact False.elim h1, hx⟩
theorem walk_r {K : PySem.W.Frag} {w : W} {lo : Int} {n : Nat} : WalkA K w (Itr lo n) (rangeD lo n) := by
  have hl : (rangeD lo n).length = n := by simp [rangeD]
  refine ⟨fun B w1 ms s σ H i le L hi => by rw [hl] at hi; exact hi, fun B w1 ms s σ H le L => by rw [hl]; exact Nat.le_refl _, fun B w1 ms s σ H i d x H' le L hd y => ?_⟩
  obtain ⟨rfl, rfl⟩ := y
  refine ⟨w1, Le.refl _ _, L, ?_⟩
  have hi : i < n := by have := (List.getElem?_eq_some_iff.mp hd).1; rw [hl] at this; exact this
  have : d = .int (lo + (i : Nat)) := by
    unfold rangeD at hd
    rw [List.getElem?_map, List.getElem?_range hi] at hd
    exact (Option.some.inj hd).symm
  subst this
  exact .int _
theorem ai_range1 (hg : Gl X "range") (hm : X.mg "range" = none) (h : AE X Wx e ra) (hs : starEach [e] X.env = (false, eval e X.env) :: starEach [] X.env := by rfl) : AI X Wx tg (.Call (.Name "range" p) [e] [] pos) (aRange1 ra) :=
  PI.imp (pi_range1 hg hm (pa_cons h pa_nil hs) hs) fun σ H R ⟨B, w, ms, s, Q, E, L, h, hq, hx⟩ => ⟨B, w, ms, s, _, E, L, h, fun w1 ms1 H1 v d e1 L1 r1 h1 => by
    cases r1 with
    | int j => exact ⟨j, rfl, h1.1, h1.2.1, hq w1 ms1 H1 _ _ e1 L1 walk_r h1.2.2⟩
    | _ => exact False.elim h1, hx⟩
theorem ai_range2 (hg : Gl X "range") (hm : X.mg "range" = none) (ha : AE X Wx e ra) (hb : AE X Wx e2 rb) (hs : starEach [e, e2] X.env = (false, eval e X.env) :: starEach [e2] X.env := by rfl) (hs2 : starEach [e2] X.env = (false, eval e2 X.env) :: starEach [] X.env := by rfl) : AI X Wx tg (.Call (.Name "range" p) [e, e2] [] pos) (aRange2 ra rb) :=
  PI.imp (pi_range2 hg hm (pa_cons ha (pa_cons hb pa_nil hs2) hs) (hs.trans (congrArg _ hs2)) hs2) fun σ H R ⟨B, w, ms, s, Q, E, L, h, hq, hx⟩ => two (X := X) (P := fun x y ms2 => match x, y with
  | .int i, .int j => -(2 ^ 62) ≤ i ∧ i < 2 ^ 62 ∧ -(2 ^ 62) ≤ j ∧ j < 2 ^ 62 ∧ Q (rangeD i (j - i).toNat) ms2
  | _, _ => False) L h hx fun w2 ms2 H2 v v2 d d2 e2 L2 r1 r2 h2 => by
    cases r1 with
    | int i => cases r2 with
      | int j => exact ⟨i, j, rfl, ⟨h2.1, h2.2.1, h2.2.2.1, h2.2.2.2.1⟩, hq w2 ms2 H2 _ _ e2 L2 walk_r h2.2.2.2.2⟩
      | _ => exact False.elim h2
    | _ => exact False.elim h2
end
end LA

set_option Elab.async false
set_option linter.all false
set_option maxRecDepth 100000
set_option maxHeartbeats 4000000
/-! LA10: try. -/
namespace LA
open PySem PySem.Spec PyProof.Rows L2

/-- the slots without the error that was handled -/
def clr (s : ASt) : ASt := s.map fun o => match o with
  | some (.ex _) => none
  | o => o
theorem clr_some {s : ASt} {i : Nat} {av : AV} (h : (clr s)[i]? = some (some av)) : s[i]? = some (some av) ∧ ∀ x, av ≠ .ex x := by
  unfold clr at h
  rw [List.getElem?_map] at h
  cases e : s[i]? with
  | none => rw [e] at h; cases h
  | some o =>
    rw [e] at h
    cases o with
    | none => cases h
    | some v =>
      cases v with
      | fr d => cases h; exact ⟨rfl, fun _ z => nomatch z⟩
      | ow m => cases h; exact ⟨rfl, fun _ z => nomatch z⟩
      | ex x => cases h
/-- another base with the same heap -/
def Bs.as' {ex ex' : XI} (B : Bs ex) : Bs ex' := ⟨B.H, B.as, B.F, B.self⟩
theorem Lk.rebase {K : PySem.W.Frag} {ex ex' : XI} {B : Bs ex} {w : W} {ms : MS} {s : ASt} {σ : L2.St} {H : Hp} (L : Lk K B w ms s σ H) : Lk K (B.as' : Bs ex') w ms (clr s) σ H :=
  ⟨L.s0, L.keep, L.pre, L.bas, L.fz, by unfold clr; rw [List.length_map]; exact L.len, fun i av h => by
    obtain ⟨h1, h2⟩ := clr_some h
    have := L.sl i av h1
    cases av with
    | fr d => exact this
    | ow m => exact this
    | ex x => exact absurd rfl (h2 x),
   fun i j p mi mj h1 h2 => L.dj i j p mi mj (clr_some h1).1 (clr_some h2).1, L.bf, fun x m hx h => L.sf x m hx (clr_some h).1⟩
theorem Lk.unset {K : PySem.W.Frag} {ex : XI} {B : Bs ex} {w : W} {ms : MS} {s : ASt} {σ : L2.St} {H : Hp} (L : Lk K B w ms s σ H) (i : Nat) (o : Option V) : Lk K B w ms (s.set i none) (σ.set i o) H := by
  have ne : ∀ {j : Nat} {av : AV}, (s.set i none)[j]? = some (some av) → i ≠ j := fun {j av} e z => by
    subst z
    have hl : i < s.length := by have := (List.getElem?_eq_some_iff.mp e).1; simpa using this
    rw [List.getElem?_set_self hl] at e; cases e
  refine ⟨L.s0, L.keep, L.pre, L.bas, L.fz, by simp [L.len], fun j av h => ?_, fun j k p mi mj h1 h2 h3 h4 => ?_, L.bf, fun x m hx h => ?_⟩
  · have n := ne h
    rw [List.getElem?_set_ne n] at h
    have := L.sl j av h
    cases av with
    | fr d => obtain ⟨v, a, b⟩ := this; exact ⟨v, by rw [List.getElem?_set_ne n]; exact a, b⟩
    | ow m => obtain ⟨p, a, b⟩ := this; exact ⟨p, by rw [List.getElem?_set_ne n]; exact a, b⟩
    | ex x => obtain ⟨a, c, d, e0, e1, r⟩ := this; exact ⟨a, c, d, e0, by rw [List.getElem?_set_ne n]; exact e1, r⟩
  · have n1 := ne h1
    have n2 := ne h2
    rw [List.getElem?_set_ne n1] at h1 h3
    rw [List.getElem?_set_ne n2] at h2 h4
    exact L.dj j k p mi mj h1 h2 h3 h4
  · have n := ne h
    rw [List.getElem?_set_ne n] at h ⊢
    exact L.sf x m hx h
/-- an except clause: its class, which classes it takes, its name's slot, its suite -/
structure ACl where
  c : Str
  tbl : List (Str × Bool)
  sl : Option Nat
  su : aS
/-- the ends behind a suite -/
def suA (A : AEnds) (sl : Option Nat) : AEnds := { nx := fun s ms => A.nx (clr (match sl with | some i => s.set i none | none => s)) ms, rt := A.rt, bk := fun s ms => A.bk (clr (match sl with | some i => s.set i none | none => s)) ms, ct := fun s ms => A.ct (clr (match sl with | some i => s.set i none | none => s)) ms }
def aCls (A : AEnds) (x : XD) (s : ASt) (ms : MS) : List ACl → Prop
  | [] => A.ex x s ms
  | h :: r => gotI (h.tbl.lookup x.1) fun b => Br b (fun ms => h.su (suA A h.sl) (match h.sl with | some i => s.set i (some (.ex x)) | none => s) ms) (fun ms => aCls A x s ms r) ms
def aTry (tb : aS) (hs : List ACl) : aS := fun A s ms => tb { A with ex := fun x s' ms' => aCls A x s' ms' hs } s ms
section
variable {X : Cx} {Wq : WX}
/-- a clause's reading, as the try rule takes it -/
def clOf (K : PySem.W.Frag) (h : ACl) : HX.Cl := (.ref (He.ga K h.c), h.sl, fun a cls d => fun De σ H => ∃ B : Bs (some (a, cls, d)), ∃ w ms s A, Lk K B w ms s σ H ∧ h.su A s ms ∧ EndsR K B w ⟨fun _ _ _ _ => False, some (a, cls, d)⟩ A De)
inductive AHds (X : Cx) : List ExceptHandler → List ACl → Prop
  | nil : AHds X [] []
  | plain {x : Str} {tbl : List (Str × Bool)} {su : aS} {b0 : Stmt} {sts : List Stmt} {np p : Pos} {hds : List ExceptHandler} {l : List ACl} (hg : Gl X x) (hdb : (x == ("__debug__" : Str)) = false) (hm : X.mg x = some (.ref (He.ga X.K x)))
      (ht : ∀ q ∈ tbl, PySem.W.exmOne X.K (.ref (He.ga X.K q.1)) (.ref (He.ga X.K x)) = some q.2)
      (hsu : ∀ (a : Addr) (oe : Obj) (cls : Value) (d : Option Addr) (pn : List (Addr × Obj)), L2N.Zn cls d oe → (∃ vs, oe.data = .fields vs) → ASs (X.suite a ((a, oe) :: pn)) ⟨fun _ _ _ _ => False, some (a, cls, d)⟩ (b0 :: sts) su) (r : AHds X hds l) :
      AHds X (.ExceptHandler (some (.Name x np)) none (b0 :: sts) p :: hds) (⟨x, tbl, none, su⟩ :: l)
  | named {x n : Str} {i : Nat} {tbl : List (Str × Bool)} {su : aS} {b0 : Stmt} {sts : List Stmt} {np p : Pos} {hds : List ExceptHandler} {l : List ACl} (hi : X.N[i]? = some n) (hl : X.env.kindOf n = some .local) (hg : Gl X x) (hdb : (x == ("__debug__" : Str)) = false) (hm : X.mg x = some (.ref (He.ga X.K x)))
      (ht : ∀ q ∈ tbl, PySem.W.exmOne X.K (.ref (He.ga X.K q.1)) (.ref (He.ga X.K x)) = some q.2)
      (hsu : ∀ (a : Addr) (oe : Obj) (cls : Value) (d : Option Addr) (pn : List (Addr × Obj)), L2N.Zn cls d oe → (∃ vs, oe.data = .fields vs) → ASs (X.suite a ((a, oe) :: pn)) ⟨fun _ _ _ _ => False, some (a, cls, d)⟩ (b0 :: sts) su) (r : AHds X hds l) :
      AHds X (.ExceptHandler (some (.Name x np)) (some n) (b0 :: sts) p :: hds) (⟨x, tbl, some i, su⟩ :: l)
theorem AHds.hds {hds : List ExceptHandler} {l : List ACl} (h : AHds X hds l) : HX.HdsA X hds (l.map (clOf X.K)) := by
  induction h with
  | nil => exact .nil
  | plain hg hdb hm ht hsu r ih => exact .plain ⟨hg, hdb, .inl hm⟩ (fun a oe cls d pn hz hf => PSs.imp (hsu a oe cls d pn hz hf) fun De σ H h => h) ih
  | named hi hl hg hdb hm ht hsu r ih => exact .named hi hl ⟨hg, hdb, .inl hm⟩ (fun a oe cls d pn hz hf => PSs.imp (hsu a oe cls d pn hz hf) fun De σ H h => h) ih
theorem lookup_mem {α : Type} {tbl : List (Str × α)} {x : Str} {b : α} (h : tbl.lookup x = some b) : (x, b) ∈ tbl := by
  induction tbl with
  | nil => cases h
  | cons p r ih =>
    obtain ⟨k, v⟩ := p
    rw [List.lookup_cons] at h
    cases e : x == k with
    | true => rw [e] at h; cases h; rw [beq_iff_eq.mp e]; exact List.mem_cons_self
    | false => rw [e] at h; exact List.mem_cons_of_mem _ (ih h)
theorem cls_ok {hds : List ExceptHandler} {l : List ACl} (hh : AHds X hds l) {B : Bs none} {w : W} {A : AEnds} {De : Ends} (en : EndsR X.K B w ⟨Wq, none⟩ A De) :
    ∀ {w' : W} {ms' : MS} {s' : ASt} {σ' : L2.St} {H' : Hp} {cls : Value} {d : Option Addr} {x : XD}, Le X.K w w' → Lk X.K B w' ms' s' σ' H' → RepX X.K w' cls d x → aCls A x s' ms' l → HX.wCls X.K Wq De (l.map (clOf X.K)) cls d σ' H' := by
  have back : ∀ {w' : W} {a : Addr} {cls : Value} {d : Option Addr} {De' : Ends} {sl : Option Nat}, Le X.K w w' → (De' = match sl with | some i => HX.gone i De | none => De) → EndsR X.K (B.as' : Bs (some (a, cls, d))) w' ⟨fun _ _ _ _ => False, some (a, cls, d)⟩ (suA A sl) De' := fun {w' a cls d De' sl} le e => by
    subst e
    have bb : ((B.as' : Bs (some (a, cls, d))).as' : Bs none) = B := rfl
    refine ⟨fun w2 ms2 H2 s2 σ2 le2 L2 q => ?_, fun w2 ms2 H2 s2 σ2 le2 L2 q => ?_, fun w2 ms2 H2 s2 σ2 le2 L2 q => ?_, fun w2 ms2 H2 s2 σ2 v dd le2 L2 r q => ?_, fun _ _ _ _ _ _ _ _ _ _ _ q => q.elim⟩
    · cases sl with
      | none => exact en.nx w2 ms2 H2 _ σ2 (le.trans le2) (L2.rebase (ex' := none)) q
      | some i => exact en.nx w2 ms2 H2 _ _ (le.trans le2) ((L2.unset i none).rebase (ex' := none)) q
    · cases sl with
      | none => exact en.bk w2 ms2 H2 _ σ2 (le.trans le2) (L2.rebase (ex' := none)) q
      | some i => exact en.bk w2 ms2 H2 _ _ (le.trans le2) ((L2.unset i none).rebase (ex' := none)) q
    · cases sl with
      | none => exact en.ct w2 ms2 H2 _ σ2 (le.trans le2) (L2.rebase (ex' := none)) q
      | some i => exact en.ct w2 ms2 H2 _ _ (le.trans le2) ((L2.unset i none).rebase (ex' := none)) q
    · cases sl with
      | none => exact en.rt w2 ms2 H2 _ σ2 v dd (le.trans le2) (L2.rebase (ex' := none)) r q
      | some i => exact en.rt w2 ms2 H2 _ σ2 v dd (le.trans le2) (L2.rebase (ex' := none)) r q
  have noEx : ∀ {w' : W} {ms' : MS} {s' : ASt} {σ' : L2.St} {H' : Hp}, Lk X.K B w' ms' s' σ' H' → clr s' = s' := fun {w' ms' s' σ' H'} L => by
    unfold clr
    refine List.ext_getElem? fun i => ?_
    rw [List.getElem?_map]
    cases e : s'[i]? with
    | none => rfl
    | some o =>
      cases o with
      | none => rfl
      | some v =>
        cases v with
        | fr d => rfl
        | ow m => rfl
        | ex x => obtain ⟨_, _, _, z, _⟩ := L.sl i _ e; cases z
  induction hh with
  | nil => intro w' ms' s' σ' H' cls d x le L rx h; exact en.ex w' ms' H' s' σ' cls d x le L rx h
  | @plain x0 tbl su b0 sts np p hds l hg hdb hm ht hsu r ih =>
    intro w' ms' s' σ' H' cls d x le L rx h
    obtain ⟨b, hb, h⟩ := gotI_of h
    have hex := ht _ (lookup_mem hb)
    refine ⟨b, by rw [rx.1]; exact hex, fun e a _ => ?_, fun e => ?_⟩
    · subst e
      have L1 := L.rebase (ex' := some (a, cls, d))
      rw [noEx L] at L1
      exact ⟨B.as', w', ms', s', _, L1, h, back (sl := none) le rfl⟩
    · subst e; exact ih le L rx h
  | @named x0 n i tbl su b0 sts np p hds l hi hl hg hdb hm ht hsu r ih =>
    intro w' ms' s' σ' H' cls d x le L rx h
    obtain ⟨b, hb, h⟩ := gotI_of h
    have hex := ht _ (lookup_mem hb)
    refine ⟨b, by rw [rx.1]; exact hex, fun e a _ => ?_, fun e => ?_⟩
    · subst e
      have L1 := L.rebase (ex' := some (a, cls, d))
      rw [noEx L] at L1
      refine ⟨B.as', w', ms', s'.set i (some (.ex x)), _, ?_, h, back (sl := some i) le rfl⟩
      have L2 := L1.unset i (some (.ref a))
      refine ⟨L2.s0, L2.keep, L2.pre, L2.bas, L2.fz, by have := L2.len; simpa using this, fun j av h => ?_, fun j k p mi mj h1 h2 h3 h4 => ?_, L2.bf, fun y m hy h => ?_⟩
      · by_cases z : i = j
        · subst z
          have hl : i < s'.length := by have := (List.getElem?_eq_some_iff.mp h).1; simpa using this
          rw [List.getElem?_set_self hl] at h
          cases h
          exact ⟨a, cls, d, rfl, by rw [List.getElem?_set_self (by rw [← L.len]; exact hl)], rx⟩
        · refine L2.sl j av ?_
          rw [List.getElem?_set_ne z] at h ⊢; exact h
      · have ne : ∀ {j m}, (s'.set i (some (.ex x)))[j]? = some (some (AV.ow m)) → (s'.set i none)[j]? = some (some (AV.ow m)) := fun {j m} e => by
          by_cases z : i = j
          · subst z
            have hl : i < s'.length := by have := (List.getElem?_eq_some_iff.mp e).1; simpa using this
            rw [List.getElem?_set_self hl] at e; cases e
          · rw [List.getElem?_set_ne z] at e ⊢; exact e
        exact L2.dj j k p mi mj (ne h1) (ne h2) h3 h4
      · by_cases z : i = 0
        · subst z
          have hl : 0 < s'.length := by have := (List.getElem?_eq_some_iff.mp h).1; simpa using this
          rw [List.getElem?_set_self hl] at h; cases h
        · refine L2.sf y m hy ?_
          rw [List.getElem?_set_ne z] at h ⊢; exact h
    · subst e; exact ih le L rx h
theorem as_try {body : List Stmt} {h0 : ExceptHandler} {hds : List ExceptHandler} {l : List ACl} {pos : Pos} {tb : aS} (hs : X.stack = X.env :: X.outer) (hf : X.env.frame = some X.env.locals) (hN : X.N.Nodup) (tk : L2N.Takes X Wq)
    (hb : ∀ (W' : WX) (pn : List (Addr × Obj)) (xe : Value → Shared → Prop), L2N.Takes (X.tr pn xe) W' → PassesOwn (model X.prog X.w) X.A X.env xe → ASs (X.tr pn xe) ⟨W', none⟩ body tb) (hh : AHds X (h0 :: hds) l) : AS X ⟨Wq, none⟩ (.Try body (h0 :: hds) [] [] pos) (aTry tb l) :=
  PS.imp (HX.ps_tryA (tb := fun W' => cS X.K ⟨W', none⟩ tb) hs hf hN tk hb hh.hds) fun De σ H ⟨B, w, ms, s, A, L, h, en⟩ => ⟨B, w, ms, s, _, L, h, ⟨en.nx, en.bk, en.ct, en.rt, fun w' ms' H' s' σ' cl ad x le L' rx q => cls_ok (X := X) (Wq := Wq) hh en le L' rx q⟩⟩
/-- e.f of the error that is handled -/
def aXf (i : Nat) (f : Str) : aE := fun s ms Q _ => match s[i]? with
  | some (some (.ex x)) => gotF (x.2.lookup f) fun d => Q d ms
  | _ => False
theorem ae_xf {a : Addr} {oe : Obj} {cls : Value} {d : Option Addr} {pn : List (Addr × Obj)} {c f n : Str} {i : Nat} {p pos : Pos} {Wx : WX} (T : XfC X.K (He.ga X.K c)) (hno : PySem.W.findIn X.K (.ref (He.ga X.K c)) f = some none) (hz : L2N.Zn cls d oe) (hf : ∃ vs, oe.data = .fields vs)
    (he : PE (X.suite a ((a, oe) :: pn)) (.Name n p) (tVar i)) : AE (X.suite a ((a, oe) :: pn)) ⟨Wx, some (a, cls, d)⟩ (.Attribute (.Name n p) f pos) (fun s ms Q E => (match s[i]? with
      | some (some (.ex x)) => x.1 = c
      | _ => False) ∧ aXf i f s ms Q E) :=
  PE.imp (pe_xf T hno hz.zc hf he) fun σ H R ⟨B, w, ms, s, Q, E, L, ⟨hc, h⟩, hq, hx⟩ => by
    unfold aXf at h
    split at h
    · rename_i x e
      rw [e] at hc
      unfold gotF at h
      split at h
      · rename_i y hy
        obtain ⟨a', c', d', e0, e1, rx⟩ := L.sl i _ e
        cases e0
        obtain ⟨rc, rd⟩ := rx
        rcases rd with ⟨_, e2⟩ | ⟨ad, fs, rfl, hF, rf⟩
        · rw [e2] at hy; cases hy
        · obtain ⟨v, hv, rv⟩ := rf.lookup hy
          refine ⟨_, e1, rfl, ?_, ad, fs, v, rfl, L.s0.fh _ _ hF, hv, hq w ms H v y (Le.refl _ _) L rv h⟩
          rw [rc, hc]
      · exact h.elim
    · exact h.elim
end
end LA

set_option Elab.async false
set_option linter.all false
set_option maxRecDepth 100000
set_option maxHeartbeats 4000000
/-! LA11: steps of readings; the source of numbers. -/
namespace LA
open PySem PySem.Spec PyProof.Rows L2
theorem br_d {c : Prop} [Decidable c] {p q : MS → Prop} {ms : MS} (h1 : c → p ms) (h2 : ¬c → q ms) : Br (decide c) p q ms := by
  by_cases h : c
  · rw [decide_eq_true h]; exact h1 h
  · rw [decide_eq_false h]; exact h2 h
theorem br_b {c : Bool} {p q : MS → Prop} {ms : MS} (h1 : c = true → p ms) (h2 : c = false → q ms) : Br c p q ms := by
  cases c
  · exact h2 rfl
  · exact h1 rfl
theorem br_t {p q : MS → Prop} {ms : MS} : Br true p q ms = p ms := rfl
theorem br_f {p q : MS → Prop} {ms : MS} : Br false p q ms = q ms := rfl
theorem atI_lit {α : Type} (xs : List α) (n : Nat) : atI xs (no_index (@OfNat.ofNat Int n instOfNat)) = xs[n]? := by
  show (ixN xs.length (n : Int)).bind _ = _
  unfold ixN
  rw [if_pos (by omega)]
  by_cases h : (n : Int) < xs.length
  · rw [if_pos h]; rfl
  · rw [if_neg h]
    rw [List.getElem?_eq_none (by omega)]
    rfl
theorem atI_nat {α : Type} (xs : List α) (n : Nat) : atI xs (n : Int) = xs[n]? := atI_lit xs n
theorem atI_neg {α : Type} (xs : List α) (n : Nat) (h : 0 < n) (k : n ≤ xs.length) : atI xs (-(n : Int)) = xs[xs.length - n]? := by
  unfold atI ixN
  rw [if_neg (by omega), if_pos (by omega)]
  have : (-(n : Int) + xs.length).toNat = xs.length - n := by omega
  show xs[_]? = _
  rw [this]
theorem atI_in {α : Type} {xs : List α} {i : Int} (h0 : 0 ≤ i) (h : i.toNat < xs.length) : atI xs i = some xs[i.toNat] := by
  unfold atI ixN
  rw [if_pos h0, if_pos (by omega)]
  exact List.getElem?_eq_getElem h
theorem cut_from {xs : List D} (n : Nat) : cutD xs (some (no_index (@OfNat.ofNat Int n instOfNat))) none = xs.drop n := by
  unfold cutD
  have e : HT.sIx xs.length 0 (some (@OfNat.ofNat Int n instOfNat)) = min n xs.length := HT.sIx_nat _ _ n
  rw [HT.sIx_none, e]
  by_cases h : n ≤ xs.length
  · rw [Nat.min_eq_left h, List.take_of_length_le (by rw [List.length_drop]; exact Nat.le_refl _)]
  · rw [Nat.min_eq_right (by omega), List.drop_of_length_le (Nat.le_refl _), List.drop_of_length_le (by omega), List.take_nil]
theorem cut_fromI {xs : List D} {i : Int} (h0 : 0 ≤ i) : cutD xs (some i) none = xs.drop i.toNat := by
  have : i = (i.toNat : Int) := by omega
  rw [this]; exact cut_from i.toNat
theorem cut_to {xs : List D} {i : Int} (h0 : 0 ≤ i) : cutD xs none (some i) = xs.take i.toNat := by
  obtain ⟨n, rfl⟩ : ∃ n : Nat, i = n := ⟨i.toNat, by omega⟩
  unfold cutD
  rw [HT.sIx_none, HT.sIx_nat, List.drop_zero, Nat.sub_zero, Int.toNat_natCast]
  by_cases h : n ≤ xs.length
  · rw [Nat.min_eq_left h]
  · rw [Nat.min_eq_right (by omega), List.take_of_length_le (Nat.le_refl _), List.take_of_length_le (by omega)]
/-- the places of what an update of a cell's list leaves -/
theorem aft_rng {K : PySem.W.Frag} {w : W} {ms : MS} {H H' : Hp} {k : Nat} {a : Addr} (h0 : St0 K w ms H) (hk : ms[k]? = some .rng) (ha : w.as[k]? = some a) (ex : HX.ExB a H H') (hR : ∃ ns : List Int, H' a = some (.lst (ns.map V.int)) ∧ 2 ≤ ns.length) : Aft K w H w ms H' := by
  have am : a ∈ w.as := List.mem_of_getElem? ha
  refine ⟨⟨fun b o h => ex b o (fun z => ?_) (h0.fh b o h), h0.nd, h0.na, fun j m hj => ?_, h0.ln⟩, fun b o hb h => ex b o (fun z => hb (z ▸ am)) h, fun b hb => .inl hb, fun b hb => hb, fun b o h => .inl ⟨o, h⟩⟩
  · subst z; rw [h0.na _ am] at h; cases h
  · obtain ⟨b, hb, r⟩ := h0.ce j m hj
    refine ⟨b, hb, ?_⟩
    by_cases z : b = a
    · subst z
      have : j = k := (List.getElem?_inj (by
        have := (List.getElem?_eq_some_iff.mp hb).1; exact this) h0.nd).mp (hb.trans ha.symm)
      subst this
      rw [hk] at hj; cases hj
      obtain ⟨ns, e, l⟩ := hR
      exact .rng e l
    · exact r.mono (Le.refl K w) fun o h => ex b o z h
/-- each wish to a promise is one to another -/
theorem gfn_imp {P : Program} {w : World} {K : PySem.W.Frag} {mg : Str → Option Value} {base : Heap} {x : Str} {k : Nat} {ps : List Str} {sp sp' : Sp} (G : HX.GFn P w K mg base x k ps sp) (h : ∀ vs H Q E, sp' vs H Q E → sp vs H Q E) : HX.GFn P w K mg base x k ps sp' :=
  ⟨G.gm, G.kp, by obtain ⟨fd, F, b⟩ := G.fn; exact ⟨fd, F.imp h, b⟩⟩
theorem gfn_mono {P : Program} {w : World} {K : PySem.W.Frag} {mg : Str → Option Value} {base : Heap} {x : Str} {k j : Nat} {ps : List Str} {sp : Sp} (G : HX.GFn P w K mg base x k ps sp) (h : k ≤ j) : HX.GFn P w K mg base x j ps sp :=
  ⟨G.gm, G.kp, by obtain ⟨fd, F, b⟩ := G.fn; exact ⟨fd, F.mono h, b⟩⟩
/-- the source of numbers: below -/
def S_below : ASp := fun ds ms Q _ => ∃ n : Int, ds = [.ptr 0, .int n] ∧ ms[0]? = some .rng ∧ 0 < n ∧ n < 1073741824 ∧ ∀ r : Int, 0 ≤ r → r < n → Q (.int r) ms
def S_pick : ASp := fun ds ms Q _ => ∃ xs : List D, ds = [.ptr 0, .lst xs] ∧ ms[0]? = some .rng ∧ 0 < xs.length ∧ xs.length < 1000 ∧ ∀ x, x ∈ xs → Q x ms
theorem below_i {n : Int} {ms : MS} {Q : D → MS → Prop} {E : XD → MS → Prop} {t : Tag Q E} (hm : ms[0]? = some .rng) (h0 : 0 < n) (h1 : n < 1073741824) (k : ∀ r : Int, 0 ≤ r → r < n → Q (.int r) ms) : DoCall S_below [.ptr 0, .int n] ms Q E t := ⟨n, rfl, hm, h0, h1, k⟩
theorem pick_i {xs : List D} {ms : MS} {Q : D → MS → Prop} {E : XD → MS → Prop} {t : Tag Q E} (hm : ms[0]? = some .rng) (h0 : 0 < xs.length) (h1 : xs.length < 1000) (k : ∀ x, x ∈ xs → Q x ms) : DoCall S_pick [.ptr 0, .lst xs] ms Q E t := ⟨xs, rfl, hm, h0, h1, k⟩
theorem cut_toL {xs : List D} (n : Nat) : cutD xs none (some (no_index (@OfNat.ofNat Int n instOfNat))) = xs.take n := cut_to (i := (n : Int)) (by omega)
/-- a def of which nothing is wished -/
theorem gfn_none {P : Program} {w : World} {K : PySem.W.Frag} {mg : Str → Option Value} {base : Heap} {x : Str} {st : Stmt} {N ps : List Str} {k : Nat} {S : ASp} (D : HX.DefAt K x x st (He.ga K x)) (gm : mg x = some (.ref (He.ga K x))) (Sc : FnScope N ps (defScope st)) (hb : ∀ (kV doc pm : Value) (an : Option Addr) (cdv ct : Value) (us : List Value), us.length = ps.length → bindArgs (PySem.W.fnOf x x (defArgs st) (defBody st) (defScope st) .none kV doc pm an cdv ct) ⟨us, []⟩ = pure (ps.zip us))
    (h : ∀ ds ms Q E, ¬ S ds ms Q E) : HX.GFn P w K mg base x (k + 1) ps (spA K S) :=
  HX.gfn_of (sp := spA K S) D gm Sc (fun vs H Q E ⟨w, ms, ds, Qa, Ea, h0, r, hS, _⟩ => (h _ _ _ _ hS).elim) hb fun cdv A outer s H vs Q E hr ⟨w, ms, ds, Qa, Ea, h0, r, hS, _⟩ => (h _ _ _ _ hS).elim
end LA

set_option Elab.async false
set_option linter.all false
set_option maxRecDepth 100000
set_option maxHeartbeats 4000000
/-! LA12: steps, one by one. -/
namespace LA
open PySem PySem.Spec PyProof.Rows L2
section
variable {α : Type} {f : D → D → (D → Prop) → Prop} {c c' : Str} {x y d e : D} {xs ys ds : List D} {i j : Int} {n m : Nat} {a b : Bool} {u v : Str} {s : ASt} {ms : MS} {Q : D → MS → Prop} {E : XD → MS → Prop} {q : D → Prop} {A : AEnds} {t tb : aS} {ra rb : aE} {g : aG} {rs : aGs} {kB : Bool → Prop} {kL : List D → Prop} {kF : List (Str × D) → Prop} {kO : Option Int → Prop} {kM : MO → Prop} {kK : List (Key × D) → Prop} {kT : List (List Key × D) → Prop} {kY : Key → Prop} {fs : List (Str × D)} {kvs : List (Key × D)} {kts : List (List Key × D)} {lo hi : Option Int} {N : ASt → MS → Prop} {p : Prop} {k : α → Prop} {w : α}
/-- a slot that holds data -/
def slotF (o : Option (Option AV)) (k : D → Prop) (t : Tag k k := .mk) : Prop := match o with
  | some (some (.fr d)) => k d
  | _ => False
theorem s_var : aVar n s ms Q E = slotF s[n]? (fun d => Q d ms) := by unfold aVar slotF; rfl
theorem s_slotF {k : D → Prop} : slotF (some (some (.fr d))) k = k d := rfl
theorem s_isB : isB (.bl a) kB = kB a := rfl
theorem s_brt {p q : MS → Prop} : Br true p q ms = p ms := rfl
theorem s_brf {p q : MS → Prop} : Br false p q ms = q ms := rfl
theorem s_gc : aGCons g rs (d :: ds) s ms N = g d s ms fun s1 ms1 => rs ds s1 ms1 N := rfl
theorem s_gn : aGNil [] s ms N = N s ms := by simp [aGNil]
theorem s_gt : aGTup n rs (.tup ds) s ms N = (ds.length = n ∧ rs ds s ms N) := rfl
/-- an own slot frozen -/
def slotZ (o : Option (Option AV)) (kd : D → Prop) (k0 : Prop) (t : Tag kd k0 := .mk) : Prop := match o with
  | some (some (.ow m)) => match m.d with
    | some d => kd d
    | none => False
  | some (some (.fr _)) => k0
  | _ => False
theorem s_fz : aFz n t A s ms = slotZ s[n]? (fun d => t A (s.set n (some (.fr d))) ms) (t A s ms) := by unfold aFz slotZ; rfl
theorem s_zl {kd : D → Prop} : slotZ (some (some (.ow (.lst xs)))) kd p = kd (.lst xs) := rfl
theorem s_zk {kd : D → Prop} : slotZ (some (some (.ow (.dk kvs)))) kd p = kd (.dk kvs) := rfl
theorem s_zt {kd : D → Prop} : slotZ (some (some (.ow (.dt kts)))) kd p = kd (.dt kts) := rfl
theorem s_zi {kd : D → Prop} : slotZ (some (some (.ow (.ins c fs)))) kd p = kd (.ins c fs) := rfl
theorem s_zf {kd : D → Prop} : slotZ (some (some (.fr d))) kd p = p := rfl
theorem s_isIns : isIns c (.ins c' fs) ms kF = (c' = c ∧ kF fs) := rfl
theorem s_isInC {cs : List Str} : isInC cs (.ins c fs) ms kF = (c ∈ cs ∧ kF fs) := rfl
def cellI (o : Option MO) (k : Str → List (Str × D) → Prop) (t : Tag k k := .mk) : Prop := match o with
  | some (.ins c' fs) => k c' fs
  | _ => False
theorem s_cellI {k : Str → List (Str × D) → Prop} : cellI (some (.ins c fs)) k = k c fs := rfl
theorem s_isInsP : isIns c (.ptr n) ms kF = cellI ms[n]? fun c' fs => c' = c ∧ kF fs := by unfold isIns cellI; rfl
theorem s_isInCP {cs : List Str} : isInC cs (.ptr n) ms kF = cellI ms[n]? fun c' fs => c' ∈ cs ∧ kF fs := by unfold isInC cellI; rfl
theorem s_gotF {k : D → Prop} : gotF (some d) k = k d := rfl
theorem s_gotI : gotI (some w) k = k w := rfl
theorem s_add : fAdd (.int i) (.int j) q = q (.int (i + j)) := rfl
theorem s_addS : fAdd (.str u) (.str v) q = (u.length + v.length ≤ sizeLine ∧ q (.str (u ++ v))) := rfl
theorem s_addT : fAdd (.tup xs) (.tup ys) q = (xs.length + ys.length ≤ sizeLine ∧ q (.tup (xs ++ ys))) := rfl
theorem s_addL : fAdd (.lst xs) (.lst ys) q = (xs.length + ys.length ≤ sizeLine ∧ q (.lst (xs ++ ys))) := rfl
theorem s_sub : fSub (.int i) (.int j) q = q (.int (i - j)) := rfl
theorem s_mul : fMul (.int i) (.int j) q = (MulOk i j ∧ q (.int (i * j))) := rfl
theorem s_mod : fMod (.int i) (.int j) q = (0 < j ∧ q (.int (i % j))) := rfl
theorem s_div : fDiv (.int i) (.int j) q = (DivOk i j ∧ q (.int (i / j))) := rfl
theorem s_pow : fPow (.int i) (.int j) q = (CPow i j ∧ q (.int (i ^ j.toNat))) := rfl
theorem s_neg : fNeg (.int i) q = q (.int (-i)) := rfl
theorem s_eqI : fEq (.int i) (.int j) q = q (.bl (decide (i = j))) := rfl
theorem s_eqS : fEq (.str u) (.str v) q = q (.bl (decide (u = v))) := rfl
theorem s_eqB : fEq (.bl a) (.bl b) q = q (.bl (decide (a = b))) := rfl
theorem s_eqIS : fEq (.int i) (.str v) q = q (.bl false) := rfl
theorem s_eqSI : fEq (.str v) (.int i) q = q (.bl false) := rfl
theorem s_eqNS : fEq .non (.str v) q = q (.bl false) := rfl
theorem s_eqSN : fEq (.str v) .non q = q (.bl false) := rfl
theorem s_eqTT : fEq (.tup xs) (.tup ys) q = EqDeep (.tup xs) (.tup ys) fun b => q (.bl b) := rfl
theorem s_eqLL : fEq (.lst xs) (.lst ys) q = EqDeep (.lst xs) (.lst ys) fun b => q (.bl b) := rfl
theorem s_neI : fNe (.int i) (.int j) q = q (.bl (!decide (i = j))) := rfl
theorem s_neS : fNe (.str u) (.str v) q = q (.bl (!decide (u = v))) := rfl
theorem s_neB : fNe (.bl a) (.bl b) q = q (.bl (!decide (a = b))) := rfl
theorem s_neTT : fNe (.tup xs) (.tup ys) q = EqDeep (.tup xs) (.tup ys) fun b => q (.bl (!b)) := rfl
theorem s_neLL : fNe (.lst xs) (.lst ys) q = EqDeep (.lst xs) (.lst ys) fun b => q (.bl (!b)) := rfl
theorem s_lt : fLt (.int i) (.int j) q = q (.bl (decide (i < j))) := rfl
theorem s_le : fLe (.int i) (.int j) q = q (.bl (decide (i ≤ j))) := rfl
theorem s_gt' : fGt (.int i) (.int j) q = q (.bl (decide (j < i))) := rfl
theorem s_ge : fGe (.int i) (.int j) q = q (.bl (decide (j ≤ i))) := rfl
theorem s_is : fIs x .non q = q (.bl (isNon x)) := rfl
theorem s_isn : fIsNot x .non q = q (.bl (!isNon x)) := rfl
theorem s_n0 : isNon .non = true := rfl
theorem s_n1 : isNon (.bl a) = false := rfl
theorem s_n2 : isNon (.int i) = false := rfl
theorem s_n3 : isNon (.str u) = false := rfl
theorem s_n4 : isNon (.tup xs) = false := rfl
theorem s_n5 : isNon (.lst xs) = false := rfl
theorem s_n6 : isNon (.ins c fs) = false := rfl
theorem s_n7 : isNon (.ptr n) = false := rfl
theorem s_n8 : isNon (.dk kvs) = false := rfl
theorem s_inL : fIn x (.lst ys) q = (flatD x = true ∧ ys.all flatD = true ∧ q (.bl (inFlat x ys))) := rfl
theorem s_inT : fIn x (.tup ys) q = (flatD x = true ∧ ys.all flatD = true ∧ q (.bl (inFlat x ys))) := rfl
theorem s_inS : fIn (.str u) (.str v) q = q (.bl (subStr u v)) := rfl
theorem s_niL : fNotIn x (.lst ys) q = (flatD x = true ∧ ys.all flatD = true ∧ q (.bl (!inFlat x ys))) := rfl
theorem s_niT : fNotIn x (.tup ys) q = (flatD x = true ∧ ys.all flatD = true ∧ q (.bl (!inFlat x ys))) := rfl
theorem s_niS : fNotIn (.str u) (.str v) q = q (.bl (!subStr u v)) := rfl
theorem s_f0 : flatD .non = true := rfl
theorem s_f1 : flatD (.bl a) = true := rfl
theorem s_f2 : flatD (.int i) = true := rfl
theorem s_f3 : flatD (.str u) = true := rfl
theorem s_if0 : inFlat x [] = false := rfl
theorem s_if1 : inFlat x (y :: ys) = (eqFlat y x || inFlat x ys) := by simp [inFlat]
theorem s_ef1 : eqFlat (.str u) (.str v) = decide (u = v) := rfl
theorem s_ef2 : eqFlat (.int i) (.int j) = decide (i = j) := rfl
theorem s_ixL : fIx (.lst xs) (.int i) q = gotI (atI xs i) q := rfl
theorem s_ixT : fIx (.tup xs) (.int i) q = gotI (atI xs i) q := rfl
theorem s_ixS : fIx (.str u) (.int i) q = (u.length ≤ sizeLine ∧ gotI (atI u.cps.toList i) fun c => q (.str ⟨#[c]⟩)) := rfl
theorem s_pInt : pInt (.int i) kO = kO (some i) := rfl
theorem s_cutL : fCut (.lst xs) lo hi q = q (.lst (cutD xs lo hi)) := rfl
theorem s_cutT : fCut (.tup xs) lo hi q = q (.tup (cutD xs lo hi)) := rfl
theorem s_lenL : fLen [.lst xs] q = q (.int xs.length) := rfl
theorem s_lenT : fLen [.tup xs] q = q (.int xs.length) := rfl
theorem s_lenDK : fLen [.dk kvs] q = q (.int kvs.length) := rfl
theorem s_lenS : fLen [.str u] q = (u.length ≤ sizeLine ∧ q (.int u.length)) := rfl
theorem s_intI : fInt [.int i] q = q (.int i) := rfl
theorem s_intB : fInt [.bl a] q = q (.int (if a then 1 else 0)) := rfl
theorem s_abs : fAbs [.int i] q = q (.int (if i < 0 then -i else i)) := rfl
theorem s_strI : fStr [.int i] q = (i.natAbs.log2 < 1920 ∧ q (.str (toString i))) := rfl
theorem s_strS : fStr [.str u] q = q (.str u) := rfl
theorem s_in0 : intsD [] = some [] := rfl
theorem s_in1 : intsD (.int i :: xs) = (intsD xs).map (i :: ·) := rfl
theorem s_bl0 : blsD [] = some [] := rfl
theorem s_bl1 : blsD (.bl a :: xs) = (blsD xs).map (a :: ·) := rfl
theorem s_isL : isL (.lst xs) kL = kL xs := rfl
theorem s_sum : fSum [.lst xs] q = gotI (intsD xs) fun ns => q (.int ns.sum) := rfl
theorem s_max : fMax [.lst xs] q = gotI (intsD xs) fun ns => 0 < ns.length ∧ ∀ m, m ∈ ns → (∀ y, y ∈ ns → y ≤ m) → q (.int m) := rfl
theorem s_min : fMin [.lst xs] q = gotI (intsD xs) fun ns => 0 < ns.length ∧ ∀ m, m ∈ ns → (∀ y, y ∈ ns → m ≤ y) → q (.int m) := rfl
theorem s_max2 : fMax2 [.int i, .int j] q = q (.int (if j > i then j else i)) := rfl
theorem s_min2 : fMin2 [.int i, .int j] q = q (.int (if j < i then j else i)) := rfl
theorem s_all : fAll [.lst xs] q = gotI (blsD xs) fun bs => q (.bl (bs.all id)) := rfl
theorem s_any : fAny [.lst xs] q = gotI (blsD xs) fun bs => q (.bl (bs.any id)) := rfl
theorem s_liL : fList [.lst xs] q = q (.lst xs) := rfl
theorem s_liT : fList [.tup xs] q = q (.lst xs) := rfl
theorem s_tuL : fTuple [.lst xs] q = q (.tup xs) := rfl
theorem s_tuT : fTuple [.tup xs] q = q (.tup xs) := rfl
theorem s_ty {n : String} : fIsTy [x, .ty n] q = gotI (isTy n x) fun b => q (.bl b) := rfl
theorem s_ty0 {n : String} : isTy n .non = kitB "NoneType" n := rfl
theorem s_ty1 {n : String} : isTy n (.bl a) = kitB "bool" n := rfl
theorem s_ty2 {n : String} : isTy n (.int i) = kitB "int" n := rfl
theorem s_ty3 {n : String} : isTy n (.str u) = kitB "str" n := rfl
theorem s_ty4 {n : String} : isTy n (.tup xs) = kitB "tuple" n := rfl
theorem s_ty5 {n : String} : isTy n (.lst xs) = kitB "list" n := rfl
theorem s_ty6 {n : String} : isTy n (.dk kvs) = kitB "dict" n := rfl
theorem s_own : fIsOwn c [x, .cls c'] q = (c' = c ∧ gotI (isOwn c x) fun b => q (.bl b)) := rfl
theorem s_ow0 : isOwn c .non = some false := rfl
theorem s_ow1 : isOwn c (.bl a) = some false := rfl
theorem s_ow2 : isOwn c (.int i) = some false := rfl
theorem s_ow3 : isOwn c (.str u) = some false := rfl
theorem s_ow4 : isOwn c (.tup xs) = some false := rfl
theorem s_ow5 : isOwn c (.lst xs) = some false := rfl
theorem s_ow6 : isOwn c (.ins c fs) = some true := if_pos rfl
def slotO (o : Option (Option AV)) (k : MO → Prop) (t : Tag k k := .mk) : Prop := match o with
  | some (some (AV.ow m)) => k m
  | _ => False
theorem s_ownAt : ownAt n s kM = slotO s[n]? kM := by unfold ownAt slotO; rfl
theorem s_slotO {m : MO} : slotO (some (some (AV.ow m))) kM = kM m := rfl
theorem s_moL : moL (.lst xs) kL = kL xs := rfl
theorem s_moK : moK (.dk kvs) kK = kK kvs := rfl
theorem s_moT : moT (.dt kts) kT = kT kts := rfl
theorem s_moI : moI c (.ins c' fs) kF = (c' = c ∧ kF fs) := rfl
theorem s_keyI : isKey (.int i) kY = kY (.inl i) := rfl
theorem s_keyS : isKey (.str u) kY = kY (.inr u) := rfl
theorem s_get : fGet (.dk kvs) y q = isKey y fun k => gotI (valD kvs k) q := rfl
theorem s_has : fHas x (.dk kvs) q = isKey x fun k => q (.bl (valD kvs k).isSome) := rfl
theorem s_hasN : fHasNot x (.dk kvs) q = isKey x fun k => q (.bl (!(valD kvs k).isSome)) := rfl
theorem s_isDK : isDK (.dk kvs) kK = kK kvs := rfl
theorem s_oth1 : othD c (.int i) ms p = p := rfl
theorem s_othT : othD c (.tup xs) ms p = p := rfl
theorem s_oth2 : othD c (.ins c' fs) ms p = (c' = c ∧ p) := rfl
theorem s_othP : othD c (.ptr n) ms p = cellI ms[n]? fun c' _ => c' = c ∧ p := by unfold othD cellI; rfl
theorem s_self0 {mm : MO} {s : ASt} : selfIs (some (.ow (.ins c fs)) :: s) c' kF = (c = c' ∧ kF fs) := rfl
/-- the items of a list, a tuple -/
def itemsD (x : D) (k : List D → Prop) : Prop := match x with
  | .lst ds => k ds
  | .tup ds => k ds
  | _ => False
theorem s_items {Q : List D → MS → Prop} : aItems ra s ms Q E = ra s ms (fun x ms1 => itemsD x fun ds => Q ds ms1) E := by unfold aItems itemsD; rfl
theorem s_itL : itemsD (.lst xs) kL = kL xs := rfl
theorem s_itT : itemsD (.tup xs) kL = kL xs := rfl
def signsD (x : D) (k : List D → Prop) : Prop := match x with
  | .str z => k (signs z)
  | _ => False
theorem s_signs {Q : List D → MS → Prop} : aSigns ra s ms Q E = ra s ms (fun x ms1 => signsD x fun ds => Q ds ms1) E := by unfold aSigns signsD; rfl
theorem s_sg : signsD (.str u) kL = kL (signs u) := rfl
def enumK (x : D) (k : List D → Prop) : Prop := match x with
  | .lst ds => k (enumD 0 ds)
  | .tup ds => k (enumD 0 ds)
  | .str z => k (enumD 0 (signs z))
  | _ => False
theorem s_enum {Q : List D → MS → Prop} : aEnum ra s ms Q E = ra s ms (fun x ms1 => enumK x fun ds => Q ds ms1) E := by unfold aEnum enumK; rfl
theorem s_enL : enumK (.lst xs) kL = kL (enumD 0 xs) := rfl
theorem s_enT : enumK (.tup xs) kL = kL (enumD 0 xs) := rfl
theorem s_enS : enumK (.str u) kL = kL (enumD 0 (signs u)) := rfl
def rng1 (x : D) (k : List D → Prop) : Prop := match x with
  | .int j => -(2 ^ 62) ≤ j ∧ j < 2 ^ 62 ∧ k (rangeD 0 j.toNat)
  | _ => False
theorem s_r1 {Q : List D → MS → Prop} : aRange1 ra s ms Q E = ra s ms (fun x ms1 => rng1 x fun ds => Q ds ms1) E := by unfold aRange1 rng1; rfl
theorem s_r1i : rng1 (.int j) kL = (-(2 ^ 62) ≤ j ∧ j < 2 ^ 62 ∧ kL (rangeD 0 j.toNat)) := rfl
def rng2 (x y : D) (k : List D → Prop) : Prop := match x, y with
  | .int i, .int j => -(2 ^ 62) ≤ i ∧ i < 2 ^ 62 ∧ -(2 ^ 62) ≤ j ∧ j < 2 ^ 62 ∧ k (rangeD i (j - i).toNat)
  | _, _ => False
theorem s_r2 {Q : List D → MS → Prop} : aRange2 ra rb s ms Q E = ra s ms (fun x ms1 => rb s ms1 (fun y ms2 => rng2 x y fun ds => Q ds ms2) E) E := by unfold aRange2 rng2; rfl
theorem s_r2i : rng2 (.int i) (.int j) kL = (-(2 ^ 62) ≤ i ∧ i < 2 ^ 62 ∧ -(2 ^ 62) ≤ j ∧ j < 2 ^ 62 ∧ kL (rangeD i (j - i).toNat)) := rfl
theorem forL_eq {ds : List D} : ForL g tb ds A s ms = aForL g tb ds A s ms := propext ⟨fun h => h.h, fun h => ⟨h⟩⟩
theorem s_for0 : ForL g tb [] A s ms = A.nx s ms := forL_eq
theorem s_forS : ForL g tb (d :: ds) A s ms = g d s ms fun s1 ms1 => tb { A with nx := fun s ms => ForL g tb ds A s ms, ct := fun s ms => ForL g tb ds A s ms, bk := A.nx } s1 ms1 := by
  have e : (fun s ms => ForL g tb ds A s ms) = aForL g tb ds A := by funext s ms; exact forL_eq
  rw [forL_eq, e]; rfl
/-- a fresh object as data -/
def moD (m : MO) (k : D → Prop) : Prop := match m.d with
  | some d => k d
  | none => False
theorem s_new {fF : aF} : aNew fF s ms Q E = fF s ms (fun m ms1 => moD m fun d => Q d ms1) E := by unfold aNew moD; rfl
theorem s_moDl {k : D → Prop} : moD (.lst xs) k = k (.lst xs) := rfl
theorem s_moDk {k : D → Prop} : moD (.dk kvs) k = k (.dk kvs) := rfl
theorem s_moDt {k : D → Prop} : moD (.dt kts) k = k (.dt kts) := rfl
theorem s_lk0 {z : Str} : List.lookup z ([] : List (Str × D)) = none := rfl
theorem s_lk1 {z : Str} : List.lookup z ((z, d) :: fs) = some d := by simp [List.lookup]
theorem s_lkE {z z' : String} : List.lookup (Str.ofString z) ((Str.ofString z', d) :: fs) = if z = z' then some d else List.lookup (Str.ofString z) fs := by
  rw [List.lookup_cons]
  by_cases h : z = z'
  · subst h; rw [if_pos rfl, beq_self_eq_true]
  · rw [if_neg h]
    have : (Str.ofString z == Str.ofString z') = false := by
      rw [beq_eq_false_iff_ne]; intro e; rw [str_eq] at e; exact h e
    rw [this]
theorem s_kit {x y : String} (h : kitB x y = some a) : kitB x y = some a := h
end
/-- a loop in which each item does the same -/
theorem forL_inv0 {g : aG} {tb : aS} {A : AEnds} (I : ASt → MS → Prop) : ∀ (ds : List D) (s : ASt) (ms : MS), I s ms → (∀ d ∈ ds, ∀ s ms, I s ms → ∀ N : ASt → MS → Prop, (∀ s ms, I s ms → N s ms) → g d s ms fun s1 ms1 => tb { A with nx := N, ct := N, bk := A.nx } s1 ms1) → (∀ s ms, I s ms → A.nx s ms) → aForL g tb ds A s ms
  | [], s, ms, h, _, k => k s ms h
  | d :: r, s, ms, h, st, k => st d List.mem_cons_self s ms h (aForL g tb r A) fun s' ms' h' => forL_inv0 I r s' ms' h' (fun d hd => st d (List.mem_cons_of_mem _ hd)) k
theorem forL_inv {g : aG} {tb : aS} {A : AEnds} {t : Tag A A} (I : ASt → MS → Prop) (ds : List D) (s : ASt) (ms : MS) (h : I s ms) (st : ∀ d ∈ ds, ∀ s ms, I s ms → ∀ N : ASt → MS → Prop, (∀ s ms, I s ms → N s ms) → g d s ms fun s1 ms1 => tb { A with nx := N, ct := N, bk := A.nx } s1 ms1) (k : ∀ s ms, I s ms → A.nx s ms) : ForL g tb ds A s ms t :=
  ⟨forL_inv0 I ds s ms h st k⟩
/-- .. with what went before -/
theorem forL_pre {g : aG} {tb : aS} {A : AEnds} {all : List D} (I : Nat → ASt → MS → Prop) : ∀ (i : Nat) (ds : List D) (s : ASt) (ms : MS), all.drop i = ds → I i s ms → (∀ i d s ms, all[i]? = some d → I i s ms → ∀ N : ASt → MS → Prop, (∀ s ms, I (i + 1) s ms → N s ms) → g d s ms fun s1 ms1 => tb { A with nx := N, ct := N, bk := A.nx } s1 ms1) → (∀ s ms, I all.length s ms → A.nx s ms) → i ≤ all.length → aForL g tb ds A s ms
  | i, [], s, ms, e, h, st, k, hi => by
    have : all.length ≤ i := List.drop_eq_nil_iff.mp e
    have : i = all.length := by omega
    subst this
    exact k s ms h
  | i, d :: r, s, ms, e, h, st, k, hi => by
    have hd : all[i]? = some d := by
      have := congrArg (fun l => l[0]?) e
      simpa using this
    refine st i d s ms hd h (aForL g tb r A) fun s' ms' h' => forL_pre I (i + 1) r s' ms' ?_ h' st k ?_
    · rw [← List.drop_drop, e]; rfl
    · have := (List.getElem?_eq_some_iff.mp hd).1; omega
theorem forL_at {g : aG} {tb : aS} {A : AEnds} {ds : List D} {s : ASt} {ms : MS} {t : Tag A A} (I : Nat → ASt → MS → Prop) (h : I 0 s ms) (st : ∀ i d s ms, ds[i]? = some d → I i s ms → ∀ N : ASt → MS → Prop, (∀ s ms, I (i + 1) s ms → N s ms) → g d s ms fun s1 ms1 => tb { A with nx := N, ct := N, bk := A.nx } s1 ms1) (k : ∀ s ms, I ds.length s ms → A.nx s ms) : ForL g tb ds A s ms t :=
  ⟨forL_pre I 0 ds s ms rfl h st k (Nat.zero_le _)⟩
/-- a comprehension whose items are told one by one -/
theorem lcL_pre {g : aG} {tt : aT} {te : aE} {s : ASt} {Q : List D → MS → Prop} {all : List D} (I : Nat → List D → MS → Prop) (hl : all.length ≤ sizeLine) : ∀ (i : Nat) (ds acc : List D) (ms : MS), all.drop i = ds → i ≤ all.length → acc.length ≤ i → I i acc ms →
    (∀ i d acc ms, all[i]? = some d → I i acc ms → ∀ N : List D → MS → Prop, (∀ acc' ms', I (i + 1) acc' ms' → acc'.length ≤ acc.length + 1 → N acc' ms') → g d s ms fun s2 ms2 => tt s2 ms2 (fun b ms3 => Br b (fun ms3 => te s2 ms3 (fun y ms4 => N (acc ++ [y]) ms4) fun _ _ => False) (fun ms3 => N acc ms3) ms3) fun _ _ => False) →
    (∀ acc ms, I all.length acc ms → Q acc ms) → (mono : ∀ (d : D) ms (N N' : ASt → MS → Prop), (∀ s ms, N s ms → N' s ms) → g d s ms N → g d s ms N') → (mt : ∀ s ms (N N' : Bool → MS → Prop) E, (∀ b ms, N b ms → N' b ms) → tt s ms N E → tt s ms N' E) → (me : ∀ s ms (N N' : D → MS → Prop) E, (∀ b ms, N b ms → N' b ms) → te s ms N E → te s ms N' E) → aLcL g tt te s ds acc ms Q := by
  intro i ds
  induction ds generalizing i with
  | nil =>
    intro acc ms e hi _ h st k _ _ _
    have : all.length ≤ i := List.drop_eq_nil_iff.mp e
    have : i = all.length := by omega
    subst this
    exact k acc ms h
  | cons d r ih =>
    intro acc ms e hi ha h st k mono mt me
    have hd : all[i]? = some d := by
      have := congrArg (fun l => l[0]?) e
      simpa using this
    have hi2 := (List.getElem?_eq_some_iff.mp hd).1
    have e2 : all.drop (i + 1) = r := by rw [← List.drop_drop, e]; rfl
    refine mono d ms _ _ ?_ (st i d acc ms hd h (fun acc' ms' => acc'.length ≤ i + 1 → aLcL g tt te s r acc' ms' Q) fun acc' ms' h' hl' hl2 => ih (i + 1) acc' ms' e2 (by omega) hl2 h' st k mono mt me)
    intro s2 ms2 q
    refine mt s2 ms2 _ _ _ ?_ q
    intro b ms3 q
    cases b with
    | true => exact me s2 ms3 _ _ _ (fun y ms4 q => ⟨by omega, q (by rw [List.length_append, List.length_singleton]; omega)⟩) q
    | false => exact q (by omega)
/-- what a comprehension may yield, item by item -/
inductive Outs (R : D → List D → Prop) : List D → List D → Prop
  | nil : Outs R [] []
  | cons {d : D} {zs : List D} {ds ys : List D} (h : R d zs) (r : Outs R ds ys) : Outs R (d :: ds) (zs ++ ys)
theorem lcL_gen0 {g : aG} {tt : aT} {te : aE} {s : ASt} {ms : MS} {Q : List D → MS → Prop} (R : D → List D → Prop) (h1 : ∀ d zs, R d zs → zs.length ≤ 1) : ∀ (ds acc : List D), acc.length + ds.length ≤ sizeLine →
    (∀ d ∈ ds, ∀ (acc : List D) (N : List D → MS → Prop), acc.length < sizeLine → (∀ zs, R d zs → N (acc ++ zs) ms) → g d s ms fun s2 ms2 => tt s2 ms2 (fun b ms3 => Br b (fun ms3 => te s2 ms3 (fun y ms4 => acc.length < sizeLine ∧ N (acc ++ [y]) ms4) fun _ _ => False) (fun ms3 => N acc ms3) ms3) fun _ _ => False) →
    (∀ ys, Outs R ds ys → Q (acc ++ ys) ms) → aLcL g tt te s ds acc ms Q
  | [], acc, _, _, k => by have := k [] .nil; rw [List.append_nil] at this; exact this
  | d :: r, acc, hl, st, k => by
    rw [List.length_cons] at hl
    refine st d List.mem_cons_self acc (fun acc' ms' => aLcL g tt te s r acc' ms' Q) (by omega) fun zs hz => ?_
    have := h1 d zs hz
    refine lcL_gen0 R h1 r (acc ++ zs) (by rw [List.length_append]; omega) (fun d hd => st d (List.mem_cons_of_mem _ hd)) fun ys hy => ?_
    rw [List.append_assoc]
    exact k _ (.cons hz hy)
theorem lcL_gen {g : aG} {tt : aT} {te : aE} {s : ASt} {ms : MS} {Q : List D → MS → Prop} {tg : Tag Q Q} (R : D → List D → Prop) (h1 : ∀ d zs, R d zs → zs.length ≤ 1) (ds acc : List D) (hl : acc.length + ds.length ≤ sizeLine)
    (st : ∀ d ∈ ds, ∀ (acc : List D) (N : List D → MS → Prop), acc.length < sizeLine → (∀ zs, R d zs → N (acc ++ zs) ms) → g d s ms fun s2 ms2 => tt s2 ms2 (fun b ms3 => Br b (fun ms3 => te s2 ms3 (fun y ms4 => acc.length < sizeLine ∧ N (acc ++ [y]) ms4) fun _ _ => False) (fun ms3 => N acc ms3) ms3) fun _ _ => False)
    (k : ∀ ys, Outs R ds ys → Q (acc ++ ys) ms) : LcL g tt te s ds acc ms Q tg := ⟨lcL_gen0 R h1 ds acc hl st k⟩
theorem Outs.all {P : D → Prop} {R : D → List D → Prop} (hR : ∀ d zs, R d zs → ∃ y, zs = [y] ∧ P y) {ds ys : List D} (h : Outs R ds ys) : ys.length = ds.length ∧ ∀ y ∈ ys, P y := by
  induction h with
  | nil => exact ⟨rfl, fun _ h => nomatch h⟩
  | cons h r ih =>
    obtain ⟨y, rfl, hp⟩ := hR _ _ h
    refine ⟨by simp [ih.1], fun z hz => ?_⟩
    rcases List.mem_cons.mp hz with rfl | hz
    · exact hp
    · exact ih.2 z hz
/-- each item some datum of the kind P -/
theorem lcL_all {te : aE} {s : ASt} {ms : MS} {i : Nat} {Q : List D → MS → Prop} {tg : Tag Q Q} (P : D → Prop) {ds : List D} (hl : ds.length ≤ sizeLine)
    (st : ∀ d ∈ ds, ∀ (N : D → MS → Prop), (∀ y, P y → N y ms) → te (s.set i (some (.fr d))) ms N fun _ _ => False) (k : ∀ ys, ys.length = ds.length → (∀ y ∈ ys, P y) → Q ys ms) : LcL (aName i) aYes te s ds [] ms Q tg :=
  ⟨lcL_gen0 (fun _ zs => ∃ y, zs = [y] ∧ P y) (fun d zs ⟨y, e, _⟩ => by subst e; exact Nat.le_refl _) ds [] (by simpa using hl) (fun d hd acc N ha kk => st d hd _ fun y hy => ⟨ha, kk [y] ⟨y, rfl, hy⟩⟩) fun ys hy => by
    obtain ⟨h1, h2⟩ := Outs.all (fun d zs h => h) hy
    exact k ys h1 h2⟩
theorem Outs.map {f : D → D} {R : D → List D → Prop} (hR : ∀ d zs, R d zs → zs = [f d]) {ds ys : List D} (h : Outs R ds ys) : ys = ds.map f := by
  induction h with
  | nil => rfl
  | cons h r ih => rw [hR _ _ h, ih]; rfl
/-- each item f of it -/
theorem lcL_map {te : aE} {s : ASt} {ms : MS} {i : Nat} {Q : List D → MS → Prop} {tg : Tag Q Q} (f : D → D) {ds : List D} (hl : ds.length ≤ sizeLine)
    (st : ∀ d ∈ ds, ∀ (N : D → MS → Prop), N (f d) ms → te (s.set i (some (.fr d))) ms N fun _ _ => False) (k : Q (ds.map f) ms) : LcL (aName i) aYes te s ds [] ms Q tg :=
  ⟨lcL_gen0 (fun d zs => zs = [f d]) (fun d zs e => by subst e; exact Nat.le_refl _) ds [] (by simpa using hl) (fun d hd acc N ha kk => st d hd _ ⟨ha, kk [f d] rfl⟩) fun ys hy => by
    rw [Outs.map (fun d zs h => h) hy]; exact k⟩
theorem Outs.iff {f : D → D} {p : D → Bool} {R : D → List D → Prop} (hR : ∀ d zs, R d zs → zs = if p d then [f d] else []) {ds ys : List D} (h : Outs R ds ys) : ys = (ds.filter p).map f := by
  induction h with
  | nil => rfl
  | @cons d zs ds ys h r ih =>
    rw [hR _ _ h, ih, List.filter_cons]
    cases p d <;> rfl
/-- .. of those that are p -/
theorem lcL_if {tt : aT} {te : aE} {s : ASt} {ms : MS} {i : Nat} {Q : List D → MS → Prop} {tg : Tag Q Q} (f : D → D) (p : D → Bool) {ds : List D} (hl : ds.length ≤ sizeLine)
    (sp : ∀ d ∈ ds, ∀ (N : Bool → MS → Prop), N (p d) ms → tt (s.set i (some (.fr d))) ms N fun _ _ => False)
    (st : ∀ d ∈ ds, p d = true → ∀ (N : D → MS → Prop), N (f d) ms → te (s.set i (some (.fr d))) ms N fun _ _ => False) (k : Q ((ds.filter p).map f) ms) : LcL (aName i) tt te s ds [] ms Q tg :=
  ⟨lcL_gen0 (fun d zs => zs = if p d then [f d] else []) (fun d zs e => by subst e; cases p d <;> simp) ds [] (by simpa using hl) (fun d hd acc N ha kk => sp d hd _ (by
    have kk := kk _ rfl
    cases e : p d with
    | true => rw [e] at kk; exact st d hd e _ ⟨ha, kk⟩
    | false => rw [e, if_neg Bool.false_ne_true, List.append_nil] at kk; exact kk)) fun ys hy => by
    rw [Outs.iff (fun d zs h => h) hy]; exact k⟩
end LA

set_option Elab.async false
set_option linter.all false
set_option maxRecDepth 100000
set_option maxHeartbeats 4000000
/-! LA13: comprehensions with two for. -/
namespace LA
open PySem PySem.Spec PyProof.Rows L2
/-- outer items, inner items one after another -/
def aLcO (g : aG) (tt : aT) (ri1 : aI) (g1 : aG) (tt1 : aT) (te : aE) (vs1 : List Nat) (s : ASt) : List D → List D → MS → (List D → MS → Prop) → Prop
  | [], acc, ms, Q => Q acc ms
  | d :: r, acc, ms, Q => g d s ms fun s2 ms2 => tt s2 ms2 (fun b ms3 => Br b (fun ms3 => ri1 s2 ms3 (fun ds1 ms4 => aLcL g1 tt1 te (wipeA s2 vs1) ds1 acc ms4 fun acc' ms5 => aLcO g tt ri1 g1 tt1 te vs1 s r acc' ms5 Q) fun _ _ => False) (fun ms3 => aLcO g tt ri1 g1 tt1 te vs1 s r acc ms3 Q) ms3) fun _ _ => False
structure LcO (g : aG) (tt : aT) (ri1 : aI) (g1 : aG) (tt1 : aT) (te : aE) (vs1 : List Nat) (s : ASt) (ds acc : List D) (ms : MS) (Q : List D → MS → Prop) (t : Tag Q Q := .mk) : Prop where
  h : aLcO g tt ri1 g1 tt1 te vs1 s ds acc ms Q
def fLc2 (ri : aI) (g : aG) (tt : aT) (ri1 : aI) (g1 : aG) (tt1 : aT) (te : aE) (vs vs1 : List Nat) : aF := fun s ms Q E => wipeA s vs = s ∧ ri s ms (fun ds ms1 => LcO g tt ri1 g1 tt1 te vs1 s ds [] ms1 fun acc ms2 => Q (.lst acc) ms2) E
section
variable {X : Cx} {Wx : WXA} {elt tg iter tg1 iter1 : Expr} {ifs ifs1 : List Expr} {scope : Scope} {own : List (Str × Nat)} {pos : Pos} {te : aE} {ri ri1 : aI} {g g1 : aG} {gs gs1 : List Nat} {tt tt1 : aT}
theorem lc2_ok {σ : L2.St} {H : Hp} {R : VK} {vs vs1 : List Nat} (hv : ∀ j ∈ vs1, j ∈ vs) (hgs : ∀ j ∈ gs, j ∈ vs) (hgs1 : ∀ j ∈ gs1, j ∈ vs1) (h : cF X.K Wx (fLc2 ri g tt ri1 g1 tt1 te vs vs1) σ H R) :
    tLc2 (cI X.K Wx ri) (cG X.K Wx.blk gs g) (cT X.K Wx.blk tt) (cI X.K Wx.blk ri1) (cG X.K Wx.blk gs1 g1) (cT X.K Wx.blk tt1) (cE X.K Wx.blk te) vs vs1 σ H R := by
  obtain ⟨B, w, ms, s, Q, E, L, ⟨hs, h⟩, hq, hx⟩ := h
  refine ⟨B, w, ms, s, _, E, L, h, fun w1 ms1 H1 J ds e1 L1 wk h1 D hD => ?_, hx⟩
  obtain ⟨d1, d2, d3⟩ := L1.fresh hD
  have d4 : D ∉ B.as := fun z => d2 (L1.bas D z)
  have d5 : B.F D = none := by
    cases q : B.F D with
    | none => rfl
    | some u => obtain ⟨o, z⟩ := L1.bf D u q; rw [d3] at z; cases z
  let Qf : List LA.D → MS → Prop := fun acc ms2 => Q (.lst acc) ms2
  let O : List LA.D → List LA.D → MS → (List LA.D → MS → Prop) → Prop := aLcO g tt ri1 g1 tt1 te vs1 s
  refine ⟨fun i m H => m + i = ds.length ∧ ∃ w2 ms2 acc ad, Le X.K w1 w2 ∧ Lk X.K (B.at D (.lst acc)) w2 ms2 (wipeA s vs) (wipe σ vs) H ∧ RepL X.K w2 acc ad ∧ O (ds.drop i) ad ms2 Qf, ⟨ds.length, rfl, w1, ms1, [], [], Le.refl _ _, (L1.side hD).wipe, .nil, h1.h⟩, ?_⟩
  rintro i m H2 ⟨hm, w2, ms2, acc, ad, e2, L2', racc, h2⟩
  by_cases hi : i < ds.length
  · refine .inr ⟨wk.goes _ w2 ms2 _ _ H2 i e2 L2' hi, fun H => m - 1 + (i + 1) = ds.length ∧ ∃ w2 ms2 acc ad, Le X.K w1 w2 ∧ Lk X.K (B.at D (.lst acc)) w2 ms2 (wipeA s vs) (wipe σ vs) H ∧ RepL X.K w2 acc ad ∧ O (ds.drop (i + 1)) ad ms2 Qf,
      fun H' n => ⟨m - 1, by omega, n⟩, fun x H' y => ?_⟩
    obtain ⟨w3, e3, L3, rx⟩ := wk.yields _ w2 ms2 _ _ H2 i ds[i] x H' e2 L2' (List.getElem?_eq_getElem hi) y
    rw [List.drop_eq_getElem_cons hi] at h2
    refine ⟨_, w3, ms2, _, _, _, L3, rx, by rw [hs]; exact h2, fun w4 ms4 H4 s4 σ4 e4 L4 oa ol h4 => ⟨(wipe_only oa hgs).trans (wipe_wipe σ vs), ?_⟩⟩
    have e14 := (e2.trans e3).trans e4
    have back : ∀ {w5 : W} {ms5 : MS} {H5 : Hp} {o : HO} {s5 : ASt} {σ5 : L2.St}, Lk X.K (B.at D o) w5 ms5 s5 σ5 H5 → OnlyAt vs1 σ4 σ5 → OnlyAt vs1 s4 s5 → Lk X.K (B.at D o) w5 ms5 (wipeA s vs) (wipe σ vs) H5 := fun L o1 o2 => by
      have := L.wipe (vs := vs)
      rw [wipe_only o1 hv, wipeA_only o2 hv, wipe_only oa hgs, wipe_wipe, wipeA_only ol hgs, wipeA_wipeA] at this
      exact this
    have oo1 : OnlyAt vs1 σ4 σ4 := ⟨rfl, fun _ _ => rfl⟩
    have oo2 : OnlyAt vs1 s4 s4 := ⟨rfl, fun _ _ => rfl⟩
    refine ⟨_, w4, ms4, s4, _, _, L4, h4, fun w5 ms5 H5 b e5 L5 h5 => ?_, fun _ _ _ _ _ _ _ _ _ z => z.elim⟩
    cases b with
    | false => rw [if_neg (by decide)]; exact ⟨by omega, w5, ms5, acc, ad, e14.trans e5, back L5 oo1 oo2, racc.mono (((e3.trans e4).trans e5)), h5⟩
    | true =>
      rw [if_pos rfl]
      refine ⟨_, w5, ms5, s4, _, _, L5, h5, fun w6 ms6 H6 J1 ds1 e6 L6 wk1 h6 => ?_, fun _ _ _ _ _ _ _ _ _ z => z.elim⟩
      let Nq : List LA.D → MS → Prop := fun acc' ms5 => O (ds.drop (i + 1)) acc' ms5 Qf
      have ww1 : OnlyAt vs1 σ4 (wipe σ4 vs1) := ⟨by rw [wipe_length], fun j hj => wipe_out hj⟩
      have ww2 : OnlyAt vs1 s4 (wipeA s4 vs1) := ⟨by rw [wipeA_length], fun j hj => wipeA_out hj⟩
      refine ⟨fun j k H => k + j = ds1.length ∧ ∃ w7 ms7 acc ad, Le X.K w6 w7 ∧ Lk X.K (B.at D (.lst acc)) w7 ms7 (wipeA s4 vs1) (wipe σ4 vs1) H ∧ RepL X.K w7 acc ad ∧ aLcL g1 tt1 te (wipeA s4 vs1) (ds1.drop j) ad ms7 Nq,
        ⟨ds1.length, rfl, w6, ms6, acc, ad, Le.refl _ _, L6.wipe, racc.mono (((e3.trans e4).trans e5).trans e6), h6⟩, ?_⟩
      rintro j k H7 ⟨hk, w7, ms7, acc7, ad7, e7, L7, racc7, h7⟩
      by_cases hj : j < ds1.length
      · refine .inr ⟨wk1.goes _ w7 ms7 _ _ H7 j e7 L7 hj, fun H => k - 1 + (j + 1) = ds1.length ∧ ∃ w7 ms7 acc ad, Le X.K w6 w7 ∧ Lk X.K (B.at D (.lst acc)) w7 ms7 (wipeA s4 vs1) (wipe σ4 vs1) H ∧ RepL X.K w7 acc ad ∧ aLcL g1 tt1 te (wipeA s4 vs1) (ds1.drop (j + 1)) ad ms7 Nq,
          fun H' n => ⟨k - 1, by omega, n⟩, fun x H' y => ?_⟩
        obtain ⟨w8, e8, L8, rx8⟩ := wk1.yields _ w7 ms7 _ _ H7 j ds1[j] x H' e7 L7 (List.getElem?_eq_getElem hj) y
        rw [List.drop_eq_getElem_cons hj] at h7
        refine ⟨_, w8, ms7, _, _, _, L8, rx8, h7, fun w9 ms9 H9 s9 σ9 e9 L9 oa9 ol9 h9 => ⟨(wipe_only oa9 hgs1).trans (wipe_wipe σ4 vs1), ?_⟩⟩
        have back1 : ∀ {w5 : W} {ms5 : MS} {H5 : Hp} {o : HO}, Lk X.K (B.at D o) w5 ms5 s9 σ9 H5 → Lk X.K (B.at D o) w5 ms5 (wipeA s4 vs1) (wipe σ4 vs1) H5 := fun L => by
          have := L.wipe (vs := vs1)
          rw [wipe_only oa9 hgs1, wipe_wipe, wipeA_only ol9 hgs1, wipeA_wipeA] at this
          exact this
        refine ⟨_, w9, ms9, s9, _, _, L9, h9, fun w10 ms10 H10 b e10 L10 h10 => ?_, fun _ _ _ _ _ _ _ _ _ z => z.elim⟩
        have e7a := ((e7.trans e8).trans e9).trans e10
        cases b with
        | false => dsimp only; rw [if_neg (by decide)]; exact ⟨by omega, w10, ms10, acc7, ad7, e7a, back1 L10, racc7.mono ((e8.trans e9).trans e10), h10⟩
        | true =>
          dsimp only
          rw [if_pos rfl]
          refine ⟨_, w10, ms10, s9, _, _, L10, h10, fun w11 ms11 H11 v d e11 L11 r11 h11 => ?_, fun _ _ _ _ _ _ _ _ _ z => z.elim⟩
          have ra11 := racc7.mono (((e8.trans e9).trans e10).trans e11)
          obtain ⟨_, hD11, _, _⟩ := L11.drop d3 d4 d5
          exact ⟨acc7, hD11, by rw [racc7.length]; exact h11.1, by omega, w11, ms11, acc7 ++ [v], ad7 ++ [d], e7a.trans e11, back1 (L11.sideUpd d3 d4 d5), ra11.append (.cons r11 .nil), h11.2⟩
      · have hj : j = ds1.length := by omega
        subst hj
        rw [List.drop_length] at h7
        exact .inl ⟨wk1.stops _ w7 ms7 _ _ H7 e7 L7, by omega, w7, ms7, acc7, ad7, ((e14.trans e5).trans e6).trans e7, back L7 ww1 ww2, racc7, h7⟩
  · have hi : i = ds.length := by omega
    subst hi
    rw [List.drop_length] at h2
    obtain ⟨L5, hD5, f5, _⟩ := (L2'.unwipe hs).drop d3 d4 d5
    refine .inl ⟨wk.stops _ w2 ms2 _ _ H2 e2 L2', ?_⟩
    have := hq w2 ms2 (but H2 D) D (.lst acc) (.lst ad) (e1.trans e2) L5 but_same (.lst upd_same racc) h2
    rw [but_back hD5] at this
    exact this
theorem fe_lc2 {vs1 : List Nat} (hc : X.calm = true) (hN : X.N.Nodup) (hi : AI X Wx tg iter ri) (ok : BlkOk X.N X.env.scope scope own) (hv : ∀ j ∈ vs1, j ∈ own.map (·.2)) (hgs : ∀ j ∈ gs, j ∈ own.map (·.2)) (hgs1 : ∀ j ∈ gs1, j ∈ vs1)
    (hg : ∀ (s : Shared) (H : Hp) (C : Addr) (cl : List (Str × Addr)) (fp : List Addr), AG (X.blk s H scope (compEnvC scope cl C X.env) fp) Wx.blk gs tg g) (ht : ∀ (s : Shared) (H : Hp) (C : Addr) (cl : List (Str × Addr)) (fp : List Addr), ATs (X.blk s H scope (compEnvC scope cl C X.env) fp) Wx.blk ifs tt)
    (hi1 : ∀ (s : Shared) (H : Hp) (C : Addr) (cl : List (Str × Addr)) (fp : List Addr), AI (X.blk s H scope (compEnvC scope cl C X.env) fp) Wx.blk tg1 iter1 ri1)
    (hg1 : ∀ (s : Shared) (H : Hp) (C : Addr) (cl : List (Str × Addr)) (fp : List Addr), AG (X.blk s H scope (compEnvC scope cl C X.env) fp) Wx.blk gs1 tg1 g1) (ht1 : ∀ (s : Shared) (H : Hp) (C : Addr) (cl : List (Str × Addr)) (fp : List Addr), ATs (X.blk s H scope (compEnvC scope cl C X.env) fp) Wx.blk ifs1 tt1)
    (he : ∀ (s : Shared) (H : Hp) (C : Addr) (cl : List (Str × Addr)) (fp : List Addr), AE (X.blk s H scope (compEnvC scope cl C X.env) fp) Wx.blk elt te) (hs : ∀ x, foldedSetIterable iter X.env x = pure x := by intro _; rfl) (hs1 : ∀ env x, foldedSetIterable iter1 env x = pure x := by intro _ _; rfl) :
    FE X Wx (.ListComp elt [⟨tg, iter, ifs, 0⟩, ⟨tg1, iter1, ifs1, 0⟩] scope pos) (fLc2 ri g tt ri1 g1 tt1 te (own.map (·.2)) vs1) :=
  PE.imp (pe_lc2 hc hN hi ok hv hg ht hi1 hg1 ht1 he hs hs1) fun σ H R h => lc2_ok (X := X) hv hgs hgs1 h
/-- x = [..] on one line, two for -/
theorem as_setLc2 {i : Nat} {y : Str} {py spos : Pos} {vs1 : List Nat} (hc : X.calm = true) (hN : X.N.Nodup) (hy : X.N[i]? = some y) (hyl : X.env.scope.names.lookup y = some .local)
    (hsw : swapsWith (.ListComp elt [⟨tg, iter, ifs, 0⟩, ⟨tg1, iter1, ifs1, 0⟩] scope pos) (some (.Name y py)) spos.line X.env = pure true) (hi : AI X Wx tg iter ri) (ok : BlkOk X.N X.env.scope scope own) (hv : ∀ j ∈ vs1, j ∈ own.map (·.2)) (hgs : ∀ j ∈ gs, j ∈ own.map (·.2)) (hgs1 : ∀ j ∈ gs1, j ∈ vs1)
    (hg : ∀ (s : Shared) (H : Hp) (C : Addr) (cl : List (Str × Addr)) (fp : List Addr), AG (X.blk s H scope (compEnvC scope cl C X.env) fp) Wx.blk gs tg g) (ht : ∀ (s : Shared) (H : Hp) (C : Addr) (cl : List (Str × Addr)) (fp : List Addr), ATs (X.blk s H scope (compEnvC scope cl C X.env) fp) Wx.blk ifs tt)
    (hi1 : ∀ (s : Shared) (H : Hp) (C : Addr) (cl : List (Str × Addr)) (fp : List Addr), AI (X.blk s H scope (compEnvC scope cl C X.env) fp) Wx.blk tg1 iter1 ri1)
    (hg1 : ∀ (s : Shared) (H : Hp) (C : Addr) (cl : List (Str × Addr)) (fp : List Addr), AG (X.blk s H scope (compEnvC scope cl C X.env) fp) Wx.blk gs1 tg1 g1) (ht1 : ∀ (s : Shared) (H : Hp) (C : Addr) (cl : List (Str × Addr)) (fp : List Addr), ATs (X.blk s H scope (compEnvC scope cl C X.env) fp) Wx.blk ifs1 tt1)
    (he : ∀ (s : Shared) (H : Hp) (C : Addr) (cl : List (Str × Addr)) (fp : List Addr), AE (X.blk s H scope (compEnvC scope cl C X.env) fp) Wx.blk elt te) (hs : ∀ x, foldedSetIterable iter X.env x = pure x := by intro _; rfl) (hs1 : ∀ env x, foldedSetIterable iter1 env x = pure x := by intro _ _; rfl) :
    AS X Wx (.Assign [.Name y py] (.ListComp elt [⟨tg, iter, ifs, 0⟩, ⟨tg1, iter1, ifs1, 0⟩] scope pos) spos) (aAsg (aNew (fLc2 ri g tt ri1 g1 tt1 te (own.map (·.2)) vs1)) (aName i)) :=
  PS.imp (ps_setLc2 hc hN hy hyl hsw hi ok hv hg ht hi1 hg1 ht1 he hs hs1) fun De σ H ⟨B, w, ms, s, A, L, h, en⟩ => by
    refine lc2_ok (X := X) (Wx := Wx) (ri := ri) (g := g) (tt := tt) (te := te) hv hgs hgs1 ⟨B, w, ms, s, fun m ms1 => match m.d with
      | some d => A.nx (s.set i (some (.fr d))) ms1
      | none => False, _, L, h, fun w' ms' H' p o m le L' hp r q => ?_, en.px⟩
    dsimp only at q
    split at q
    · rename_i d hd
      have f := L'.fresh hp
      exact en.nx _ ms' _ _ _ (le.trans (Le.new f.1)) ((L'.new hp).set (Rep.ofM f.1 upd_same r hd)) q
    · exact q.elim
end
end LA

set_option Elab.async false
set_option linter.all false
set_option maxRecDepth 100000
set_option maxHeartbeats 4000000
/-! LA14: keys, in for data, .get of an own dict. -/
namespace LA
open PySem PySem.Spec PyProof.Rows L2
theorem u65_of {A : Around} {k : Nat} (hr : Room k A) : A.units + 65 < cLine := by have := hr.un; omega
def keyD : Key → D
  | .inl i => .int i
  | .inr x => .str x
theorem rep_key {K : PySem.W.Frag} {w : W} (k : Key) : Rep K w (kV k) (keyD k) := by
  cases k with
  | inl i => exact .int i
  | inr x => exact .str x
theorem RepK.keys {K : PySem.W.Frag} {w : W} : ∀ {vs : List (Key × V)} {ds : List (Key × D)}, RepK K w vs ds → RepL K w (vs.map fun kv => kV kv.1) (ds.map fun kv => keyD kv.1)
  | _, _, .nil => .nil
  | _, _, .cons h r => .cons (rep_key _) (RepK.keys r)
/-- list(d) of a dict -/
def fKeys (ds : List D) (Q : D → Prop) : Prop := on1 ds fun x => isDK x fun kvs => Q (.lst (kvs.map fun kv => keyD kv.1))
theorem s_keys {kvs : List (Key × D)} {q : D → Prop} : fKeys [.dk kvs] q = q (.lst (kvs.map fun kv => keyD kv.1)) := rfl
theorem s_keyDI {i : Int} : keyD (.inl i) = .int i := rfl
theorem s_keyDS {x : Str} : keyD (.inr x) = .str x := rfl
section
variable {X : Cx}
theorem Rd.up {K : PySem.W.Frag} {w : W} {ms : MS} {H : Hp} {a : Addr} {u : HO} (h0 : St0 K w ms H) (h : Rd w.F a u) : Rd H a u := h.imp (h0.fh _ _) fun ⟨o, q⟩ => ⟨o, h0.fh _ _ q⟩
theorem ca_listD (hc : X.calm = true) : CallA X (.type "list") fKeys := by
  rintro pins s σ H vs us R I rx ⟨xi, B, w, ms, st, σ', ds, Qd, L, r, h, k⟩
  obtain ⟨x, rfl, hh⟩ := on1_of h
  clear h
  obtain ⟨v, rfl, rr⟩ := r.one
  cases rr with
  | dk hf q => exact call_listD hc pins s σ H _ us R I rx ⟨_, _, rfl, LA.Rd.up L.s0 hf, fun p hp => new_ L k hp (fun w' le hf => .lst hf ((RepK.keys q).mono le)) hh⟩
  | _ => exact False.elim hh
/-- x in t, t a tuple of data of any depth -/
def rInT (K : PySem.W.Frag) : R2 := fun x y H Q => ∃ d ds, Dp K H x d ∧ Dp K H y (.tuple ds) ∧ SeqAt.shaped d = true ∧ SeqAt.shaped (.tuple ds) = true ∧ Q (.bl (ds.any fun z => PyData.eqv z d)) H
theorem op_inT (hu : X.A.units + 65 < cLine) : OpR X (compareOp .In) (rInT X.K) := by
  rintro pins s σ H x y v u Q I rx ry ⟨d, ds, hd, he, sd, se, q⟩
  obtain ⟨as, r1⟩ := Dp.reads I d x v hd rx
  obtain ⟨bs, r2⟩ := Dp.reads I (.tuple ds) y u he ry
  exact SeqAt.in_tuple_reads r2 r1 (SeqAt.canLay_of_shaped se) (SeqAt.canLay_of_shaped sd) (room_in_shaped sd hu) ⟨.bl _, H, I, rfl, q⟩
def fInT (x y : D) (Q : D → Prop) : Prop := ∃ d ds, PyOf x d ∧ PyOf y (.tuple ds) ∧ SeqAt.shaped d = true ∧ SeqAt.shaped (.tuple ds) = true ∧ Q (.bl (ds.any fun z => PyData.eqv z d))
theorem oa_inT (hu : X.A.units + 65 < cLine) : OpA X (compareOp .In) fInT := by
  rintro pins s σ H x y v u R I rx ry ⟨xi, B, w, ms, st, σ', dx, dy, Qd, L, r1, r2, ⟨d, ds, h1, h2, s1, s2, q⟩, k⟩
  exact op_inT hu pins s σ H _ _ v u R I rx ry ⟨d, ds, (dp_of L.s0 h1).1 _ r1, (dp_of L.s0 h2).1 _ r2, s1, s2, same_ L k (.bl _) q⟩
/-- sorted(l), l of ints -/
def fSort (ds : List D) (Q : D → Prop) : Prop := on1 ds fun x => isL x fun xs => gotI (intsD xs) fun ns => ns.length < 64 ∧ ∀ ns' : List Int, ns'.Perm ns → ns'.Pairwise (· ≤ ·) → Q (.lst (ns'.map D.int))
theorem s_sort {xs : List D} {q : D → Prop} : fSort [.lst xs] q = gotI (intsD xs) fun ns => ns.length < 64 ∧ ∀ ns' : List Int, ns'.Perm ns → ns'.Pairwise (· ≤ ·) → q (.lst (ns'.map D.int)) := rfl
theorem repL_ints {K : PySem.W.Frag} {w : W} : ∀ (ns : List Int), RepL K w (ns.map V.int) (ns.map D.int)
  | [] => .nil
  | i :: r => .cons (.int i) (repL_ints r)
theorem ca_sort : CallA X (.builtin "sorted") fSort := by
  rintro pins s σ H vs us R I rx ⟨xi, B, w, ms, st, σ', ds, Qd, L, r, h, k⟩
  obtain ⟨x, rfl, hh⟩ := on1_of h
  clear h
  obtain ⟨v, rfl, rr⟩ := r.one
  cases rr with
  | @lst a vs ds hf q =>
    obtain ⟨ns, e, g⟩ := gotI_of hh
    obtain rfl := intsD_of e
    exact cr_sorted pins s σ H _ us R I rx ⟨a, ns, rfl, by rw [← q.of_ints]; exact SqL.up L.s0 hf, g.1, fun ns' p h1 h2 hp => new_ L k hp (fun w' le hf => .lst hf (repL_ints ns')) (g.2 ns' h1 h2)⟩
  | _ => exact False.elim hh
end
section
variable {X : Cx} {Wx : WXA} {o e f : Expr} {rk re : aE} {apos cpos : Pos} {i : Nat}
theorem ae_getO (hu : X.A.units + 1 < cLine) (ho : PE X o (tVar i)) (hk : AE X Wx e rk) (he : AE X Wx f re) (m : M2 X o "get" apos e f cpos) : AE X Wx (.Call (.Attribute o "get" apos) [e, f] [] cpos) (fun s ms Q E => ownAt i s (fun m => moK m fun _ => aGetO i rk re s ms Q E)) :=
  PE.imp (pe_dget2 hu ho hk he m) fun σ H R ⟨B, w, ms, s, Q, E, L, h, hq, hx⟩ => by
    obtain ⟨m0, e0, h⟩ := ownAt_of h
    obtain ⟨xs0, rfl, h⟩ := moK_of h
    obtain ⟨p, e1, r0, n⟩ := L.sl i _ e0
    cases r0 with
    | dk hp q0 =>
      refine ⟨_, e1, p, rfl, .inl ⟨_, .inl hp⟩, B, w, ms, s, _, E, L, h, fun w2 ms2 H2 v2 d2 e2 L2 r2 h2 => ⟨B, w2, ms2, s, _, E, L2, h2, fun w3 ms3 H3 v3 d3 e3 L3 r3 h3 => ?_, hx.le e2⟩, hx⟩
      obtain ⟨x, rfl, g⟩ := isKey_rep (r2.mono e3) h3
      obtain ⟨m3, e4, g⟩ := ownAt_of g
      obtain ⟨xs, rfl, g⟩ := moK_of g
      obtain ⟨p', e5, r5, _⟩ := L3.sl i _ e4
      have : p' = p := by rw [e1] at e5; simpa using e5.symm
      subst this
      cases r5 with
      | dk hp3 q3 =>
        refine ⟨_, .inl ⟨_, x, .inl hp3, rfl, rfl⟩, hq w3 ms3 H3 _ _ (e2.trans e3) L3 ?_ g⟩
        cases z : valD xs x with
        | none => rw [(q3.val x).2 z]; exact r3
        | some y => obtain ⟨u, hu, ru⟩ := (q3.val x).1 y z; rw [hu]; exact ru
end
end LA

set_option Elab.async false
set_option linter.all false
set_option maxRecDepth 100000
set_option maxHeartbeats 4000000
/-! LA15: a comprehension over a dict's keys: the dict is locked meanwhile. -/
namespace LA
open PySem PySem.Spec PyProof.Rows L2
/-- the base within the lock -/
def Bs.lk {ex : XI} (B : Bs ex) (d : Addr) (o u : HO) : Bs ex := ⟨upd B.H d o, B.as, upd B.F d u, B.self⟩
def W.lk (w : W) (d : Addr) (o : HO) : W := { w with F := upd w.F d o }
section
variable {K : PySem.W.Frag} {ex : XI} {B : Bs ex} {w w2 : W} {ms ms2 : MS} {s s2 : ASt} {σ σ2 : L2.St} {H H2 : Hp} {d : Addr} {vs : List (Key × V)} {od : Obj}
theorem le_swap {o o' : HO} (hd : w.F d = some o) (h1 : ∀ u, Rd w.F d (.dK u) → o' = .dK u ∨ ∃ x, o' = .frz x (.dK u)) (h2 : ∀ v, ¬ Rd w.F d (.tup v)) (h3 : ∀ v, o ≠ .lst v) (h4 : ∀ u, ¬ Rd w.F d (.dT u)) (h5 : ∀ C dx v, o ≠ .ins C dx v) (h6 : ∀ v, o ≠ .xd v) : Le K w (w.lk d o') := by
  refine ⟨fun a v h => ?_, fun a v h => ?_, fun a v h => ?_, fun a v h => ?_, fun a C dx v h => ?_, fun k a h => h, fun a v h => ?_⟩
  · by_cases z : a = d
    · subst z; exact (h2 v (.inl h)).elim
    · show upd w.F d o' a = _
      rw [upd_ne z]; exact h
  · by_cases z : a = d
    · subst z; rw [hd] at h; cases h; exact (h3 v rfl).elim
    · show upd w.F d o' a = _; rw [upd_ne z]; exact h
  · by_cases z : a = d
    · subst z
      rcases h1 v h with e | ⟨x, e⟩
      · exact .inl (by show upd w.F a o' a = _; rw [upd_same, e])
      · exact .inr ⟨x, by show upd w.F a o' a = _; rw [upd_same, e]⟩
    · unfold Rd at h ⊢
      show upd w.F d o' a = _ ∨ ∃ x, upd w.F d o' a = _
      rw [upd_ne z]; exact h
  · by_cases z : a = d
    · subst z; exact (h4 v h).elim
    · unfold Rd at h ⊢
      show upd w.F d o' a = _ ∨ ∃ x, upd w.F d o' a = _
      rw [upd_ne z]; exact h
  · by_cases z : a = d
    · subst z; rw [hd] at h; cases h; exact (h5 _ _ _ rfl).elim
    · show upd w.F d o' a = _; rw [upd_ne z]; exact h
  · by_cases z : a = d
    · subst z; rw [hd] at h; cases h; exact (h6 _ rfl).elim
    · show upd w.F d o' a = _; rw [upd_ne z]; exact h
theorem lock_le (hd : w.F d = some (.dK vs)) (od : Obj) : Le K w (w.lk d (.frz od (.dK vs))) := by
  refine le_swap hd (fun u q => ?_) (fun v q => ?_) (fun _ e => nomatch e) (fun v q => ?_) (fun _ _ _ e => nomatch e) (fun _ e => nomatch e)
  · rcases q with q | ⟨x, q⟩ <;> rw [hd] at q <;> cases q; exact .inr ⟨od, rfl⟩
  · rcases q with q | ⟨x, q⟩ <;> rw [hd] at q <;> cases q
  · rcases q with q | ⟨x, q⟩ <;> rw [hd] at q <;> cases q
theorem unlock_le (hd : w.F d = some (.frz od (.dK vs))) : Le K w (w.lk d (.dK vs)) := by
  refine le_swap hd (fun u q => ?_) (fun v q => ?_) (fun _ e => nomatch e) (fun v q => ?_) (fun _ _ _ e => nomatch e) (fun _ e => nomatch e)
  · rcases q with q | ⟨x, q⟩ <;> rw [hd] at q <;> cases q; exact .inl rfl
  · rcases q with q | ⟨x, q⟩ <;> rw [hd] at q <;> cases q
  · rcases q with q | ⟨x, q⟩ <;> rw [hd] at q <;> cases q
theorem Lk.mv {u o' : HO} (L : Lk K B w ms s σ H) (hd : w.F d = some u) (le : Le K w (w.lk d o')) : Lk K (B.lk d o' u) (w.lk d o') ms s σ (upd H d o') := by
  have hn : ∀ {a}, w.F a = none → a ≠ d := fun {a} h z => by subst z; rw [hd] at h; cases h
  refine ⟨⟨fun a o h => ?_, L.s0.nd, fun a ha => ?_, fun k m h => ?_, L.s0.ln⟩, fun a o na h => ?_, fun a ha => ?_, L.bas, fun a o h => ?_, L.len, fun i av h => ?_, L.dj, fun a u1 h => ?_, L.sf⟩
  · by_cases z : a = d
    · subst z; have h : upd w.F a _ a = some o := h; rw [upd_same] at h ⊢; exact h
    · have h : upd w.F d _ a = some o := h; rw [upd_ne z] at h ⊢; exact L.s0.fh a o h
  · show upd w.F d _ a = none
    rw [upd_ne (hn (L.s0.na a ha))]; exact L.s0.na a ha
  · obtain ⟨a, ha, r⟩ := L.s0.ce k m h
    exact ⟨a, ha, r.mono le fun o q => by rw [upd_ne (hn (L.s0.na a (List.mem_of_getElem? ha)))]; exact q⟩
  · by_cases z : a = d
    · subst z; have h : upd B.H a _ a = some o := h; rw [upd_same] at h ⊢; exact h
    · have h : upd B.H d _ a = some o := h; rw [upd_ne z] at h ⊢; exact L.keep a o na h
  · refine (L.pre a ha).imp id fun q => ?_
    show upd B.H d _ a = none
    rw [upd_ne (hn (L.s0.na a ha))]; exact q
  · by_cases z : a = d
    · subst z; exact .inl ⟨_, upd_same⟩
    · have h : upd w.F d _ a = some o := h; rw [upd_ne z] at h
      refine (L.fz a o h).imp (fun ⟨u, q⟩ => ⟨u, ?_⟩) fun q => q.imp id fun q => ?_
      · show upd B.F d _ a = some u; rw [upd_ne z]; exact q
      · show upd B.H d _ a = none; rw [upd_ne z]; exact q
  · have := L.sl i av h
    cases av with
    | fr x => obtain ⟨v, a, b⟩ := this; exact ⟨v, a, b.mono le⟩
    | ex x => obtain ⟨a, c, d, e0, e1, r⟩ := this; exact ⟨a, c, d, e0, e1, r.mono le⟩
    | ow m =>
      obtain ⟨p, a, r, m1, m2, m3⟩ := this
      have z := hn m1
      exact ⟨p, a, r.mono le fun o q => by rw [upd_ne z]; exact q, by show upd w.F d _ p = none; rw [upd_ne z]; exact m1, m2, by show upd B.H d _ p = none; rw [upd_ne z]; exact m3⟩
  · by_cases z : a = d
    · subst z; exact ⟨_, upd_same⟩
    · have h : upd B.F d _ a = some u1 := h; rw [upd_ne z] at h
      obtain ⟨o, q⟩ := L.bf a u1 h
      exact ⟨o, by show upd B.H d _ a = some o; rw [upd_ne z]; exact q⟩
theorem Lk.mvH {u o' : HO} (L : Lk K B w ms s σ H) (hd : w.F d = some u) (L2 : Lk K (B.lk d o' u) w2 ms2 s2 σ2 H2) : H2 d = some o' := by
  refine L2.keep d _ (fun z => ?_) upd_same
  have := L.s0.na d (L.bas d z)
  rw [hd] at this; cases this
theorem Lk.mvBack {u o' : HO} (L : Lk K B w ms s σ H) (hd : w.F d = some u) (L2 : Lk K (B.lk d o' u) w2 ms2 s2 σ2 H2) (hF : w2.F d = some o') (le2 : Le K w2 (w2.lk d u)) : Lk K B (w2.lk d u) ms2 s2 σ2 (upd H2 d u) := by
  have hn : ∀ {a}, w2.F a = none → a ≠ d := fun {a} h z => by subst z; rw [hF] at h; cases h
  have bh : ∀ {a}, a ≠ d → (B.lk d o' u).H a = B.H a := fun z => upd_ne z
  refine ⟨⟨fun a o h => ?_, L2.s0.nd, fun a ha => ?_, fun k m h => ?_, L2.s0.ln⟩, fun a o na h => ?_, fun a ha => ?_, L2.bas, fun a o h => ?_, L2.len, fun i av h => ?_, L2.dj, L.bf, L2.sf⟩
  · by_cases z : a = d
    · subst z; have h : upd w2.F a _ a = some o := h; rw [upd_same] at h ⊢; exact h
    · have h : upd w2.F d _ a = some o := h; rw [upd_ne z] at h ⊢; exact L2.s0.fh a o h
  · show upd w2.F d _ a = none
    rw [upd_ne (hn (L2.s0.na a ha))]; exact L2.s0.na a ha
  · obtain ⟨a, ha, r⟩ := L2.s0.ce k m h
    exact ⟨a, ha, r.mono le2 fun o q => by rw [upd_ne (hn (L2.s0.na a (List.mem_of_getElem? ha)))]; exact q⟩
  · by_cases z : a = d
    · subst z
      have := L.keep a o na h
      rw [L.s0.fh _ _ hd] at this; rw [upd_same]; exact this
    · rw [upd_ne z]; exact L2.keep a o na ((bh z).trans h)
  · refine (L2.pre a ha).imp id fun q => ?_
    rw [bh (hn (L2.s0.na a ha))] at q; exact q
  · by_cases z : a = d
    · subst z; exact L.fz a _ hd
    · have h : upd w2.F d _ a = some o := h; rw [upd_ne z] at h
      refine (L2.fz a o h).imp (fun ⟨u, q⟩ => ⟨u, ?_⟩) fun q => q.imp id fun q => ?_
      · have q : upd B.F d _ a = some u := q; rw [upd_ne z] at q; exact q
      · rw [bh z] at q; exact q
  · have := L2.sl i av h
    cases av with
    | fr x => obtain ⟨v, a, b⟩ := this; exact ⟨v, a, b.mono le2⟩
    | ex x => obtain ⟨a, c, d, e0, e1, r⟩ := this; exact ⟨a, c, d, e0, e1, r.mono le2⟩
    | ow m =>
      obtain ⟨p, a, r, m1, m2, m3⟩ := this
      have z := hn m1
      exact ⟨p, a, r.mono le2 fun o q => by rw [upd_ne z]; exact q, by show upd w2.F d _ p = none; rw [upd_ne z]; exact m1, m2, (bh z).symm.trans m3⟩
end
/-- either of two readings -/
theorem pe_or {X : Cx} {e : Expr} {t1 t2 : TE} (h1 : PE X e t1) (h2 : PE X e t2) : PE X e (fun σ H Q => t1 σ H Q ∨ t2 σ H Q) := ⟨fun pins s σ H Q I q => q.elim (h1.run pins s σ H Q I) (h2.run pins s σ H Q I)⟩
/-- over the keys of the dict in a slot -/
def fLcK (i : Nat) (g : aG) (tt : aT) (te : aE) (vs : List Nat) : aF := fun s ms Q _ => wipeA s vs = s ∧ slotF s[i]? fun x => isDK x fun kvs => LcL g tt te s (kvs.map fun kv => keyD kv.1) [] ms fun acc ms2 => Q (.lst acc) ms2
section
variable {X : Cx} {Wx : WXA} {elt tg iter : Expr} {ifs : List Expr} {scope : Scope} {own : List (Str × Nat)} {pos : Pos} {te : aE} {g : aG} {gs : List Nat} {tt : aT}
theorem lcK_in {σ : L2.St} {H1 : Hp} {R : VK} {vs : List Nat} {B : Bs Wx.ex} {w1 : W} {ms1 : MS} {s : ASt} {d : Addr} {o : Obj} {kvs : List (Key × V)} {kds : List (Key × D)} {Qf : List D → MS → Prop} (hgs : ∀ j ∈ gs, j ∈ vs) (hs : wipeA s vs = s)
    (L1 : Lk X.K B w1 ms1 s σ H1) (hd : w1.F d = some (.frz o (.dK kvs))) (hB : B.H d = some (.frz o (.dK kvs))) (hb : d ∉ B.as) (rk : RepK X.K w1 kvs kds) (h1 : aLcL g tt te s (kds.map fun kv => keyD kv.1) [] ms1 Qf)
    (hq : ∀ w' ms' H' D vs' ds', Le X.K w1 w' → Lk X.K B w' ms' s σ H' → H' D = none → RepL X.K w' vs' ds' → Qf ds' ms' → R (.ref D) (upd H' D (.lst vs'))) :
    ∀ D, H1 D = none → ∃ W : Nat → Nat → Hp → Prop, (∃ m, W 0 m (upd H1 D (.lst []))) ∧ ∀ i m H, W i m H →
      ((Itk d o kvs).stop i H ∧ R (.ref D) H) ∨ ((Itk d o kvs).go i H ∧ ∃ Nx : Hp → Prop, (∀ H', Nx H' → ∃ m', m' < m ∧ W (i + 1) m' H') ∧ ∀ x H', (Itk d o kvs).yld i H x H' → cG X.K Wx.blk gs g x (wipe σ vs) H' fun σ2 H2 => wipe σ2 vs = wipe σ vs ∧ cT X.K Wx.blk tt σ2 H2 fun b H3 => if b = true then cE X.K Wx.blk te σ2 H3 fun y H4 => ∃ acc, H4 D = some (.lst acc) ∧ acc.length < sizeLine ∧ Nx (upd H4 D (.lst (acc ++ [y]))) else Nx H3) := by
  intro D hD
  obtain ⟨d1, d2, d3⟩ := L1.fresh hD
  have d4 : D ∉ B.as := fun z => d2 (L1.bas D z)
  have d5 : B.F D = none := by
    cases q : B.F D with
    | none => rfl
    | some u => obtain ⟨o, z⟩ := L1.bf D u q; rw [d3] at z; cases z
  have hne : d ≠ D := fun z => by subst z; rw [hB] at d3; cases d3
  let ds : List LA.D := kds.map fun kv => keyD kv.1
  have hlen : ds.length = kvs.length := by show (kds.map _).length = _; have := rk.keys.length; simpa using this.symm
  have hold : ∀ {w2 : W} {ms2 : MS} {s2 : ASt} {σ2 : L2.St} {H2 : Hp} {ob : HO}, Lk X.K (B.at D ob) w2 ms2 s2 σ2 H2 → H2 d = some (.frz o (.dK kvs)) := fun L => L.keep d _ hb (by show upd B.H D _ d = _; rw [upd_ne hne]; exact hB)
  refine ⟨fun i m H => m + i = ds.length ∧ ∃ w2 ms2 acc ad, Le X.K w1 w2 ∧ Lk X.K (B.at D (.lst acc)) w2 ms2 (wipeA s vs) (wipe σ vs) H ∧ RepL X.K w2 acc ad ∧ aLcL g tt te s (ds.drop i) ad ms2 Qf, ⟨ds.length, rfl, w1, ms1, [], [], Le.refl _ _, (L1.side hD).wipe, .nil, h1⟩, ?_⟩
  rintro i m H2 ⟨hm, w2, ms2, acc, ad, e2, L2', racc, h2⟩
  by_cases hi : i < ds.length
  · refine .inr ⟨⟨hold L2', by omega⟩, fun H => m - 1 + (i + 1) = ds.length ∧ ∃ w2 ms2 acc ad, Le X.K w1 w2 ∧ Lk X.K (B.at D (.lst acc)) w2 ms2 (wipeA s vs) (wipe σ vs) H ∧ RepL X.K w2 acc ad ∧ aLcL g tt te s (ds.drop (i + 1)) ad ms2 Qf,
      fun H' n => ⟨m - 1, by omega, n⟩, fun x H' y => ?_⟩
    obtain ⟨rfl, k, v, hk, rfl⟩ := y
    have rx : Rep X.K w2 (kV k) ds[i] := by
      obtain ⟨u, hu, ru⟩ := (rk.keys.mono e2).get (List.getElem?_eq_getElem hi)
      rw [List.getElem?_map, hk] at hu
      cases hu; exact ru
    rw [List.drop_eq_getElem_cons hi] at h2
    refine ⟨_, w2, ms2, _, _, _, L2', rx, by rw [hs]; exact h2, fun w4 ms4 H4 s4 σ4 e4 L4 oa ol h4 => ⟨(wipe_only oa hgs).trans (wipe_wipe σ vs), ?_⟩⟩
    have e14 := e2.trans e4
    have back : ∀ {w5 : W} {ms5 : MS} {H5 : Hp} {o : HO}, Lk X.K (B.at D o) w5 ms5 s4 σ4 H5 → Lk X.K (B.at D o) w5 ms5 (wipeA s vs) (wipe σ vs) H5 := fun L => by
      have := L.wipe (vs := vs)
      rw [wipe_only oa hgs, wipe_wipe, wipeA_only ol hgs, wipeA_wipeA] at this
      exact this
    refine ⟨_, w4, ms4, s4, _, _, L4, h4, fun w5 ms5 H5 b e5 L5 h5 => ?_, fun _ _ _ _ _ _ _ _ _ z => z.elim⟩
    cases b with
    | false => dsimp only; rw [if_neg (by decide)]; exact ⟨by omega, w5, ms5, acc, ad, e14.trans e5, back L5, racc.mono (e4.trans e5), h5⟩
    | true =>
      dsimp only
      rw [if_pos rfl]
      refine ⟨_, w5, ms5, s4, _, _, L5, h5, fun w6 ms6 H6 v d e6 L6 r6 h6 => ?_, fun _ _ _ _ _ _ _ _ _ z => z.elim⟩
      have ra6 := racc.mono ((e4.trans e5).trans e6)
      obtain ⟨_, hD6, _, _⟩ := L6.drop d3 d4 d5
      exact ⟨acc, hD6, by rw [racc.length]; exact h6.1, by omega, w6, ms6, acc ++ [v], ad ++ [d], (e14.trans e5).trans e6, back (L6.sideUpd d3 d4 d5), ra6.append (.cons r6 .nil), h6.2⟩
  · have hi : i = ds.length := by omega
    subst hi
    rw [List.drop_length] at h2
    obtain ⟨L5, hD5, f5, _⟩ := (L2'.unwipe hs).drop d3 d4 d5
    refine .inl ⟨⟨hold L2', by omega⟩, ?_⟩
    have := hq w2 ms2 (but H2 D) D acc ad e2 L5 but_same racc h2
    rw [but_back hD5] at this
    exact this
theorem fe_lcK {i : Nat} (hc : X.calm = true) (hN : X.N.Nodup) (hv : PE X iter (tVar i)) (ok : BlkOk X.N X.env.scope scope own) (hgs : ∀ j ∈ gs, j ∈ own.map (·.2))
    (hg : ∀ (s : Shared) (H : Hp) (C : Addr) (cl : List (Str × Addr)) (fp : List Addr), AG (X.blk s H scope (compEnvC scope cl C X.env) fp) Wx.blk gs tg g) (ht : ∀ (s : Shared) (H : Hp) (C : Addr) (cl : List (Str × Addr)) (fp : List Addr), ATs (X.blk s H scope (compEnvC scope cl C X.env) fp) Wx.blk ifs tt)
    (he : ∀ (s : Shared) (H : Hp) (C : Addr) (cl : List (Str × Addr)) (fp : List Addr), AE (X.blk s H scope (compEnvC scope cl C X.env) fp) Wx.blk elt te) (hs : ∀ x, foldedSetIterable iter X.env x = pure x := by intro _; rfl) :
    FE X Wx (.ListComp elt [⟨tg, iter, ifs, 0⟩] scope pos) (fLcK i g tt te (own.map (·.2))) :=
  PE.imp (pe_or (pe_lc (g := cG X.K Wx.blk gs g) (tt := cT X.K Wx.blk tt) (te := cE X.K Wx.blk te) hc hN (pi_keys hv) ok hg ht he hs) (pe_lock (pe_lc (g := cG X.K Wx.blk gs g) (tt := cT X.K Wx.blk tt) (te := cE X.K Wx.blk te) hc hN (pi_keys hv) ok hg ht he hs))) fun σ H R ⟨B, w, ms, s, Q, E, L, ⟨hw, h⟩, hq, hx⟩ => by
    unfold slotF at h
    split at h
    · rename_i x e
      obtain ⟨v, e1, r⟩ := L.sl i _ e
      cases r with
      | @dk a vs ds hd rk =>
        have h : aLcL g tt te s (ds.map fun kv => keyD kv.1) [] ms fun acc ms2 => Q (.lst acc) ms2 := h.h
        rcases hd with hd | ⟨od, hd⟩
        · refine .inr ⟨a, _, L.s0.fh _ _ hd, trivial, fun od => ?_⟩
          have le := lock_le (K := X.K) hd od
          have L1 := L.mv hd le
          have nb : a ∉ B.as := fun z => by have := L.s0.na a (L.bas a z); rw [hd] at this; cases this
          refine ⟨_, e1, a, od, rfl, .inl ⟨vs, upd_same, lcK_in (X := X) (Wx := Wx) (R := fun v H' => H' a = some (.frz od (.dK vs)) ∧ R v (upd H' a (.dK vs))) (Qf := fun acc ms2 => Q (.lst acc) ms2) hgs hw L1 upd_same upd_same nb (rk.mono le) h fun w' ms' H' D vs' ds' le' L' hD rl q => ?_⟩⟩
          have hH := L.mvH hd L'
          have hne : a ≠ D := fun z => by subst z; rw [hH] at hD; cases hD
          have hF : w'.F a = some (.frz od (.dK vs)) := by
            rcases le'.k a vs (.inr ⟨od, upd_same⟩) with q | ⟨x, q⟩
            · have := L'.s0.fh _ _ q; rw [hH] at this; cases this
            · have := L'.s0.fh _ _ q; rw [hH] at this; cases this; exact q
          have le2 := unlock_le (K := X.K) hF
          have L3 := L.mvBack hd L' hF le2
          refine ⟨by rw [upd_ne hne]; exact hH, ?_⟩
          have hsw : upd (upd H' D (.lst vs')) a (.dK vs) = upd (upd H' a (.dK vs)) D (.lst vs') := by
            funext b
            by_cases z1 : b = a
            · subst z1; rw [upd_same, upd_ne hne, upd_same]
            · rw [upd_ne z1]
              by_cases z2 : b = D
              · subst z2; rw [upd_same, upd_same]
              · rw [upd_ne z2, upd_ne z2, upd_ne z1]
          rw [hsw]
          refine hq _ ms' _ D _ (.lst ds') ((le.trans le').trans le2) L3 (by rw [upd_ne (fun z => hne z.symm)]; exact hD) (.lst upd_same (rl.mono le2)) q
        · have same : ∀ (w : W), w.F a = some (.frz od (.dK vs)) → w.lk a (.frz od (.dK vs)) = w := fun w hw => by
            unfold W.lk
            have : upd w.F a (.frz od (.dK vs)) = w.F := by
              funext b
              by_cases z : b = a
              · subst z; rw [upd_same, hw]
              · rw [upd_ne z]
            rw [this]
          have hH0 := L.s0.fh _ _ hd
          have sameH : ∀ {G : Hp}, G a = some (.frz od (.dK vs)) → upd G a (.frz od (.dK vs)) = G := fun {G} q => by
            funext b
            by_cases z : b = a
            · subst z; rw [upd_same, q]
            · rw [upd_ne z]
          have le : Le X.K w (w.lk a (.frz od (.dK vs))) := by rw [same w hd]; exact Le.refl _ _
          have L1 := L.mv hd le
          rw [same w hd, sameH hH0] at L1
          have nb : a ∉ B.as := fun z => by have := L.s0.na a (L.bas a z); rw [hd] at this; cases this
          refine .inl ⟨_, e1, a, od, rfl, .inl ⟨vs, hH0, lcK_in (X := X) (Wx := Wx) (R := R) (Qf := fun acc ms2 => Q (.lst acc) ms2) hgs hw L1 hd upd_same nb rk h fun w' ms' H' D vs' ds' le' L' hD rl q => ?_⟩⟩
          have hH := L.mvH hd L'
          have hF : w'.F a = some (.frz od (.dK vs)) := by
            rcases le'.k a vs (.inr ⟨od, hd⟩) with q | ⟨x, q⟩
            · have := L'.s0.fh _ _ q; rw [hH] at this; cases this
            · have := L'.s0.fh _ _ q; rw [hH] at this; cases this; exact q
          have L3 := L.mvBack hd L' hF (by rw [same w' hF]; exact Le.refl _ _)
          rw [same w' hF, sameH hH] at L3
          exact hq w' ms' H' D _ (.lst ds') le' L3 hD (.lst upd_same (rl.mono (Le.refl _ _))) q
      | _ => exact False.elim h
    · exact h.elim
end
theorem br_n {c : Prop} [Decidable c] {p q : MS → Prop} {ms : MS} (h1 : ¬c → p ms) (h2 : c → q ms) : Br (!decide c) p q ms := by
  by_cases h : c
  · rw [decide_eq_true h]; exact h2 h
  · rw [decide_eq_false h]; exact h1 h
end LA

set_option Elab.async false
set_option linter.all false
set_option maxRecDepth 100000
set_option maxHeartbeats 4000000
/-! LA16: len(set(t)), t a tuple of different texts. -/
namespace LA
open PySem PySem.Spec PyProof.Rows L2
section
variable {prog : Program} {w : World} {A : Around} {R : Result → Shared → Prop} {I : Addr} {fp wr : List Addr} {G : Array GenState → Array GenState → Prop} {n : Nat} {Pq : Nat → Value → Prop} {St : Nat → Shared → Prop}
/-- the first i of the texts, as a set's test -/
def upTo (xs : List Str) (i : Nat) : Str → Bool := fun k => (xs.take i).any (· == k)
theorem upTo_no {xs : List Str} {i : Nat} (h : i < xs.length) (hd : xs.Nodup) : upTo xs i xs[i] = false := by
  unfold upTo
  rw [List.any_eq_false]
  intro y hy e
  obtain ⟨j, hj, ey⟩ := List.getElem_of_mem hy
  rw [List.length_take] at hj
  rw [List.getElem_take] at ey
  have hji : j < i := by omega
  have := List.pairwise_iff_getElem.mp hd j i (by omega) h hji
  exact this (ey.trans (beq_iff_eq.mp e))
theorem upTo_succ {xs : List Str} {i : Nat} (h : i < xs.length) (k : Str) : (upTo xs i k || decide (k = xs[i])) = upTo xs (i + 1) k := by
  unfold upTo
  have e : xs.take (i + 1) = xs.take i ++ [xs[i]] := by rw [List.take_succ, List.getElem?_eq_getElem h]; rfl
  rw [e, List.any_append]
  congr 1
  by_cases q : k = xs[i]
  · subst q; simp
  · have : (xs[i] == k) = false := beq_eq_false_iff_ne.mpr fun z => q z.symm
    simp [q, this]
theorem lp (W : WalksS prog w A.in1 I fp wr G n Pq St) (S : Addr) (nS : S ∉ fp) (xs : List Str) (hz : xs.length = n) (hd : xs.Nodup) (hb : n + 1 < scanBound) (hv : ∀ i v, Pq i v → ∃ t, v = .str (xs.getD i Str.empty) t) :
    ∀ (k i : Nat) (s : Shared), n - i = k → i ≤ n → St i s → s.heap.SetOf (PySem.strKind prog w) S (upTo xs i) i → (∀ s', Moved (S :: wr) G s s' → s'.heap.SetOf (PySem.strKind prog w) S (upTo xs n) n → R (.ok (.ret .none)) s') →
      codeAny (model prog w) A (.builtin "set.update.loop" ⟨[.ref S, .ref I], []⟩) R s := by
  have nw : S ∉ wr := fun h => nS (W.sub _ h)
  have up : ∀ b ∈ wr, b ∈ S :: wr := fun b h => List.mem_cons_of_mem _ h
  have carry : ∀ {s s' : Shared} {i : Nat}, Moved wr G s s' → s.heap.SetOf (PySem.strKind prog w) S (upTo xs i) i → s'.heap.SetOf (PySem.strKind prog w) S (upTo xs i) i := fun m ⟨o, es, ep, t, h, r⟩ => ⟨o, es, ep, t, m.heap S _ nw h, r⟩
  intro k
  induction k with
  | zero =>
    intro i s e hi st hS fin
    obtain rfl : i = n := by omega
    refine codeAny_builtin PyProof.Rows.F.entry_set_update_loop ?_; rw [Around.under_plainId PyProof.Rows.F.plain_set_update_loop _]; show wpAny _ A.in1 (pyNext (.ref I) >>= _) _ _ s
    refine wpAny_bind (W.done s _ _ st fun s' m => ?_); show wpAny _ A.in1 (ret Value.none) _ _ s'
    exact wpAny_pure (fin s' (m.mono up) (carry m hS))
  | succ k ih =>
    intro i s e hi st hS fin
    have lt : i < n := by omega
    have lx : i < xs.length := by omega
    refine codeAny_builtin PyProof.Rows.F.entry_set_update_loop ?_; rw [Around.under_plainId PyProof.Rows.F.plain_set_update_loop _]; show wpAny _ A.in1 (pyNext (.ref I) >>= _) _ _ s
    refine wpAny_bind (W.item i s _ _ lt st fun v s' hP st' m => ?_)
    obtain ⟨t, rfl⟩ := hv i v hP
    have ex : xs.getD i Str.empty = xs[i] := by rw [List.getD_eq_getElem?_getD, List.getElem?_eq_getElem lx]; rfl
    rw [ex]
    have hS' := carry m hS
    show wpAny _ A.in1 (holding [Value.str xs[i] t] (setAdd S (.str xs[i] t)) >>= _) _ _ s'
    refine wpAny_bind (wpAny_holding ?_)
    unfold setAdd
    refine wpAny_holding (wpAny_bind ((PySem.strKind prog w).pyHash (k := xs[i]) (strKind_is _ _ _ _) ?_))
    refine wpAny_setAddHashed_of (knd := PySem.strKind prog w) (s := { s' with toks := s'.toks + 1 }) (strKind_is _ _ _ _) rfl hS' (by omega) fun h' sb new => ?_
    have hSi : h'.SetOf (PySem.strKind prog w) S (upTo xs (i + 1)) (i + 1) := SetOf_congr new (fun k' => upTo_succ lx k') (by rw [upTo_no lx hd]; rfl)
    refine wpAny_pure ⟨plainId_quiet PyProof.Rows.F.plain_set_update_loop _, ih (i + 1) _ (by omega) lt (W.frame _ s' _ _ st' (Nat.le_succ _) fun b hb o e => ?_) hSi fun s2 m2 hS2 => ?_⟩
    · rw [sb.2 b (fun z : b = S => nS (z ▸ hb))]; exact e
    · refine fin s2 (Moved.trans W.gtrans ((m.mono up).then_heap (Nat.le_succ _) fun b o hb e => ?_) m2) hS2
      rw [sb.2 b (fun z : b = S => hb (z ▸ List.mem_cons_self))]; exact e
variable {E : Value → Shared → Prop} {s : Shared}
set_option maxHeartbeats 3200000 in
/-- set(t) of a tuple of different texts -/
theorem set_of {l : Addr} {items : Array Value} {xs : List Str} {Q : Value → Shared → Prop} (hh : A.handled = none) (hl : s.heap.IsTuple l items) (hi : PyProof.Rows.StrsAre items.toList xs) (hd : xs.Nodup) (hb : xs.length + 1 < scanBound)
    (h : ∀ (h' : Heap) (tk : Nat), h'.SetOf (PySem.strKind prog w) s.heap.objs.size (upTo xs items.size) items.size → (∀ b o, b < s.heap.objs.size → s.heap.get? b = some o → h'.get? b = some o) → Q (.ref s.heap.objs.size) { s with heap := h', toks := tk }) : wpAny (model prog w) A (call (.type "set") [.ref l]) Q E s := by
  obtain ⟨c, tl, mro⟩ := PySem.F.called_set.mro
  have k1 := PySem.F.called_set.made; have k2 := PySem.F.called_set.sub
  refine wpAny_call (codeAny_of_tree ?_); show wpAny _ _ (callAny (.type "set") _) _ _ _
  refine wpAny_pure ⟨Code.quiet_builtin _ (by decide +kernel), codeAny_builtin PySem.F.entry_type_call ?_⟩; rw [Around.under_plain (weight_type_call_type "set" [.ref l] []) rfl]
  have k3 := PySem.F.called_set.notType; have k4 := PySem.F.called_set.canCreate; have k5 := PySem.F.typeCall_set_1 (.ref l)
  repeat (any_goals (first | assumption | wp_step))
  let o0 : Bool → Obj := fun led => { cls := .type "set", dict := none, data := .set #[] 0 (.fresh 0 0 led) }
  refine codeAny_mono (code_set_new_1 (.ref l) (E := E) (Q₁ := fun obj s₁ => ∃ led : Bool, obj = .ref s.heap.objs.size ∧ s₁ = { s with heap := s.heap.push (o0 led) }) fun led => ⟨led, rfl, rfl⟩) fun r s₁ hr => ?_
  match r, hr with
  | .error e, hr => exact hr
  | .ok (.ret obj), hr =>
    obtain ⟨led, rfl, rfl⟩ := hr
    have g0 : (s.heap.push (o0 led)).get? s.heap.objs.size = some (o0 led) := Heap.get?_push_size _ rfl
    have gT : Shared.TypeIs { s with heap := s.heap.push (o0 led) } (.ref s.heap.objs.size) "set" := ⟨_, g0, rfl⟩
    have k6 := PySem.F.called_set.init.lookup; have k7 := PySem.F.called_set.init.bind (.ref s.heap.objs.size)
    repeat (any_goals (first | assumption | wp_step))
    let Rr : Result → Shared → Prop := wants (fun r s₂ => r = .none ∧ ∃ h' tk, s₂ = { s with heap := h', toks := tk } ∧ h'.SetOf (PySem.strKind prog w) s.heap.objs.size (upTo xs items.size) items.size ∧ (∀ b o, b < s.heap.objs.size → s.heap.get? b = some o → h'.get? b = some o)) E
    refine codeAny_mono (codeAny_call_builtin (R := Rr) PySem.F.called_set.init.plain PySem.F.entry_set_init (check_set_init_1 gT ?_)) fun r2 s2 hr2 => ?_
    · obtain ⟨⟨oc, od, oD, osl⟩, hol, hcl, nl, hdl⟩ := hl
      simp only at hcl hdl
      subst hcl; subst hdl
      have g1 : (s.heap.push (o0 led)).get? l = some { cls := .type "tuple", dict := od, data := .seq items nl, slots := osl } := Heap.get?_push_of_some _ hol
      have k8 := PySem.F.sub_tuple_set; have k9 := PySem.F.sub_tuple_frozenset
      have k10 : (Value.type "tuple" == Value.type "dict") = false := by decide
      have tl1 : (s.heap.push (o0 led)).IsTuple l items := ⟨_, g1, rfl, nl, rfl⟩
      unfold Builtin.«set.__init__» noKeywords Builtin.Frozenset.updateFrom; generalize hPI : pyIter = PI
      wp_walk
      subst hPI
      refine wpAny_pyIter_tuple tl1 (wpAny_bind (wpAny_runValue ?_))
      have lS : l < s.heap.objs.size := Heap.lt_size hol
      have nI : l ≠ (s.heap.push (o0 led)).objs.size := by rw [Heap.size_push]; exact Nat.ne_of_lt (Nat.lt_succ_of_lt lS)
      have nF : s.heap.objs.size ∉ [(s.heap.push (o0 led)).objs.size, l] := by rw [Heap.size_push]; simp only [List.mem_cons, List.not_mem_nil, or_false, not_or]; exact ⟨Nat.ne_of_lt (Nat.lt_succ_self _), Nat.ne_of_gt lS⟩
      have hz : xs.length = items.size := by rw [← StrsAre.len_eq hi, Array.length_toList]
      have hv : ∀ (i : Nat) (v : Value), items[i]? = some v → ∃ t, v = .str (xs.getD i Str.empty) t := fun i v q => SS.strs_at hi i v (by rw [Array.getElem?_toList]; exact q)
      refine lp ((Walks.tuple (show A.in1.in1.in1.handled = none by simp [hh]) _ l nI items).toS) s.heap.objs.size nF xs hz hd (by omega) hv (items.size - 0) 0 _ (by omega) (Nat.zero_le _) ⟨⟨_, Heap.get?_push_size _ rfl, rfl, rfl⟩, (tl1.push _)⟩ ?h0 ?h1
      case h0 => exact PyProof.Rows.SetOf_congr ((PyProof.Rows.setObjOf_fresh (knd := PySem.strKind prog w) led).setOf (show ((s.heap.push (o0 led)).push { cls := .type "tuple_iterator", data := .fields #[.ref l, .int 0 0] }).get? s.heap.objs.size = some (o0 led) from Heap.get?_push_of_some _ g0) (by unfold scanBound; omega)) (fun _ => rfl) rfl
      case h1 =>
        intro s' m hS'
        obtain ⟨h', g', d', tk', os'⟩ := s'
        obtain rfl : g' = s.gens := m.gens
        obtain rfl : d' = s.drawn := m.drawn
        obtain rfl : os' = s.os := m.os
        refine wpAny_pure (wpAny_pure ⟨rfl, h', tk', rfl, hS', fun b o hb e => ?_⟩)
        refine m.heap b o ?_ (Heap.get?_push_of_some _ (Heap.get?_push_of_some _ e))
        rw [Heap.size_push]; simp only [List.mem_cons, List.not_mem_nil, or_false, not_or]
        exact ⟨Nat.ne_of_lt hb, Nat.ne_of_lt (Nat.lt_succ_of_lt hb)⟩
    · match r2, hr2 with
      | .error e, hr2 => exact hr2
      | .ok (.ret r), hr2 =>
        obtain ⟨rfl, h', tk, rfl, hS', hk'⟩ := hr2
        repeat (any_goals (first | assumption | wp_step))
        exact h _ _ hS' hk'
end
/-- len(set(t)) -/
def tLenSetS (K : PySem.W.Frag) (ta : TE) : TE := fun σ H Q => ta σ H fun x H1 => ∃ l, ∃ xs : List Str, x = .ref l ∧ SqT K H1 l (xs.map V.str) ∧ xs.length < 64 ∧ xs.Nodup ∧ Q (.int xs.length) H1
section
variable {X : Cx} {Wx : WXA} {a : Expr} {ra : aE} {p p2 q pos : Pos}
theorem pe_lenSetS {ta : TE} (hc : X.calm = true) (hg : Gl X "len") (hm : X.mg "len" = none) (hg2 : Gl X "set") (hm2 : X.mg "set" = none) (ha : PE X a ta) (na : starEach [a] X.env = (false, eval a X.env) :: starEach [] X.env := by rfl) : PE X (.Call (.Name "len" p) [.Call (.Name "set" p2) [a] [] q] [] pos) (tLenSetS X.K ta) := by
  refine ⟨fun pins s σ H Q I h => Call_ (ld_blt I hg hm PySem.boot_len ?_)⟩
  refine PyProof.Rows.callWith_builtin1 (PyProof.Rows.args_cons (Call_ (ld_blt I hg2 hm2 PyProof.Rows.boot_set ?_)) rfl) rfl rfl
  refine PyProof.Rows.callWith_type1 (PyProof.Rows.args_cons (thn (ha.run pins s σ H _ I h) fun v s1 ⟨x, H1, I1, r1, l, xs, ex, hq, h64, hd, q1⟩ => PyProof.Rows.args_nil ?_) na) na rfl
  subst ex
  cases r1
  obtain ⟨its, r, pl, hz⟩ := I1.tuple hq
  refine set_of (I1.ok.hd hc) pl (by simpa using strsAre_of r) hd (by unfold scanBound; omega) fun h' tk hS hk => PyProof.Rows.args_nil ?_
  have hl : its.toArray.size = xs.length := by rw [List.size_toArray, ← r.length, List.length_map]
  rw [hl] at hS
  obtain ⟨o, es, ep, t, ho, hex, hd, _, _, _, hf, hn⟩ := hS
  have I2 : Inv X pins σ H1 { s1 with heap := h', toks := tk } := I1.kept fun b o e => hk b o (Heap.lt_size e) e
  exact call_len_set ho hex hd hf (by rw [hn]; omega) ⟨.int xs.length, H1, I2.tok _, ⟨_, by rw [hn]⟩, q1⟩
/-- a tuple -/
def isT (x : D) (k : List D → Prop) : Prop := match x with
  | .tup xs => k xs
  | _ => False
theorem s_isT {xs : List D} {k : List D → Prop} : isT (.tup xs) k = k xs := rfl
/-- texts -/
def strsD : List D → Option (List Str)
  | [] => some []
  | .str x :: r => (strsD r).map (x :: ·)
  | _ => none
theorem strsD_map : ∀ xs : List Str, strsD (xs.map D.str) = some xs
  | [] => rfl
  | x :: r => by rw [List.map_cons, strsD, strsD_map r]; rfl
theorem strsD_of : ∀ {ds : List D} {xs : List Str}, strsD ds = some xs → ds = xs.map D.str
  | [], xs, h => by cases h; rfl
  | .str x :: r, xs, h => by
    rw [strsD] at h
    cases q : strsD r with
    | none => rw [q] at h; cases h
    | some ys => rw [q] at h; cases h; rw [strsD_of q]; rfl
  | .non :: r, xs, h => by simp [strsD] at h
  | .bl _ :: r, xs, h => by simp [strsD] at h
  | .int _ :: r, xs, h => by simp [strsD] at h
  | .ty _ :: r, xs, h => by simp [strsD] at h
  | .cls _ :: r, xs, h => by simp [strsD] at h
  | .tup _ :: r, xs, h => by simp [strsD] at h
  | .lst _ :: r, xs, h => by simp [strsD] at h
  | .dk _ :: r, xs, h => by simp [strsD] at h
  | .dt _ :: r, xs, h => by simp [strsD] at h
  | .ins _ _ :: r, xs, h => by simp [strsD] at h
  | .ptr _ :: r, xs, h => by simp [strsD] at h
  | .exn _ _ :: r, xs, h => by simp [strsD] at h
theorem repL_strs {K : PySem.W.Frag} {w : W} : ∀ {xs : List Str} {vs : List V}, RepL K w vs (xs.map D.str) → vs = xs.map V.str
  | [], _, h => by cases h; rfl
  | x :: r, _, h => by
    cases h with
    | cons h1 h2 => cases h1; rw [repL_strs h2]; rfl
/-- the number of different texts of a tuple in which all differ -/
def aLenSet (ra : aE) : aE := fun s ms Q E => ra s ms (fun x ms1 => isT x fun ds => gotI (strsD ds) fun xs => xs.length < 64 ∧ xs.Nodup ∧ Q (.int xs.length) ms1) E
theorem ae_lenSet (hc : X.calm = true) (hg : Gl X "len") (hm : X.mg "len" = none) (hg2 : Gl X "set") (hm2 : X.mg "set" = none) (ha : AE X Wx a ra) (na : starEach [a] X.env = (false, eval a X.env) :: starEach [] X.env := by rfl) : AE X Wx (.Call (.Name "len" p) [.Call (.Name "set" p2) [a] [] q] [] pos) (aLenSet ra) :=
  PE.imp (pe_lenSetS hc hg hm hg2 hm2 ha na) fun σ H R ⟨B, w, ms, s, Q, E, L, h, hq, hx⟩ => ⟨B, w, ms, s, _, E, L, h, fun w1 ms1 H1 v d e1 L1 r1 h1 => by
    cases r1 with
    | @tup l vs ds hf rl =>
      obtain ⟨xs, e, g1, g2, g3⟩ := gotI_of h1
      obtain rfl := strsD_of e
      obtain rfl := repL_strs rl
      exact ⟨l, xs, rfl, SqT.up L1.s0 hf, g1, g2, hq w1 ms1 H1 _ _ e1 L1 (.int _) g3⟩
    | _ => exact False.elim h1, hx⟩
end
end LA

set_option Elab.async false
set_option linter.all false
set_option maxRecDepth 100000
set_option maxHeartbeats 4000000
/-! LA17 (printed by mkla17.py): each reading's step as an equation. -/
namespace LA
open PySem PySem.Spec PyProof.Rows L2
/-- behind a store: the slots are made plain first -/
def withS (s : ASt) (k : ASt → Prop) (t : Tag k k := .mk) : Prop := k s
theorem s_withS {x : Option AV} {s : ASt} {k : ASt → Prop} : withS (x :: s) k = k (x :: s) := Eq.trans rfl rfl
theorem w_aSeq {t u : aS} {s : ASt} {ms : MS} {A : AEnds} : aSeq t u A s ms = (t { A with nx := u A } s ms) := Eq.trans rfl rfl
theorem w_aNext  {s : ASt} {ms : MS} {A : AEnds} : aNext A s ms = (A.nx s ms) := Eq.trans rfl rfl
theorem w_aBreak  {s : ASt} {ms : MS} {A : AEnds} : aBreak A s ms = (A.bk s ms) := Eq.trans rfl rfl
theorem w_aCont  {s : ASt} {ms : MS} {A : AEnds} : aCont A s ms = (A.ct s ms) := Eq.trans rfl rfl
theorem w_aDrop {ra : aE} {s : ASt} {ms : MS} {A : AEnds} : aDrop ra A s ms = (ra s ms (fun _ ms1 => A.nx s ms1) fun x ms => A.ex x s ms) := Eq.trans rfl rfl
theorem w_aRet {ra : aE} {s : ASt} {ms : MS} {A : AEnds} : aRet ra A s ms = (ra s ms A.rt fun x ms => A.ex x s ms) := Eq.trans rfl rfl
theorem w_aRetN  {s : ASt} {ms : MS} {A : AEnds} : aRetN A s ms = (A.rt .non ms) := Eq.trans rfl rfl
theorem w_aIfS {c : aT} {t u : aS} {s : ASt} {ms : MS} {A : AEnds} : aIfS c t u A s ms = (c s ms (fun b ms1 => Br b (t A s) (u A s) ms1) fun x ms => A.ex x s ms) := Eq.trans rfl rfl
theorem w_aAsg {ra : aE} {g : aG} {s : ASt} {ms : MS} {A : AEnds} : aAsg ra g A s ms = (ra s ms (fun x ms1 => g x s ms1 A.nx) fun x ms => A.ex x s ms) := Eq.trans rfl rfl
theorem w_aName {i : Nat} {s : ASt} {ms : MS} {d : D} {Q : ASt → MS → Prop} : aName i d s ms Q = (withS (s.set i (some (.fr d))) (fun s => Q s ms)) := Eq.trans rfl rfl
theorem w_aC {d : D} {s : ASt} {ms : MS} {Q : D → MS → Prop} {E : XD → MS → Prop} : aC d s ms Q E = (Q d ms) := Eq.trans rfl rfl
theorem w_aBin {f : D → D → (D → Prop) → Prop} {ra rb : aE} {s : ASt} {ms : MS} {Q : D → MS → Prop} {E : XD → MS → Prop} : aBin f ra rb s ms Q E = (ra s ms (fun x ms1 => rb s ms1 (fun y ms2 => f x y fun z => Q z ms2) E) E) := Eq.trans rfl rfl
theorem w_aUn {f : D → (D → Prop) → Prop} {ra : aE} {s : ASt} {ms : MS} {Q : D → MS → Prop} {E : XD → MS → Prop} : aUn f ra s ms Q E = (ra s ms (fun x ms1 => f x fun z => Q z ms1) E) := Eq.trans rfl rfl
theorem w_aCall {S : ASp} {rr : aA} {s : ASt} {ms : MS} {Q : D → MS → Prop} {E : XD → MS → Prop} : aCall S rr s ms Q E = (rr s ms (fun ds ms1 => DoCall S ds ms1 Q E) E) := Eq.trans rfl rfl
theorem w_aMeth {c m : Str} {S : ASp} {ra : aE} {rr : aA} {s : ASt} {ms : MS} {Q : D → MS → Prop} {E : XD → MS → Prop} : aMeth c m S ra rr s ms Q E = (ra s ms (fun x ms1 => isIns c x ms1 fun fs => fs.lookup m = none ∧ rr s ms1 (fun ds ms2 => DoCall S (x :: ds) ms2 Q E) E) E) := Eq.trans rfl rfl
theorem w_aProp {c : Str} {S : ASp} {ra : aE} {s : ASt} {ms : MS} {Q : D → MS → Prop} {E : XD → MS → Prop} : aProp c S ra s ms Q E = (ra s ms (fun x ms1 => isIns c x ms1 fun _ => DoCall S [x] ms1 Q fun _ _ => False) E) := Eq.trans rfl rfl
theorem w_aInst {c : Str} {S : ASp} {ra : aE} {rr : aA} {s : ASt} {ms : MS} {Q : D → MS → Prop} {E : XD → MS → Prop} : aInst c S ra rr s ms Q E = (ra s ms (fun x ms1 => isIns c x ms1 fun _ => rr s ms1 (fun ds ms2 => isIns c x ms2 fun _ => DoCall S (x :: ds) ms2 Q E) E) E) := Eq.trans rfl rfl
theorem w_aMake {c : Str} {S : ISp} {rr : aA} {s : ASt} {ms : MS} {Q : D → MS → Prop} {E : XD → MS → Prop} : aMake c S rr s ms Q E = (rr s ms (fun ds ms1 => DoMake S ds ms1 (fun gs ms2 => Q (.ins c gs) ms2) E) E) := Eq.trans rfl rfl
theorem w_aMakeP {c : Str} {S : ISp} {rr : aA} {s : ASt} {ms : MS} {Q : D → MS → Prop} {E : XD → MS → Prop} : aMakeP c S rr s ms Q E = (rr s ms (fun ds ms1 => DoMake S ds ms1 (fun gs ms2 => Q (.ptr ms2.length) (ms2 ++ [.ins c gs])) E) E) := Eq.trans rfl rfl
theorem w_aEqO {c : Str} {S : ASp} {ra rb : aE} {s : ASt} {ms : MS} {Q : D → MS → Prop} {E : XD → MS → Prop} : aEqO c S ra rb s ms Q E = (ra s ms (fun x ms1 => rb s ms1 (fun y ms2 => isIns c x ms2 fun _ => othD c y ms2 (DoCall S [x, y] ms2 Q fun _ _ => False)) E) E) := Eq.trans rfl rfl
theorem w_aWhile {c : aT} {tb : aS} {s : ASt} {ms : MS} {A : AEnds} : aWhile c tb A s ms = (While c tb A s ms) := Eq.trans rfl rfl
theorem w_aAndV {ra rb : aE} {s : ASt} {ms : MS} {Q : D → MS → Prop} {E : XD → MS → Prop} : aAndV ra rb s ms Q E = (ra s ms (fun x ms1 => isB x fun c => Br c (fun ms => rb s ms Q E) (Q (.bl false)) ms1) E) := Eq.trans rfl rfl
theorem w_aOrV {ra rb : aE} {s : ASt} {ms : MS} {Q : D → MS → Prop} {E : XD → MS → Prop} : aOrV ra rb s ms Q E = (ra s ms (fun x ms1 => isB x fun c => Br c (Q (.bl true)) (fun ms => rb s ms Q E) ms1) E) := Eq.trans rfl rfl
theorem w_aNotV {ra : aE} {s : ASt} {ms : MS} {Q : D → MS → Prop} {E : XD → MS → Prop} : aNotV ra s ms Q E = (ra s ms (fun x ms1 => isB x fun c => Q (.bl (!c)) ms1) E) := Eq.trans rfl rfl
theorem w_aB {ra : aE} {s : ASt} {ms : MS} {Q : Bool → MS → Prop} {E : XD → MS → Prop} : aB ra s ms Q E = (ra s ms (fun x ms1 => isB x fun c => Q c ms1) E) := Eq.trans rfl rfl
theorem w_aAnd {ra rb : aT} {s : ASt} {ms : MS} {Q : Bool → MS → Prop} {E : XD → MS → Prop} : aAnd ra rb s ms Q E = (ra s ms (fun c ms1 => Br c (fun ms => rb s ms Q E) (Q false) ms1) E) := Eq.trans rfl rfl
theorem w_aOr {ra rb : aT} {s : ASt} {ms : MS} {Q : Bool → MS → Prop} {E : XD → MS → Prop} : aOr ra rb s ms Q E = (ra s ms (fun c ms1 => Br c (Q true) (fun ms => rb s ms Q E) ms1) E) := Eq.trans rfl rfl
theorem w_aNot {ra : aT} {s : ASt} {ms : MS} {Q : Bool → MS → Prop} {E : XD → MS → Prop} : aNot ra s ms Q E = (ra s ms (fun c ms1 => Q (!c) ms1) E) := Eq.trans rfl rfl
theorem w_aIf {rc : aT} {ra rb : aE} {s : ASt} {ms : MS} {Q : D → MS → Prop} {E : XD → MS → Prop} : aIf rc ra rb s ms Q E = (rc s ms (fun c ms1 => Br c (fun ms => ra s ms Q E) (fun ms => rb s ms Q E) ms1) E) := Eq.trans rfl rfl
theorem w_aChain {f g : D → D → (D → Prop) → Prop} {ra rb rc : aE} {s : ASt} {ms : MS} {Q : D → MS → Prop} {E : XD → MS → Prop} : aChain f g ra rb rc s ms Q E = (ra s ms (fun x ms1 => rb s ms1 (fun y ms2 => f x y fun z => isB z fun c => Br c (fun ms => rc s ms (fun u ms3 => g y u fun z => Q z ms3) E) (Q (.bl false)) ms2) E) E) := Eq.trans rfl rfl
theorem w_aNil  {s : ASt} {ms : MS} {Q : List D → MS → Prop} {E : XD → MS → Prop} : aNil s ms Q E = (Q [] ms) := Eq.trans rfl rfl
theorem w_aCons {ra : aE} {rr : aA} {s : ASt} {ms : MS} {Q : List D → MS → Prop} {E : XD → MS → Prop} : aCons ra rr s ms Q E = (ra s ms (fun x ms1 => rr s ms1 (fun xs ms2 => Q (x :: xs) ms2) E) E) := Eq.trans rfl rfl
theorem w_aTup {rr : aA} {s : ASt} {ms : MS} {Q : D → MS → Prop} {E : XD → MS → Prop} : aTup rr s ms Q E = (rr s ms (fun xs ms1 => xs.length ≤ sizeLine ∧ Q (.tup xs) ms1) E) := Eq.trans rfl rfl
theorem w_aLst {rr : aA} {s : ASt} {ms : MS} {Q : D → MS → Prop} {E : XD → MS → Prop} : aLst rr s ms Q E = (rr s ms (fun xs ms1 => xs.length ≤ sizeLine ∧ Q (.lst xs) ms1) E) := Eq.trans rfl rfl
theorem w_aCB {f : List D → (D → Prop) → Prop} {rr : aA} {s : ASt} {ms : MS} {Q : D → MS → Prop} {E : XD → MS → Prop} : aCB f rr s ms Q E = (rr s ms (fun xs ms1 => f xs fun z => Q z ms1) E) := Eq.trans rfl rfl
theorem w_aFld {cs : List Str} {f : Str} {ra : aE} {s : ASt} {ms : MS} {Q : D → MS → Prop} {E : XD → MS → Prop} : aFld cs f ra s ms Q E = (ra s ms (fun x ms1 => isInC cs x ms1 fun fs => gotF (fs.lookup f) fun d => Q d ms1) E) := Eq.trans rfl rfl
theorem w_aOwn {i : Nat} {f : aF} {s : ASt} {ms : MS} {A : AEnds} : aOwn i f A s ms = (f s ms (fun m ms1 => withS (s.set i (some (.ow m))) (fun s => A.nx s ms1)) fun x ms => A.ex x s ms) := Eq.trans rfl rfl
theorem w_fLst {rr : aA} {s : ASt} {ms : MS} {Q : MO → MS → Prop} {E : XD → MS → Prop} : fLst rr s ms Q E = (rr s ms (fun xs ms1 => xs.length ≤ sizeLine ∧ Q (.lst xs) ms1) E) := Eq.trans rfl rfl
theorem w_fDK  {s : ASt} {ms : MS} {Q : MO → MS → Prop} {E : XD → MS → Prop} : fDK s ms Q E = (Q (.dk []) ms) := Eq.trans rfl rfl
theorem w_fDT  {s : ASt} {ms : MS} {Q : MO → MS → Prop} {E : XD → MS → Prop} : fDT s ms Q E = (Q (.dt []) ms) := Eq.trans rfl rfl
theorem w_aFor {ri : aI} {g : aG} {tb : aS} {s : ASt} {ms : MS} {A : AEnds} : aFor ri g tb A s ms = (ri s ms (fun ds ms1 => ForL g tb ds A s ms1) fun x ms => A.ex x s ms) := Eq.trans rfl rfl
theorem w_fLc {ri : aI} {g : aG} {tt : aT} {te : aE} {vs : List Nat} {s : ASt} {ms : MS} {Q : MO → MS → Prop} {E : XD → MS → Prop} : fLc ri g tt te vs s ms Q E = (wipeA s vs = s ∧ ri s ms (fun ds ms1 => LcL g tt te s ds [] ms1 fun acc ms2 => Q (.lst acc) ms2) E) := Eq.trans rfl rfl
theorem w_fLcK {i : Nat} {g : aG} {tt : aT} {te : aE} {vs : List Nat} {s : ASt} {ms : MS} {Q : MO → MS → Prop} {E : XD → MS → Prop} : fLcK i g tt te vs s ms Q E = (wipeA s vs = s ∧ slotF s[i]? fun x => isDK x fun kvs => LcL g tt te s (kvs.map fun kv => keyD kv.1) [] ms fun acc ms2 => Q (.lst acc) ms2) := Eq.trans rfl rfl
theorem w_fLc2 {ri : aI} {g : aG} {tt : aT} {ri1 : aI} {g1 : aG} {tt1 : aT} {te : aE} {vs vs1 : List Nat} {s : ASt} {ms : MS} {Q : MO → MS → Prop} {E : XD → MS → Prop} : fLc2 ri g tt ri1 g1 tt1 te vs vs1 s ms Q E = (wipeA s vs = s ∧ ri s ms (fun ds ms1 => LcO g tt ri1 g1 tt1 te vs1 s ds [] ms1 fun acc ms2 => Q (.lst acc) ms2) E) := Eq.trans rfl rfl
theorem w_aYes  {s : ASt} {ms : MS} {Q : Bool → MS → Prop} {E : XD → MS → Prop} : aYes s ms Q E = (Q true ms) := Eq.trans rfl rfl
theorem w_aLenSet {ra : aE} {s : ASt} {ms : MS} {Q : D → MS → Prop} {E : XD → MS → Prop} : aLenSet ra s ms Q E = (ra s ms (fun x ms1 => isT x fun ds => gotI (strsD ds) fun xs => xs.length < 64 ∧ xs.Nodup ∧ Q (.int xs.length) ms1) E) := Eq.trans rfl rfl
theorem w_aNoPart  {s : ASt} {ms : MS} {Q : Option Int → MS → Prop} {E : XD → MS → Prop} : aNoPart s ms Q E = (Q none ms) := Eq.trans rfl rfl
theorem w_aPart {ra : aE} {s : ASt} {ms : MS} {Q : Option Int → MS → Prop} {E : XD → MS → Prop} : aPart ra s ms Q E = (ra s ms (fun x ms1 => pInt x fun i => Q i ms1) E) := Eq.trans rfl rfl
theorem w_aSl {ra : aE} {rl rh : aO} {s : ASt} {ms : MS} {Q : D → MS → Prop} {E : XD → MS → Prop} : aSl ra rl rh s ms Q E = (ra s ms (fun x ms1 => rl s ms1 (fun lo ms2 => rh s ms2 (fun hi ms3 => fCut x lo hi fun z => Q z ms3) E) E) E) := Eq.trans rfl rfl
theorem w_aApp {i : Nat} {ra : aE} {s : ASt} {ms : MS} {A : AEnds} : aApp i ra A s ms = (ownAt i s fun m => moL m fun _ => ra s ms (fun y ms1 => ownAt i s fun m => moL m fun xs => xs.length < sizeLine ∧ withS (s.set i (some (.ow (.lst (xs ++ [y]))))) (fun s => A.nx s ms1)) fun x ms => A.ex x s ms) := Eq.trans rfl rfl
theorem w_aExt {i : Nat} {ra : aE} {s : ASt} {ms : MS} {A : AEnds} : aExt i ra A s ms = (ownAt i s fun m => moL m fun _ => ra s ms (fun y ms1 => isL y fun zs => ownAt i s fun m => moL m fun xs => xs.length + zs.length ≤ sizeLine ∧ withS (s.set i (some (.ow (.lst (xs ++ zs))))) (fun s => A.nx s ms1)) fun x ms => A.ex x s ms) := Eq.trans rfl rfl
theorem w_aPop {j i : Nat} {s : ASt} {ms : MS} {A : AEnds} : aPop j i A s ms = (ownAt i s fun m => moL m fun xs => gotI xs.getLast? fun y => withS ((s.set i (some (.ow (.lst xs.dropLast)))).set j (some (.fr y))) (fun s => A.nx s ms)) := Eq.trans rfl rfl
theorem w_aLenO {i : Nat} {s : ASt} {ms : MS} {Q : D → MS → Prop} {E : XD → MS → Prop} : aLenO i s ms Q E = (ownAt i s fun m => moL m fun xs => Q (.int xs.length) ms) := Eq.trans rfl rfl
theorem w_aPutO {i : Nat} {rk rv : aE} {s : ASt} {ms : MS} {A : AEnds} : aPutO i rk rv A s ms = (ownAt i s fun m => moK m fun _ => rv s ms (fun y ms1 => rk s ms1 (fun x ms2 => isKey x fun k => ownAt i s fun m => moK m fun kvs => kvs.length < sizeLine ∧ withS (s.set i (some (.ow (.dk (putDK kvs k y))))) (fun s => A.nx s ms2)) fun x ms => A.ex x s ms) fun x ms => A.ex x s ms) := Eq.trans rfl rfl
theorem w_aGetD {rd rk re : aE} {s : ASt} {ms : MS} {Q : D → MS → Prop} {E : XD → MS → Prop} : aGetD rd rk re s ms Q E = (rd s ms (fun x ms1 => isDK x fun kvs => rk s ms1 (fun y ms2 => re s ms2 (fun z ms3 => isKey y fun k => Q ((valD kvs k).getD z) ms3) E) E) E) := Eq.trans rfl rfl
theorem w_aGetO {i : Nat} {rk re : aE} {s : ASt} {ms : MS} {Q : D → MS → Prop} {E : XD → MS → Prop} : aGetO i rk re s ms Q E = (rk s ms (fun y ms2 => re s ms2 (fun z ms3 => isKey y fun k => ownAt i s fun m => moK m fun kvs => Q ((valD kvs k).getD z) ms3) E) E) := Eq.trans rfl rfl
theorem w_aFldO {c f : Str} {rv : aE} {s : ASt} {ms : MS} {A : AEnds} : aFldO c f rv A s ms = (ownAt 0 s fun m => moI c m fun _ => rv s ms (fun y ms1 => ownAt 0 s fun m => moI c m fun fs => fs.length < 900 ∧ withS (s.set 0 (some (.ow (.ins c (putD f y fs))))) (fun s => A.nx s ms1)) fun x ms => A.ex x s ms) := Eq.trans rfl rfl
theorem w_aRaise0 {c : Str} {s : ASt} {ms : MS} {A : AEnds} : aRaise0 c A s ms = (A.ex (c, []) s ms) := Eq.trans rfl rfl
theorem w_aRaise {c : Str} {fns : List Str} {rr : aA} {s : ASt} {ms : MS} {A : AEnds} : aRaise c fns rr A s ms = (rr s ms (fun ds ms1 => ds.length = fns.length ∧ A.ex (c, (fns.zip ds).reverse) s ms1) fun x ms => A.ex x s ms) := Eq.trans rfl rfl
theorem w_aTry {tb : aS} {hs : List ACl} {s : ASt} {ms : MS} {A : AEnds} : aTry tb hs A s ms = (tb { A with ex := fun x s' ms' => aCls A x s' ms' hs } s ms) := Eq.trans rfl rfl
end LA

set_option Elab.async false
set_option linter.all false
set_option maxRecDepth 100000
set_option maxHeartbeats 4000000
/-! LA18: data. -/
namespace LA
open PySem PySem.Spec PyProof.Rows L2
theorem s_put0 {f : Str} {y : D} : putD f y [] = [(f, y)] := Eq.trans rfl rfl
theorem s_putE {z z' : String} {x y : D} {r : List (Str × D)} : putD (Str.ofString z) y ((Str.ofString z', x) :: r) = if z' = z then (Str.ofString z, y) :: r else (Str.ofString z', x) :: putD (Str.ofString z) y r := by
  rw [putD]
  by_cases h : z' = z
  · subst h; rw [if_pos rfl, if_pos rfl]
  · rw [if_neg h, if_neg (fun e => h (Eq.mp (str_eq _ _) e))]
theorem s_selfI {c c' : Str} {fs : List (Str × D)} {kF : List (Str × D) → Prop} {s : ASt} : selfIs (some (.ow (.ins c fs)) :: s) c' kF = (c = c' ∧ kF fs) := Eq.trans rfl rfl
theorem s_intsM {ns : List Int} : intsD (ns.map D.int) = some ns := by
  induction ns with
  | nil => rfl
  | cons i r ih => rw [List.map_cons, intsD, ih]; rfl
theorem s_intsF {α : Type} {l : List α} {f : α → Int} : intsD (l.map fun a => D.int (f a)) = some (l.map f) := by
  have := s_intsM (ns := l.map f)
  rw [List.map_map] at this; exact this
theorem s_blsM {ns : List Bool} : blsD (ns.map D.bl) = some ns := by
  induction ns with
  | nil => rfl
  | cons i r ih => rw [List.map_cons, blsD, ih]; rfl
theorem s_blsF {α : Type} {l : List α} {f : α → Bool} : blsD (l.map fun a => D.bl (f a)) = some (l.map f) := by
  have := s_blsM (ns := l.map f)
  rw [List.map_map] at this; exact this
theorem s_val0 {k : Key} : valD [] k = none := Eq.trans rfl rfl
theorem s_valE {z z' : String} {x : D} {r : List (Key × D)} : valD ((.inr (Str.ofString z), x) :: r) (.inr (Str.ofString z')) = if z = z' then some x else valD r (.inr (Str.ofString z')) := by
  unfold valD
  rw [List.find?_cons]
  by_cases h : z = z'
  · subst h; simp
  · rw [if_neg h, decide_eq_false (fun e => h (Eq.mp (str_eq _ _) (Sum.inr.inj e)))]
theorem s_dpt0 {k : Key} {y : D} : putDK [] k y = [(k, y)] := Eq.trans rfl rfl
theorem valD_map {α : Type} {l : List α} {f : α → Str} {g : α → D} {a : α} (h : a ∈ l) (inj : ∀ b ∈ l, f b = f a → g b = g a) : valD (l.map fun n => ((.inr (f n) : Key), g n)) (.inr (f a)) = some (g a) := by
  unfold valD
  induction l with
  | nil => cases h
  | cons y r ih =>
    simp only [List.map_cons, List.find?_cons]
    by_cases e : f y = f a
    · rw [e, decide_eq_true rfl]
      rw [← inj y List.mem_cons_self e]; rfl
    · rw [decide_eq_false fun z => e (Sum.inr.inj z)]
      refine ih ((List.mem_cons.mp h).resolve_left fun z => e (by rw [z])) fun b hb => inj b (List.mem_cons_of_mem _ hb)
/-- what a dict does not hold -/
theorem valD_none {α : Type} {l : List α} {f : α → Str} {g : α → D} {x : Str} (h : ∀ b ∈ l, f b ≠ x) : valD (l.map fun n => ((.inr (f n) : Key), g n)) (.inr x) = none := by
  unfold valD
  induction l with
  | nil => rfl
  | cons y r ih =>
    simp only [List.map_cons, List.find?_cons]
    rw [decide_eq_false fun z => h y List.mem_cons_self (Sum.inr.inj z)]
    exact ih fun b hb => h b (List.mem_cons_of_mem _ hb)
end LA

set_option Elab.async false
set_option linter.all false
set_option maxRecDepth 100000
set_option maxHeartbeats 4000000
/-! LA19: methods of lists and texts. -/
namespace LA
open PySem PySem.Spec PyProof.Rows L2
def tyD (T : String) (x : D) : Prop := match x with
  | .lst _ => T = "list"
  | .str _ => T = "str"
  | _ => False
def aBM (T : String) (f : D → List D → (D → Prop) → Prop) (ra : aE) (rr : aA) : aE := fun s ms Q E => ra s ms (fun x ms1 => tyD T x ∧ rr s ms1 (fun ds ms2 => f x ds fun z => Q z ms2) E) E
theorem w_aBM {T : String} {f : D → List D → (D → Prop) → Prop} {ra : aE} {rr : aA} {s : ASt} {ms : MS} {Q : D → MS → Prop} {E : XD → MS → Prop} : aBM T f ra rr s ms Q E = (ra s ms (fun x ms1 => tyD T x ∧ rr s ms1 (fun ds ms2 => f x ds fun z => Q z ms2) E) E) := Eq.trans rfl rfl
theorem s_tyL {T : String} {xs : List D} : tyD T (.lst xs) = (T = "list") := Eq.trans rfl rfl
theorem s_tyS {T : String} {z : Str} : tyD T (.str z) = (T = "str") := Eq.trans rfl rfl
section
variable {X : Cx} {Wx : WXA} {o c : Expr} {es : List Expr} {ra : aE} {rr : aA} {T : String} {f : D → List D → (D → Prop) → Prop} {r : V → List V → Hp → VK → Prop}
theorem ae_bm (h : ∀ {t : TE} {tt : TA}, PE X o t → PA X es tt → PE X c (tBM X.K T r t tt)) (hr : ∀ x xs H R, rCM X.K f x xs H R → r x xs H R) (ha : AE X Wx o ra) (hb : AA X Wx es rr) : AE X Wx c (aBM T f ra rr) :=
  PE.imp (h ha hb) fun σ H R ⟨B, w, ms, s, Q, E, L, h, hq, hx⟩ => ⟨B, w, ms, s, _, E, L, h, fun w1 ms1 H1 v d e1 L1 r1 ⟨ty, h1⟩ => by
    refine ⟨?_, B, w1, ms1, s, _, E, L1, h1, fun w2 ms2 H2 vs ds e2 L2 r2 h2 => hr _ _ _ _ ⟨_, B, w2, ms2, s, σ, d, ds, _, L2, r1.mono e2, r2, h2, fun w3 H3 z dz e3 L3 r3 q3 => hq w3 ms2 H3 z dz ((e1.trans e2).trans e3) L3 r3 q3⟩, hx.le e1⟩
    cases r1 with
    | lst hf rl => exact .inl ⟨ty, _, SqL.up L1.s0 hf⟩
    | str z => exact ty
    | _ => exact False.elim ty, hx⟩
end
/-- l.index(x) -/
def fIndex (x : D) (ds : List D) (q : D → Prop) : Prop := match x, ds with
  | .lst xs, [y] => flatD y = true ∧ xs.all flatD = true ∧ gotI (xs.findIdx? fun z => eqFlat z y) fun j => q (.int (j : Nat))
  | _, _ => False
theorem s_index {xs : List D} {y : D} {q : D → Prop} : fIndex (.lst xs) [y] q = (flatD y = true ∧ xs.all flatD = true ∧ gotI (xs.findIdx? fun z => eqFlat z y) fun j => q (.int (j : Nat))) := Eq.trans rfl rfl
theorem index_ok {K : PySem.W.Frag} (x : V) (xs : List V) (H : Hp) (R : VK) (h : rCM K fIndex x xs H R) : rIndex K x xs H R := by
  obtain ⟨ex, B, w, ms, s, σ, dx, ds, Qd, L, r1, r2, h, k⟩ := h
  unfold fIndex at h
  split at h
  · rename_i zs y
    obtain ⟨hy, hz, h⟩ := h
    obtain ⟨j, hj, q⟩ := gotI_of h
    cases r1 with
    | lst hf rl =>
      rename_i a vs
      cases r2 with
      | cons ry r2 =>
        cases r2
        rename_i v
        rw [List.findIdx?_eq_some_iff_getElem] at hj
        obtain ⟨hl, h1, h2⟩ := hj
        obtain ⟨u, hu, ru⟩ := rl.get (List.getElem?_eq_getElem hl)
        have fl : ∀ (i : Nat) (z : D), zs[i]? = some z → flatD z = true := fun i z e => List.all_eq_true.mp hz z (List.mem_of_getElem? e)
        refine ⟨a, vs, v, j, u, rfl, rfl, SqL.up L.s0 hf, flat_rep ry hy, flats_rep rl hz, hu, ?_, fun m z' hm hz' => ?_, k w H _ _ (Le.refl _ _) L (.int _) q⟩
        · rw [eqFlat_rep ru ry (fl _ _ (List.getElem?_eq_getElem hl)) hy]; exact h1
        · obtain ⟨d, hd, rd⟩ := rl.getV hz'
          rw [eqFlat_rep rd ry (fl _ _ hd) hy]
          have := h2 m hm
          have e : d = zs[m]'(by omega) := by
            rw [List.getElem?_eq_getElem (by omega)] at hd; exact (Option.some.inj hd).symm
          rw [e]
          cases q : eqFlat (zs[m]'(by omega)) y with
          | true => exact (this q).elim
          | false => rfl
    | _ => rename_i e; cases e
  · exact h.elim
end LA

set_option Elab.async false
set_option linter.all false
set_option maxRecDepth 100000
set_option maxHeartbeats 4000000
/-! LA20: equal data of any depth. -/
namespace LA
open PySem PySem.Spec PyProof.Rows L2
mutual
def toPy : D → PyData
  | .non => .none
  | .bl b => .bool b
  | .int i => .int i
  | .str x => .str x
  | .lst xs => .list (toPyL xs)
  | .tup xs => .tuple (toPyL xs)
  | _ => .none
def toPyL : List D → List PyData
  | [] => []
  | d :: r => toPy d :: toPyL r
end
/-- data that can be compared, nested n deep at most -/
def EqOk : Nat → D → Prop
  | _, .non => True
  | _, .bl _ => True
  | _, .int _ => True
  | _, .str x => PyData.strOk x = true
  | n + 1, .lst xs => ∀ x ∈ xs, EqOk n x
  | n + 1, .tup xs => ∀ x ∈ xs, EqOk n x
  | _, _ => False
theorem py_lst {n : Nat} : ∀ (xs : List D), (∀ x ∈ xs, PyOf x (toPy x) ∧ (toPy x).canLay0 = true ∧ (toPy x).depth ≤ n) → PyOf (.lst xs) (.list (toPyL xs)) ∧ PyOf (.tup xs) (.tuple (toPyL xs)) ∧ PyData.canLayAll0 (toPyL xs) = true ∧ PyData.depthAll (toPyL xs) ≤ n
  | [], _ => ⟨.lnil, .tnil, rfl, Nat.zero_le _⟩
  | x :: r, h => by
    obtain ⟨h1, h2, h3⟩ := h x List.mem_cons_self
    obtain ⟨i1, i2, i3, i4⟩ := py_lst r fun y hy => h y (List.mem_cons_of_mem _ hy)
    refine ⟨.lcons h1 i1, .tcons h1 i2, ?_, ?_⟩
    · simp only [toPyL, PyData.canLayAll0, h2, i3, Bool.and_self]
    · simp only [toPyL, PyData.depthAll]; exact Nat.max_le.mpr ⟨h3, i4⟩
theorem EqOk.py : ∀ (n : Nat) (d : D), EqOk n d → PyOf d (toPy d) ∧ (toPy d).canLay0 = true ∧ (toPy d).depth ≤ n
  | n, .non, _ => ⟨.non, rfl, Nat.zero_le _⟩
  | n, .bl b, _ => ⟨.bl b, rfl, Nat.zero_le _⟩
  | n, .int b, _ => ⟨.int b, rfl, Nat.zero_le _⟩
  | n, .str b, h => by
    have h : PyData.strOk b = true := by cases n <;> exact h
    exact ⟨.str b, by simp only [toPy, PyData.canLay0]; exact h, Nat.zero_le _⟩
  | n + 1, .lst xs, h => by
    obtain ⟨h1, h2, h3, h4⟩ := py_lst xs fun x hx => EqOk.py n x (h x hx)
    exact ⟨by rw [toPy]; exact h1, by simp only [toPy, PyData.canLay0]; exact h3, by simp only [toPy, PyData.depth]; omega⟩
  | n + 1, .tup xs, h => by
    obtain ⟨h1, h2, h3, h4⟩ := py_lst xs fun x hx => EqOk.py n x (h x hx)
    exact ⟨by rw [toPy]; exact h2, by simp only [toPy, PyData.canLay0]; exact h3, by simp only [toPy, PyData.depth]; omega⟩
  | 0, .lst _, h => h.elim
  | 0, .tup _, h => h.elim
  | n, .ty _, h => by cases n <;> exact h.elim
  | n, .cls _, h => by cases n <;> exact h.elim
  | n, .dk _, h => by cases n <;> exact h.elim
  | n, .dt _, h => by cases n <;> exact h.elim
  | n, .ins _ _, h => by cases n <;> exact h.elim
  | n, .ptr _, h => by cases n <;> exact h.elim
  | n, .exn _ _, h => by cases n <;> exact h.elim
theorem EqOk.up {d : D} : ∀ {n m : Nat}, n ≤ m → EqOk n d → EqOk m d
  | n, m, h, e => by
    cases d with
    | non => cases m <;> trivial
    | bl b => cases m <;> trivial
    | int b => cases m <;> trivial
    | str b => cases n <;> cases m <;> exact e
    | lst xs =>
      match n, m, h, e with
      | n + 1, m + 1, h, e => exact fun x hx => EqOk.up (Nat.le_of_succ_le_succ h) (e x hx)
    | tup xs =>
      match n, m, h, e with
      | n + 1, m + 1, h, e => exact fun x hx => EqOk.up (Nat.le_of_succ_le_succ h) (e x hx)
    | _ => cases n <;> exact e.elim
theorem EqOk.shaped {n : Nat} {d : D} (h : EqOk n d) (hn : n ≤ 64) : SeqAt.shaped (toPy d) = true := by
  obtain ⟨_, h2, h3⟩ := h.py
  unfold SeqAt.shaped
  rw [h2, decide_eq_true (by omega)]; rfl
theorem eqDeep_self {n : Nat} {x : D} {k : Bool → Prop} (h : EqOk n x) (hn : n ≤ 64) (q : k true) : EqDeep x x k := by
  obtain ⟨h1, h2, _⟩ := h.py
  exact ⟨_, _, h1, h1, h.shaped hn, h.shaped hn, by rw [SeqAt.eqv_refl _ h2]; exact q⟩
end LA

set_option Elab.async false
set_option linter.all false
set_option maxRecDepth 100000
set_option maxHeartbeats 4000000
/-! LA21: f-strings, join. -/
namespace LA
open PySem PySem.Spec PyProof.Rows L2
def fmtD (x : D) (k : Str → Prop) : Prop := match x with
  | .str y => y.length ≤ sizeLine ∧ k y
  | .int i => i.natAbs.log2 < 1920 ∧ k (toString i)
  | _ => False
theorem s_fmtS {y : Str} {k : Str → Prop} : fmtD (.str y) k = (y.length ≤ sizeLine ∧ k y) := Eq.trans rfl rfl
theorem s_fmtI {i : Int} {k : Str → Prop} : fmtD (.int i) k = (i.natAbs.log2 < 1920 ∧ k (toString i)) := Eq.trans rfl rfl
def strD (x : D) (k : Str → Prop) : Prop := match x with
  | .str y => k y
  | _ => False
theorem s_strD {y : Str} {k : Str → Prop} : strD (.str y) k = k y := Eq.trans rfl rfl
def aFmt (ra : aE) : aE := fun s ms Q E => ra s ms (fun x ms1 => fmtD x fun y => Q (.str y) ms1) E
theorem w_aFmt {ra : aE} {s : ASt} {ms : MS} {Q : D → MS → Prop} {E : XD → MS → Prop} : aFmt ra s ms Q E = (ra s ms (fun x ms1 => fmtD x fun y => Q (.str y) ms1) E) := Eq.trans rfl rfl
def aJs : List aE → Str → ASt → MS → (Str → MS → Prop) → (XD → MS → Prop) → Prop
  | [], acc, _, ms, Q, _ => Q acc ms
  | r :: rs, acc, s, ms, Q, E => r s ms (fun x ms1 => strD x fun y => (acc ++ y).length ≤ sizeLine ∧ aJs rs (acc ++ y) s ms1 Q E) E
theorem w_aJs0 {acc : Str} {s : ASt} {ms : MS} {Q : Str → MS → Prop} {E : XD → MS → Prop} : aJs [] acc s ms Q E = Q acc ms := Eq.trans rfl rfl
theorem w_aJs1 {r : aE} {rs : List aE} {acc : Str} {s : ASt} {ms : MS} {Q : Str → MS → Prop} {E : XD → MS → Prop} : aJs (r :: rs) acc s ms Q E = r s ms (fun x ms1 => strD x fun y => (acc ++ y).length ≤ sizeLine ∧ aJs rs (acc ++ y) s ms1 Q E) E := Eq.trans rfl rfl
def aJoin (rs : List aE) : aE := fun s ms Q E => aJs rs Str.empty s ms (fun y ms1 => Q (.str y) ms1) E
theorem w_aJoin {rs : List aE} {s : ASt} {ms : MS} {Q : D → MS → Prop} {E : XD → MS → Prop} : aJoin rs s ms Q E = aJs rs Str.empty s ms (fun y ms1 => Q (.str y) ms1) E := Eq.trans rfl rfl
section
variable {X : Cx} {Wx : WXA} {e : Expr} {es : List Expr} {ra : aE} {rs : List aE} {pos : Pos}
theorem ae_fmt (he : AE X Wx e ra) : AE X Wx (.FormattedValue e (-1) none pos) (aFmt ra) :=
  PE.imp (pe_fmt he) fun σ H R ⟨B, w, ms, s, Q, E, L, h, hq, hx⟩ => ⟨B, w, ms, s, _, E, L, h, fun w1 ms1 H1 v d e1 L1 r1 h1 => by
    cases r1 with
    | str y => exact .inl ⟨y, rfl, h1.1, hq w1 ms1 H1 _ _ e1 L1 (.str y) h1.2⟩
    | int i => exact .inr ⟨i, rfl, h1.1, hq w1 ms1 H1 _ _ e1 L1 (.str _) h1.2⟩
    | _ => exact False.elim h1, hx⟩
inductive AJ (X : Cx) (Wx : WXA) : List Expr → List aE → Prop where
  | nil : AJ X Wx [] []
  | cons {e : Expr} {t : aE} {es : List Expr} {ts : List aE} (h : AE X Wx e t) (r : AJ X Wx es ts) : AJ X Wx (e :: es) (t :: ts)
theorem AJ.pj (h : AJ X Wx es rs) : PJ X es (rs.map (cE X.K Wx)) := by
  induction h with
  | nil => exact .nil
  | cons h r ih => exact .cons h ih
theorem js_ok : ∀ (rs : List aE) (acc : Str) {σ : L2.St} {H : Hp} {B : Bs Wx.ex} {w : W} {ms : MS} {s : ASt} {Q : Str → MS → Prop} {E : XD → MS → Prop} {R : Str → Hp → Prop}, Lk X.K B w ms s σ H → aJs rs acc s ms Q E →
    (∀ w' ms' H' y, Le X.K w w' → Lk X.K B w' ms' s σ H' → Q y ms' → R y H') → PostX X.K B w s σ E Wx → tJs (rs.map (cE X.K Wx)) acc σ H R
  | [], acc, σ, H, B, w, ms, s, Q, E, R, L, h, hq, hx => hq w ms H acc (Le.refl _ _) L h
  | r :: rs, acc, σ, H, B, w, ms, s, Q, E, R, L, h, hq, hx => ⟨B, w, ms, s, _, E, L, h, fun w1 ms1 H1 v d e1 L1 r1 h1 => by
    cases r1 with
    | str y => exact ⟨y, rfl, h1.1, js_ok rs (acc ++ y) L1 h1.2 (fun w' ms' H' y' le => hq w' ms' H' y' (e1.trans le)) (hx.le e1)⟩
    | _ => exact False.elim h1, hx⟩
theorem ae_joined {v1 v2 : Expr} {rest : List Expr} (h : AJ X Wx (v1 :: v2 :: rest) rs) : AE X Wx (.JoinedStr (v1 :: v2 :: rest) pos) (aJoin rs) :=
  PE.imp (pe_joined h.pj) fun σ H R ⟨B, w, ms, s, Q, E, L, h, hq, hx⟩ => js_ok rs Str.empty L h (fun w' ms' H' y le L' q => hq w' ms' H' _ _ le L' (.str y) q) hx
end
/-- z.join(l) -/
def fJoin (x : D) (ds : List D) (q : D → Prop) : Prop := match x, ds with
  | .str a, [.lst xs] => gotI (strsD xs) fun ys => (ys.map (·.length)).sum + ys.length * a.length ≤ 16777216 ∧ q (.str (Txt.join a ys))
  | _, _ => False
theorem s_join {a : Str} {xs : List D} {q : D → Prop} : fJoin (.str a) [.lst xs] q = gotI (strsD xs) fun ys => (ys.map (·.length)).sum + ys.length * a.length ≤ 16777216 ∧ q (.str (Txt.join a ys)) := Eq.trans rfl rfl
theorem join_ok {K : PySem.W.Frag} (x : V) (xs : List V) (H : Hp) (R : VK) (h : rCM K fJoin x xs H R) : ∃ a p, ∃ ys : List Str, x = .str a ∧ xs = [.ref p] ∧ (SqL K H p (ys.map V.str) ∨ SqT K H p (ys.map V.str)) ∧ (ys.map (·.length)).sum + ys.length * a.length ≤ 16777216 ∧ R (.str (Txt.join a ys)) H := by
  obtain ⟨ex, B, w, ms, s, σ, dx, ds, Qd, L, r1, r2, h, k⟩ := h
  unfold fJoin at h
  split at h
  · rename_i a zs
    obtain ⟨ys, hj, hl, q⟩ := gotI_of h
    cases r1
    cases r2 with
    | cons ry r2 =>
      cases r2
      cases ry with
      | lst hf rl =>
        rename_i p vs
        have e := strsD_of hj
        subst e
        exact ⟨a, p, ys, rfl, rfl, .inl (by rw [← RepL.of_strs rl]; exact SqL.up L.s0 hf), hl, k w H _ _ (Le.refl _ _) L (.str _) q⟩
  · exact h.elim
theorem s_strsM {ns : List Str} : strsD (ns.map D.str) = some ns := by
  induction ns with
  | nil => rfl
  | cons i r ih => rw [List.map_cons, strsD, ih]; rfl
theorem s_strsF {α : Type} {l : List α} {f : α → Str} : strsD (l.map fun a => D.str (f a)) = some (l.map f) := by
  have := s_strsM (ns := l.map f)
  rw [List.map_map] at this; exact this
end LA

set_option Elab.async false
set_option linter.all false
set_option maxRecDepth 100000
set_option maxHeartbeats 4000000
/-! LA22: comprehensions over written lists. -/
namespace LA
open PySem PySem.Spec PyProof.Rows L2
section
variable {g : aG} {tt : aT} {te : aE} {s : ASt} {acc ds : List D} {d : D} {ms : MS} {Q : List D → MS → Prop}
theorem lcL_eq : LcL g tt te s ds acc ms Q = aLcL g tt te s ds acc ms Q := propext ⟨fun h => h.h, fun h => ⟨h⟩⟩
theorem lc_nil : LcL g tt te s [] acc ms Q = Q acc ms := lcL_eq
theorem lcL_fn : (fun acc ms => LcL g tt te s ds acc ms Q) = fun acc ms => aLcL g tt te s ds acc ms Q := by funext acc ms; exact lcL_eq
theorem lc_cons : LcL g tt te s (d :: ds) acc ms Q = g d s ms fun s2 ms2 => tt s2 ms2 (fun b ms3 => Br b (fun ms3 => te s2 ms3 (fun y ms4 => acc.length < sizeLine ∧ (fun acc ms => LcL g tt te s ds acc ms Q) (acc ++ [y]) ms4) fun _ _ => False) (fun ms3 => (fun acc ms => LcL g tt te s ds acc ms Q) acc ms3) ms3) fun _ _ => False := by
  rw [lcL_fn, lcL_eq]; rfl
end
/-- a new list: one behind the other -/
def fCatL (ra rb : aE) : aF := fun s ms Q E => ra s ms (fun x ms1 => rb s ms1 (fun y ms2 => isL x fun xs => isL y fun ys => xs.length + ys.length ≤ sizeLine ∧ Q (.lst (xs ++ ys)) ms2) E) E
theorem w_fCatL {ra rb : aE} {s : ASt} {ms : MS} {Q : MO → MS → Prop} {E : XD → MS → Prop} : fCatL ra rb s ms Q E = (ra s ms (fun x ms1 => rb s ms1 (fun y ms2 => isL x fun xs => isL y fun ys => xs.length + ys.length ≤ sizeLine ∧ Q (.lst (xs ++ ys)) ms2) E) E) := Eq.trans rfl rfl
theorem fe_catL {X : Cx} {Wx : WXA} {a b : Expr} {ra rb : aE} {pos : Pos} (ha : AE X Wx a ra) (hb : AE X Wx b rb) : FE X Wx (.BinOp a .Add b pos) (fCatL ra rb) :=
  PE.imp (pe_op op_cat ha hb) fun σ H R ⟨B, w, ms, s, Q, E, L, h, hq, hx⟩ => two (X := X) L h hx fun w2 ms2 H2 v v2 d d2 e2 L2 r1 r2 h2 => by
    cases r1 with
    | lst f1 q1 =>
      cases r2 with
      | lst f2 q2 => exact ⟨_, _, _, _, rfl, rfl, L2.s0.fh _ _ f1, L2.s0.fh _ _ f2, by rw [q1.length, q2.length]; exact h2.1, fun p hp => hq w2 ms2 H2 p _ _ e2 L2 hp (.lst upd_same (q1.append q2)) h2.2⟩
      | _ => exact False.elim h2
    | _ => exact False.elim h2
theorem numLen {z : Int} (h : z.natAbs.log2 < 1920) : (Str.ofString (toString z)).length ≤ 1921 := int_text_len_1921 h
theorem joinLen (sep : Str) (l : List Str) : (Txt.join sep l).length ≤ (l.map (·.length)).sum + l.length * sep.length := by
  have h : (Builtin.Str.glued sep l).length = (l.map (·.length)).sum + (l.length - 1) * sep.length := by exact PySem.size_glued sep l
  show (Builtin.Str.glued sep l).length ≤ _
  rw [h]
  have : (l.length - 1) * sep.length ≤ l.length * sep.length := Nat.mul_le_mul_right _ (by omega)
  omega
end LA

set_option Elab.async false
set_option linter.all false
set_option maxRecDepth 100000
set_option maxHeartbeats 4000000
/-! LA23: own operators. -/
namespace LA
open PySem PySem.Spec PyProof.Rows L2
/-- the other side of an own operator: an int, an instance of the class -/
def othB (c : Str) (y : D) (ms : MS) (k : Prop) : Prop := match y with
  | .int _ => k
  | .ins c' _ => c' = c ∧ k
  | .ptr i => match ms[i]? with
    | some (.ins c' _) => c' = c ∧ k
    | _ => False
  | _ => False
theorem s_othB1 {c : Str} {i : Int} {ms : MS} {k : Prop} : othB c (.int i) ms k = k := Eq.trans rfl rfl
theorem s_othB2 {c c' : Str} {fs : List (Str × D)} {ms : MS} {k : Prop} : othB c (.ins c' fs) ms k = (c' = c ∧ k) := Eq.trans rfl rfl
theorem s_othB3 {c : Str} {n : Nat} {ms : MS} {k : Prop} : othB c (.ptr n) ms k = cellI ms[n]? fun c' _ => c' = c ∧ k := by unfold othB cellI; rfl
def aBinO (c : Str) (S : ASp) (ra rb : aE) : aE := fun s ms Q E => ra s ms (fun x ms1 => rb s ms1 (fun y ms2 => isIns c x ms2 fun _ => othB c y ms2 (DoCall S [x, y] ms2 Q E)) E) E
theorem w_aBinO {c : Str} {S : ASp} {ra rb : aE} {s : ASt} {ms : MS} {Q : D → MS → Prop} {E : XD → MS → Prop} : aBinO c S ra rb s ms Q E = (ra s ms (fun x ms1 => rb s ms1 (fun y ms2 => isIns c x ms2 fun _ => othB c y ms2 (DoCall S [x, y] ms2 Q E)) E) E) := Eq.trans rfl rfl
def aInO (c : Str) (S : ASp) (ra rb : aE) : aE := fun s ms Q E => ra s ms (fun x ms1 => rb s ms1 (fun y ms2 => isIns c y ms2 fun _ => DoCall S [y, x] ms2 (fun z ms3 => isB z fun b => Q (.bl b) ms3) E) E) E
theorem w_aInO {c : Str} {S : ASp} {ra rb : aE} {s : ASt} {ms : MS} {Q : D → MS → Prop} {E : XD → MS → Prop} : aInO c S ra rb s ms Q E = (ra s ms (fun x ms1 => rb s ms1 (fun y ms2 => isIns c y ms2 fun _ => DoCall S [y, x] ms2 (fun z ms3 => isB z fun b => Q (.bl b) ms3) E) E) E) := Eq.trans rfl rfl
section
variable {X : Cx} {Wx : WXA} {a b : Expr} {ra rb : aE} {pos : Pos} {k : Nat} {c m : Str} {ps : List Str} {S : ASp} {op : Operator}
theorem mate_rep {K : PySem.W.Frag} {w : W} {ms : MS} {H : Hp} {v : V} {d : D} {kk : Prop} (h0 : St0 K w ms H) (r : Rep K w v d) (h : othB c d ms kk) : HX.Mate K c H v ∧ kk := by
  cases r with
  | int i => exact ⟨.int, h⟩
  | ins h1 r1 =>
    obtain ⟨rfl, h⟩ := h
    exact ⟨.ins (h0.fh _ _ h1), h⟩
  | @ptr a i h1 =>
    unfold othB at h
    dsimp only at h
    split at h
    · rename_i c' fs q
      obtain ⟨rfl, h⟩ := h
      obtain ⟨b, hb, rm⟩ := h0.ce _ _ q
      rw [h1] at hb; cases hb
      cases rm with
      | ins h2 r2 => exact ⟨.ins h2, h⟩
    · exact h.elim
  | _ => exact False.elim h
theorem ae_binO (tk : L2N.Takes X Wx.w) (G : HX.GMe X.prog X.w X.K X.mg X.base c m k ps (spA X.K S)) (Bc : HX.BinC X.K c op.info.2) (hr : Room k X.A) (ha : AE X Wx a ra) (hb : AE X Wx b rb) (hd : PySem.dunder op.info.2 = m := by rfl) : AE X Wx (.BinOp a op b pos) (aBinO c S ra rb) :=
  PE.imp (HX.pe_binO G Bc hr (fun σ => L2N.passAt tk σ) ha hb hd) fun σ H R ⟨B, w, ms, s, Q, E, L, h, hq, hx⟩ => two (X := X) L h hx fun w2 ms2 H2 v v2 d d2 e2 L2 r1 r2 h2 => by
    obtain ⟨p, dx, fs, ds, rfl, hH, rf, h2⟩ := isIns_rep (X := X) L2.s0 r1 h2
    obtain ⟨o, h2⟩ := mate_rep L2.s0 r2 h2
    exact ⟨p, dx, fs, rfl, hH, o, spA_of (X := X) L2 (.cons r1 (.cons r2 .nil)) h2.h (hq.le e2) (hx.le e2)⟩
theorem ae_inO (tk : L2N.Takes X Wx.w) (G : HX.GMe X.prog X.w X.K X.mg X.base c "__contains__" k ps (spA X.K S)) (hr : Room k X.A) (ha : AE X Wx a ra) (hb : AE X Wx b rb) (hm : behindInMarks .In b = false := by rfl) : AE X Wx (.Compare a [.In] [b] pos) (aInO c S ra rb) :=
  PE.imp (HX.pe_inO G hr (fun σ => L2N.passAt tk σ) ha hb hm) fun σ H R ⟨B, w, ms, s, Q, E, L, h, hq, hx⟩ => two (X := X) L h hx fun w2 ms2 H2 v v2 d d2 e2 L2 r1 r2 h2 => by
    obtain ⟨p, dx, fs, ds, rfl, hH, rf, h2⟩ := isIns_rep (X := X) L2.s0 r2 h2
    refine ⟨p, dx, fs, rfl, hH, spA_of (X := X) L2 (.cons r2 (.cons r1 .nil)) h2.h (fun w3 ms3 H3 z dz e3 L3 r3 q3 => ?_) (hx.le e2)⟩
    obtain ⟨b, rfl, rfl, q⟩ := isB_rep (X := X) r3 q3
    exact ⟨b, rfl, hq w3 ms3 H3 _ _ (e2.trans e3) L3 (.bl b) q⟩
end
/-- a list's items to several names -/
def aGLst (n : Nat) (r : aGs) : aG := fun d s ms Q => match d with
  | .lst ds => ds.length = n ∧ r ds s ms Q
  | _ => False
theorem s_gl {n : Nat} {r : aGs} {ds : List D} {s : ASt} {ms : MS} {Q : ASt → MS → Prop} : aGLst n r (.lst ds) s ms Q = (ds.length = n ∧ r ds s ms Q) := Eq.trans rfl rfl
theorem ag_lst {X : Cx} {Wx : WXA} {es : List Expr} {pos : Pos} {k n : Nat} {r : aGs} {vs : List Nat} (hc : X.calm = true) (h : AGs X Wx vs es r) (hn : (assignEach es X.env).length = n := by rfl) (hst : (assignEach es X.env).findIdx? (·.1) = none := by rfl) : AG X Wx vs (.Tuple es k pos) (aGLst n r) :=
  PG.imp (pg_lst hc h hn hst) fun v σ H R ⟨B, w, ms, s, d, Q, L, rv, q, kk⟩ => by
    cases rv with
    | lst hs rl => exact ⟨_, _, rfl, SqL.up L.s0 hs, rl.length.trans q.1, B, w, ms, s, _, Q, L, rl, q.2, kk⟩
    | _ => exact False.elim q
end LA

set_option Elab.async false
set_option linter.all false
set_option maxRecDepth 100000
set_option maxHeartbeats 4000000
/-! LA24: len of an own instance. -/
namespace LA
open PySem PySem.Spec PyProof.Rows L2
section
variable {M : Model} {A : Around} {E : Value → Shared → Prop} {s : Shared} {K : PySem.W.Frag} {x C f : Addr} {ox : Obj} {od : Option Obj}
theorem special_own {name : Str} {args : List Value} {Q : Option Value → Shared → Prop} (X : K.In s.heap) (I : PySem.W.InstAt s.heap x ox C od) (hs : PySem.W.findIn K (.ref C) name = some (some (.ref f))) (hf : PySem.W.isFn K (.ref f) = true)
    (h : wpAny M A (call (.ref f) (.ref x :: args)) (fun v => Q (some v)) E s) : wpAny M A (callSpecial? (.ref x) name args) Q E s := by
  unfold callSpecial? specialOf
  refine wpAny_bind (wpAny_bind (I.type.here ((PySem.W.looks_findIn X hs).here ?_)))
  refine wpAny_holding (wpAny_bind ((PySem.W.bind_fn X _ (beq_iff_eq.mp hf)).here ?_))
  dsimp only
  exact wpAny_bind (wpAny_mono h (fun _ _ z => wpAny_pure z) fun _ _ z => z)
end
section
variable {X : Cx} {k : Nat} {c : Str} {ps : List Str} {sp : Sp}
theorem call_lenO (G : HX.GMe X.prog X.w X.K X.mg X.base c "__len__" k ps sp) (hr : Room (k + 1) X.A) : CallR X (.builtin "len") (fun xs H Q => ∃ a dx fs, xs = [.ref a] ∧ H a = some (.ins (He.ga X.K c) dx fs) ∧ sp [.ref a] H (fun r H3 => ∃ n : Int, r = .int n ∧ 0 ≤ n ∧ n < 2 ^ 63 ∧ Q (.int n) H3) E0) := by
  obtain ⟨fd, F, bi⟩ := G.fn
  intro pins s σ H xs us Q I r h
  obtain ⟨a, dx, fs, rfl, ha, hq⟩ := h
  obtain ⟨u, rfl, ru⟩ := vals1 r
  cases (show u = Value.ref a from ru)
  obtain ⟨mA, O, _⟩ := ins_get I.hok ha
  obtain ⟨od, J, _⟩ := O.look
  refine Calls.call_function_entry kind_len plain_len entry_len (args_len1 _) ?_
  unfold Builtin.«len»
  refine wpAny_bind (m := oneArg "len" _) (wpAny_pure ?_)
  refine wpAny_bind (m := callSpecial? (.ref a) (Str.ofString "__len__")) (special_own I.kIn J G.me.at_ G.me.fn (thn (HX.run_in1 (E := E0) (vs := [.ref a]) F hr bi (HX.pas0 σ) I (.cons rfl .nil) hq) fun r s3 z => ?_))
  obtain ⟨rv, H3, I3, rr, n, rfl, n0, n1, q3⟩ := z
  obtain ⟨t, rfl⟩ := (show ∃ t, r = Value.int n t from rr)
  refine wpAny_bind (wpAny_holding (wpAny_pure ?_))
  refine wpAny_bind (wpAny_letGo ?_)
  show wpAny _ _ (if n < 0 then _ else _) _ _ _
  rw [if_neg (by omega)]
  show wpAny _ _ (if n ≥ 2 ^ 63 then _ else _) _ _ _
  rw [if_neg (by omega)]
  exact wpAny_bind (wpAny_mkInt (wpAny_pure ⟨_, rfl, ⟨.int n, H3, I3.tok _, ⟨_, rfl⟩, q3⟩⟩))
end
def natI (z : D) (k : Int → Prop) : Prop := match z with
  | .int i => 0 ≤ i ∧ i < 2 ^ 63 ∧ k i
  | _ => False
theorem s_natI {i : Int} {k : Int → Prop} : natI (.int i) k = (0 ≤ i ∧ i < 2 ^ 63 ∧ k i) := Eq.trans rfl rfl
def aLenI (c : Str) (S : ASp) (ra : aE) : aE := fun s ms Q E => ra s ms (fun x ms1 => isIns c x ms1 fun _ => DoCall S [x] ms1 (fun z ms2 => natI z fun n => Q (.int n) ms2) fun _ _ => False) E
theorem w_aLenI {c : Str} {S : ASp} {ra : aE} {s : ASt} {ms : MS} {Q : D → MS → Prop} {E : XD → MS → Prop} : aLenI c S ra s ms Q E = (ra s ms (fun x ms1 => isIns c x ms1 fun _ => DoCall S [x] ms1 (fun z ms2 => natI z fun n => Q (.int n) ms2) fun _ _ => False) E) := Eq.trans rfl rfl
section
variable {X : Cx} {Wx : WXA} {e : Expr} {ra : aE} {p pos : Pos} {k : Nat} {c : Str} {ps : List Str} {S : ASp}
theorem ae_lenI (G : HX.GMe X.prog X.w X.K X.mg X.base c "__len__" k ps (spA X.K S)) (hr : Room (k + 1) X.A) (hg : Gl X "len") (hm : X.mg "len" = none) (ha : AE X Wx e ra) (hs : starEach [e] X.env = (false, eval e X.env) :: starEach [] X.env := by rfl) : AE X Wx (.Call (.Name "len" p) [e] [] pos) (aLenI c S ra) :=
  PE.imp (pe_callB (call_lenO G hr) hg hm (by decide +kernel) (pa_cons ha pa_nil hs) (he := hs)) fun σ H R ⟨B, w, ms, s, Q, E, L, h, hq, hx⟩ => ⟨B, w, ms, s, _, E, L, h, fun w1 ms1 H1 v d e1 L1 r1 h1 => by
    obtain ⟨a, dx, fs, ds, rfl, hH, rf, h1⟩ := isIns_rep (X := X) L1.s0 r1 h1
    refine ⟨a, dx, fs, rfl, hH, w1, ms1, [d], _, _, L1.s0, .cons r1 .nil, h1.h, fun w' ms' H' v d le A rv q => ?_, fun _ _ _ _ _ _ _ _ _ z => z.elim⟩
    cases rv with
    | int n => exact ⟨n, rfl, q.1, q.2.1, hq w' ms' H' _ _ (e1.trans le) (L1.after le A) (.int n) q.2.2⟩
    | _ => exact False.elim q, hx⟩
end
end LA

set_option Elab.async false
set_option linter.all false
set_option maxRecDepth 100000
set_option maxHeartbeats 4000000
/-! LA25: try, by equations. -/
namespace LA
open PySem PySem.Spec PyProof.Rows L2
section
variable {A : AEnds} {x : XD} {s : ASt} {ms : MS} {c : Str} {tbl : List (Str × Bool)} {su : aS} {r : List ACl} {i : Nat} {d : D} {m : MO}
theorem s_cls0 : aCls A x s ms [] = A.ex x s ms := Eq.trans rfl rfl
theorem s_clsN : aCls A x s ms (⟨c, tbl, none, su⟩ :: r) = gotI (tbl.lookup x.1) fun b => Br b (fun ms => su (suA A none) s ms) (fun ms => aCls A x s ms r) ms := Eq.trans rfl rfl
theorem s_clsS : aCls A x s ms (⟨c, tbl, some i, su⟩ :: r) = gotI (tbl.lookup x.1) fun b => Br b (fun ms => withS (s.set i (some (.ex x))) fun s => su (suA A (some i)) s ms) (fun ms => aCls A x s ms r) ms := Eq.trans rfl rfl
theorem s_suN : suA A none = { nx := fun s ms => withS (clr s) (fun s => A.nx s ms), rt := A.rt, bk := fun s ms => withS (clr s) (fun s => A.bk s ms), ct := fun s ms => withS (clr s) (fun s => A.ct s ms) } := Eq.trans rfl rfl
theorem s_suS : suA A (some i) = { nx := fun s ms => withS (clr (s.set i none)) (fun s => A.nx s ms), rt := A.rt, bk := fun s ms => withS (clr (s.set i none)) (fun s => A.bk s ms), ct := fun s ms => withS (clr (s.set i none)) (fun s => A.ct s ms) } := Eq.trans rfl rfl
theorem s_clr0 : clr [] = [] := Eq.trans rfl rfl
theorem s_clrN : clr (none :: s) = none :: clr s := Eq.trans rfl rfl
theorem s_clrF : clr (some (.fr d) :: s) = some (.fr d) :: clr s := Eq.trans rfl rfl
theorem s_clrO : clr (some (.ow m) :: s) = some (.ow m) :: clr s := Eq.trans rfl rfl
theorem s_clrX : clr (some (.ex x) :: s) = none :: clr s := Eq.trans rfl rfl
theorem s_lkG0 {z : Str} : List.lookup z ([] : List (Str × Bool)) = none := rfl
theorem s_lkG {z z' : String} {b : Bool} {fs : List (Str × Bool)} : List.lookup (Str.ofString z) ((Str.ofString z', b) :: fs) = if z = z' then some b else List.lookup (Str.ofString z) fs := by
  rw [List.lookup_cons]
  by_cases h : z = z'
  · subst h; rw [if_pos rfl, beq_self_eq_true]
  · rw [if_neg h]
    have : (Str.ofString z == Str.ofString z') = false := by
      rw [beq_eq_false_iff_ne]; intro e; rw [str_eq] at e; exact h e
    rw [this]
end
/-- a slot with the error that is handled -/
def slotX (o : Option (Option AV)) (k : XD → Prop) (t : Tag k k := .mk) : Prop := match o with
  | some (some (.ex x)) => k x
  | _ => False
theorem s_slotX {x : XD} {k : XD → Prop} : slotX (some (some (.ex x))) k = k x := Eq.trans rfl rfl
def aXfC (c : Str) (i : Nat) (f : Str) : aE := fun s ms Q _ => slotX s[i]? fun x => x.1 = c ∧ gotF (x.2.lookup f) fun d => Q d ms
theorem w_aXfC {c : Str} {i : Nat} {f : Str} {s : ASt} {ms : MS} {Q : D → MS → Prop} {E : XD → MS → Prop} : aXfC c i f s ms Q E = slotX s[i]? fun x => x.1 = c ∧ gotF (x.2.lookup f) fun d => Q d ms := Eq.trans rfl rfl
theorem ae_xfC {X : Cx} {a : Addr} {oe : Obj} {cls : Value} {d : Option Addr} {pn : List (Addr × Obj)} {c f n : Str} {i : Nat} {p pos : Pos} {Wx : WX} (T : XfC X.K (He.ga X.K c)) (hno : PySem.W.findIn X.K (.ref (He.ga X.K c)) f = some none) (hz : L2N.Zn cls d oe) (hf : ∃ vs, oe.data = .fields vs)
    (he : PE (X.suite a ((a, oe) :: pn)) (.Name n p) (tVar i)) : AE (X.suite a ((a, oe) :: pn)) ⟨Wx, some (a, cls, d)⟩ (.Attribute (.Name n p) f pos) (aXfC c i f) :=
  PE.imp (ae_xf (c := c) T hno hz hf he) fun σ H R ⟨B, w, ms, s, Q, E, L, h, hq, hx⟩ => ⟨B, w, ms, s, Q, E, L, by
    unfold aXfC slotX at h
    unfold aXf
    split at h
    · rename_i x e
      rw [e]
      exact ⟨h.1, h.2⟩
    · exact h.elim, hq, hx⟩
theorem tb_nil {K : PySem.W.Frag} {x : Str} : ∀ q ∈ ([] : List (Str × Bool)), PySem.W.exmOne K (.ref (He.ga K q.1)) (.ref (He.ga K x)) = some q.2 := fun _ h => nomatch h
theorem tb_cons {K : PySem.W.Frag} {x c : Str} {b : Bool} {l : List (Str × Bool)} (h : PySem.W.exmOne K (.ref (He.ga K c)) (.ref (He.ga K x)) = some b) (r : ∀ q ∈ l, PySem.W.exmOne K (.ref (He.ga K q.1)) (.ref (He.ga K x)) = some q.2) :
    ∀ q ∈ (c, b) :: l, PySem.W.exmOne K (.ref (He.ga K q.1)) (.ref (He.ga K x)) = some q.2 := fun q hq => by
  rcases List.mem_cons.mp hq with rfl | hq
  · exact h
  · exact r q hq
end LA

set_option Elab.async false
set_option linter.all false
set_option maxRecDepth 100000
set_option maxHeartbeats 4000000
/-! LA26: own errors with fields. -/
namespace LA
open PySem PySem.Spec PyProof.Rows L2
def oeCls (K : PySem.W.Frag) (C : Addr) : Bool := match K.lookup C with
  | some ⟨.type "type", _, .cls cd, sl⟩ => (match cd.mro, sl.toList with
    | .ref C' :: bm, [_, _, _, _, some (.builtin n), _] => C' == C && (n == "ValueError.__new__" && (!cd.hasDel && (cd.hasDict && PySem.HandSPX.refsVE bm)))
    | _, _ => false)
  | _ => false
theorem oeCls_ok {K : PySem.W.Frag} {C : Addr} (q : oeCls K C = true) : ∃ nm q N bs bm sn sub ab col dd k0 k1 k2 k3 k5, K.lookup C = some (excClassObj nm q C N bs bm true sn sub ab col dd k0 k1 k2 k3 k5 "ValueError.__new__") ∧ PySem.HandSPX.refsVE bm = true := by
  unfold oeCls at q
  split at q
  · rename_i dd cd sl ho
    split at q
    · rename_i C' bm k0 k1 k2 k3 n k5 hm hs
      simp only [Bool.and_eq_true, beq_iff_eq, Bool.not_eq_true'] at q
      obtain ⟨rfl, rfl, hdel, hdc, hv⟩ := q
      obtain ⟨nm, bs, mro, ns, qn, hd, sn, sub, ab, col, del⟩ := cd
      dsimp only at hm hdel hdc
      subst hm hdel hdc
      have hsl : sl = #[k0, k1, k2, k3, some (.builtin "ValueError.__new__"), k5] := by
        obtain ⟨l⟩ := sl
        simp only at hs
        rw [hs]
      subst hsl
      exact ⟨nm, qn, ns, bs, bm, sn, sub, ab, col, dd, k0, k1, k2, k3, k5, ho, hv⟩
    · cases q
  · cases q
/-- what a class of errors with an own __init__ is -/
structure OeK (K : PySem.W.Frag) (c : Str) : Prop where
  T : OexC K (He.ga K c)
  iC : PySem.W.findIn K (.ref (He.ga K c)) "__init__" = some (some (.ref (He.ma K (He.ga K c) "__init__")))
  tI : PySem.W.typeIn K (.ref (He.ma K (He.ga K c) "__init__")) = some (.type "function")
def oeB (K : PySem.W.Frag) (c : Str) : Bool := oeCls K (He.ga K c) && (decide (PySem.W.findIn K (.ref (He.ga K c)) "__setattr__" = some (some (.builtin "object.__setattr__"))) && (decide (PySem.W.subIn K (.ref (He.ga K c)) (.type "BaseException") = some true) &&
  (decide (PySem.W.typeIn K (.ref (He.ga K c)) = some (.type "type")) && (PySem.W.keepIn K (.ref (He.ga K c)) && (decide (PySem.W.findIn K (.ref (He.ga K c)) "__init__" = some (some (.ref (He.ma K (He.ga K c) "__init__")))) &&
  decide (PySem.W.typeIn K (.ref (He.ma K (He.ga K c) "__init__")) = some (.type "function")))))))
theorem oe_ok {K : PySem.W.Frag} {c : Str} (h : oeB K c = true) : OeK K c := by
  obtain ⟨h1, h⟩ := He.ba h
  obtain ⟨h2, h⟩ := He.ba h
  obtain ⟨h3, h⟩ := He.ba h
  obtain ⟨h4, h⟩ := He.ba h
  obtain ⟨h5, h⟩ := He.ba h
  obtain ⟨h6, h7⟩ := He.ba h
  exact ⟨⟨oeCls_ok h1, of_decide_eq_true h2, of_decide_eq_true h3, of_decide_eq_true h4, h5⟩, of_decide_eq_true h6, of_decide_eq_true h7⟩
end LA

set_option Elab.async false
set_option linter.all false
set_option maxRecDepth 100000
set_option maxHeartbeats 4000000
/-! LA27: equality of any two data; a tuple repeated. -/
namespace LA
open PySem PySem.Spec PyProof.Rows L2
theorem eqDeep_of {n m : Nat} {x y : D} {k : Bool → Prop} (h : EqOk n x) (hn : n ≤ 64) (h' : EqOk m y) (hm : m ≤ 64) (q : k (PyData.eqv (toPy x) (toPy y))) : EqDeep x y k := by
  obtain ⟨h1, h2, _⟩ := h.py
  obtain ⟨g1, g2, _⟩ := h'.py
  exact ⟨_, _, h1, g1, h.shaped hn, h'.shaped hm, q⟩
theorem toPyL_len : ∀ xs : List D, (toPyL xs).length = xs.length
  | [] => rfl
  | _ :: r => by rw [toPyL, List.length_cons, List.length_cons, toPyL_len r]
theorem eqv_tupLen {xs ys : List D} (h : xs.length ≠ ys.length) : PyData.eqv (toPy (.tup xs)) (toPy (.tup ys)) = false := by
  rw [toPy, toPy, PyData.eqv, SeqAt.eqvAll_other_length (by rw [toPyL_len, toPyL_len]; exact h)]
theorem eqDeep_len {n m : Nat} {xs ys : List D} {k : Bool → Prop} (h : EqOk n (.tup xs)) (hn : n ≤ 64) (h' : EqOk m (.tup ys)) (hm : m ≤ 64) (e : xs.length ≠ ys.length) (q : k false) : EqDeep (.tup xs) (.tup ys) k :=
  eqDeep_of h hn h' hm (by rw [eqv_tupLen e]; exact q)
def fMulT (x y : D) (Q : D → Prop) : Prop := match x, y with
  | .tup xs, .int k => xs ≠ [] ∧ 2 ≤ k ∧ k ≤ 1000 ∧ xs.length ≤ 1000 ∧ Q (.tup (List.replicate k.toNat xs).flatten)
  | _, _ => False
theorem w_mulT {xs : List D} {k : Int} {Q : D → Prop} : fMulT (.tup xs) (.int k) Q = (xs ≠ [] ∧ 2 ≤ k ∧ k ≤ 1000 ∧ xs.length ≤ 1000 ∧ Q (.tup (List.replicate k.toNat xs).flatten)) := Eq.trans rfl rfl
theorem oa_mulT {X : Cx} : OpA X (binaryOp .Mult) fMulT := by
  rintro pins s σ H x y v u R I rx ry ⟨xi, B, w, ms, st, σ', dx, dy, Qd, L, r1, r2, h, k⟩
  cases r1 with
  | tup h1 q1 => cases r2 with
    | int j =>
      refine op_repT pins s σ H _ _ v u R I rx ry ⟨_, j, _, rfl, rfl, SqT.up L.s0 h1, ?_, h.2.1, h.2.2.1, by rw [q1.length]; exact h.2.2.2.1, fun p hp => new_ L k hp (fun w' le hf => .tup hf ((q1.mono le).rep _)) h.2.2.2.2⟩
      intro e
      subst e
      cases q1
      exact h.1 rfl
    | _ => exact False.elim h
  | _ => exact False.elim h
def fIsB (x y : D) (Q : D → Prop) : Prop := match x, y with
  | .bl a, .bl b => Q (.bl (decide (a = b)))
  | .int _, .bl _ => Q (.bl false)
  | .non, .bl _ => Q (.bl false)
  | _, _ => False
section
variable {a b : Bool} {i : Int} {q : D → Prop}
theorem w_isBB : fIsB (.bl a) (.bl b) q = q (.bl (decide (a = b))) := Eq.trans rfl rfl
theorem w_isBI : fIsB (.int i) (.bl b) q = q (.bl false) := Eq.trans rfl rfl
theorem w_isBN : fIsB .non (.bl b) q = q (.bl false) := Eq.trans rfl rfl
end
theorem op_isBI {X : Cx} : OpR X (compareOp .Is) (fun x y H Q => ∃ i b, x = .int i ∧ y = .bl b ∧ Q (.bl false) H) := by
  intro pins s σ H x y v u Q I rx ry h
  obtain ⟨i, b, rfl, rfl, q⟩ := h
  obtain ⟨t, rfl⟩ := rx
  cases (show u = Value.bool b from ry)
  exact wpAny_is_other rfl nofun ⟨.bl false, H, I, rfl, q⟩
theorem op_isBN {X : Cx} : OpR X (compareOp .Is) (fun x y H Q => ∃ b, x = .non ∧ y = .bl b ∧ Q (.bl false) H) := by
  intro pins s σ H x y v u Q I rx ry h
  obtain ⟨b, rfl, rfl, q⟩ := h
  cases (show v = Value.none from rx)
  cases (show u = Value.bool b from ry)
  exact wpAny_is_other rfl nofun ⟨.bl false, H, I, rfl, q⟩
theorem oa_isB {X : Cx} : OpA X (compareOp .Is) fIsB := by
  rintro pins s σ H x y v u R I rx ry ⟨xi, B, w, ms, st, σ', dx, dy, Qd, L, r1, r2, h, k⟩
  cases r2 with
  | bl b => cases r1 with
    | bl a => exact op_isBl pins s σ H _ _ v u R I rx ry ⟨a, b, rfl, rfl, same_ L k (.bl _) h⟩
    | int i => exact op_isBI pins s σ H _ _ v u R I rx ry ⟨i, b, rfl, rfl, same_ L k (.bl _) h⟩
    | non => exact op_isBN pins s σ H _ _ v u R I rx ry ⟨b, rfl, rfl, same_ L k (.bl _) h⟩
    | _ => exact False.elim h
  | _ => cases r1 <;> exact False.elim h
end LA

set_option Elab.async false
set_option linter.all false
set_option maxRecDepth 100000
set_option maxHeartbeats 4000000
/-! LA28: a comprehension whose element may raise: the error leaves the comprehension. -/
namespace LA
open PySem PySem.Spec PyProof.Rows L2

/-- a context but for the errors' wish -/
abbrev xeOf (X : Cx) (F : Value → Shared → Prop) : Cx := { X with xe := F }
theorem ok_xe {X : Cx} {F : Value → Shared → Prop} (o : X.Ok) : (xeOf X F).Ok :=
  ⟨o.mod, o.kind, o.glob, o.blt, o.above, o.inj, o.has, o.cab, o.hd, o.frames, o.stk, o.exf, o.bs, o.bsz, o.noex, o.exfs, o.funs, o.frf⟩
theorem inv_xe {X : Cx} {F : Value → Shared → Prop} {pins : List (Addr × Obj)} {σ : L2.St} {H : Hp} {s : Shared} (I : Inv X pins σ H s) : Inv (xeOf X F) pins σ H s :=
  ⟨ok_xe I.ok, I.os, I.bare, I.base, I.loc, I.cell, I.free, I.freeC, I.pin, I.hok, I.len⟩
theorem ok_ex {X : Cx} {F : Value → Shared → Prop} (o : (xeOf X F).Ok) : X.Ok :=
  ⟨o.mod, o.kind, o.glob, o.blt, o.above, o.inj, o.has, o.cab, o.hd, o.frames, o.stk, o.exf, o.bs, o.bsz, o.noex, o.exfs, o.funs, o.frf⟩
theorem inv_ex {X : Cx} {F : Value → Shared → Prop} {pins : List (Addr × Obj)} {σ : L2.St} {H : Hp} {s : Shared} (I : Inv (xeOf X F) pins σ H s) : Inv X pins σ H s :=
  ⟨ok_ex I.ok, I.os, I.bare, I.base, I.loc, I.cell, I.free, I.freeC, I.pin, I.hok, I.len⟩

/-- the frame that catches is noted, whatever frame held the flight -/
theorem looks_offZ {M : Model} {A : Around} {E : Value → Shared → Prop} {s : Shared} {Z : Obj → Prop} {base : Heap} {env : Env} {outer : List Env} {L e : Addr} {fl : Value} {Q : Unit → Shared → Prop} (hZ : PXN.Steady1 Z) (hfr : A.frames = some (env :: outer)) (hf : env.frame = some L)
    (hkb : base.StaysIn s.heap) (hen : base.get? e = none) (hl : s.heap.FunFrames base (env :: outer)) (ht : HandSPX.TracedZ s.heap base e Z fl) (hne : (fl == rawInt L) = false)
    (hQ : ∀ h', HandSPX.HeldZ base (env :: outer) e Z L h' → s.heap.UpToSlots h' → Q () { s with heap := h' }) : wpAny M A (noteFrame (.ref e) env) Q E s := by
  obtain ⟨oe, vs, T, oT, ts, he, hz, hd, h1, hnT, hTe, hT, hdT, h3⟩ := ht
  unfold noteFrame
  simp only [hf]
  refine wpAny_bind (wpAny_field he hd h1 ?_)
  rw [if_pos (show (Value.ref T != Value.none) = true from by simp)]
  refine wpAny_bind (wpAny_field hT hdT h3 ?_)
  rw [if_neg (show ¬ ((fl == rawInt L) = true) from by rw [hne]; decide)]
  refine wpAny_bind (wpAny_setField hT hdT (Array.getElem?_eq_some_iff.mp h3).1 ?_)
  have other : ∀ b, b ≠ T → (s.heap.update T (Obj.mapFields (·.setIfInBounds 3 Value.none))).get? b = s.heap.get? b := fun b hb => Heap.get?_update_other _ _ (Ne.symm hb)
  have noRecord : ∀ b o, s.heap.get? b = some o → (∀ vs, o.data ≠ .fields vs) → b ≠ T := fun b o hb hnf q => by
    rw [q, hT] at hb; injection hb with hb; subst hb; exact hnf ts hdT
  refine PXN.wpAny_entryZ hZ hfr (hl.of_keeps fun b o hb hnf => ⟨o, (other b (noRecord b o hb hnf)).trans hb, rfl⟩) hf ((other e (Ne.symm hTe)).trans he)
    (fun b o hbo => (other b fun q => by rw [q, hnT] at hbo; cases hbo).trans (hkb b o hbo)) hen hd (Array.getElem?_eq_some_iff.mp h1).1 hz fun h' hN => ?_
  obtain ⟨x1, x2, x3, x4⟩ := hN
  exact hQ h' ⟨x1, hen, x2, x3⟩ fun b o hb hnf => x4 b o ((other b (noRecord b o hb hnf)).trans hb) hnf

section
variable {X : Cx}
/-- out of the block, into the def's air -/
theorem raise_out {pins : List (Addr × Obj)} {σ : L2.St} {H3 : Hp} {s3 : Shared} {scope : Scope} {ce : Env} {fp : List Addr} {W W0 : WX} {u : Value} {s' : Shared} {F : Value → Shared → Prop}
    (hst : X.stack = X.env :: X.outer) (hf : X.env.frame = some X.env.locals) (tk : L2N.Takes X W0) (I3 : Inv X pins σ H3 s3) (f3 : ∀ b ∈ fp, FpOk X pins H3 b ∧ b < s3.heap.objs.size)
    (hcl : ce.locals = s3.heap.objs.size) (hcf : ce.frame = X.env.frame) (hW : ∀ cl ad σ' H', W cl ad σ' H' → W0 cl ad σ H')
    (x : L2N.XE (xeOf (X.blk s3 H3 scope ce fp) F) W u s') : notedBy (model X.prog X.w) X.A ce (CompFails (model X.prog X.w) X.A X.xe ce) u s' := by
  obtain ⟨a, B0, sI, pins', σ', H', cls, d, rfl, I, nb, up, sky, na, os, ag, w⟩ := x
  have I := inv_ex I
  have nb : ∀ b o, sI.heap.get? b = some o → b ∉ frs X.stack → B0.get? b = some o := nb
  generalize hC : s3.heap.objs.size = C at hcl
  obtain ⟨m, hn, _⟩ := I.loc
  have hn : sI.heap.Ns C m := by rw [← hcl]; exact hn
  have hnC : H' C = none := by rw [← hcl]; exact I.free
  have hfr : X.A.frames = some (X.env :: X.outer) := by rw [I3.ok.frames, hst]
  have old : ∀ b o, s3.heap.get? b = some o → b ≠ C := fun b o e z => by
    have := Heap.lt_size e
    rw [z, hC] at this; exact absurd this (Nat.lt_irrefl _)
  have CL : X.env.locals ≠ C := by
    obtain ⟨m0, ⟨o, es, ep, ho, _⟩, _⟩ := I3.loc
    exact old _ _ ho
  -- the ground without the block's names
  obtain ⟨B1, b1, b2⟩ := restrict B0 fun b => decide (b ≠ C)
  have b3 : B1.get? C = none := b2 C (by simp)
  have b4 : ∀ b o, B1.get? b = some o → B0.get? b = some o ∧ b ≠ C := fun b o e => by
    by_cases z : b = C
    · rw [z, b3] at e; cases e
    · rw [b1 b (by simp [z])] at e; exact ⟨e, z⟩
  have b5 : ∀ {b : Addr}, B0.get? b = none → B1.get? b = none := fun {b} e => by
    cases q : B1.get? b with
    | none => rfl
    | some o => rw [(b4 b o q).1] at e; cases e
  obtain ⟨G1, g1, g2⟩ := restrict sI.heap fun b => decide (b ≠ C)
  have g3 : G1.get? C = none := g2 C (by simp)
  have g4 : ∀ b o, G1.get? b = some o → sI.heap.get? b = some o ∧ b ≠ C := fun b o e => by
    by_cases z : b = C
    · rw [z, g3] at e; cases e
    · rw [g1 b (by simp [z])] at e; exact ⟨e, z⟩
  have g5 : ∀ b o, sI.heap.get? b = some o → b ≠ C → G1.get? b = some o := fun b o e z => by rw [g1 b (by simp [z])]; exact e
  have hfrm : ∀ {h : Heap}, h.FunFrames B0 X.stack → h.FunFrames B1 (X.env :: X.outer) := fun {h} z => by
    rw [← hst]
    exact funFrames_none z fun L hL => b5 (z.mem hL).1
  have tr : ∀ {h : Heap} {fl : Value}, HandSPX.TracedZ h B0 a (L2N.Zn cls d) fl → HandSPX.TracedZ h B1 a (L2N.Zn cls d) fl := fun {h fl} ⟨oe, vs, T, oT, ts, he, hz, hd, h1, hnT, r⟩ => ⟨oe, vs, T, oT, ts, he, hz, hd, h1, b5 hnT, r⟩
  have stI : ∀ {h : Heap}, B0.StaysIn h → B1.StaysIn h := fun {h} z b o e => z b o (b4 b o e).1
  -- behind the note
  have fin : ∀ h1, HandSPX.HeldZ B1 (X.env :: X.outer) a (L2N.Zn cls d) X.env.locals h1 → s'.heap.UpToSlots h1 → CompFails (model X.prog X.w) X.A X.xe ce (.ref a) { s' with heap := h1 } := fun h1 hh up1 => by
    have up01 : sI.heap.UpToSlots h1 := up.trans up1
    have hn1 : h1.Ns ce.locals m := by rw [hcl]; exact hn.upToSlots up01
    refine ⟨m, hn1, fun h2 m2 hn2 sb => ?_⟩
    rw [hcl] at hn1 hn2 sb
    obtain ⟨x1, x2, x3, oe, vs, T, oT, ts, he, hz, hd, h1', hnT, hTe, hT, hdT, h3'⟩ := hh
    have nC : ∀ b o vs, h1.get? b = some o → o.data = .fields vs → b ≠ C := fun b o vs e1 e2 z => by
      obtain ⟨oL, es, ep, hoL, hdL, _⟩ := hn1
      rw [z, hoL] at e1; cases e1
      rw [hdL] at e2; cases e2
    have he2 : h2.get? a = some oe := (sb.2 a (nC _ _ _ he hd)).trans he
    have hT2 : h2.get? T = some oT := (sb.2 T (nC _ _ _ hT hdT)).trans hT
    have hh2 : HandSPX.HeldZ B1 (X.env :: X.outer) a (L2N.Zn cls d) X.env.locals h2 :=
      ⟨fun b o hb => (sb.2 b fun q => by rw [q, b3] at hb; cases hb).trans (x1 b o hb), x2, Heap.FunFrames.sameBut sb hn2 x3, oe, vs, T, oT, ts, he2, hz, hd, h1', hnT, hTe, hT2, hdT, h3'⟩
    unfold PySem.passOn
    refine wpAny_bind (wpAny_field he2 hd h1' ?_)
    rw [if_neg (show ¬ ((Value.ref T == Value.none) = true) from by simp)]
    rw [hcf, hf]
    refine wpAny_bind (HandSPX.setFlight_onZ hh2 fun h3 hh3 up3 => wpAny_throw ?_)
    refine tk _ _ ⟨a, B1, { sI with heap := G1 }, pins, σ, H', cls, d, rfl, ?_, fun b o e hb => ?_, fun b o e hnf => ?_, .inr (.inr (by rw [hst]; exact hh3)), na, os, ag, hW _ _ _ _ w⟩
    · refine I3.call' (ch := fp) I.os ⟨fun b o e n hb hx => ?_, fun b o e n hb hx => ?_, I.base.free, fun b o e hx => ?_, I.base.tups, I.base.frzs, I.base.tbls⟩ (fun b o q => (I.hok b o q).stay (fun c v hc r => g5 c v r fun z => ?_) (fun _ r => r) fun _ _ r => r) I.bare fun b hb => ⟨(f3 b hb).1.2.2.2.1, (f3 b hb).1.2.1, (f3 b hb).1.2.2.2.2.1, (f3 b hb).1.2.2.2.2.2⟩
      · exact g5 b o (I.base.keep b o e n hb hx) (old b o e)
      · obtain ⟨sl, z⟩ := I.base.slot b o e n hb hx
        exact ⟨sl, g5 b _ z (old b o e)⟩
      · obtain ⟨o', z⟩ := I.base.there b o e hx
        exact ⟨o', g5 b o' z (old b o e)⟩
      · rcases hc with hc | hc
        · rw [hc] at z; rw [z, hnC] at q; cases q
        · rw [z, hnC] at hc; cases hc
    · obtain ⟨e1, e2⟩ := g4 b o e
      rw [b1 b (by simp [e2])]
      exact nb b o e1 hb
    · obtain ⟨e1, e2⟩ := g4 b o e
      obtain ⟨sl1, q1⟩ := up01 b o e1 hnf
      have q2 : h2.get? b = some { o with slots := sl1 } := (sb.2 b e2).trans q1
      obtain ⟨sl2, q3⟩ := up3 b _ q2 hnf
      exact ⟨sl2, q3⟩
  show wpAny _ X.A (noteFrame (.ref a) ce) _ _ s'
  rw [noteFrame_env _ hcf]
  rcases sky with ⟨hB, hn0, hl, oe, vs, he, hz, hd, h1⟩ | fl | hh
  · exact PXN.look_newZ L2N.Zn.steady hfr (hfrm hl) hf he (stI hB) (b5 hn0) hd h1 hz fin
  · obtain ⟨f1, f2, f3, f4⟩ := fl
    exact PXN.looks_onZ L2N.Zn.steady hfr hf ⟨stI f1, b5 f2, hfrm f3, tr f4⟩ fin
  · obtain ⟨f1, f2, f3, f4⟩ := hh
    refine looks_offZ L2N.Zn.steady hfr hf (stI f1) (b5 f2) (hfrm f3) (tr f4) ?_ fin
    show (rawInt ce.locals == rawInt X.env.locals) = false
    rw [hcl]
    simp only [rawInt, beq_eq_false_iff_ne, ne_eq, Value.int.injEq, not_and]
    intro z
    exact absurd (Int.ofNat.inj z).symm CL

theorem lc_coreX {pins : List (Addr × Obj)} {s : Shared} {σ : L2.St} {H : Hp} {Q : VK} {elt tg iter : Expr} {ifs : List Expr} {scope : Scope} {own : List (Str × Nat)} {pos pos' : Pos} {wi : TI} {g : TG} {tt : TT} {te : TE} {use : Option (Value → Sem Unit)} {Qf : Value → Shared → Prop} {W W0 : WX}
    (hst : X.stack = X.env :: X.outer) (hf : X.env.frame = some X.env.locals) (tk : L2N.Takes X W0) (hW : ∀ cl ad σ' H', W cl ad σ' H' → W0 cl ad σ H')
    (hc : X.calm = true) (hN : X.N.Nodup) (I : Inv X pins σ H s) (hi : PI X tg iter wi) (ok : BlkOk X.N X.env.scope scope own)
    (hg : ∀ (s : Shared) (H : Hp) (C : Addr) (cl : List (Str × Addr)) (fp : List Addr), PG (X.blk s H scope (compEnvC scope cl C X.env) fp) tg g) (ht : ∀ (s : Shared) (H : Hp) (C : Addr) (cl : List (Str × Addr)) (fp : List Addr), PTs (X.blk s H scope (compEnvC scope cl C X.env) fp) ifs tt)
    (he : ∀ (s : Shared) (H : Hp) (C : Addr) (cl : List (Str × Addr)) (fp : List Addr) (F : Value → Shared → Prop), L2N.Takes (xeOf (X.blk s H scope (compEnvC scope cl C X.env) fp) F) W → PE (xeOf (X.blk s H scope (compEnvC scope cl C X.env) fp) F) elt te) (hs : ∀ x, foldedSetIterable iter X.env x = pure x)
    (h : tLc wi g tt te (own.map (·.2)) σ H Q)
    (hRR : ∀ D C s' m H', Inv X pins σ H' s' → Q (.ref D) H' → s'.heap.Ns C m → FpOk X pins H' C → compPost (model X.prog X.w) X.A X.xe use Qf (.ref D) C (.ok .next) s') :
    wpAny (model X.prog X.w) X.A (comprehension (.ListComp elt [⟨tg, iter, ifs, 0⟩] scope pos) scope X.env pos' (newList []) false (eval iter X.env) use) Qf X.xe s := by
  have hfree : ∀ y ∈ scope.names, y.2 = .free → ∃ c, X.env.cells.lookup y.1 = some c := fun y hy e => by
    rcases ok.free y hy e with k | k
    · exact I.ok.has _ (.inl k)
    · exact I.ok.has _ (.inr k)
  refine comprehension_at (use := use) rfl hs (closure_ok hfree) ok.kind (fun y hy e => by rw [ok.uniq y hy, e])
    (thn (hi.run pins s σ H _ I h) fun xv s1 hx => thn hx fun itv s2 h2 => ?_)
  obtain ⟨it, fp, tn, J, H2, e, I2, T, st2, f2, q⟩ := h2
  subst e
  refine wpAny_newObj_type (newEnv_comp ?_) (by show 0 ≤ sizeLine; decide)
  generalize hD : s2.heap.objs.size = D
  have hDn : H2 D = none := I2.hok.fresh (Nat.le_of_eq hD)
  obtain ⟨Wl, ⟨m0, w0⟩, turn⟩ := q D hDn
  -- the new list
  generalize hs3 : ({ s2 with heap := s2.heap.push { cls := .type "list", data := .seq ([] : List Value).toArray } } : Shared) = s3
  have I3 : Inv X pins σ (upd H2 D (.lst [])) s3 := by
    rw [← hs3]
    refine I2.laid (t' := s2.toks) (fun b o e => Heap.get?_push_of_some _ e) (Nat.le_of_eq hD) ⟨Nat.zero_le _, [], 0, .nil, ?_⟩
    rw [← hD]
    exact Heap.get?_push_size _ rfl
  have h3 : s3.heap = s2.heap.push { cls := .type "list", data := .seq ([] : List Value).toArray } := by rw [← hs3]
  have sz : ∀ b ∈ fp, b < s2.heap.objs.size := fun b hb => by
    obtain ⟨o, e, _⟩ := T.obj _ _ st2 b hb
    exact Heap.lt_size e
  have f3 : ∀ b ∈ fp, FpOk X pins (upd H2 D (.lst [])) b ∧ b < s3.heap.objs.size := fun b hb => by
    have hlt := sz b hb
    refine ⟨⟨?_, (f2 b hb).2⟩, by rw [h3, Heap.size_push]; exact Nat.lt_succ_of_lt hlt⟩
    rw [upd_ne (by rw [← hD]; exact Nat.ne_of_lt hlt)]
    exact (f2 b hb).1
  have st3 : tn 0 s3.heap := T.keep _ _ _ st2 fun b _ o e => by rw [h3]; exact Heap.get?_push_of_some _ e
  have I4 := block_start I3 ok hN f3
  have pg := hg s3 (upd H2 D (.lst [])) s3.heap.objs.size (cellsFrom (s3.heap.objs.size + 1) scope.names (cloFrom X.env.cells scope.names [])) fp
  have pt := ht s3 (upd H2 D (.lst [])) s3.heap.objs.size (cellsFrom (s3.heap.objs.size + 1) scope.names (cloFrom X.env.cells scope.names [])) fp
  have pe := he s3 (upd H2 D (.lst [])) s3.heap.objs.size (cellsFrom (s3.heap.objs.size + 1) scope.names (cloFrom X.env.cells scope.names [])) fp
  show codeAny _ _ (.compStart (.ListComp elt [⟨tg, iter, ifs, 0⟩] scope pos) 0 (.ref it) (.ref D) (compEnvC scope (cellsFrom (s3.heap.objs.size + 1) scope.names (cloFrom X.env.cells scope.names [])) s3.heap.objs.size X.env)) (compEnds (model X.prog X.w) X.A X.xe use Qf (.ref D) (compEnvC scope (cellsFrom (s3.heap.objs.size + 1) scope.names (cloFrom X.env.cells scope.names [])) s3.heap.objs.size X.env)) { s3 with heap := pushCells (s3.heap.push { cls := .type "dict", data := .dict #[] }) scope.names }
  have nfp : ∀ b ∈ fp, (upd H2 D (.lst [])) b = none := fun b hb => (f3 b hb).1.1
  generalize hce : compEnvC scope (cellsFrom (s3.heap.objs.size + 1) scope.names (cloFrom X.env.cells scope.names [])) s3.heap.objs.size X.env = ce at I4 pg pt pe ⊢
  have cL : ce.locals = s3.heap.objs.size := by subst hce; rfl
  have cF : ce.frame = X.env.frame := by subst hce; rfl
  generalize hH3 : upd H2 D (.lst []) = H3 at I3 I4 pg pt pe w0 nfp f3
  generalize hs4 : ({ s3 with heap := pushCells (s3.heap.push { cls := .type "dict", data := .dict #[] }) scope.names } : Shared) = s4 at I4 ⊢
  have st4 : tn 0 s4.heap := T.keep _ _ _ st3 fun b _ o e => by rw [← hs4]; exact pushCells_keeps _ _ _ _ (Heap.get?_push_of_some _ e)
  have stat : ∀ {σ' : L2.St} {H' : Hp} {s' : Shared}, Inv (X.blk s3 H3 scope ce fp) [] σ' H' s' → (∀ b ∈ fp, H' b = none) → ∀ b ∈ fp, FpOk (X.blk s3 H3 scope ce fp) [] H' b := fun {σ' H' s'} I' hn b hb =>
    ⟨hn b hb, (I'.ok.exf b hb).1, I'.ok.exfs b hb, .inl hb, fun x c e => (I'.ok.exf b hb).2 x c e, fun p hp => absurd (show p ∈ ([] : List (Addr × Obj)) ++ [] from hp) (by simp)⟩
  -- what is raised in the element
  let Fx : Value → Shared → Prop := notedBy (model X.prog X.w) X.A ce fun e s' => compEnds (model X.prog X.w) X.A X.xe use Qf (.ref D) ce (.error e) s'
  have tkF : L2N.Takes (xeOf (X.blk s3 H3 scope ce fp) Fx) W := fun u s' x => by
    have := raise_out (X := X) (W := W) hst hf tk I3 f3 cL cF hW x
    show notedBy _ _ _ (fun e s' => compEnds _ _ _ _ _ _ _ (.error e) s') u s'
    cases use <;> exact this
  have peF := pe Fx tkF
  have loop : codeAny (model X.prog X.w) X.A (.compLoop (.ListComp elt [⟨tg, iter, ifs, 0⟩] scope pos) 0 (.ref it) (.ref D) ce) (compEnds (model X.prog X.w) X.A X.xe use Qf (.ref D) ce) s4 := by
    refine compLoop_any (fun n s' => ∃ i H', Inv (X.blk s3 H3 scope ce fp) [] (wipe σ (own.map (·.2))) H' s' ∧ tn i s'.heap ∧ (∀ b ∈ fp, H' b = none) ∧ Wl i n H') ?_ m0 ⟨0, H3, I4, st4, nfp, w0⟩
    rintro n s5 ⟨i, H5, I5, st5, n5, w5⟩
    rcases turn i n H5 w5 with ⟨stop, qq⟩ | ⟨go, Nx, hNx, step⟩
    · have td := T.done (X.blk s3 H3 scope ce fp) rfl rfl rfl hc i [] s5 _ H5 (fun _ _ => False) I5 (stat I5 n5) st5 stop
      refine thnF td fun r s6 ⟨hr, I6⟩ => ?_
      subst hr
      -- back in the def's context
      have I7 : Inv X pins σ H5 s6 := I3.call' (ch := fp) I6.os I6.base I6.hok I6.bare fun b hb => ⟨(f3 b hb).1.2.2.2.1, (f3 b hb).1.2.1, (f3 b hb).1.2.2.2.2.1, (f3 b hb).1.2.2.2.2.2⟩
      have nC : H5 s3.heap.objs.size = none := by
        have z : H5 ce.locals = none := I6.free
        rw [cL] at z
        exact z
      obtain ⟨m, hn, _⟩ := I6.loc
      have hn : s6.heap.Ns ce.locals m := hn
      have hcp := hRR D s3.heap.objs.size s6 m H5 I7 qq (by rw [cL] at hn; exact hn) (I3.fpOk (Nat.le_refl _) nC)
      rw [← cL] at hcp
      cases use <;> exact hcp
    · have ti := T.item (X.blk s3 H3 scope ce fp) rfl rfl rfl hc i [] s5 _ H5 (fun _ _ => False) I5 (stat I5 n5) st5 go
      refine thnF ti fun r s6 ⟨u, hr, h6⟩ => ?_
      subst hr
      refine thnF h6 fun _ s7 ⟨x, H7, I7, r7, y7, st7, n7⟩ => ?_
      have I7' := I7.pinned (stat I7 n7) (T.obj _ _ st7)
      refine thnF (pg.run _ s7 _ H7 x u _ I7' r7 (step x H7 y7)) fun _ s8 ⟨σ8, H8, I8, hw8, q8⟩ => ?_
      refine thnF (pt.run _ s8 σ8 H8 _ I8 q8) fun b s9 ⟨H9, I9, q9⟩ => ?_
      -- the turn's end
      have fin : ∀ {s' : Shared} {H' : Hp}, Inv (X.blk s3 H3 scope ce fp) ([] ++ pinsAt fp s7.heap) σ8 H' s' → Nx H' → ∃ m, m < n ∧ ∃ i H', Inv (X.blk s3 H3 scope ce fp) [] (wipe σ (own.map (·.2))) H' s' ∧ tn i s'.heap ∧ (∀ b ∈ fp, H' b = none) ∧ Wl i m H' := fun {s' H'} I' nx => by
        obtain ⟨m', hm, w'⟩ := hNx H' nx
        have pin' : ∀ b ∈ fp, ∀ o, s7.heap.get? b = some o → s'.heap.get? b = some o ∧ H' b = none := fun b hb o e =>
          let z := I'.pin (b, o) (List.mem_append_right _ (List.mem_append_right _ (mem_pinsAt hb e)))
          ⟨z.1, z.2.1⟩
        have hl : (wipe σ (own.map (·.2))).length = σ8.length := by rw [← hw8, L2.wipe_length]
        refine ⟨m', hm, i + 1, H', (I'.unpinned (pins := [])).weak hl (fun j v e => ?_), T.keep _ _ _ st7 fun b hb o e => (pin' b hb o e).1, fun b hb => ?_, w'⟩
        · rw [← hw8] at e
          exact (wipe_some e).1
        · obtain ⟨o, e, _⟩ := T.obj _ _ st7 b hb
          exact (pin' b hb o e).2
      cases b with
      | false =>
        simp only [Bool.false_eq_true, if_false] at q9 ⊢
        exact fin I9 q9
      | true =>
        simp only [if_true] at q9 ⊢
        refine wpAny_mono (peF.run _ s9 σ8 H9 _ (inv_xe I9) q9) (fun z s10 ⟨yv, H10, I10, r10, acc, hD10, hz10, nx⟩ => ?_) fun _ _ x => x
        exact app_ok (X := X.blk s3 H3 scope ce fp) (inv_ex I10) hD10 hz10 r10 fun s11 I11 => fin I11 nx
  exact codeAny_compStart_list loop (T.self X.A 0 _ _ _ st4 loop)
end

section
variable {X : Cx}
def tLcX (W0 : WX) (wi : TI) (g : TG) (tt : TT) (te : WX → TE) (vs : List Nat) : TE := fun σ H Q => ∃ W : WX, (∀ cl ad σ' H', W cl ad σ' H' → W0 cl ad σ H') ∧ tLc wi g tt (te W) vs σ H Q
theorem pe_lcX {elt tg iter : Expr} {ifs : List Expr} {scope : Scope} {own : List (Str × Nat)} {pos : Pos} {wi : TI} {g : TG} {tt : TT} {te : WX → TE} {W0 : WX} (hst : X.stack = X.env :: X.outer) (hf : X.env.frame = some X.env.locals) (tk : L2N.Takes X W0)
    (hc : X.calm = true) (hN : X.N.Nodup) (hi : PI X tg iter wi) (ok : BlkOk X.N X.env.scope scope own)
    (hg : ∀ (s : Shared) (H : Hp) (C : Addr) (cl : List (Str × Addr)) (fp : List Addr), PG (X.blk s H scope (compEnvC scope cl C X.env) fp) tg g) (ht : ∀ (s : Shared) (H : Hp) (C : Addr) (cl : List (Str × Addr)) (fp : List Addr), PTs (X.blk s H scope (compEnvC scope cl C X.env) fp) ifs tt)
    (he : ∀ (s : Shared) (H : Hp) (C : Addr) (cl : List (Str × Addr)) (fp : List Addr) (F : Value → Shared → Prop) (W : WX), L2N.Takes (xeOf (X.blk s H scope (compEnvC scope cl C X.env) fp) F) W → PE (xeOf (X.blk s H scope (compEnvC scope cl C X.env) fp) F) elt (te W)) (hs : ∀ x, foldedSetIterable iter X.env x = pure x := by intro _; rfl) :
    PE X (.ListComp elt [⟨tg, iter, ifs, 0⟩] scope pos) (tLcX W0 wi g tt te (own.map (·.2))) := by
  refine ⟨fun pins s σ H Q I ⟨W, hW, h⟩ => ?_⟩
  rw [eval_ListComp]
  refine lc_coreX hst hf tk hW hc hN I hi ok hg ht (fun s H C cl fp F tk => he s H C cl fp F W tk) hs h fun D C s' m H' I' q hn f => ⟨m, hn, fun h'' sb => ?_⟩
  obtain ⟨f0, f1, f2, f3, f4, f5⟩ := f
  exact ⟨.ref D, H', I'.turned (t' := s'.toks) (fun b o hb e => (sb.2 b hb).trans e) f0 f1 f3 f4 f5, rfl, q⟩
theorem ps_setLcX {i : Nat} {y : Str} {py : Pos} {elt tg iter : Expr} {ifs : List Expr} {scope : Scope} {own : List (Str × Nat)} {pos spos : Pos} {wi : TI} {g : TG} {tt : TT} {te : WX → TE} {W0 : WX} (hst : X.stack = X.env :: X.outer) (hf : X.env.frame = some X.env.locals) (tk : L2N.Takes X W0)
    (hc : X.calm = true) (hN : X.N.Nodup) (hy : X.N[i]? = some y) (hyl : X.env.scope.names.lookup y = some .local)
    (hsw : swapsWith (.ListComp elt [⟨tg, iter, ifs, 0⟩] scope pos) (some (.Name y py)) spos.line X.env = pure true) (hi : PI X tg iter wi) (ok : BlkOk X.N X.env.scope scope own)
    (hg : ∀ (s : Shared) (H : Hp) (C : Addr) (cl : List (Str × Addr)) (fp : List Addr), PG (X.blk s H scope (compEnvC scope cl C X.env) fp) tg g) (ht : ∀ (s : Shared) (H : Hp) (C : Addr) (cl : List (Str × Addr)) (fp : List Addr), PTs (X.blk s H scope (compEnvC scope cl C X.env) fp) ifs tt)
    (he : ∀ (s : Shared) (H : Hp) (C : Addr) (cl : List (Str × Addr)) (fp : List Addr) (F : Value → Shared → Prop) (W : WX), L2N.Takes (xeOf (X.blk s H scope (compEnvC scope cl C X.env) fp) F) W → PE (xeOf (X.blk s H scope (compEnvC scope cl C X.env) fp) F) elt (te W)) (hs : ∀ x, foldedSetIterable iter X.env x = pure x := by intro _; rfl) :
    PS X (.Assign [.Name y py] (.ListComp elt [⟨tg, iter, ifs, 0⟩] scope pos) spos) (tAsg (tLcX W0 wi g tt te (own.map (·.2))) (gName i)) := by
  refine ⟨fun pins s σ H D I h => ?_⟩
  rw [exec_Assign_Name_used _ _ _ _ hsw]
  refine wpAny_bind (wpAny_standAt (wpAny_bind ?_))
  show wpAny _ X.A (do let _ ← comprehension (.ListComp elt [⟨tg, iter, ifs, 0⟩] scope pos) scope X.env (firstIterPos [⟨tg, iter, ifs, 0⟩] pos) (newList []) false (eval iter X.env) (some (assign (.Name y py) X.env))) _ _ s
  obtain ⟨W, hW, h⟩ := h
  have h : tLc wi g tt (te W) (own.map (·.2)) σ H (fun x H1 => gName i x σ H1 D.nx) := h
  refine wpAny_bind (thn (lc_coreX (Qf := fun _ s' => SP X pins D .next s') hst hf tk hW hc hN I hi ok hg ht (fun s H C cl fp F tk => he s H C cl fp F W tk) hs h fun L C s' m H' I' q hn f => ?_) fun _ s' hq => wpAny_pure (wpAny_pure hq))
  show wpAny _ _ (assign (.Name y py) X.env (.ref L)) _ _ _
  refine wpAny_assign_Name (store_ok2 (v := V.ref L) I' hN hy (.inl hyl) rfl (fun s2 I2 ⟨a, sb, ha⟩ => ?_) (.inr hyl))
  obtain ⟨f0, f1, f2, f3, f4, f5⟩ := f
  have haC : C ≠ a := by
    rcases ha with z | z
    · rw [z]; exact f1
    · exact fun e => f4 y a z e.symm
  refine ⟨m, hn.sameBut sb haC, fun h3 sb3 => ?_⟩
  exact ⟨_, H', I2.turned (t' := s2.toks) (fun b o hb e => (sb3.2 b hb).trans e) f0 f1 f3 f4 f5, q⟩
end

/-! ### by data -/
/-- an object more that nobody knows -/
theorem Lk.junk {K : PySem.W.Frag} {ex : XI} {B : Bs ex} {w : W} {ms : MS} {s : ASt} {σ : L2.St} {H : Hp} {p : Addr} (L : Lk K B w ms s σ (but H p)) : Lk K B w ms s σ H := by
  have kp : ∀ a o, but H p a = some o → H a = some o := fun a o e => by
    by_cases z : a = p
    · rw [z, but_same] at e; cases e
    · rw [but_ne z] at e; exact e
  refine ⟨⟨fun a o e => kp _ _ (L.s0.fh a o e), L.s0.nd, L.s0.na, fun k m e => ?_, L.s0.ln⟩, fun a o n e => kp _ _ (L.keep a o n e), L.pre, L.bas, L.fz, L.len, fun i av e => ?_, L.dj, L.bf, L.sf⟩
  · obtain ⟨a, h1, h2⟩ := L.s0.ce k m e
    exact ⟨a, h1, h2.mono (Le.refl _ _) (kp a)⟩
  · have := L.sl i av e
    cases av with
    | fr d => exact this
    | ow m => obtain ⟨q, h1, h2, h3⟩ := this; exact ⟨q, h1, h2.mono (Le.refl _ _) (kp q), h3⟩
    | ex x => exact this
def aLcLX (g : aG) (tt : aT) (te : aE) (s : ASt) : List D → List D → MS → (List D → MS → Prop) → (XD → MS → Prop) → Prop
  | [], acc, ms, Q, _ => Q acc ms
  | d :: r, acc, ms, Q, E => g d s ms fun s2 ms2 => tt s2 ms2 (fun b ms3 => Br b (fun ms3 => te s2 ms3 (fun y ms4 => acc.length < sizeLine ∧ aLcLX g tt te s r (acc ++ [y]) ms4 Q E) E) (fun ms3 => aLcLX g tt te s r acc ms3 Q E) ms3) fun _ _ => False
structure LcLX (g : aG) (tt : aT) (te : aE) (s : ASt) (ds acc : List D) (ms : MS) (Q : List D → MS → Prop) (E : XD → MS → Prop) (t : Tag Q E := .mk) : Prop where
  h : aLcLX g tt te s ds acc ms Q E
def fLcX (ri : aI) (g : aG) (tt : aT) (te : aE) (vs : List Nat) : aF := fun s ms Q E => wipeA s vs = s ∧ ri s ms (fun ds ms1 => LcLX g tt te s ds [] ms1 (fun acc ms2 => Q (.lst acc) ms2) E) E
section
variable {X : Cx} {Wx : WXA} {e elt tg iter : Expr} {ifs : List Expr} {scope : Scope} {own : List (Str × Nat)} {pos : Pos} {ra te : aE} {ri : aI} {g : aG} {gs : List Nat} {tt : aT}
theorem lc_okX {σ : L2.St} {H : Hp} {R : VK} {vs : List Nat} (hgs : ∀ j ∈ gs, j ∈ vs) (h : cF X.K Wx (fLcX ri g tt te vs) σ H R) : tLcX Wx.w (cI X.K Wx ri) (cG X.K Wx.blk gs g) (cT X.K Wx.blk tt) (fun W => cE X.K ⟨W, Wx.ex⟩ te) vs σ H R := by
  obtain ⟨B, w, ms, s, Q, E, L, ⟨hs, h⟩, hq, hx⟩ := h
  refine ⟨fun cl ad _ H' => Wx.w cl ad σ H', fun _ _ _ _ z => z, B, w, ms, s, _, E, L, h, fun w1 ms1 H1 J ds e1 L1 wk h1 D hD => ?_, hx⟩
  replace h1 := h1.h
  obtain ⟨d1, d2, d3⟩ := L1.fresh hD
  have d4 : D ∉ B.as := fun z => d2 (L1.bas D z)
  have d5 : B.F D = none := by
    cases q : B.F D with
    | none => rfl
    | some u => obtain ⟨o, z⟩ := L1.bf D u q; rw [d3] at z; cases z
  refine ⟨fun i m H => m + i = ds.length ∧ ∃ w2 ms2 acc ad, Le X.K w1 w2 ∧ Lk X.K (B.at D (.lst acc)) w2 ms2 (wipeA s vs) (wipe σ vs) H ∧ RepL X.K w2 acc ad ∧ aLcLX g tt te s (ds.drop i) ad ms2 (fun acc ms2 => Q (.lst acc) ms2) E, ⟨ds.length, rfl, w1, ms1, [], [], Le.refl _ _, (L1.side hD).wipe, .nil, h1⟩, ?_⟩
  rintro i m H2 ⟨hm, w2, ms2, acc, ad, e2, L2', racc, h2⟩
  by_cases hi : i < ds.length
  · refine .inr ⟨wk.goes _ w2 ms2 _ _ H2 i e2 L2' hi, fun H => m - 1 + (i + 1) = ds.length ∧ ∃ w2 ms2 acc ad, Le X.K w1 w2 ∧ Lk X.K (B.at D (.lst acc)) w2 ms2 (wipeA s vs) (wipe σ vs) H ∧ RepL X.K w2 acc ad ∧ aLcLX g tt te s (ds.drop (i + 1)) ad ms2 (fun acc ms2 => Q (.lst acc) ms2) E,
      fun H' n => ⟨m - 1, by omega, n⟩, fun x H' y => ?_⟩
    obtain ⟨w3, e3, L3, rx⟩ := wk.yields _ w2 ms2 _ _ H2 i ds[i] x H' e2 L2' (List.getElem?_eq_getElem hi) y
    rw [List.drop_eq_getElem_cons hi] at h2
    refine ⟨_, w3, ms2, _, _, _, L3, rx, by rw [hs]; exact h2, fun w4 ms4 H4 s4 σ4 e4 L4 oa ol h4 => ⟨(wipe_only oa hgs).trans (wipe_wipe σ vs), ?_⟩⟩
    have e14 := (e2.trans e3).trans e4
    have back : ∀ {w5 : W} {ms5 : MS} {H5 : Hp} {o : HO}, Lk X.K (B.at D o) w5 ms5 s4 σ4 H5 → Lk X.K (B.at D o) w5 ms5 (wipeA s vs) (wipe σ vs) H5 := fun L => by
      have := L.wipe (vs := vs)
      rw [wipe_only oa hgs, wipe_wipe, wipeA_only ol hgs, wipeA_wipeA] at this
      exact this
    refine ⟨_, w4, ms4, s4, _, _, L4, h4, fun w5 ms5 H5 b e5 L5 h5 => ?_, fun _ _ _ _ _ _ _ _ _ z => z.elim⟩
    cases b with
    | false => rw [if_neg (by decide)]; exact ⟨by omega, w5, ms5, acc, ad, e14.trans e5, back L5, racc.mono (((e3.trans e4).trans e5)), h5⟩
    | true =>
      rw [if_pos rfl]
      refine ⟨_, w5, ms5, s4, _, _, L5, h5, fun w6 ms6 H6 v d e6 L6 r6 h6 => ?_, fun w6 ms6 H6 cl ad' x e6 L6 rx6 h6 => ?_⟩
      · have ra6 := racc.mono (((e3.trans e4).trans e5).trans e6)
        obtain ⟨_, hD6, _, _⟩ := L6.drop d3 d4 d5
        exact ⟨acc, hD6, by rw [racc.length]; exact h6.1, by omega, w6, ms6, acc ++ [v], ad ++ [d], (e14.trans e5).trans e6, back (L6.sideUpd d3 d4 d5), ra6.append (.cons r6 .nil), h6.2⟩
      · obtain ⟨L7, _, _, _⟩ := ((back L6).unwipe hs).drop d3 d4 d5
        exact hx w6 ms6 H6 cl ad' x (e1.trans ((e14.trans e5).trans e6)) L7.junk rx6 h6
  · have hi : i = ds.length := by omega
    subst hi
    rw [List.drop_length] at h2
    obtain ⟨L5, hD5, f5, _⟩ := (L2'.unwipe hs).drop d3 d4 d5
    refine .inl ⟨wk.stops _ w2 ms2 _ _ H2 e2 L2', ?_⟩
    have := hq w2 ms2 (but H2 D) D (.lst acc) (.lst ad) (e1.trans e2) L5 but_same (.lst upd_same racc) h2
    rw [but_back hD5] at this
    exact this
theorem fe_lcX (tk : L2N.Takes X Wx.w) (hc : X.calm = true) (hN : X.N.Nodup) (hi : AI X Wx tg iter ri) (ok : BlkOk X.N X.env.scope scope own) (hgs : ∀ j ∈ gs, j ∈ own.map (·.2))
    (hg : ∀ (s : Shared) (H : Hp) (C : Addr) (cl : List (Str × Addr)) (fp : List Addr), AG (X.blk s H scope (compEnvC scope cl C X.env) fp) Wx.blk gs tg g) (ht : ∀ (s : Shared) (H : Hp) (C : Addr) (cl : List (Str × Addr)) (fp : List Addr), ATs (X.blk s H scope (compEnvC scope cl C X.env) fp) Wx.blk ifs tt)
    (he : ∀ (s : Shared) (H : Hp) (C : Addr) (cl : List (Str × Addr)) (fp : List Addr) (F : Value → Shared → Prop) (W : WX), L2N.Takes (xeOf (X.blk s H scope (compEnvC scope cl C X.env) fp) F) W → AE (xeOf (X.blk s H scope (compEnvC scope cl C X.env) fp) F) ⟨W, Wx.ex⟩ elt te) (hs : ∀ x, foldedSetIterable iter X.env x = pure x := by intro _; rfl)
    (hst : X.stack = X.env :: X.outer := by rfl) (hf : X.env.frame = some X.env.locals := by rfl) :
    FE X Wx (.ListComp elt [⟨tg, iter, ifs, 0⟩] scope pos) (fLcX ri g tt te (own.map (·.2))) :=
  PE.imp (pe_lcX (te := fun W => cE X.K ⟨W, Wx.ex⟩ te) hst hf tk hc hN hi ok hg ht he hs) fun σ H R h => lc_okX (X := X) hgs h
/-- x = [..] on one line -/
theorem as_setLcX {i : Nat} {y : Str} {py spos : Pos} (tk : L2N.Takes X Wx.w) (hc : X.calm = true) (hN : X.N.Nodup) (hy : X.N[i]? = some y) (hyl : X.env.scope.names.lookup y = some .local)
    (hsw : swapsWith (.ListComp elt [⟨tg, iter, ifs, 0⟩] scope pos) (some (.Name y py)) spos.line X.env = pure true) (hi : AI X Wx tg iter ri) (ok : BlkOk X.N X.env.scope scope own) (hgs : ∀ j ∈ gs, j ∈ own.map (·.2))
    (hg : ∀ (s : Shared) (H : Hp) (C : Addr) (cl : List (Str × Addr)) (fp : List Addr), AG (X.blk s H scope (compEnvC scope cl C X.env) fp) Wx.blk gs tg g) (ht : ∀ (s : Shared) (H : Hp) (C : Addr) (cl : List (Str × Addr)) (fp : List Addr), ATs (X.blk s H scope (compEnvC scope cl C X.env) fp) Wx.blk ifs tt)
    (he : ∀ (s : Shared) (H : Hp) (C : Addr) (cl : List (Str × Addr)) (fp : List Addr) (F : Value → Shared → Prop) (W : WX), L2N.Takes (xeOf (X.blk s H scope (compEnvC scope cl C X.env) fp) F) W → AE (xeOf (X.blk s H scope (compEnvC scope cl C X.env) fp) F) ⟨W, Wx.ex⟩ elt te) (hs : ∀ x, foldedSetIterable iter X.env x = pure x := by intro _; rfl)
    (hst : X.stack = X.env :: X.outer := by rfl) (hf : X.env.frame = some X.env.locals := by rfl) :
    AS X Wx (.Assign [.Name y py] (.ListComp elt [⟨tg, iter, ifs, 0⟩] scope pos) spos) (aAsg (aNew (fLcX ri g tt te (own.map (·.2)))) (aName i)) :=
  PS.imp (ps_setLcX (te := fun W => cE X.K ⟨W, Wx.ex⟩ te) hst hf tk hc hN hy hyl hsw hi ok hg ht he hs) fun De σ H ⟨B, w, ms, s, A, L, h, en⟩ => by
    refine lc_okX (X := X) (Wx := Wx) (ri := ri) (g := g) (tt := tt) (te := te) hgs ⟨B, w, ms, s, fun m ms1 => match m.d with
      | some d => A.nx (s.set i (some (.fr d))) ms1
      | none => False, _, L, h, fun w' ms' H' p o m le L' hp r q => ?_, en.px⟩
    dsimp only at q
    split at q
    · rename_i d hd
      have f := L'.fresh hp
      exact en.nx _ ms' _ _ _ (le.trans (Le.new f.1)) ((L'.new hp).set (Rep.ofM f.1 upd_same r hd)) q
    · exact q.elim
end
/-! ### steps -/
theorem w_fLcX {ri : aI} {g : aG} {tt : aT} {te : aE} {vs : List Nat} {s : ASt} {ms : MS} {Q : MO → MS → Prop} {E : XD → MS → Prop} : fLcX ri g tt te vs s ms Q E = (wipeA s vs = s ∧ ri s ms (fun ds ms1 => LcLX g tt te s ds [] ms1 (fun acc ms2 => Q (.lst acc) ms2) E) E) := Eq.trans rfl rfl
/-- the items one after another: J i acc ms -/
theorem lcLX_at {g : aG} {tt : aT} {te : aE} {s : ASt} {ds : List D} {ms : MS} {Q : List D → MS → Prop} {E : XD → MS → Prop} {tag : Tag Q E} (J : Nat → List D → MS → Prop) (h0 : J 0 [] ms)
    (hs : ∀ i d acc ms, ds[i]? = some d → J i acc ms → ∀ N : List D → MS → Prop, (∀ acc' ms', J (i + 1) acc' ms' → N acc' ms') → g d s ms fun s2 ms2 => tt s2 ms2 (fun b ms3 => Br b (fun ms3 => te s2 ms3 (fun y ms4 => acc.length < sizeLine ∧ N (acc ++ [y]) ms4) E) (fun ms3 => N acc ms3) ms3) fun _ _ => False)
    (he : ∀ acc ms, J ds.length acc ms → Q acc ms) : LcLX g tt te s ds [] ms Q E tag := by
  refine ⟨?_⟩
  have gen : ∀ (r : List D) (i : Nat) (acc : List D) (ms : MS), ds.drop i = r → i ≤ ds.length → J i acc ms → aLcLX g tt te s r acc ms Q E := by
    intro r
    induction r with
    | nil =>
      intro i acc ms hr hl hj
      have : i = ds.length := by
        have := congrArg List.length hr
        simp at this; omega
      subst this
      exact he _ _ hj
    | cons d r ih =>
      intro i acc ms hr hl hj
      have hi : i < ds.length := by
        have := congrArg List.length hr
        simp at this; omega
      have e1 := List.drop_eq_getElem_cons hi
      rw [hr] at e1
      injection e1 with e2 e3
      exact hs i d acc ms (by rw [List.getElem?_eq_getElem hi, e2]) hj (fun acc' ms' => aLcLX g tt te s r acc' ms' Q E) fun acc' ms' hj' => ih (i + 1) acc' ms' e3.symm (by omega) hj'
  exact gen ds 0 [] ms rfl (Nat.zero_le _) h0
end LA

set_option Elab.async false
set_option linter.all false
set_option maxRecDepth 100000
set_option maxHeartbeats 4000000
/-! LA36: comprehensions by the place of the item. -/
namespace LA
open PySem PySem.Spec PyProof.Rows L2
section
variable {g : aG} {te : aE} {tt : aT} {s : ASt} {ds : List D} {ms : MS} {Q : List D → MS → Prop} {E : XD → MS → Prop}
theorem range_snoc {f : Nat → D} {i : Nat} : (List.range (i + 1)).map f = (List.range i).map f ++ [f i] := by rw [List.range_succ, List.map_append]; rfl
theorem lcL_idx {tg : Tag Q Q} (f : Nat → D) (hl : ds.length ≤ sizeLine) (st : ∀ i d, ds[i]? = some d → ∀ N : D → MS → Prop, N (f i) ms → g d s ms fun s2 ms2 => te s2 ms2 N fun _ _ => False)
    (k : Q ((List.range ds.length).map f) ms) : LcL g aYes te s ds [] ms Q tg := by
  refine ⟨?_⟩
  have gen : ∀ (r : List D) (i : Nat) (acc : List D), ds.drop i = r → i ≤ ds.length → acc = (List.range i).map f → aLcL g aYes te s r acc ms Q := by
    intro r
    induction r with
    | nil =>
      intro i acc hr hi e
      have : i = ds.length := by have := congrArg List.length hr; simp at this; omega
      subst this e
      exact k
    | cons d r ih =>
      intro i acc hr hi e
      have hlt : i < ds.length := by have := congrArg List.length hr; simp at this; omega
      have e1 := List.drop_eq_getElem_cons hlt
      rw [hr] at e1
      injection e1 with e2 e3
      refine st i d (by rw [List.getElem?_eq_getElem hlt, e2]) (fun y ms4 => acc.length < sizeLine ∧ aLcL g aYes te s r (acc ++ [y]) ms4 Q) ⟨by rw [e]; simp; omega, ih (i + 1) _ e3.symm (by omega) (by rw [e, range_snoc])⟩
  exact gen ds 0 [] rfl (Nat.zero_le _) rfl
/-- .. whose element may raise: at each place either the value, or the error -/
theorem lcLX_idx {tg : Tag Q E} (f : Nat → D) (hl : ds.length ≤ sizeLine) (J : Nat → Prop) (h0 : J 0) (st : ∀ i d, ds[i]? = some d → J i → ∀ N : D → MS → Prop, (J (i + 1) → N (f i) ms) → g d s ms fun s2 ms2 => te s2 ms2 N E)
    (k : J ds.length → Q ((List.range ds.length).map f) ms) : LcLX g aYes te s ds [] ms Q E tg := by
  refine ⟨?_⟩
  have gen : ∀ (r : List D) (i : Nat) (acc : List D), ds.drop i = r → i ≤ ds.length → acc = (List.range i).map f → J i → aLcLX g aYes te s r acc ms Q E := by
    intro r
    induction r with
    | nil =>
      intro i acc hr hi e hj
      have : i = ds.length := by have := congrArg List.length hr; simp at this; omega
      subst this e
      exact k hj
    | cons d r ih =>
      intro i acc hr hi e hj
      have hlt : i < ds.length := by have := congrArg List.length hr; simp at this; omega
      have e1 := List.drop_eq_getElem_cons hlt
      rw [hr] at e1
      injection e1 with e2 e3
      refine st i d (by rw [List.getElem?_eq_getElem hlt, e2]) hj (fun y ms4 => acc.length < sizeLine ∧ aLcLX g aYes te s r (acc ++ [y]) ms4 Q E) fun hj' => ⟨by rw [e]; simp; omega, ih (i + 1) _ e3.symm (by omega) (by rw [e, range_snoc]) hj'⟩
  exact gen ds 0 [] rfl (Nat.zero_le _) rfl h0
end
end LA

set_option Elab.async false
set_option linter.all false
set_option maxRecDepth 100000
set_option maxHeartbeats 4000000
/-! LA39: x += e of an own class in place; chains of three comparisons; sorted triples. -/
namespace L2
open PySem PySem.Spec PyProof.Rows
section
variable {X : Cx} {a b c d : Expr} {pos : Pos} {ta tb tc td : TE}
def tChain3 (r r' r'' : R2) (ta tb tc td : TE) : TE := fun σ H Q => ta σ H fun x H1 => tb σ H1 fun y H2 => r x y H2 fun z H3 => ∃ k : Bool, z = .bl k ∧ if k then (tc σ H3 fun u H4 => r' y u H4 fun z H5 => ∃ k : Bool, z = .bl k ∧ if k then (td σ H5 fun v H6 => r'' u v H6 Q) else Q (.bl false) H5) else Q (.bl false) H3
theorem pt_chain3 {op op' op'' : CmpOp} {r r' r'' : R2} (ho : OpR X (compareOp op) r) (ho' : OpR X (compareOp op') r') (ho'' : OpR X (compareOp op'') r'') (ha : PE X a ta) (hb : PE X b tb) (hc : PE X c tc) (hd : PE X d td)
    (hm : lastMarks [op, op', op''] [b, c, d] = false := by with_unfolding_all rfl) : PT X (.Compare a [op, op', op''] [b, c, d] pos) (tTest (tChain3 r r' r'' ta tb tc td)) := by
  refine ⟨fun pins s σ H Q I h => ?_⟩
  refine isTrue_chain (thn (ha.run pins s σ H _ I h) fun v s1 ⟨x, H1, I1, r1, q1⟩ => test_link (thn (hb.run pins s1 σ H1 _ I1 q1) fun u s2 ⟨y, H2, I2, r2, q2⟩ =>
    thn (ho pins s2 σ H2 x y v u _ I2 r1 r2 q2) fun d s3 ⟨z, H3, I3, r3, k, e, q3⟩ => ?_)) hm
  subst e
  cases r3
  refine wpAny_truthy_bool ?_
  cases k with
  | false =>
    obtain ⟨k', e', q'⟩ := q3
    cases e'
    exact ite_ff ⟨H3, I3, q'⟩
  | true =>
    refine ite_tt (test_link (thn (hc.run pins s3 σ H3 _ I3 q3) fun w' s4 ⟨z', H4, I4, r4, q4⟩ => thn (ho' pins s4 σ H4 y z' u w' _ I4 r2 r4 q4) fun d' s5 ⟨z2, H5, I5, r5, k2, e2, q5⟩ => ?_))
    subst e2
    cases r5
    refine wpAny_truthy_bool ?_
    cases k2 with
    | false =>
      obtain ⟨k', e', q'⟩ := q5
      cases e'
      exact ite_ff ⟨H5, I5, q'⟩
    | true =>
      refine ite_tt (test_last (thn (hd.run pins s5 σ H5 _ I5 q5) fun w2 s6 ⟨z3, H6, I6, r6, q6⟩ => thn (ho'' pins s6 σ H6 z' z3 w' w2 _ I6 r4 r6 q6) fun d2 s7 ⟨z4, H7, I7, r7, k3, e3, q7⟩ => ?_))
      subst e3
      cases r7
      exact wpAny_truthy_bool ⟨H7, I7, q7⟩
end
end L2
namespace LA
open PySem PySem.Spec PyProof.Rows L2
def aChain3 (f g k : D → D → (D → Prop) → Prop) (ra rb rc rd : aE) : aE := fun s ms Q E => ra s ms (fun x ms1 => rb s ms1 (fun y ms2 => f x y fun z => isB z fun c => Br c (fun ms => rc s ms (fun u ms3 => g y u fun z => isB z fun c => Br c (fun ms => rd s ms (fun v ms4 => k u v fun z => Q z ms4) E) (Q (.bl false)) ms3) E) (Q (.bl false)) ms2) E) E
/-- x op= e, x an object of the class c -/
def aAug (c : Str) (i : Nat) (S : ASp) (ra : aE) : aS := fun A s ms => aVar i s ms (fun x ms0 => ra s ms0 (fun y ms1 => isIns c x ms1 fun _ => DoCall S [x, y] ms1 (fun z ms2 => A.nx (s.set i (some (.fr z))) ms2) fun _ _ => False) fun x ms => A.ex x s ms) fun _ _ => False
section
variable {X : Cx} {Wx : WXA} {a b c d e : Expr} {pos : Pos} {ra rb rc rd : aE} {f g k : D → D → (D → Prop) → Prop} {n i : Nat} {cl m : Str} {ps : List Str} {S : ASp}
theorem at_chain3 {op op' op'' : CmpOp} (ho : OpA X (compareOp op) f) (ho' : OpA X (compareOp op') g) (ho'' : OpA X (compareOp op'') k) (ha : AE X Wx a ra) (hb : AE X Wx b rb) (hc : AE X Wx c rc) (hd : AE X Wx d rd)
    (hm : lastMarks [op, op', op''] [b, c, d] = false := by with_unfolding_all rfl) : AT X Wx (.Compare a [op, op', op''] [b, c, d] pos) (aB (aChain3 f g k ra rb rc rd)) :=
  PT.imp (pt_chain3 ho ho' ho'' ha hb hc hd hm) fun σ H R ⟨B, w, ms, s, Q, E, L, h, hq, hx⟩ => two (X := X) L h hx fun w2 ms2 H2 v v2 d d2 e2 L2 r1 r2 h2 => ⟨_, B, w2, ms2, s, σ, d, d2, _, L2, r1, r2, h2, fun w3 H3 z dz e3 L3 r3 q3 => by
    obtain ⟨k, rfl, rfl, q⟩ := isB_rep (X := X) r3 q3
    refine ⟨k, rfl, ?_⟩
    cases k with
    | false => exact ⟨false, rfl, hq w3 ms2 H3 _ (e2.trans e3) L3 q⟩
    | true =>
      rw [if_pos rfl]
      exact ⟨B, w3, ms2, s, _, E, L3, q, fun w4 ms4 H4 v4 d4 e4 L4 r4 h4 => ⟨_, B, w4, ms4, s, σ, d2, d4, _, L4, (r2.mono e3).mono e4, r4, h4, fun w5 H5 z5 d5 e5 L5 r5 q5 => by
        obtain ⟨k, rfl, rfl, q⟩ := isB_rep (X := X) r5 q5
        refine ⟨k, rfl, ?_⟩
        have e25 := ((e2.trans e3).trans e4).trans e5
        cases k with
        | false => exact ⟨false, rfl, hq w5 ms4 H5 _ e25 L5 q⟩
        | true =>
          rw [if_pos rfl]
          exact ⟨B, w5, ms4, s, _, E, L5, q, fun w6 ms6 H6 v6 d6 e6 L6 r6 h6 => ⟨_, B, w6, ms6, s, σ, d4, d6, _, L6, (r4.mono e5).mono e6, r6, h6, fun w7 H7 z7 d7 e7 L7 r7 q7 => by
            obtain ⟨c, rfl, rfl, q⟩ := isB_rep (X := X) r7 q7
            exact ⟨c, rfl, hq w7 ms6 H7 c ((e25.trans e6).trans e7) L7 q⟩⟩, hx.le e25⟩⟩, hx.le (e2.trans e3)⟩⟩
theorem as_aug {y : Str} {pos' : Pos} {op : Operator} (hN : X.N.Nodup) (hi : X.N[i]? = some y) (hx : Loc X.env.scope y) (he : AE X Wx e ra) (G : HX.GMe X.prog X.w X.K X.mg X.base cl m n ps (spA X.K S)) (hsf : PySem.W.selfFirst X.K (He.ga X.K cl) = true) (hr : Room n X.A) (hd : dunderI op.info.2 = m := by rfl)
    (hf : X.fn y = true ∨ X.env.scope.names.lookup y = some .local := by first | exact .inl rfl | exact .inr rfl | assumption) : AS X Wx (.AugAssign (.Name y pos') op e pos) (aAug cl i S ra) :=
  PS.imp (ps_aug hN hi hx he (HX.pip_own G hsf hr hd) hf) fun De σ H ⟨B, w, ms, s, A, L, h, en⟩ => by
    unfold aAug aVar at h
    split at h
    · rename_i d0 e0
      obtain ⟨v, e1, r⟩ := L.sl i _ e0
      refine ⟨v, e1, B, w, ms, s, _, _, L, h, fun w1 ms1 H1 u d1 le1 L1 r1 h1 => ?_, en.px⟩
      obtain ⟨a, dx, fs, ds, rfl, hH, rf, q⟩ := isIns_rep (X := X) L1.s0 (r.mono le1) h1
      refine ⟨a, dx, fs, rfl, hH, w1, ms1, _, _, _, L1.s0, .cons (r.mono le1) (.cons r1 .nil), q.h, fun w' ms' H' v d le A' rv q => ?_, fun _ _ _ _ _ _ _ _ _ q => q.elim⟩
      exact en.nx w' ms' H' _ _ (le1.trans le) ((L1.after le A').set rv) q
    · exact h.elim
end
section
variable {c : Str} {i : Nat} {S : ASp} {ra rb rc rd : aE} {f g k : D → D → (D → Prop) → Prop} {s : ASt} {ms : MS} {A : AEnds} {Q : D → MS → Prop} {E : XD → MS → Prop}
theorem w_aChain3 : aChain3 f g k ra rb rc rd s ms Q E = (ra s ms (fun x ms1 => rb s ms1 (fun y ms2 => f x y fun z => isB z fun c => Br c (fun ms => rc s ms (fun u ms3 => g y u fun z => isB z fun c => Br c (fun ms => rd s ms (fun v ms4 => k u v fun z => Q z ms4) E) (Q (.bl false)) ms3) E) (Q (.bl false)) ms2) E) E) := Eq.trans rfl rfl
theorem w_aAug : aAug c i S ra A s ms = (aVar i s ms (fun x ms0 => ra s ms0 (fun y ms1 => isIns c x ms1 fun _ => DoCall S [x, y] ms1 (fun z ms2 => withS (s.set i (some (.fr z))) (fun s => A.nx s ms2)) fun _ _ => False) fun x ms => A.ex x s ms) fun _ _ => False) := Eq.trans rfl rfl
end
end LA

set_option Elab.async false
set_option linter.all false
set_option maxRecDepth 100000
set_option maxHeartbeats 4000000
/-! LA40: list(range(n)); sorted lists of triples of ints. -/
namespace Tri
open PySem PySem.Spec PyProof.Rows SrtO
abbrev I3 := Int × Int × Int
def lex3 (p q : I3) : Bool := decide (p.1 < q.1 ∨ (p.1 = q.1 ∧ (p.2.1 < q.2.1 ∨ (p.2.1 = q.2.1 ∧ p.2.2 < q.2.2))))
theorem swo3 {α : Type} (k : α → I3) : Swo fun v u => lex3 (k v) (k u) := by
  refine ⟨fun x y h => ?_, fun x y z h1 h2 => ?_⟩
  · have a := of_decide_eq_true h
    exact decide_eq_false (by omega)
  · have a := of_decide_eq_false h1
    have b := of_decide_eq_false h2
    exact decide_eq_false (by omega)
def IsTri (h : Heap) (v : Value) (p : I3) : Prop := ∃ a o t u r n, v = .ref a ∧ h.get? a = some o ∧ o.cls = .type "tuple" ∧ o.data = .seq #[.int p.1 t, .int p.2.1 u, .int p.2.2 r] n
theorem IsTri.keeps {h h' : Heap} {v : Value} {p : I3} (q : IsTri h v p) (k : ∀ b o, h.get? b = some o → o.cls = .type "tuple" → h'.get? b = some o) : IsTri h' v p := by
  obtain ⟨a, o, t, u, r, n, e, ho, hc, hd⟩ := q
  exact ⟨a, o, t, u, r, n, e, k _ _ ho hc, hc, hd⟩
section
variable {prog : Program} {w : World} {A : Around} {E : Value → Shared → Prop} {s : Shared}
theorem tri_cmp {vs : List Value} {k : Value → I3} (hp : ∀ v ∈ vs, IsTri s.heap v (k v)) : Cmp prog w A s (tuples' true) (fun p => p.1 ∈ vs) (lt2 fun v u => lex3 (k v) (k u)) := by
  intro p q hm hm'
  have h1 := hp _ hm
  have h2 := hp _ hm'
  show wpAny (model prog w) A (keyLt' (tuples' true) p.1 q.1) (fun r s' => s' = s ∧ r = lex3 (k p.1) (k q.1)) (fun _ _ => False) s
  generalize k p.1 = u1 at h1 ⊢
  generalize k q.1 = u2 at h2 ⊢
  obtain ⟨x, y, z⟩ := u1
  obtain ⟨x', y', z'⟩ := u2
  obtain ⟨a, o, t, u, r, n, e, ho, hc, hd⟩ := h1
  obtain ⟨a', o', t', u', r', n', e', ho', hc', hd'⟩ := h2
  rw [e, e']
  refine PySem.W.kat_lt ho hd ho' hd' ?_
  show PySem.W.KatLex prog w A true (decide (3 < 3)) _ [(.int x t, .int x' t'), (.int y u, .int y' u'), (.int z r, .int z' r')] 0 s
  have yes : ∀ b : Bool, (b = lex3 (x, y, z) (x', y', z')) → s = s ∧ b = lex3 (x, y, z) (x', y', z') := fun b h => ⟨rfl, h⟩
  refine PySem.W.kat_cons (SeqAt.EqAt.int_int x t x' t' prog w _ _ ?_)
  refine PySem.W.kat_go (fun e1 => ?_) (fun e1 => ?_)
  · have ex : x = x' := by simpa using e1
    refine PySem.W.kat_yes (PySem.W.kat_cons (SeqAt.EqAt.int_int y u y' u' prog w _ _ ?_))
    refine PySem.W.kat_go (fun e2 => ?_) (fun e2 => ?_)
    · have ey : y = y' := by simpa using e2
      refine PySem.W.kat_yes (PySem.W.kat_cons (SeqAt.EqAt.int_int z r z' r' prog w _ _ ?_))
      refine PySem.W.kat_go (fun e3 => ?_) (fun e3 => ?_)
      · have ez : z = z' := by simpa using e3
        refine PySem.W.kat_yes (PySem.W.kat_nil (yes _ ?_))
        unfold lex3; exact (decide_eq_false (by dsimp only; omega)).symm
      · have ez : ¬ z = z' := by simpa using e3
        refine PySem.W.kat_no (PySem.W.kat_one _ _ (PyProof.Rows.lt_int (yes _ ?_)))
        unfold lex3; exact decide_eq_decide.mpr (by dsimp only; omega)
    · have ey : ¬ y = y' := by simpa using e2
      refine PySem.W.kat_no (PySem.W.kat_one _ _ (PyProof.Rows.lt_int (yes _ ?_)))
      unfold lex3; exact decide_eq_decide.mpr (by dsimp only; omega)
  · have ex : ¬ x = x' := by simpa using e1
    refine PySem.W.kat_no (PyProof.Rows.oneLt_int (yes _ ?_))
    unfold lex3; exact decide_eq_decide.mpr (by dsimp only; omega)
theorem firsts3 {h : Heap} : ∀ {vs : List Value}, (∀ v ∈ vs, ∃ p, IsTri h v p) → ∃ fs : List Value, PySem.W.KatTups h vs fs ∧ fs.length = vs.length ∧ ∀ f ∈ fs, ∃ x t, f = Value.int x t
  | [], _ => ⟨[], PySem.W.KatTups.nil, rfl, fun _ hm => by simp at hm⟩
  | v :: vs, hp => by
    obtain ⟨fs, h1, h2, h3⟩ := firsts3 (vs := vs) fun v' hm => hp v' (List.mem_cons_of_mem _ hm)
    obtain ⟨p, a, o, t, u, r, n, e, ho, hc, hd⟩ := hp v (List.mem_cons_self ..)
    subst e
    refine ⟨.int p.1 t :: fs, PySem.W.KatTups.cons ho hc hd rfl h1, by rw [List.length_cons, List.length_cons, h2], fun f hm => ?_⟩
    rcases List.mem_cons.mp hm with rfl | hm
    · exact ⟨p.1, t, rfl⟩
    · exact h3 f hm
theorem tri_sortable {a : Addr} {vs : List Value} {k : Value → I3} (h0 : 0 < vs.length) (hp : ∀ v ∈ vs, IsTri s.heap v (k v)) (ha : ∀ o, s.heap.get? a = some o → o.cls ≠ .type "tuple") : SortableO prog w A s a vs fun v u => lex3 (k v) (k u) := by
  intro h' keep
  have hp' : ∀ v ∈ vs, IsTri h' v (k v) := fun v hm => (hp v hm).keeps fun b o e c => keep b o (fun z => by subst z; exact ha o e c) e
  obtain ⟨fs, h1, h2, h3⟩ := firsts3 fun v hm => ⟨_, hp' v hm⟩
  refine ⟨tuples' true, fun Q E hq => ?_, tri_cmp hp'⟩
  refine PySem.W.kat_kind (T := .type "int") h1 (by omega) (fun f hm => ?_) (by rfl) ?_
  · obtain ⟨x, t, rfl⟩ := h3 f hm
    exact PySem.W.Looks.now
  · have e : (Value.type "int" != Value.type "tuple") = true := by first | decide +kernel | rfl | decide
    rw [e]
    exact hq
theorem sorted_tris {l : Addr} {vs : List Value} {k : Value → I3} {Q : Value → Shared → Prop} (hl : s.heap.IsList l vs.toArray) (hz : vs.length ≤ sizeLine) (hp : ∀ v ∈ vs, IsTri s.heap v (k v))
    (h : ∀ (h' : Heap) (d : Addr) (out : List Value), Srtd (fun v u => lex3 (k v) (k u)) out → Stb (fun v u => lex3 (k v) (k u)) out vs → (∀ b o, s.heap.get? b = some o → h'.get? b = some o) → s.heap.objs.size ≤ d → (∃ n, h'.get? d = some (seqObj "list" out.toArray n)) → Q (.ref d) { s with heap := h' }) :
    wpAny (model prog w) A (call (.builtin "sorted") [.ref l]) Q E s := by
  refine sorted_ord (swo3 k) hl hz (fun h2 h₁ a ha kk => ?_) fun out hs hb => ?_
  · refine tri_sortable (s := { s with heap := h₁ }) (by omega) (fun v hm => (hp v hm).keeps fun b o e _ => (kk b o e).2) fun o e => ?_
    have e' : some o = some (seqObj "list" vs.toArray 0) := e.symm.trans ha
    cases e'
    intro c
    exact absurd (Value.type.inj c) (by decide)
  · exact h _ _ out hs hb (fun b o e => sortedAll_old e) (Nat.le_succ _) (sortedAll_at s.heap vs out.toArray)
end
open L2
abbrev lt3 (k : V → I3) (x y : V) : Bool := lex3 (k x) (k y)
def rSorted3 (K : PySem.W.Frag) : List V → Hp → VK → Prop := fun vs H Q => ∃ (a : Addr) (xs : List V) (k : V → I3), vs = [V.ref a] ∧ SqL K H a xs ∧ (∀ x ∈ xs, ∃ t, x = V.ref t ∧ H t = some (.tup [.int (k x).1, .int (k x).2.1, .int (k x).2.2])) ∧
  ∀ ys p, Srtd (lt3 k) ys → Stb (lt3 k) ys xs → H p = none → Q (.ref p) (upd H p (.lst ys))
theorem cr_sorted3 {X : Cx} : CallR X (.builtin "sorted") (rSorted3 X.K) := by
  intro pins s σ H vs us Q I r h
  obtain ⟨a, xs, k, rfl, hs, hx, q⟩ := h
  obtain ⟨its, rv, hl, hz⟩ := I.list hs
  obtain ⟨u, rfl, ru⟩ := vals1 r
  obtain rfl : u = Value.ref a := ru
  obtain ⟨e1, e2⟩ := refs_back rv fun x m => by
    obtain ⟨t, e, _⟩ := hx x m
    exact ⟨t, e⟩
  refine sorted_tris (k := fun u => k (backV u)) hl.isList (by rw [← rv.length]; exact hz) (fun v hv => ?_) fun h' d out h1 h2 kp hd hn => ?_
  · obtain ⟨t, rfl⟩ := e2 v hv
    have hm : V.ref t ∈ xs := by rw [e1]; exact List.mem_map.mpr ⟨_, hv, rfl⟩
    obtain ⟨t', e, ht⟩ := hx _ hm
    cases e
    obtain ⟨_, its2, r2, o, ho, hc, n, hd⟩ := I.hok _ _ ht
    obtain ⟨u1, r3⟩ : ∃ u1 u2 u3, its2 = [u1, u2, u3] ∧ RelV (.int (k (.ref t)).1) u1 ∧ RelV (.int (k (.ref t)).2.1) u2 ∧ RelV (.int (k (.ref t)).2.2) u3 := by
      cases r2 with
      | cons a1 r2 => cases r2 with
        | cons a2 r2 => cases r2 with
          | cons a3 r2 => cases r2; exact ⟨_, _, _, rfl, a1, a2, a3⟩
    obtain ⟨u2, u3, rfl, ⟨t1, rfl⟩, ⟨t2, rfl⟩, ⟨t3, rfl⟩⟩ := r3
    exact ⟨t, o, t1, t2, t3, n, rfl, ho, hc, hd⟩
  · have h3 : ∀ u ∈ out, ∃ a, u = Value.ref a := fun u hu => e2 u (h2.perm.mem_iff.mp hu)
    obtain ⟨n, hn⟩ := hn
    have hb : Stb (lt3 k) (out.map backV) xs := by
      rw [e1]
      exact Stb.map (swo3 k) backV h2
    refine ⟨.ref d, upd H d (.lst (out.map backV)), I.laid (t' := s.toks) kp hd ⟨?_, out, n, vals_back h3, hn⟩, rfl, q _ d (srtd_map h1) hb (I.hok.fresh hd)⟩
    rw [hb.len]; exact hz
end Tri
namespace LA
open PySem PySem.Spec PyProof.Rows L2
def aListRg (ra : aE) : aE := fun s ms Q E => ra s ms (fun d ms1 => match d with
  | .int j => RgOk 0 j ∧ Q (.lst (rangeD 0 j.toNat)) ms1
  | _ => False) E
theorem repL_rg {K : PySem.W.Frag} {w : W} {j : Int} : RepL K w (rgV 0 j) (rangeD 0 j.toNat) := by
  unfold rgV rangeD
  rw [Int.sub_zero]
  generalize List.range j.toNat = l
  induction l with
  | nil => exact .nil
  | cons i r ih => exact .cons (.int _) ih
section
variable {X : Cx} {Wx : WXA} {e : Expr} {ra : aE} {p q pos rpos : Pos}
theorem ae_listRg (hc : X.calm = true) (hg : Gl X "list") (hm : X.mg "list" = none) (hg2 : Gl X "range") (hm2 : X.mg "range" = none) (he : AE X Wx e ra) (na : starEach [e] X.env = (false, eval e X.env) :: starEach [] X.env := by rfl)
    (nb : starEach [.Call (.Name "range" q) [e] [] rpos] X.env = (false, eval (.Call (.Name "range" q) [e] [] rpos) X.env) :: starEach [] X.env := by rfl) : AE X Wx (.Call (.Name "list" p) [.Call (.Name "range" q) [e] [] rpos] [] pos) (aListRg ra) :=
  PE.imp (pe_listRg hc hg hm (prg_1 hg2 hm2 he na) nb) fun σ H R ⟨B, w, ms, s, Q, E, L, h, hq, hx⟩ => ⟨B, w, ms, s, _, E, L, h, fun w1 ms1 H1 v d e1 L1 r1 h1 => by
    cases r1 with
    | int j => exact ⟨j, rfl, h1.1, fun p hp => hq _ ms1 _ _ _ (e1.trans (Le.new (L1.fresh hp).1)) (L1.new hp) (.lst upd_same repL_rg) h1.2⟩
    | _ => exact False.elim h1, hx⟩
theorem w_aListRg {s : ASt} {ms : MS} {Q : D → MS → Prop} {E : XD → MS → Prop} : aListRg ra s ms Q E = (ra s ms (fun d ms1 => match d with
  | .int j => RgOk 0 j ∧ Q (.lst (rangeD 0 j.toNat)) ms1
  | _ => False) E) := Eq.trans rfl rfl
end
end LA
namespace LA
open PySem PySem.Spec PyProof.Rows L2
def triD (d : D) : Option Tri.I3 := match d with
  | .tup [.int a, .int b, .int c] => some (a, b, c)
  | _ => none
/-- sorted(l), l a sorted list of triples of ints -/
def fSort3 (ds : List D) (Q : D → Prop) : Prop := on1 ds fun x => isL x fun xs => xs.length ≤ sizeLine ∧ (∀ d ∈ xs, ∃ p, triD d = some p) ∧ xs.Pairwise (fun d e => ∀ p q, triD d = some p → triD e = some q → Tri.lex3 q p = false) ∧ Q (.lst xs)
/-- the triple at a place -/
def triV (H : Hp) (v : V) : Tri.I3 := match v with
  | .ref t => match H t with
    | some (.tup [.int a, .int b, .int c]) => (a, b, c)
    | _ => (0, 0, 0)
  | _ => (0, 0, 0)
theorem triV_of {K : PySem.W.Frag} {w : W} {ms : MS} {H : Hp} {v : V} {d : D} {p : Tri.I3} (h0 : St0 K w ms H) (r : Rep K w v d) (h : triD d = some p) : (∃ t, v = .ref t ∧ H t = some (.tup [.int p.1, .int p.2.1, .int p.2.2])) ∧ triV H v = p := by
  unfold triD at h
  split at h
  · rename_i a b c
    cases h
    cases r with
    | @tup t vs ds hf rl =>
      have : vs = [.int a, .int b, .int c] := by
        have := rl.of_ints (ns := [a, b, c])
        exact this
      subst this
      have e := h0.fh _ _ hf
      exact ⟨⟨t, rfl, e⟩, by simp only [triV, e]⟩
  · cases h
theorem srt3 {K : PySem.W.Frag} {w : W} {ms : MS} {H : Hp} (h0 : St0 K w ms H) : ∀ {vs : List V} {ds : List D}, RepL K w vs ds → (∀ d ∈ ds, ∃ p, triD d = some p) → ds.Pairwise (fun d e => ∀ p q, triD d = some p → triD e = some q → Tri.lex3 q p = false) →
    vs.Pairwise fun v u => Tri.lex3 (triV H u) (triV H v) = false
  | _, _, .nil, _, _ => List.Pairwise.nil
  | _, _, .cons (v := v) (d := d) h r, hd, hp => by
    rw [List.pairwise_cons] at hp ⊢
    refine ⟨fun u hu => ?_, srt3 h0 r (fun d hm => hd d (List.mem_cons_of_mem _ hm)) hp.2⟩
    obtain ⟨j, hj, e⟩ := List.mem_iff_getElem.mp hu
    obtain ⟨x, hx, rx⟩ := r.getV (i := j) (u := u) (by rw [List.getElem?_eq_getElem hj, e])
    have hm := List.mem_of_getElem? hx
    obtain ⟨p, ep⟩ := hd d List.mem_cons_self
    obtain ⟨q, eq⟩ := hd x (List.mem_cons_of_mem _ hm)
    rw [(triV_of h0 h ep).2, (triV_of h0 rx eq).2]
    exact hp.1 x hm p q ep eq
theorem ca_sort3 {X : Cx} : CallA X (.builtin "sorted") fSort3 := by
  rintro pins s σ H vs us R I rx ⟨xi, B, w, ms, st, σ', ds, Qd, L, r, h, k⟩
  obtain ⟨x, rfl, hh⟩ := on1_of h
  obtain ⟨v, rfl, rr⟩ := r.one
  obtain ⟨a, vs, xs, rfl, rfl, hf, q, hl, hd, hp, g⟩ := lst_case rr hh
  refine Tri.cr_sorted3 pins s σ H _ us R I rx ⟨a, vs, triV H, rfl, SqL.up L.s0 hf, fun x hx => ?_, fun ys p h1 h2 hpn => ?_⟩
  · obtain ⟨j, hj, e⟩ := List.mem_iff_getElem.mp hx
    obtain ⟨d, hx2, rx⟩ := q.getV (i := j) (u := x) (by rw [List.getElem?_eq_getElem hj, e])
    obtain ⟨p, ep⟩ := hd d (List.mem_of_getElem? hx2)
    obtain ⟨⟨t, e1, e2⟩, e3⟩ := triV_of L.s0 rx ep
    rw [e3]; exact ⟨t, e1, e2⟩
  · have : ys = vs := SrtO.stb_uniq (Tri.swo3 (triV H)) h1 (srt3 L.s0 q hd hp) h2
    subst this
    exact new_ L k hpn (fun w' le hf => .lst hf (q.mono le)) g
theorem s_sort3 {xs : List D} {Q : D → Prop} : fSort3 [.lst xs] Q = (xs.length ≤ sizeLine ∧ (∀ d ∈ xs, ∃ p, triD d = some p) ∧ xs.Pairwise (fun d e => ∀ p q, triD d = some p → triD e = some q → Tri.lex3 q p = false) ∧ Q (.lst xs)) := Eq.trans rfl rfl
end LA

set_option Elab.async false
set_option linter.all false
set_option maxRecDepth 100000
set_option maxHeartbeats 4000000
/-! LA41: an instance made as a cell. -/
namespace LA
open PySem PySem.Spec PyProof.Rows L2
theorem Lk.addCell {K : PySem.W.Frag} {ex : XI} {B : Bs ex} {w : W} {ms : MS} {s : ASt} {σ : L2.St} {H : Hp} {p : Addr} {m : MO} (L : Lk K B w ms s σ H) (n1 : w.F p = none) (n2 : p ∉ w.as) (n3 : B.H p = none) (r0 : RepM K w H p m) (hd : ∀ (k : Nat) mk, s[k]? = some (some (AV.ow mk)) → σ[k]? ≠ some (some (.ref p))) :
    Le K w { w with as := w.as ++ [p] } ∧ Lk K B { w with as := w.as ++ [p] } (ms ++ [m]) s σ H := by
  have le : Le K w { w with as := w.as ++ [p] } := .ext (fun _ _ h => h) fun k a e => by
    show (w.as ++ [p])[k]? = some a
    rw [List.getElem?_append_left (List.getElem?_eq_some_iff.mp e).1]; exact e
  refine ⟨le, ⟨⟨L.s0.fh, ?_, fun a ha => ?_, fun k mk e => ?_, by simp [L.s0.ln]⟩, L.keep, fun a ha => ?_, fun a ha => List.mem_append_left _ (L.bas a ha), L.fz, L.len, fun k av e => ?_, L.dj, L.bf, L.sf⟩⟩
  · show (w.as ++ [p]).Nodup
    rw [List.nodup_append]
    refine ⟨L.s0.nd, by simp, fun a ha b hb e => n2 ?_⟩
    have : b = p := by simpa using hb
    rw [← this, ← e]; exact ha
  · have ha : a ∈ w.as ++ [p] := ha
    rcases List.mem_append.mp ha with q | q
    · exact L.s0.na a q
    · have : a = p := by simpa using q
      rw [this]; exact n1
  · by_cases hk : k < ms.length
    · rw [List.getElem?_append_left hk] at e
      obtain ⟨a, ha, r⟩ := L.s0.ce k mk e
      exact ⟨a, le.p k a ha, r.mono le fun _ q => q⟩
    · have hk2 : k = ms.length := by
        have := (List.getElem?_eq_some_iff.mp e).1
        simp at this; omega
      subst hk2
      have : mk = m := by simpa using e.symm
      subst this
      refine ⟨p, ?_, r0.mono le fun _ q => q⟩
      show (w.as ++ [p])[ms.length]? = some p
      rw [← L.s0.ln]; simp
  · have ha : a ∈ w.as ++ [p] := ha
    rcases List.mem_append.mp ha with q | q
    · exact L.pre a q
    · have : a = p := by simpa using q
      rw [this]; exact .inr n3
  · have := L.sl k av e
    cases av with
    | fr d => obtain ⟨v, a, b⟩ := this; exact ⟨v, a, b.mono le⟩
    | ex x => obtain ⟨a, c, d, e0, e1, r⟩ := this; exact ⟨a, c, d, e0, e1, r.mono le⟩
    | ow mm =>
      obtain ⟨u, e2, r, m1, m2, m3⟩ := this
      refine ⟨u, e2, r.mono le fun _ q => q, m1, fun z => ?_, m3⟩
      have z : u ∈ w.as ++ [p] := z
      rcases List.mem_append.mp z with q | q
      · exact m2 q
      · have : u = p := by simpa using q
        exact hd k mm e (this ▸ e2)
section
variable {X : Cx} {Wx : WXA} {e : Expr} {es : List Expr} {p pos : Pos} {rr : aA} {k : Nat} {c : Str} {ps : List Str} {S : ISp}
theorem ae_makeP (tk : L2N.Takes X Wx.w) (G : HX.GMk X.prog X.w X.K X.mg X.base c k ps (spI X.K c S)) (hr : Room (k + 1) X.A) (hg : Gl X c) (ha : AA X Wx (e :: es) rr) (hdb : (c == ("__debug__" : Str)) = false := by decide)
    (he : starEach (e :: es) X.env = (false, eval e X.env) :: starEach es X.env := by rfl) (hpl : (backTo pos (starEach es X.env)).any (·.1) = false := by rfl) : AE X Wx (.Call (.Name c p) (e :: es) [] pos) (aMakeP c S rr) :=
  PE.imp (HX.pe_gk G hr (fun σ => L2N.passAt tk σ) hg ha hdb he hpl) fun σ H R ⟨B, w, ms, s, Q, E, L, h, hq, hx⟩ => ⟨B, w, ms, s, _, E, L, h, fun w1 ms1 H1 vs ds e1 L1 r1 h1 => fun x dx hx' hd' hne => by
    obtain ⟨f1, f2, f3⟩ := L1.fresh hx'
    refine ⟨x, dx, vs, w1, ms1, ds, _, E, rfl, upd_same, f1, f2, mk_pre (X := X) L1 hx' hd', r1, h1.h, fun w' ms' H' dx' fs gs le A h2 r2 q => ⟨rfl, ?_⟩, fun w' ms' H' cl ad y le A rx q => hx _ _ _ _ _ _ (e1.trans le) (L1.after le (L1.made hx' hd' le A)) rx q⟩
    have L3 := L1.after le (L1.made hx' hd' le A)
    obtain ⟨le2, L4⟩ := L3.addCell (m := .ins c gs) A.fx A.nx f3 (.ins h2 r2) fun k mk e z => by
      obtain ⟨u, a, r, _⟩ := L1.sl k _ e
      rw [z] at a; cases a
      obtain ⟨o, ho⟩ := r.there
      rw [hx'] at ho; cases ho
    refine hq _ _ H' (.ref x) (.ptr ms'.length) ((e1.trans le).trans le2) L4 (.ptr ?_) q
    show (w'.as ++ [x])[ms'.length]? = some x
    rw [← L3.s0.ln]; simp, hx⟩
end
/-- a slot forgotten -/
def aFgt (i : Nat) (t : aS) : aS := fun A s ms => t A (s.set i none) ms
theorem Lk.forget {K : PySem.W.Frag} {ex : XI} {B : Bs ex} {w : W} {ms : MS} {s : ASt} {σ : L2.St} {H : Hp} (L : Lk K B w ms s σ H) (i : Nat) : Lk K B w ms (s.set i none) σ H := by
  by_cases h : i < σ.length
  · have := L.unset i σ[i]
    rw [List.set_getElem_self] at this
    exact this
  · rw [List.set_eq_of_length_le (by rw [L.len]; omega)]; exact L
theorem as_fgt {X : Cx} {Wx : WXA} {st : Stmt} {t : aS} {i : Nat} (h : AS X Wx st t) : AS X Wx st (aFgt i t) :=
  PS.imp h fun De σ H ⟨B, w, ms, s, A, L, h, en⟩ => ⟨B, w, ms, _, A, L.forget i, h, en⟩
theorem w_aFgt {i : Nat} {t : aS} {s : ASt} {ms : MS} {A : AEnds} : aFgt i t A s ms = (withS (s.set i none) fun s => t A s ms) := Eq.trans rfl rfl
end LA

set_option Elab.async false
set_option linter.all false
set_option maxRecDepth 100000
set_option maxHeartbeats 8000000
namespace LW
open PySem PySem.Spec PyProof.Rows L2
def topS (i : Nat) : Stmt := PySem.Challenge.pw_overmidnight_k03_whole_watches.main.body.getD i (.Pass ⟨0, 0, 0, 0⟩)
abbrev s__law_below : Stmt := topS 15
theorem sc__law_below : FnScope ["_law_d", "_law_size", "_law_result"] ["_law_d", "_law_size"] (defScope s__law_below) := ⟨rfl, rfl, rfl, by decide +kernel, rfl, by decide +kernel, by decide +kernel⟩
abbrev s__law_random : Stmt := topS 14
theorem sc__law_random : FnScope ["_law_script", "_law_salt", "_law_seed", "_law_cell"] ["_law_script", "_law_salt"] (defScope s__law_random) := ⟨rfl, rfl, rfl, by decide +kernel, rfl, by decide +kernel, by decide +kernel⟩
abbrev s__law_pick : Stmt := topS 16
theorem sc__law_pick : FnScope ["_law_d", "_law_items"] ["_law_d", "_law_items"] (defScope s__law_pick) := ⟨rfl, rfl, rfl, by decide +kernel, rfl, by decide +kernel, by decide +kernel⟩
abbrev s__law_time : Stmt := topS 18
theorem sc__law_time : FnScope ["_law_d", "_law_size"] ["_law_d", "_law_size"] (defScope s__law_time) := ⟨rfl, rfl, rfl, by decide +kernel, rfl, by decide +kernel, by decide +kernel⟩
abbrev s_Day_length : Stmt := inClass (topS 9) 1
theorem sc_Day_length : FnScope ["self"] ["self"] (defScope s_Day_length) := ⟨rfl, rfl, rfl, by decide +kernel, rfl, by decide +kernel, by decide +kernel⟩
abbrev s_Day_init : Stmt := inClass (topS 9) 0
theorem sc_Day_init : FnScope ["self", "length"] ["self", "length"] (defScope s_Day_init) := ⟨rfl, rfl, rfl, by decide +kernel, rfl, by decide +kernel, by decide +kernel⟩
abbrev s_is_integer : Stmt := topS 6
theorem sc_is_integer : FnScope ["value"] ["value"] (defScope s_is_integer) := ⟨rfl, rfl, rfl, by decide +kernel, rfl, by decide +kernel, by decide +kernel⟩
abbrev s_Day_call : Stmt := inClass (topS 9) 2
theorem sc_Day_call : FnScope ["self", "number"] ["self", "number"] (defScope s_Day_call) := ⟨rfl, rfl, rfl, by decide +kernel, rfl, by decide +kernel, by decide +kernel⟩
abbrev s_Day_span : Stmt := inClass (topS 9) 3
theorem sc_Day_span : FnScope ["self", "start", "end"] ["self", "start", "end"] (defScope s_Day_span) := ⟨rfl, rfl, rfl, by decide +kernel, rfl, by decide +kernel, by decide +kernel⟩
abbrev s_Day_eq : Stmt := inClass (topS 9) 4
theorem sc_Day_eq : FnScope ["self", "other"] ["self", "other"] (defScope s_Day_eq) := ⟨rfl, rfl, rfl, by decide +kernel, rfl, by decide +kernel, by decide +kernel⟩
abbrev s_Clock_sub : Stmt := inClass (topS 10) 5
theorem sc_Clock_sub : FnScope ["self", "other", "length"] ["self", "other"] (defScope s_Clock_sub) := ⟨rfl, rfl, rfl, by decide +kernel, rfl, by decide +kernel, by decide +kernel⟩
abbrev s_Watch_contains : Stmt := inClass (topS 12) 5
theorem sc_Watch_contains : FnScope ["self", "clock"] ["self", "clock"] (defScope s_Watch_contains) := ⟨rfl, rfl, rfl, by decide +kernel, rfl, by decide +kernel, by decide +kernel⟩
abbrev s_Watch_length : Stmt := inClass (topS 12) 1
theorem sc_Watch_length : FnScope ["self"] ["self"] (defScope s_Watch_length) := ⟨rfl, rfl, rfl, by decide +kernel, rfl, by decide +kernel, by decide +kernel⟩
abbrev s_Clock_init : Stmt := inClass (topS 10) 0
theorem sc_Clock_init : FnScope ["self", "day", "time"] ["self", "day", "time"] (defScope s_Clock_init) := ⟨rfl, rfl, rfl, by decide +kernel, rfl, by decide +kernel, by decide +kernel⟩
abbrev s_need_integer : Stmt := topS 8
theorem sc_need_integer : FnScope ["value"] ["value"] (defScope s_need_integer) := ⟨rfl, rfl, rfl, by decide +kernel, rfl, by decide +kernel, by decide +kernel⟩
abbrev s_need_same : Stmt := topS 11
theorem sc_need_same : FnScope ["day", "clocks", "clock"] ["day", "clocks"] (defScope s_need_same) := ⟨rfl, rfl, rfl, by decide +kernel, rfl, by decide +kernel, by decide +kernel⟩
abbrev s_Clock_iadd : Stmt := inClass (topS 10) 6
theorem sc_Clock_iadd : FnScope ["self", "number"] ["self", "number"] (defScope s_Clock_iadd) := ⟨rfl, rfl, rfl, by decide +kernel, rfl, by decide +kernel, by decide +kernel⟩
abbrev s_Clock_eq : Stmt := inClass (topS 10) 8
theorem sc_Clock_eq : FnScope ["self", "other"] ["self", "other"] (defScope s_Clock_eq) := ⟨rfl, rfl, rfl, by decide +kernel, rfl, by decide +kernel, by decide +kernel⟩
abbrev s_Watch_eq : Stmt := inClass (topS 12) 6
theorem sc_Watch_eq : FnScope ["self", "other"] ["self", "other"] (defScope s_Watch_eq) := ⟨rfl, rfl, rfl, by decide +kernel, rfl, by decide +kernel, by decide +kernel⟩
abbrev s_Watch_start : Stmt := inClass (topS 12) 2
theorem sc_Watch_start : FnScope ["self"] ["self"] (defScope s_Watch_start) := ⟨rfl, rfl, rfl, by decide +kernel, rfl, by decide +kernel, by decide +kernel⟩
abbrev s_Watch_end : Stmt := inClass (topS 12) 3
theorem sc_Watch_end : FnScope ["self"] ["self"] (defScope s_Watch_end) := ⟨rfl, rfl, rfl, by decide +kernel, rfl, by decide +kernel, by decide +kernel⟩
abbrev s_Watch_parts : Stmt := inClass (topS 12) 4
theorem sc_Watch_parts : FnScope ["self", "found", "part"] ["self"] (defScope s_Watch_parts) := ⟨rfl, rfl, rfl, by decide +kernel, rfl, by decide +kernel, by decide +kernel⟩
abbrev s_Watch_init : Stmt := inClass (topS 12) 0
theorem sc_Watch_init : FnScope ["self", "start", "end"] ["self", "start", "end"] (defScope s_Watch_init) := ⟨rfl, rfl, rfl, by decide +kernel, rfl, by decide +kernel, by decide +kernel⟩
abbrev s__law_equal : Stmt := topS 17
theorem sc__law_equal : FnScope ["_law_actual", "_law_expected", "_law_key", "_law_k"] ["_law_actual", "_law_expected"] (defScope s__law_equal) := ⟨rfl, rfl, rfl, by decide +kernel, rfl, by decide +kernel, by decide +kernel⟩
abbrev s_law : Stmt := topS 21
theorem sc_law : FnScope ["_law_script", "_law_d", "_law_size", "_law_day", "_law_turn", "_law_start", "_law_end", "_law_times", "_law_clock", "_law_watch", "_law_cut", "_law_k", "_law_part"] ["_law_script"] (defScope s_law) := ⟨rfl, rfl, rfl, by decide +kernel, rfl, by decide +kernel, by decide +kernel⟩
abbrev s__law_refused : Stmt := topS 19
theorem sc__law_refused : FnScope ["_law_watch", "_law_start", "_law_other", "_law_many"] ["_law_watch", "_law_start", "_law_other"] (defScope s__law_refused) := ⟨rfl, rfl, rfl, by decide +kernel, rfl, by decide +kernel, by decide +kernel⟩
abbrev s__law_right : Stmt := topS 20
theorem sc__law_right : FnScope ["_law_day", "_law_watch", "_law_start", "_law_end", "_law_times", "_law_size", "_law_length", "_law_ticks", "_law_later", "_law_first", "_law_last", "_law_time_here", "_law_due", "_law_inside"] ["_law_day", "_law_watch", "_law_start", "_law_end", "_law_times"] (defScope s__law_right) := ⟨rfl, rfl, rfl, by decide +kernel, rfl, by decide +kernel, by decide +kernel⟩
structure Txt (K : PySem.W.Frag) (mg : Str → Option Value) : Prop where
  n_int : mg "int" = none
  n_len : mg "len" = none
  n_abs : mg "abs" = none
  c_Day : Cls K (He.ga K "Day")
  a_Day_ticks_of_day : NoAttr K (He.ga K "Day") "ticks_of_day"
  x_InvalidLength : HX.ExK K mg "InvalidLength"
  mk_Day : Mk K (He.ga K "Day") (He.ma K (He.ga K "Day") "__init__")
  g_Day : mg "Day" = some (.ref (He.ga K "Day"))
  n_isinstance : mg "isinstance" = none
  n_bool : mg "bool" = none
  ow_Day : LA.OwnK K "Day"
  c_Clock : Cls K (He.ga K "Clock")
  a_Clock_own_time : NoAttr K (He.ga K "Clock") "own_time"
  c_Watch : Cls K (He.ga K "Watch")
  a_Watch_own_day : NoAttr K (He.ga K "Watch") "own_day"
  a_Clock_own_day : NoAttr K (He.ga K "Clock") "own_day"
  ow_Clock : LA.OwnK K "Clock"
  g_Clock : mg "Clock" = some (.ref (He.ga K "Clock"))
  x_OtherDay : HX.ExK K mg "OtherDay"
  a_Watch_first : NoAttr K (He.ga K "Watch") "first"
  a_Watch_behind : NoAttr K (He.ga K "Watch") "behind"
  mk_Clock : Mk K (He.ga K "Clock") (He.ma K (He.ga K "Clock") "__init__")
  x_InvalidNumber : HX.ExK K mg "InvalidNumber"
  nf_Day : LA.NotFirst K "Day"
  ow_Watch : LA.OwnK K "Watch"
  g_Watch : mg "Watch" = some (.ref (He.ga K "Watch"))
  mk_Watch : Mk K (He.ga K "Watch") (He.ma K (He.ga K "Watch") "__init__")
  n_all : mg "all" = none
  n_range : mg "range" = none
  n_list : mg "list" = none
  n_tuple : mg "tuple" = none
  n_dict : mg "dict" = none
  n_sorted : mg "sorted" = none
  n_str : mg "str" = none
  nf_Watch : LA.NotFirst K "Watch"
  fi_Day : PySem.W.fnIn K (He.ma K (He.ga K "Day") "__call__") = true
  sf_Clock : PySem.W.selfFirst K (He.ga K "Clock") = true
  em_OtherDay_OtherDay : PySem.W.exmOne K (.ref (He.ga K "OtherDay")) (.ref (He.ga K "OtherDay")) = some true
  em_InvalidNumber_OtherDay : PySem.W.exmOne K (.ref (He.ga K "InvalidNumber")) (.ref (He.ga K "OtherDay")) = some false
  em_InvalidLength_OtherDay : PySem.W.exmOne K (.ref (He.ga K "InvalidLength")) (.ref (He.ga K "OtherDay")) = some false
  g_OtherDay : mg "OtherDay" = some (.ref (He.ga K "OtherDay"))
  n_any : mg "any" = none
  nf_Clock : LA.NotFirst K "Clock"
  d__law_below : HX.DefAt K "_law_below" "_law_below" s__law_below (He.ga K "_law_below")
  g__law_below : mg "_law_below" = some (.ref (He.ga K "_law_below"))
  d__law_random : HX.DefAt K "_law_random" "_law_random" s__law_random (He.ga K "_law_random")
  g__law_random : mg "_law_random" = some (.ref (He.ga K "_law_random"))
  d__law_pick : HX.DefAt K "_law_pick" "_law_pick" s__law_pick (He.ga K "_law_pick")
  g__law_pick : mg "_law_pick" = some (.ref (He.ga K "_law_pick"))
  d__law_time : HX.DefAt K "_law_time" "_law_time" s__law_time (He.ga K "_law_time")
  g__law_time : mg "_law_time" = some (.ref (He.ga K "_law_time"))
  po_Day_length : PropOf K (He.ga K "Day") "length" (He.ma K (He.ga K "Day") "length") (HX.pg K (He.ga K "Day") "length")
  d_Day_length : HX.DefAt K "length" "Day.length" s_Day_length (HX.pg K (He.ga K "Day") "length")
  d_Day_init : HX.DefAt K "__init__" "Day.__init__" s_Day_init (He.ma K (He.ga K "Day") "__init__")
  d_is_integer : HX.DefAt K "is_integer" "is_integer" s_is_integer (He.ga K "is_integer")
  g_is_integer : mg "is_integer" = some (.ref (He.ga K "is_integer"))
  me_Day_call : Meth K (He.ga K "Day") "__call__" (He.ma K (He.ga K "Day") "__call__")
  d_Day_call : HX.DefAt K "__call__" "Day.__call__" s_Day_call (He.ma K (He.ga K "Day") "__call__")
  me_Day_span : Meth K (He.ga K "Day") "span" (He.ma K (He.ga K "Day") "span")
  d_Day_span : HX.DefAt K "span" "Day.span" s_Day_span (He.ma K (He.ga K "Day") "span")
  me_Day_eq : Meth K (He.ga K "Day") "__eq__" (He.ma K (He.ga K "Day") "__eq__")
  d_Day_eq : HX.DefAt K "__eq__" "Day.__eq__" s_Day_eq (He.ma K (He.ga K "Day") "__eq__")
  me_Clock_sub : Meth K (He.ga K "Clock") "__sub__" (He.ma K (He.ga K "Clock") "__sub__")
  d_Clock_sub : HX.DefAt K "__sub__" "Clock.__sub__" s_Clock_sub (He.ma K (He.ga K "Clock") "__sub__")
  me_Watch_contains : Meth K (He.ga K "Watch") "__contains__" (He.ma K (He.ga K "Watch") "__contains__")
  d_Watch_contains : HX.DefAt K "__contains__" "Watch.__contains__" s_Watch_contains (He.ma K (He.ga K "Watch") "__contains__")
  po_Watch_length : PropOf K (He.ga K "Watch") "length" (He.ma K (He.ga K "Watch") "length") (HX.pg K (He.ga K "Watch") "length")
  d_Watch_length : HX.DefAt K "length" "Watch.length" s_Watch_length (HX.pg K (He.ga K "Watch") "length")
  d_Clock_init : HX.DefAt K "__init__" "Clock.__init__" s_Clock_init (He.ma K (He.ga K "Clock") "__init__")
  d_need_integer : HX.DefAt K "need_integer" "need_integer" s_need_integer (He.ga K "need_integer")
  g_need_integer : mg "need_integer" = some (.ref (He.ga K "need_integer"))
  d_need_same : HX.DefAt K "need_same" "need_same" s_need_same (He.ga K "need_same")
  g_need_same : mg "need_same" = some (.ref (He.ga K "need_same"))
  me_Clock_iadd : Meth K (He.ga K "Clock") "__iadd__" (He.ma K (He.ga K "Clock") "__iadd__")
  d_Clock_iadd : HX.DefAt K "__iadd__" "Clock.__iadd__" s_Clock_iadd (He.ma K (He.ga K "Clock") "__iadd__")
  me_Clock_eq : Meth K (He.ga K "Clock") "__eq__" (He.ma K (He.ga K "Clock") "__eq__")
  d_Clock_eq : HX.DefAt K "__eq__" "Clock.__eq__" s_Clock_eq (He.ma K (He.ga K "Clock") "__eq__")
  me_Watch_eq : Meth K (He.ga K "Watch") "__eq__" (He.ma K (He.ga K "Watch") "__eq__")
  d_Watch_eq : HX.DefAt K "__eq__" "Watch.__eq__" s_Watch_eq (He.ma K (He.ga K "Watch") "__eq__")
  po_Watch_start : PropOf K (He.ga K "Watch") "start" (He.ma K (He.ga K "Watch") "start") (HX.pg K (He.ga K "Watch") "start")
  d_Watch_start : HX.DefAt K "start" "Watch.start" s_Watch_start (HX.pg K (He.ga K "Watch") "start")
  po_Watch_end : PropOf K (He.ga K "Watch") "end" (He.ma K (He.ga K "Watch") "end") (HX.pg K (He.ga K "Watch") "end")
  d_Watch_end : HX.DefAt K "end" "Watch.end" s_Watch_end (HX.pg K (He.ga K "Watch") "end")
  po_Watch_parts : PropOf K (He.ga K "Watch") "parts" (He.ma K (He.ga K "Watch") "parts") (HX.pg K (He.ga K "Watch") "parts")
  d_Watch_parts : HX.DefAt K "parts" "Watch.parts" s_Watch_parts (HX.pg K (He.ga K "Watch") "parts")
  d_Watch_init : HX.DefAt K "__init__" "Watch.__init__" s_Watch_init (He.ma K (He.ga K "Watch") "__init__")
  d__law_equal : HX.DefAt K "_law_equal" "_law_equal" s__law_equal (He.ga K "_law_equal")
  g__law_equal : mg "_law_equal" = some (.ref (He.ga K "_law_equal"))
  d_law : HX.DefAt K "law" "law" s_law (He.ga K "law")
  g_law : mg "law" = some (.ref (He.ga K "law"))
  d__law_refused : HX.DefAt K "_law_refused" "_law_refused" s__law_refused (He.ga K "_law_refused")
  g__law_refused : mg "_law_refused" = some (.ref (He.ga K "_law_refused"))
  d__law_right : HX.DefAt K "_law_right" "_law_right" s__law_right (He.ga K "_law_right")
  g__law_right : mg "_law_right" = some (.ref (He.ga K "_law_right"))
end LW
namespace LW
open PySem PySem.Spec PyProof.Rows L2
def hfa0 : List (PySem.W.Frag → Bool) := [fun K => (He.Fa.free "int").ok K,
  fun K => (He.Fa.free "len").ok K,
  fun K => (He.Fa.free "abs").ok K,
  fun K => (He.Fa.cls "Day").ok K,
  fun K => (He.Fa.noat "Day" "ticks_of_day").ok K,
  fun K => ((He.Fa.glo "InvalidLength").ok K && (He.Fa.exc "InvalidLength").ok K),
  fun K => (He.Fa.mkr "Day").ok K,
  fun K => (He.Fa.glo "Day").ok K,
  fun K => (He.Fa.free "isinstance").ok K,
  fun K => (He.Fa.free "bool").ok K,
  fun K => LA.ownB K "Day",
  fun K => (He.Fa.cls "Clock").ok K,
  fun K => (He.Fa.noat "Clock" "own_time").ok K,
  fun K => (He.Fa.cls "Watch").ok K,
  fun K => (He.Fa.noat "Watch" "own_day").ok K,
  fun K => (He.Fa.noat "Clock" "own_day").ok K,
  fun K => LA.ownB K "Clock",
  fun K => (He.Fa.glo "Clock").ok K,
  fun K => ((He.Fa.glo "OtherDay").ok K && (He.Fa.exc "OtherDay").ok K),
  fun K => (He.Fa.noat "Watch" "first").ok K,
  fun K => (He.Fa.noat "Watch" "behind").ok K,
  fun K => (He.Fa.mkr "Clock").ok K,
  fun K => ((He.Fa.glo "InvalidNumber").ok K && (He.Fa.exc "InvalidNumber").ok K),
  fun K => LA.notFirstB K "Day",
  fun K => LA.ownB K "Watch",
  fun K => (He.Fa.glo "Watch").ok K,
  fun K => (He.Fa.mkr "Watch").ok K,
  fun K => (He.Fa.free "all").ok K,
  fun K => (He.Fa.free "range").ok K,
  fun K => (He.Fa.free "list").ok K]
def hfa1 : List (PySem.W.Frag → Bool) := [fun K => (He.Fa.free "tuple").ok K,
  fun K => (He.Fa.free "dict").ok K,
  fun K => (He.Fa.free "sorted").ok K,
  fun K => (He.Fa.free "str").ok K,
  fun K => LA.notFirstB K "Watch",
  fun K => PySem.W.fnIn K (He.ma K (He.ga K "Day") "__call__"),
  fun K => PySem.W.selfFirst K (He.ga K "Clock"),
  fun K => decide (PySem.W.exmOne K (.ref (He.ga K "OtherDay")) (.ref (He.ga K "OtherDay")) = some true),
  fun K => decide (PySem.W.exmOne K (.ref (He.ga K "InvalidNumber")) (.ref (He.ga K "OtherDay")) = some false),
  fun K => decide (PySem.W.exmOne K (.ref (He.ga K "InvalidLength")) (.ref (He.ga K "OtherDay")) = some false),
  fun K => (He.Fa.glo "OtherDay").ok K,
  fun K => (He.Fa.free "any").ok K,
  fun K => LA.notFirstB K "Clock",
  fun K => (He.Fa.glo "_law_below").ok K,
  fun K => (He.Fa.glo "_law_random").ok K,
  fun K => (He.Fa.glo "_law_pick").ok K,
  fun K => (He.Fa.glo "_law_time").ok K,
  fun K => HX.propB K "Day" "length",
  fun K => (He.Fa.glo "is_integer").ok K,
  fun K => (He.Fa.meth "Day" "__call__").ok K,
  fun K => (He.Fa.meth "Day" "span").ok K,
  fun K => (He.Fa.meth "Day" "__eq__").ok K,
  fun K => (He.Fa.meth "Clock" "__sub__").ok K,
  fun K => (He.Fa.meth "Watch" "__contains__").ok K,
  fun K => HX.propB K "Watch" "length",
  fun K => (He.Fa.glo "need_integer").ok K,
  fun K => (He.Fa.glo "need_same").ok K,
  fun K => (He.Fa.meth "Clock" "__iadd__").ok K,
  fun K => (He.Fa.meth "Clock" "__eq__").ok K,
  fun K => (He.Fa.meth "Watch" "__eq__").ok K]
def hfa2 : List (PySem.W.Frag → Bool) := [fun K => HX.propB K "Watch" "start",
  fun K => HX.propB K "Watch" "end",
  fun K => HX.propB K "Watch" "parts",
  fun K => (He.Fa.glo "_law_equal").ok K,
  fun K => (He.Fa.glo "law").ok K,
  fun K => (He.Fa.glo "_law_refused").ok K,
  fun K => (He.Fa.glo "_law_right").ok K]
def hfa : List (PySem.W.Frag → Bool) := hfa0 ++ hfa1 ++ hfa2
def hfn0 : List HX.DefX := [⟨fun K => He.ga K "_law_below", "_law_below", "_law_below", s__law_below⟩,
  ⟨fun K => He.ga K "_law_random", "_law_random", "_law_random", s__law_random⟩,
  ⟨fun K => He.ga K "_law_pick", "_law_pick", "_law_pick", s__law_pick⟩,
  ⟨fun K => He.ga K "_law_time", "_law_time", "_law_time", s__law_time⟩,
  ⟨fun K => HX.pg K (He.ga K "Day") "length", "length", "Day.length", s_Day_length⟩,
  ⟨fun K => He.ma K (He.ga K "Day") "__init__", "__init__", "Day.__init__", s_Day_init⟩,
  ⟨fun K => He.ga K "is_integer", "is_integer", "is_integer", s_is_integer⟩,
  ⟨fun K => He.ma K (He.ga K "Day") "__call__", "__call__", "Day.__call__", s_Day_call⟩,
  ⟨fun K => He.ma K (He.ga K "Day") "span", "span", "Day.span", s_Day_span⟩,
  ⟨fun K => He.ma K (He.ga K "Day") "__eq__", "__eq__", "Day.__eq__", s_Day_eq⟩,
  ⟨fun K => He.ma K (He.ga K "Clock") "__sub__", "__sub__", "Clock.__sub__", s_Clock_sub⟩,
  ⟨fun K => He.ma K (He.ga K "Watch") "__contains__", "__contains__", "Watch.__contains__", s_Watch_contains⟩,
  ⟨fun K => HX.pg K (He.ga K "Watch") "length", "length", "Watch.length", s_Watch_length⟩,
  ⟨fun K => He.ma K (He.ga K "Clock") "__init__", "__init__", "Clock.__init__", s_Clock_init⟩,
  ⟨fun K => He.ga K "need_integer", "need_integer", "need_integer", s_need_integer⟩,
  ⟨fun K => He.ga K "need_same", "need_same", "need_same", s_need_same⟩,
  ⟨fun K => He.ma K (He.ga K "Clock") "__iadd__", "__iadd__", "Clock.__iadd__", s_Clock_iadd⟩,
  ⟨fun K => He.ma K (He.ga K "Clock") "__eq__", "__eq__", "Clock.__eq__", s_Clock_eq⟩,
  ⟨fun K => He.ma K (He.ga K "Watch") "__eq__", "__eq__", "Watch.__eq__", s_Watch_eq⟩,
  ⟨fun K => HX.pg K (He.ga K "Watch") "start", "start", "Watch.start", s_Watch_start⟩,
  ⟨fun K => HX.pg K (He.ga K "Watch") "end", "end", "Watch.end", s_Watch_end⟩,
  ⟨fun K => HX.pg K (He.ga K "Watch") "parts", "parts", "Watch.parts", s_Watch_parts⟩,
  ⟨fun K => He.ma K (He.ga K "Watch") "__init__", "__init__", "Watch.__init__", s_Watch_init⟩,
  ⟨fun K => He.ga K "_law_equal", "_law_equal", "_law_equal", s__law_equal⟩,
  ⟨fun K => He.ga K "law", "law", "law", s_law⟩,
  ⟨fun K => He.ga K "_law_refused", "_law_refused", "_law_refused", s__law_refused⟩,
  ⟨fun K => He.ga K "_law_right", "_law_right", "_law_right", s__law_right⟩]
def hfn : List HX.DefX := hfn0
def hnm0 : List Str := ["ClockError",
  "InvalidLength",
  "InvalidNumber",
  "OtherDay",
  "is_integer",
  "need_integer",
  "Day",
  "Clock",
  "need_same",
  "Watch",
  "_law_random",
  "_law_below",
  "_law_pick",
  "_law_equal",
  "_law_time",
  "_law_refused",
  "_law_right"]
def hnm : List Str := hnm0
abbrev Rw : PySem.W.OpenRow := PySem.W.OpenLaw.row PySem.Challenge.rw_overmidnight_k03_whole_watches
abbrev hk : PySem.W.Hook := HX.hookX 7 hfa hfn
def ob (s : PySem.W.SharedT) : HX.AlX := HX.obsXG 7 hfa hfn (HandSHeadRun.getT s)
theorem ob_eq (s : PySem.W.SharedT) : ob s = hk.obs s.abs := HX.obsXG_eq (HandSHeadRun.getT_eq s)
theorem hrun (w : World) : HandSHeadRun.RunEq Rw (PySem.W.view Rw.prog [21]) hk ob 6000 hnm w := by
  intro os
  kernel_rfl
end LW
local macro_rules | `(tactic| walk_at "s") => `(tactic| first
  | ((with_reducible refine' HX.z_var ?zh ?_); (case zh => exact rfl))
  | with_reducible refine HX.z_c ?_
  | with_reducible refine HX.z_cons ?_
  | with_reducible refine HX.z_nil ?_
  | with_reducible refine HX.z_op ?_
  | with_reducible refine HX.z_I0 ?_
  | with_reducible refine HX.z_test ?_
  | with_reducible refine HX.z_tB ?_
  | with_reducible refine HX.z_bl ?_
  | with_reducible refine HX.z_seq ?_
  | with_reducible refine HX.z_asg ?_
  | with_reducible refine HX.z_name ?_
  | with_reducible refine HX.z_if ?_
  | with_reducible refine HX.z_ret ?_
  | with_reducible refine HX.z_next ?_
  | with_reducible refine HX.z_drop ?_
  | with_reducible refine HX.z_retN ?_
  | with_reducible refine HX.z_callS ?_
  | with_reducible refine HX.z_fld ?_
  | with_reducible refine HX.z_sfld ?_
  | ((with_reducible refine' HX.z_fld2 ?zh ?zc ?zn ?zl ?_); (case zh => walk_at "hp"); (case zc => assumption); (case zn => assumption); (case zl => walk_at "lk"))
  | ((with_reducible refine' HX.z_sfld2 ?zh ?zc ?zn ?zz ?ze ?_); (case zh => walk_at "hp"); (case zc => assumption); (case zn => assumption); (case zz => walk_at "lt"); (case ze => walk_at "pf"))
  | with_reducible refine HX.z_chain ?_
  | with_reducible refine HX.z_ch2 ?_
  | with_reducible refine HX.z_meth ?_
  | ((with_reducible refine' HX.z_meth2 ?zh ?zl ?_); (case zh => walk_at "hp"); (case zl => walk_at "lk"))
  | with_reducible refine HX.z_prop ?_
  | ((with_reducible refine' HX.z_prop2 ?zh ?_); (case zh => walk_at "hp"))
  | with_reducible refine HX.z_make ?_
  | with_reducible refine HX.z_inst ?_
  | with_reducible refine HX.z_inst2 ?_
  | ((with_reducible refine' HX.z_inst3 ?zh ?_); (case zh => walk_at "hp"))
  | with_reducible refine HX.z_cb ?_
  | with_reducible refine HX.z_un ?_
  | with_reducible refine HX.z_U ?_
  | with_reducible refine HX.z_and ?_
  | with_reducible refine HX.z_or ?_
  | with_reducible refine HX.z_not ?_
  | with_reducible refine HX.z_andV ?_
  | with_reducible refine HX.z_orV ?_
  | with_reducible refine HX.z_notV ?_
  | with_reducible refine HX.z_ifE ?_
  | with_reducible refine HX.z_sub ?_
  | with_reducible refine HX.z_lst ?_
  | with_reducible refine HX.z_tup ?_
  | with_reducible refine HX.z_bm ?_
  | with_reducible refine HX.z_bm0 ?_
  | with_reducible refine HX.z_intI ?_
  | with_reducible refine HX.z_intB ?_
  | with_reducible refine HX.z_abs ?_
  | ((with_reducible refine' HX.z_new ?zl ?_); (case zl => walk_at "lt"))
  | with_reducible refine HX.z_t ?_
  | with_reducible refine HX.z_yes ?_
  | with_reducible refine HX.z_f ?_
  | with_reducible refine HX.z_isN ?_
  | with_reducible refine HX.z_isNN ?_
  | ((with_reducible refine' HX.z_isi ?zc ?zt ?zk ?_); (case zc => constructor); (case zt => walk_at "ty"); (case zk => walk_at "kit"))
  | with_reducible refine HX.z_n1 ?_
  | with_reducible refine HX.z_n0 ?_
  | with_reducible refine HX.z_nb ?_
  | with_reducible refine HX.z_di ?_
  | ((with_reducible refine' HX.z_dt ?zc ?_); (case zc => rfl))
  | ((with_reducible refine' HX.z_df ?zc ?_); (case zc => (intro e; cases e; done)))
  | ((with_reducible refine' HX.z_eq ?zc ?_); (case zc => exact rfl))
  | ((with_reducible refine' HX.z_ne ?zc ?_); (case zc => exact rfl))
  | ((with_reducible refine' HX.z_I ?zc ?_); (case zc => walk_at "sc"))
  | ((with_reducible refine' HX.z_ixL ?zh ?za ?_); (case zh => walk_at "hl"); (case za => walk_at "ix"))
  | ((with_reducible refine' HX.z_ixT ?zh ?za ?_); (case zh => walk_at "ht"); (case za => walk_at "ix"))
  | ((with_reducible refine' HX.z_cat ?zh ?zi ?zl ?_); (case zh => walk_at "hp"); (case zi => walk_at "hp"); (case zl => walk_at "lt"))
  | ((with_reducible refine' HX.z_listL ?zh ?_); (case zh => walk_at "hl"))
  | ((with_reducible refine' HX.z_listT ?zh ?_); (case zh => walk_at "ht"))
  | ((with_reducible refine' HX.z_tupL ?zh ?_); (case zh => walk_at "hl"))
  | ((with_reducible refine' HX.z_ixA ?zh ?za ?_); (case zh => first | assumption | (refine' Or.inl ?zz; (case zz => walk_at "hl")) | (refine' Or.inr ?zz; (case zz => walk_at "ht"))); (case za => walk_at "ix"))
  | ((with_reducible refine' HX.z_lenL ?zh ?_); (case zh => walk_at "hl"))
  | ((with_reducible refine' HX.z_lenT ?zh ?_); (case zh => walk_at "ht"))
  | ((with_reducible refine' HX.z_tyL ?zh ?_); (case zh => walk_at "hp"))
  | ((with_reducible refine' HX.z_popAt ?zh ?z1 ?z2 ?za ?zb ?_); (case zh => walk_at "hp"); (case z1 => decide); (case z2 => decide); (case za => walk_at "ix"); (case zb => exact rfl))
  | with_reducible refine HX.z_binO ?_
  | ((with_reducible refine' HX.z_binK ?zh ?zm ?_); (case zh => walk_at "hp"); (case zm => first | exact .int | (refine' .ins ?zz; (case zz => walk_at "hp"))))
  | with_reducible refine HX.z_rbinO ?_
  | ((with_reducible refine' HX.z_rbinK ?zh ?_); (case zh => walk_at "hp"))
  | ((with_reducible refine' HX.z_aug ?zh ?_); (case zh => exact rfl))
  | ((with_reducible refine' HX.z_ipK ?zh ?_); (case zh => walk_at "hp"))
  | with_reducible refine HX.z_inO ?_
  | ((with_reducible refine' HX.z_inK ?zh ?_); (case zh => walk_at "hp"))
  | with_reducible refine HX.z_subO ?_
  | ((with_reducible refine' HX.z_subK ?zh ?_); (case zh => walk_at "hp"))
  | ((with_reducible refine' HX.z_rep ?zh ?z1 ?z2 ?zl ?_); (case zh => walk_at "hp"); (case z1 => decide); (case z2 => decide); (case zl => first | decide | (simp; done)))
  | ((with_reducible refine' HX.z_setL ?zh ?za ?_); (case zh => walk_at "hp"); (case za => walk_at "ix")))
local macro_rules | `(tactic| walk_at "go") => `(tactic| ((try dsimp only [HX.cxR]); walk_at "ss"))
local macro_rules | `(tactic| walk_at "ss") => `(tactic| repeat walk_at "s")
local macro_rules | `(tactic| walk_at "sc") => `(tactic| first
  | decide
  | (refine Or.inl ⟨?_, ?_⟩ <;> first | decide | omega)
  | (refine Or.inr ⟨?_, ?_⟩ <;> first | decide | omega)
  | (refine ⟨?_, ?_⟩ <;> first | decide | omega)
  | (show ¬ _ = _; omega)
  | omega)
local macro_rules | `(tactic| walk_at "hp") => `(tactic| first | assumption | exact L2.upd_same | (refine' (L2.upd_ne ?zn).trans ?zz; (case zn => assumption); (case zz => walk_at "hp")))
local macro_rules | `(tactic| walk_at "hl") => `(tactic| first | assumption | (refine' L2.SqL.of ?zq; (case zq => walk_at "hp")))
local macro_rules | `(tactic| walk_at "ht") => `(tactic| first | assumption | (refine' L2.SqT.of ?zq; (case zq => walk_at "hp")))
local macro_rules | `(tactic| walk_at "lt") => `(tactic| first | decide | (simp; done) | (simp; omega) | (simp_all; done) | (simp_all; omega))
local macro_rules | `(tactic| walk_at "ix") => `(tactic| first
  | with_reducible assumption
  | exact HX.atc 0 rfl rfl | exact HX.atc 1 rfl rfl | exact HX.atc 2 rfl rfl | exact HX.atc 3 rfl rfl | exact HX.atc 4 rfl rfl | exact HX.atc 5 rfl rfl
  | (refine' HX.ixc 0 rfl ?zz; (case zz => walk_at "lt")) | (refine' HX.ixc 1 rfl ?zz; (case zz => walk_at "lt")) | (refine' HX.ixc 2 rfl ?zz; (case zz => walk_at "lt")) | (refine' HX.ixc 3 rfl ?zz; (case zz => walk_at "lt"))
  | (refine' HX.sqc 0 rfl ?zz; (case zz => walk_at "lt")) | (refine' HX.sqc 1 rfl ?zz; (case zz => walk_at "lt")) | (refine' HX.sqc 2 rfl ?zz; (case zz => walk_at "lt"))
  | rfl | decide)
local macro_rules | `(tactic| walk_at "lk") => `(tactic| first
  | exact HX.lk0 | rfl
  | (refine' HX.lk1 ?zk ?zq; (case zk => decide +kernel); (case zq => walk_at "lk")))
local macro_rules | `(tactic| walk_at "pf") => `(tactic| first
  | exact HX.pf_nil | exact HX.pf_hit
  | (refine' HX.pf_miss ?zk ?zq; (case zk => decide +kernel); (case zq => walk_at "pf")))
local macro_rules | `(tactic| walk_at "ty") => `(tactic| first
  | with_reducible first | exact .base .non | exact .base (.bl _) | exact .base (.int _) | exact .base (.str _)
  | (refine' HX.ty_L ?zz; (case zz => walk_at "hl")) | (refine' HX.ty_T ?zz; (case zz => walk_at "ht")) | (refine' HX.InK.ty ?zi ?zz; (case zi => assumption); (case zz => walk_at "hp")))
local macro_rules | `(tactic| walk_at "kit") => `(tactic| with_reducible first
  | assumption | exact HX.kb_NoneType_bool | exact HX.kb_NoneType_int | exact HX.kb_NoneType_str | exact HX.kb_NoneType_dict | exact HX.kb_NoneType_tuple | exact HX.kb_NoneType_list | exact HX.kb_bool_bool | exact HX.kb_bool_int | exact HX.kb_bool_str | exact HX.kb_bool_dict | exact HX.kb_bool_tuple | exact HX.kb_bool_list | exact HX.kb_int_bool | exact HX.kb_int_int | exact HX.kb_int_str | exact HX.kb_int_dict | exact HX.kb_int_tuple | exact HX.kb_int_list | exact HX.kb_str_bool | exact HX.kb_str_int | exact HX.kb_str_str | exact HX.kb_str_dict | exact HX.kb_str_tuple | exact HX.kb_str_list | exact HX.kb_list_bool | exact HX.kb_list_int | exact HX.kb_list_str | exact HX.kb_list_dict | exact HX.kb_list_tuple | exact HX.kb_list_list | exact HX.kb_tuple_bool | exact HX.kb_tuple_int | exact HX.kb_tuple_str | exact HX.kb_tuple_dict | exact HX.kb_tuple_tuple | exact HX.kb_tuple_list | exact HX.kb_dict_bool | exact HX.kb_dict_int | exact HX.kb_dict_str | exact HX.kb_dict_dict | exact HX.kb_dict_tuple | exact HX.kb_dict_list)
local macro_rules | `(tactic| walk_at "n") => `(tactic| try simp only [LA.startA, LA.startI, LA.wipeA, List.map_cons, List.map_nil, List.cons_append, List.nil_append, List.length_cons, List.length_nil, List.replicate, List.set_cons_zero, List.set_cons_succ, Nat.reduceAdd, Nat.reduceSub])
local macro_rules | `(tactic| walk_at "a") => `(tactic| ((walk_at "n"); simp (implicitDefEqProofs := false) (dsimp := false) only [↓LA.w_aSeq, ↓LA.w_aNext, ↓LA.w_aBreak, ↓LA.w_aCont, ↓LA.w_aDrop, ↓LA.w_aRet, ↓LA.w_aRetN, ↓LA.w_aIfS, ↓LA.w_aAsg, ↓LA.w_aName, ↓LA.w_aC, ↓LA.w_aBin, ↓LA.w_aUn, ↓LA.w_aCall, ↓LA.w_aMeth, ↓LA.w_aProp, ↓LA.w_aInst, ↓LA.w_aMake, ↓LA.w_aMakeP, ↓LA.w_aEqO, ↓LA.w_aWhile, ↓LA.w_aAndV, ↓LA.w_aOrV, ↓LA.w_aNotV, ↓LA.w_aB, ↓LA.w_aAnd, ↓LA.w_aOr, ↓LA.w_aNot, ↓LA.w_aIf, ↓LA.w_aChain, ↓LA.w_aNil, ↓LA.w_aCons, ↓LA.w_aTup, ↓LA.w_aLst, ↓LA.w_aCB, ↓LA.w_aFld, ↓LA.w_aOwn, ↓LA.w_fLst, ↓LA.w_fDK, ↓LA.w_fDT, ↓LA.w_aFor, ↓LA.w_fLc, ↓LA.w_fLcK, ↓LA.w_fLc2, ↓LA.w_aYes, ↓LA.w_aLenSet, ↓LA.w_aNoPart, ↓LA.w_aPart, ↓LA.w_aSl, ↓LA.w_aApp, ↓LA.w_aExt, ↓LA.w_aPop, ↓LA.w_aLenO, ↓LA.w_aPutO, ↓LA.w_aGetD, ↓LA.w_aGetO, ↓LA.w_aFldO, ↓LA.w_aRaise0, ↓LA.w_aRaise, ↓LA.w_aTry, ↓LA.w_aBM, ↓LA.w_aFmt, ↓LA.w_aJs0, ↓LA.w_aJs1, ↓LA.w_aJoin, ↓LA.w_fCatL, ↓LA.w_aBinO, ↓LA.w_aInO, ↓LA.w_aLenI, ↓LA.w_aXfC, ↓LA.w_mulT, ↓LA.w_isBB, ↓LA.w_isBI, ↓LA.w_isBN, ↓LA.w_fLcX, ↓LA.w_aChain3, ↓LA.w_aAug, ↓LA.w_aListRg, ↓LA.w_aFgt, ↓LA.s_var, ↓LA.s_slotF, ↓LA.s_isB, ↓LA.s_brt, ↓LA.s_brf, ↓LA.s_gc, ↓LA.s_gn, ↓LA.s_gt, ↓LA.s_fz, ↓LA.s_zl, ↓LA.s_zk, ↓LA.s_zt, ↓LA.s_zi, ↓LA.s_zf, ↓LA.s_isIns, ↓LA.s_isInC, ↓LA.s_cellI, ↓LA.s_isInsP, ↓LA.s_isInCP, ↓LA.s_gotF, ↓LA.s_gotI, ↓LA.s_add, ↓LA.s_addS, ↓LA.s_addT, ↓LA.s_addL, ↓LA.s_sub, ↓LA.s_mul, ↓LA.s_mod, ↓LA.s_div, ↓LA.s_pow, ↓LA.s_neg, ↓LA.s_eqI, ↓LA.s_eqS, ↓LA.s_eqB, ↓LA.s_eqIS, ↓LA.s_eqSI, ↓LA.s_eqNS, ↓LA.s_eqSN, ↓LA.s_eqTT, ↓LA.s_eqLL, ↓LA.s_neI, ↓LA.s_neS, ↓LA.s_neB, ↓LA.s_neTT, ↓LA.s_neLL, ↓LA.s_lt, ↓LA.s_le, ↓LA.s_gt', ↓LA.s_ge, ↓LA.s_is, ↓LA.s_isn, ↓LA.s_n0, ↓LA.s_n1, ↓LA.s_n2, ↓LA.s_n3, ↓LA.s_n4, ↓LA.s_n5, ↓LA.s_n6, ↓LA.s_n7, ↓LA.s_n8, ↓LA.s_inL, ↓LA.s_inT, ↓LA.s_inS, ↓LA.s_niL, ↓LA.s_niT, ↓LA.s_niS, ↓LA.s_f0, ↓LA.s_f1, ↓LA.s_f2, ↓LA.s_f3, ↓LA.s_ef1, ↓LA.s_ef2, ↓LA.s_ixL, ↓LA.s_ixT, ↓LA.s_ixS, ↓LA.s_pInt, ↓LA.s_cutL, ↓LA.s_cutT, ↓LA.s_lenL, ↓LA.s_lenT, ↓LA.s_lenDK, ↓LA.s_lenS, ↓LA.s_intI, ↓LA.s_intB, ↓LA.s_abs, ↓LA.s_strI, ↓LA.s_strS, ↓LA.s_isL, ↓LA.s_sum, ↓LA.s_max, ↓LA.s_min, ↓LA.s_max2, ↓LA.s_min2, ↓LA.s_all, ↓LA.s_any, ↓LA.s_liL, ↓LA.s_liT, ↓LA.s_tuL, ↓LA.s_tuT, ↓LA.s_ty, ↓LA.s_ty0, ↓LA.s_ty1, ↓LA.s_ty2, ↓LA.s_ty3, ↓LA.s_ty4, ↓LA.s_ty5, ↓LA.s_ty6, ↓LA.s_own, ↓LA.s_ow0, ↓LA.s_ow1, ↓LA.s_ow2, ↓LA.s_ow3, ↓LA.s_ow4, ↓LA.s_ow5, ↓LA.s_ow6, ↓LA.s_ownAt, ↓LA.s_slotO, ↓LA.s_moL, ↓LA.s_moK, ↓LA.s_moT, ↓LA.s_moI, ↓LA.s_keyI, ↓LA.s_keyS, ↓LA.s_get, ↓LA.s_has, ↓LA.s_hasN, ↓LA.s_isDK, ↓LA.s_oth1, ↓LA.s_othT, ↓LA.s_oth2, ↓LA.s_othP, ↓LA.s_self0, ↓LA.s_items, ↓LA.s_itL, ↓LA.s_itT, ↓LA.s_signs, ↓LA.s_sg, ↓LA.s_enum, ↓LA.s_enL, ↓LA.s_enT, ↓LA.s_enS, ↓LA.s_r1, ↓LA.s_r1i, ↓LA.s_r2, ↓LA.s_r2i, ↓LA.s_for0, ↓LA.s_forS, ↓LA.s_new, ↓LA.s_moDl, ↓LA.s_moDk, ↓LA.s_moDt, ↓LA.s_lk0, ↓LA.s_keys, ↓LA.s_keyDI, ↓LA.s_keyDS, ↓LA.s_sort, ↓LA.s_isT, ↓LA.s_selfI, ↓LA.s_tyL, ↓LA.s_tyS, ↓LA.s_index, ↓LA.s_fmtS, ↓LA.s_fmtI, ↓LA.s_strD, ↓LA.s_join, ↓LA.s_strsM, ↓LA.s_strsF, ↓LA.s_othB1, ↓LA.s_othB2, ↓LA.s_othB3, ↓LA.s_gl, ↓LA.s_natI, ↓LA.s_cls0, ↓LA.s_clsN, ↓LA.s_clsS, ↓LA.s_slotX, ↓LA.s_sort3, LA.s_var, LA.s_slotF, LA.s_isB, LA.s_brt, LA.s_brf, LA.s_gc, LA.s_gn, LA.s_gt, LA.s_fz, LA.s_zl, LA.s_zk, LA.s_zt, LA.s_zi, LA.s_zf, LA.s_isIns, LA.s_isInC, LA.s_cellI, LA.s_isInsP, LA.s_isInCP, LA.s_gotF, LA.s_gotI, LA.s_add, LA.s_addS, LA.s_addT, LA.s_addL, LA.s_sub, LA.s_mul, LA.s_mod, LA.s_div, LA.s_pow, LA.s_neg, LA.s_eqI, LA.s_eqS, LA.s_eqB, LA.s_eqIS, LA.s_eqSI, LA.s_eqNS, LA.s_eqSN, LA.s_eqTT, LA.s_eqLL, LA.s_neI, LA.s_neS, LA.s_neB, LA.s_neTT, LA.s_neLL, LA.s_lt, LA.s_le, LA.s_gt', LA.s_ge, LA.s_is, LA.s_isn, LA.s_n0, LA.s_n1, LA.s_n2, LA.s_n3, LA.s_n4, LA.s_n5, LA.s_n6, LA.s_n7, LA.s_n8, LA.s_inL, LA.s_inT, LA.s_inS, LA.s_niL, LA.s_niT, LA.s_niS, LA.s_f0, LA.s_f1, LA.s_f2, LA.s_f3, LA.s_if0, LA.s_if1, LA.s_ef1, LA.s_ef2, LA.s_ixL, LA.s_ixT, LA.s_ixS, LA.s_pInt, LA.s_cutL, LA.s_cutT, LA.s_lenL, LA.s_lenT, LA.s_lenDK, LA.s_lenS, LA.s_intI, LA.s_intB, LA.s_abs, LA.s_strI, LA.s_strS, LA.s_in0, LA.s_in1, LA.s_bl0, LA.s_bl1, LA.s_isL, LA.s_sum, LA.s_max, LA.s_min, LA.s_max2, LA.s_min2, LA.s_all, LA.s_any, LA.s_liL, LA.s_liT, LA.s_tuL, LA.s_tuT, LA.s_ty, LA.s_ty0, LA.s_ty1, LA.s_ty2, LA.s_ty3, LA.s_ty4, LA.s_ty5, LA.s_ty6, LA.s_own, LA.s_ow0, LA.s_ow1, LA.s_ow2, LA.s_ow3, LA.s_ow4, LA.s_ow5, LA.s_ow6, LA.s_ownAt, LA.s_slotO, LA.s_moL, LA.s_moK, LA.s_moT, LA.s_moI, LA.s_keyI, LA.s_keyS, LA.s_get, LA.s_has, LA.s_hasN, LA.s_isDK, LA.s_oth1, LA.s_othT, LA.s_oth2, LA.s_othP, LA.s_self0, LA.s_items, LA.s_itL, LA.s_itT, LA.s_signs, LA.s_sg, LA.s_enum, LA.s_enL, LA.s_enT, LA.s_enS, LA.s_r1, LA.s_r1i, LA.s_r2, LA.s_r2i, LA.s_for0, LA.s_forS, LA.s_new, LA.s_moDl, LA.s_moDk, LA.s_moDt, LA.s_lk0, LA.s_lk1, LA.s_lkE, LA.s_keys, LA.s_keyDI, LA.s_keyDS, LA.s_sort, LA.s_isT, LA.s_put0, LA.s_putE, LA.s_selfI, LA.s_intsM, LA.s_intsF, LA.s_blsM, LA.s_blsF, LA.s_val0, LA.s_valE, LA.s_dpt0, LA.s_tyL, LA.s_tyS, LA.s_index, LA.s_fmtS, LA.s_fmtI, LA.s_strD, LA.s_join, LA.s_strsM, LA.s_strsF, LA.s_othB1, LA.s_othB2, LA.s_othB3, LA.s_gl, LA.s_natI, LA.s_cls0, LA.s_clsN, LA.s_clsS, LA.s_suN, LA.s_suS, LA.s_clr0, LA.s_clrN, LA.s_clrF, LA.s_clrO, LA.s_clrX, LA.s_lkG0, LA.s_lkG, LA.s_slotX, LA.s_sort3, LA.kt_NoneType_int, LA.kt_NoneType_bool, LA.kt_NoneType_str, LA.kt_NoneType_tuple, LA.kt_NoneType_list, LA.kt_NoneType_dict, LA.kt_bool_int, LA.kt_bool_bool, LA.kt_bool_str, LA.kt_bool_tuple, LA.kt_bool_list, LA.kt_bool_dict, LA.kt_int_int, LA.kt_int_bool, LA.kt_int_str, LA.kt_int_tuple, LA.kt_int_list, LA.kt_int_dict, LA.kt_str_int, LA.kt_str_bool, LA.kt_str_str, LA.kt_str_tuple, LA.kt_str_list, LA.kt_str_dict, LA.kt_tuple_int, LA.kt_tuple_bool, LA.kt_tuple_str, LA.kt_tuple_tuple, LA.kt_tuple_list, LA.kt_tuple_dict, LA.kt_list_int, LA.kt_list_bool, LA.kt_list_str, LA.kt_list_tuple, LA.kt_list_list, LA.kt_list_dict, LA.kt_dict_int, LA.kt_dict_bool, LA.kt_dict_str, LA.kt_dict_tuple, LA.kt_dict_list, LA.kt_dict_dict, LA.s_withS, LA.startA, LA.startI, LA.wipeA, LA.str_eq, List.map_cons, List.map_nil, List.cons_append, List.nil_append, List.length_cons, List.length_nil, List.length_map, List.length_append, List.replicate, List.set_cons_zero, List.set_cons_succ, List.getElem?_cons_zero, List.getElem?_cons_succ, List.getElem?_nil, List.mem_cons, List.not_mem_nil, String.reduceEq, String.reduceNe, Nat.reduceAdd, Nat.reduceSub, Nat.reduceMul, Nat.reduceLeDiff, Nat.reducePow, Nat.reduceEqDiff, Int.reduceAdd, Int.reduceSub, Int.reduceMul, Int.reduceNeg, Int.reducePow, Int.reduceToNat, Int.reduceLT, Int.reduceLE, Int.reduceEq, Int.reduceNe, Int.reduceMod, Int.reduceDiv, decide_true, decide_false, Bool.not_true, Bool.not_false, and_true, true_and, and_false, false_and, or_true, true_or, or_false, false_or, not_true_eq_false, not_false_eq_true, if_true, if_false, reduceIte, ne_eq, List.all_cons, List.all_nil, List.any_cons, List.any_nil, List.zip_cons_cons, List.zip_nil_left, List.zip_nil_right, List.reverse_cons, List.reverse_nil, Bool.or_true, Bool.or_false, Bool.true_or, Bool.false_or, Bool.and_true, Bool.and_false, Bool.true_and, Bool.false_and, id_eq, LA.atI_lit, Option.map_some, Option.map_none, PySem.sizeLine, Option.getD_some, Option.getD_none, Option.isSome_some, Option.isSome_none, List.drop_succ_cons, List.drop_zero, LA.cut_from, LA.cut_toL, List.take_succ_cons, List.take_zero, List.take_nil, List.drop_nil, Bool.false_eq_true, eq_self, Nat.reduceLT]))
local macro_rules | `(tactic| walk_at "b") => `(tactic| try walk_at "a")
local macro_rules | `(tactic| walk_at "d") => `(tactic| ((try walk_at "a"); repeat' ((first | refine LA.br_d (fun _ => ?_) (fun _ => ?_) | refine LA.br_n (fun _ => ?_) (fun _ => ?_)) <;> (try (exfalso; omega)) <;> (try walk_at "a"))))
local macro_rules | `(tactic| walk_at "l") => `(tactic| (repeat (first | (refine Eq.mpr LA.lc_cons ?_; (try walk_at "a")) | (refine Eq.mpr LA.lc_nil ?_; (try walk_at "a")))))
namespace LW
open PySem PySem.Spec PyProof.Rows L2
/-! the law's source of numbers -/
section
variable {P : Program} {w : World} {K : PySem.W.Frag} {mg : Str → Option Value} {base : Heap}
/-- the source at d: at least two numbers -/
def Rg (H : Hp) (d : Addr) : Prop := ∃ ns : List Int, H d = some (.lst (ns.map V.int)) ∧ 2 ≤ ns.length
def sp_below : Sp := fun vs H Q _ => ∃ (d : Addr) (n : Int), vs = [.ref d, .int n] ∧ 0 < n ∧ n < 1073741824 ∧ Rg H d ∧ ∀ (r : Int) (H' : Hp), 0 ≤ r → r < n → HX.ExB d H H' → Rg H' d → Q (.int r) H'
theorem below_mono : ∀ vs H (Q Q' : VK) E, (∀ v H', Q v H' → Q' v H') → sp_below vs H Q E → sp_below vs H Q' E := fun _ _ _ _ _ k ⟨d, n, e, h1, h2, h3, q⟩ => ⟨d, n, e, h1, h2, h3, fun r H' a b c d => k _ _ (q r H' a b c d)⟩
theorem ok__law_below (T : Txt K mg) : HX.GFn P w K mg base "_law_below" 1 ["_law_d", "_law_size"] sp_below := by
  refine HX.gfn_of T.d__law_below T.g__law_below sc__law_below (fun vs H Q E h => ?_) (fun _ _ _ _ _ _ us hl => match us, hl with | [_, _], _ => rfl) (fun cdv A outer s H vs Q E hr h => ⟨_, PSs.nox (C8.pss_cut (ps_if (PW.pt (pw_and (pt_cmpR op_eq (pe_ix ix_list (pv 0) pe_int (fun _ _ => rfl)) pe_int (nomark _)) (pw_and1 (pt_cmpR op_gt (pe_callB HX.call_lenSq rfl T.n_len (by decide +kernel) (pa_cons (pv 0) pa_nil)) pe_int (nomark _))))) (pss_one (ps_asg (pe_bm PySem.F.plainAttrs_list PySem.F.slot_list_pop PySem.F.type_list_pop mt_popAt (pv 0) (pa_cons pe_int pa_nil)) (pg_sub (pv 0) pe_int set_list))) pss_nil)
  (pss_cons (ps_if (pt_cmpR op_gt (pe_ix ix_list (pv 0) pe_int (fun _ _ => rfl)) pe_int (nomark _)) (pss_cons (ps_set (i := 2) sc__law_below.nd rfl (Or.inl rfl) (pe_op op_modN (pe_callTy HX.call_intI rfl T.n_int (by decide +kernel) (pa_cons (pe_ix ix_list (pv 0) pe_int (fun _ _ => rfl)) pa_nil)) (pv 1)))
  (pss_cons (ps_asg (pe_op op_fdivN (pe_ix ix_list (pv 0) pe_int (fun _ _ => rfl)) (pv 1)) (pg_sub (pv 0) pe_int set_list))
  (pss_one (ps_ret (pv 2))))) pss_nil)
  (pss_cons (ps_asg (pe_op op_modN (pe_callTy HX.call_intI rfl T.n_int (by decide +kernel) (pa_cons (pe_op op_add (pe_op op_mul (pe_ix ix_list (pv 0) pe_int (fun _ _ => rfl)) pe_int) pe_int) pa_nil)) pe_int) (pg_sub (pv 0) pe_int set_list))
  (pss_one (ps_ret (pe_op op_modN (pe_callTy HX.call_intI rfl T.n_int (by decide +kernel) (pa_cons (pe_op op_fdivN (pe_ix ix_list (pv 0) pe_int (fun _ _ => rfl)) pe_int) pa_nil)) (pv 1))))))), ?_⟩)
  · obtain ⟨d, n, rfl, _⟩ := h
    rfl
  obtain ⟨d, n, rfl, hn, hn2, ⟨ns, hd, h2⟩, k⟩ := h
  match ns, h2 with
  | s :: a :: rest, _ =>
  dsimp only [HX.cxR]
  refine ⟨fun σ' H' => ∃ s a rest, σ' = [some (.ref d), some (.int n), none] ∧ H' d = some (.lst ((s :: a :: rest : List Int).map V.int)) ∧ HX.ExB d H H', ?_, ?_⟩
  · walk_at "ss"
    refine HX.z_d2 (fun h => ?_) (fun h => ?_)
    · walk_at "ss"
      refine HX.z_d2 (fun h => ?_) (fun h => ?_)
      · match rest, h with
        | b :: rest, _ =>
        walk_at "ss"
        exact ⟨s, b, rest, rfl, upd_same, (HX.ExB.updd (d := d)).upd2⟩
      · walk_at "ss"
        exact ⟨s, a, rest, rfl, hd, HX.ExB.refl _ _⟩
    · walk_at "ss"
      exact ⟨s, a, rest, rfl, hd, HX.ExB.refl _ _⟩
  · rintro σ' H1 ⟨s, a, rest, rfl, hd1, ex⟩
    walk_at "ss"
    refine HX.z_d2 (fun h => ?_) (fun h => ?_)
    · walk_at "ss"
      exact k _ _ (HX.fm_nn hn) (HX.fm_lt hn) ex.upd2 ⟨s :: a.fdiv n :: rest, upd_same, by simp⟩
    · walk_at "ss"
      exact k _ _ (HX.fm_nn hn) (HX.fm_lt hn) ex.upd2 ⟨(s * 48271 + 11).fmod 2147483647 :: a :: rest, upd_same, by simp⟩
def sp_random (K : PySem.W.Frag) : Sp := fun vs H Q _ => ∃ (a : Addr) (ns : List Int) (z : Int), vs = [.ref a, .int z] ∧ SqL K H a (ns.map V.int) ∧ ns.length ≤ 63 ∧ ∀ (p : Addr) (H' : Hp), H p = none → Same H H' → Rg H' p → Q (.ref p) H'
theorem ok__law_random (T : Txt K mg) : HX.GFn P w K mg base "_law_random" 1 ["_law_script", "_law_salt"] (sp_random K) := by
  refine HX.gfn_of T.d__law_random T.g__law_random sc__law_random (fun vs H Q E h => ?_) (fun _ _ _ _ _ _ us hl => match us, hl with | [_, _], _ => rfl) (fun cdv A outer s H vs Q E hr h => ⟨_, PSs.nox (pss_cons (ps_set (i := 2) sc__law_random.nd rfl (Or.inl rfl) (pv 1))
  (pss_cons (ps_for PassesOwn.never rfl (pi_list (pv 0)) (pg_name (i := 3) sc__law_random.nd rfl (Or.inl rfl)) (pss_one (ps_set (i := 2) sc__law_random.nd rfl (Or.inl rfl) (pe_op op_modN (pe_callTy HX.call_intI rfl T.n_int (by decide +kernel) (pa_cons (pe_op op_add (pe_op op_mul (pv 2) pe_int) (pe_callB HX.call_absI rfl T.n_abs (by decide +kernel) (pa_cons (pv 3) pa_nil))) pa_nil)) pe_int))))
  (pss_one (ps_ret (pe_op op_cat (pe_lst (pa_cons (pv 2) (pa_cons pe_int pa_nil))) (pe_lc (own := [("_law_cell", 3)]) (te := (tVar 3)) (tt := (tTest (tOp (rI0 fun i j => .bl (decide (j ≤ i))) (tVar 3) (tOp (rI CPow fun i j => .int (i ^ j.toNat)) (tC (.int 10)) (tC (.int 18)))))) rfl sc__law_random.nd (pi_list (pv 0)) (blkOk_by (own := [("_law_cell", 3)]) (N := ["_law_script", "_law_salt", "_law_seed", "_law_cell"]) (sc := defScope s__law_random) (by decide +kernel)) (fun _ _ _ _ _ => (pg_name (i := 3) sc__law_random.nd rfl (Or.inl rfl))) (fun _ _ _ _ _ => (pts_one (pt_cmpR op_ge (pv 3) (pe_op op_pow pe_int pe_int) (nomark _)))) (fun _ _ _ _ _ => (pv 3)))))))), ?_⟩)
  · obtain ⟨d, n, z, rfl, _⟩ := h
    rfl
  obtain ⟨a, ns, z, rfl, hS, h63, k⟩ := h
  walk_at "go"
  refine HX.z_forLv (a := a) (xs := ns.map V.int) rfl hS (fun _ σ' H' => Same H H' ∧ ∃ (y : Int) (v : Option V), σ' = [some (.ref a), some (.int z), some (.int y), v]) ⟨⟨Same.refl H, z, none, rfl⟩, ?_, ?_, ?_⟩
  · rintro i σ' H1 _ ⟨s1, _⟩
    exact s1.seq hS
  · rintro i x σ' H1 hi ⟨s1, y, v, rfl⟩
    obtain ⟨c, _, rfl⟩ := HX.int_at hi
    walk_at "ss"
    exact ⟨s1, _, _, rfl⟩
  · rintro σ' H1 ⟨s0, y, v, rfl⟩
    walk_at "ss"
    intro p hp
    have s1 : Same H (upd H1 p (.lst [V.int y, V.int 0])) := s0.trans (HX.Same.new hp)
    refine HX.z_lcLv (a := a) (xs := ns.map V.int) rfl (s1.seq hS) fun q hq => ⟨fun i H' => ∃ zs : List Int, zs.length ≤ i ∧ H' q = some (.lst (zs.map V.int)) ∧ Same (upd H1 p (.lst [V.int y, V.int 0])) H', ⟨[], Nat.le_refl _, upd_same, HX.Same.new hq⟩, ?_, ?_, ?_⟩
    · rintro i H' _ ⟨zs, _, hz, s2⟩
      exact (s1.trans s2).seq hS
    · rintro i x H' hi ⟨zs, hl, hz, s2⟩
      obtain ⟨c, _, rfl⟩ := HX.int_at hi
      have hi2 := HX.lt_of_at hi
      rw [List.length_map] at hi2
      walk_at "ss"
      refine ⟨rfl, ?_⟩
      walk_at "ss"
      refine HX.z_d2 (fun _ => ?_) (fun _ => ⟨zs, by omega, hz, s2⟩)
      walk_at "ss"
      exact ⟨_, hz, HX.sz_lt (by rw [List.length_map]; omega), zs ++ [c], by simp; omega, by rw [upd_same, List.map_append]; rfl, HX.Same.app s2 hq⟩
    · rintro H' ⟨zs, hl, hz, s2⟩
      have hp2 := s2 _ _ (upd_same (H := H1))
      rw [List.length_map] at hl
      walk_at "ss"
      intro l hn
      refine k _ _ ((s1.trans s2).free hn) ((s1.trans s2).trans (HX.Same.new hn)) ⟨[y, 0] ++ zs, ?_, by simp⟩
      rw [upd_same, List.map_append]
      rfl
theorem Rg.ne {H : Hp} {d p : Addr} (h : Rg H d) (n : H p = none) : p ≠ d := by
  obtain ⟨ns, h, _⟩ := h
  exact (ne_of_none h n).symm
theorem Rg.keep {H H' : Hp} {d : Addr} (h : Rg H d) (e : Same H H') : Rg H' d := by
  obtain ⟨ns, h, l⟩ := h
  exact ⟨ns, e _ _ h, l⟩
def sp_pick (K : PySem.W.Frag) : Sp := fun vs H Q _ => ∃ (d b : Addr) (xs : List V), vs = [.ref d, .ref b] ∧ SqL K H b xs ∧ b ≠ d ∧ 0 < xs.length ∧ xs.length < 1000 ∧ Rg H d ∧ ∀ (v : V) (H' : Hp), v ∈ xs → HX.ExB d H H' → Rg H' d → Q v H'
theorem ok__law_pick (T : Txt K mg) : HX.GFn P w K mg base "_law_pick" 2 ["_law_d", "_law_items"] (sp_pick K) := by
  have g__law_below := ok__law_below (P := P) (w := w) (base := base) T
  refine HX.gfn_of T.d__law_pick T.g__law_pick sc__law_pick (fun vs H Q E h => ?_) (fun _ _ _ _ _ _ us hl => match us, hl with | [_, _], _ => rfl) (fun cdv A outer s H vs Q E hr h => ⟨_, PSs.nox (pss_one (ps_ret (pe_ix ix_list (pv 1) (HX.pe_g g__law_below (hr.mono (by first | decide | omega)) HX.pas0 rfl (pa_cons (pv 0) (pa_cons (pe_callB HX.call_lenSq rfl T.n_len (by decide +kernel) (pa_cons (pv 1) pa_nil)) pa_nil))) (fun _ _ => rfl)))), ?_⟩)
  · obtain ⟨d, b, xs, rfl, _⟩ := h
    rfl
  obtain ⟨d, b, xs, rfl, hS, nb, h0, h1, hR, k⟩ := h
  walk_at "go"
  refine ⟨d, xs.length, rfl, by omega, by omega, hR, fun r H' r0 r1 ex R' => ?_⟩
  have hr2 : r.toNat < xs.length := by omega
  refine HX.z_ixL (ex.sl nb hS) (HX.atc r.toNat (by omega) (List.getElem?_eq_getElem hr2)) ?_
  exact k _ _ (List.getElem_mem hr2) ex R'
end

end LW
namespace LW
open PySem PySem.Spec PyProof.Rows L2
open LA
/-! points, spans, conditions, outcomes as types -/
/-- points and spans -/
inductive Pa where
  | time (n : Str) | mid | at (z : Int) | spn (z : Int) | plus (p : Pa) (z : Int) | wrap (p : Pa) | minus (p q : Pa)
def Pa.d : Pa → D
  | .time n => .tup [.str "time", .str n]
  | .mid => .tup [.str "midnight"]
  | .at z => .tup [.str "at", .int z]
  | .spn z => .tup [.str "for", .int z]
  | .plus p z => .tup [.str "plus", p.d, .int z]
  | .wrap p => .tup [.str "wrap", p.d]
  | .minus p q => .tup [.str "minus", p.d, q.d]
/-- is it a point -/
def Pa.kp : Pa → Bool
  | .time _ => true | .mid => true | .at _ => true | .spn _ => false | .plus p _ => p.kp | .wrap p => p.kp | .minus _ _ => false
/-- the greatest number in a part -/
def big : Nat := 2 ^ 160
def Pa.wf (ns : List Str) : Pa → Prop
  | .time n => n ∈ ns
  | .mid => True
  | .at z => z.natAbs < big
  | .spn z => z.natAbs < big
  | .plus p z => p.wf ns ∧ z.natAbs < big
  | .wrap p => p.wf ns
  | .minus p q => p.kp = true ∧ q.kp = true ∧ p.wf ns ∧ q.wf ns
/-- how many tuples; how deep -/
def Pa.cnt : Pa → Nat
  | .time _ => 1 | .mid => 1 | .at _ => 1 | .spn _ => 1 | .plus p _ => p.cnt + 1 | .wrap p => p.cnt + 1 | .minus p q => p.cnt + q.cnt + 1
def Pa.dep : Pa → Nat
  | .time _ => 0 | .mid => 0 | .at _ => 0 | .spn _ => 0 | .plus p _ => p.dep + 1 | .wrap p => p.dep + 1 | .minus p q => max p.dep q.dep + 1
/-- how often each time is in it -/
abbrev Rd := List (Str × Int)
def Rd.get (r : Rd) (x : Str) : Int := (r.lookup x).getD 0
def Rd.put (r : Rd) (x : Str) (z : Int) : Rd := if (r.any fun p => p.1 == x) then r.map (fun p => if p.1 == x then (x, z) else p) else r ++ [(x, z)]
def Rd.lessL (a b : Rd) : List Str → Rd → Rd
  | [], f => f
  | x :: l, f => Rd.lessL a b l (if a.get x - b.get x = 0 then f else f.put x (a.get x - b.get x))
def Rd.less (a b : Rd) : Rd := Rd.lessL a b (a.map (·.1) ++ b.map (·.1)) []
def Pa.rd : Pa → Rd
  | .time n => [(n, 1)] | .mid => [] | .at _ => [] | .spn _ => [] | .plus p _ => p.rd | .wrap p => p.rd | .minus p q => p.rd.less q.rd
/-- the readings that are simple -/
inductive Simp : Rd → Prop
  | nil : Simp []
  | one (x : Str) (z : Int) (h : z = 1 ∨ z = -1 ∨ z = 2 ∨ z = -2) : Simp [(x, z)]
  | two (x y : Str) (z : Int) (h : z = 1 ∨ z = -1 ∨ z = 2 ∨ z = -2) (n : x ≠ y) : Simp [(x, z), (y, -z)]
inductive Co where
  | before (p q : Pa) | same (p q : Pa) | betw (p q r : Pa) | within (p q r : Pa) | shorter (p q : Pa) | not (c : Co) | and (c e : Co) | or (c e : Co)
def Co.d : Co → D
  | .before p q => .tup [.str "before", p.d, q.d]
  | .same p q => .tup [.str "same", p.d, q.d]
  | .betw p q r => .tup [.str "between", p.d, q.d, r.d]
  | .within p q r => .tup [.str "within", p.d, q.d, r.d]
  | .shorter p q => .tup [.str "shorter", p.d, q.d]
  | .not c => .tup [.str "not", c.d]
  | .and c e => .tup [.str "and", c.d, e.d]
  | .or c e => .tup [.str "or", c.d, e.d]
def Pa.pt (ns : List Str) (p : Pa) : Prop := p.kp = true ∧ p.wf ns
def Pa.sp (ns : List Str) (p : Pa) : Prop := p.kp = false ∧ p.wf ns
def Co.wf (ns : List Str) : Co → Prop
  | .before p q => p.pt ns ∧ q.pt ns
  | .same p q => p.pt ns ∧ q.pt ns
  | .betw p q r => p.pt ns ∧ q.pt ns ∧ r.pt ns
  | .within p q r => p.pt ns ∧ q.pt ns ∧ r.pt ns
  | .shorter p q => p.sp ns ∧ q.sp ns ∧ Simp (p.rd.less q.rd)
  | .not c => c.wf ns
  | .and c e => c.wf ns ∧ e.wf ns
  | .or c e => c.wf ns ∧ e.wf ns
def Co.cnt : Co → Nat
  | .before p q => p.cnt + q.cnt + 1 | .same p q => p.cnt + q.cnt + 1 | .betw p q r => p.cnt + q.cnt + r.cnt + 1 | .within p q r => p.cnt + q.cnt + r.cnt + 1
  | .shorter p q => p.cnt + q.cnt + 1 | .not c => c.cnt + 1 | .and c e => c.cnt + e.cnt + 1 | .or c e => c.cnt + e.cnt + 1
def Co.dep : Co → Nat
  | .before p q => max p.dep q.dep + 1 | .same p q => max p.dep q.dep + 1 | .betw p q r => max p.dep (max q.dep r.dep) + 1 | .within p q r => max p.dep (max q.dep r.dep) + 1
  | .shorter p q => max p.dep q.dep + 1 | .not c => c.dep + 1 | .and c e => max c.dep e.dep + 1 | .or c e => max c.dep e.dep + 1
inductive Oc where
  | word (w : Str) | value (p : Pa) | total (ps : List Pa) | first (p : Pa) (ps : List Pa)
def Oc.d : Oc → D
  | .word w => .tup [.str "word", .str w]
  | .value p => .tup [.str "value", p.d]
  | .total ps => .tup [.str "total", .tup (ps.map Pa.d)]
  | .first p ps => .tup [.str "first", p.d, .tup (ps.map Pa.d)]
/-- a name's signs -/
def okName (z : Str) : Prop := 1 ≤ z.length ∧ z.length ≤ 8 ∧ ∀ c ∈ z.cps.toList, 97 ≤ c ∧ c ≤ 122
/-- the names that the laws use -/
def good : List Str := ["now", "open", "shut", "a", "zz", "if", "plus", "yes", "no", "late", "other", "extra", "else", "times", "wrap", "in", "out", "always", "closed", "early", "first", "never", "word", "b", "c", "e"]
def Oc.wf (ns : List Str) : Oc → Prop
  | .word w => w ∈ good
  | .value p => p.wf ns
  | .total ps => 1 ≤ ps.length ∧ ps.length ≤ 3 ∧ ∀ p ∈ ps, p.wf ns
  | .first p ps => p.pt ns ∧ 2 ≤ ps.length ∧ ps.length ≤ 4 ∧ ∀ q ∈ ps, q.pt ns
def sumN (ps : List Pa) : Nat := (ps.map Pa.cnt).sum
def maxN : List Pa → Nat
  | [] => 0
  | p :: ps => max p.dep (maxN ps)
def Oc.cnt : Oc → Nat
  | .word _ => 1 | .value p => p.cnt + 1 | .total ps => sumN ps + 1 | .first p ps => p.cnt + sumN ps + 1
def Oc.dep : Oc → Nat
  | .word _ => 0 | .value p => p.dep + 1 | .total ps => maxN ps + 1 | .first p ps => max p.dep (maxN ps) + 1
abbrev Ru := Co × Oc
def Ru.d (r : Ru) : D := .tup [r.1.d, r.2.d]
def Ru.wf (ns : List Str) (r : Ru) : Prop := r.1.wf ns ∧ r.2.wf ns ∧ r.1.cnt + r.2.cnt ≤ 40 ∧ r.1.dep ≤ 7 ∧ r.2.dep ≤ 7
/-- names of times -/
def pool7 : List Str := ["now", "open", "shut", "a", "zz", "if", "plus"]
def NsOk (ns : List Str) : Prop := 1 ≤ ns.length ∧ ns.length ≤ 4 ∧ ns.Nodup ∧ ∀ n ∈ ns, n ∈ good
def nsD (ns : List Str) : D := .tup (ns.map D.str)
theorem nsD_list {ns : List Str} : nsD ns = .tup (ns.map D.str) := rfl

end LW
namespace LW
open PySem PySem.Spec PyProof.Rows L2
open LA
/-! the source of numbers, by data -/
section
variable {P : Program} {w : World} {K : PySem.W.Frag} {mg : Str → Option Value} {base : Heap}
theorem powT {j : Int} (h : 0 ≤ j) (h2 : j ≤ 1000000) : CPow 10 j := ⟨h, h2, by decide⟩
theorem ga__law_below (T : Txt K mg) : HX.GFn P w K mg base "_law_below" 1 ["_law_d", "_law_size"] (spA K S_below) := by
  refine gfn_imp (ok__law_below T) fun vs H Q E h => ?_
  obtain ⟨w, ms, ds, Qa, Ea, h0, r, ⟨n, rfl, hm, n0, n1, k⟩, hq, _⟩ := h
  cases r with
  | cons r1 r =>
    cases r with
    | cons r2 r =>
      cases r
      cases r2
      cases r1 with
      | @ptr a _ ha =>
        obtain ⟨b, hb, rm⟩ := h0.ce _ _ hm
        rw [ha] at hb; cases hb
        cases rm with
        | rng hH hl => exact ⟨a, n, rfl, n0, n1, ⟨_, hH, hl⟩, fun r H' r0 r1 ex hR => hq w ms H' _ _ (Le.refl _ _) (aft_rng h0 hm ha ex hR) (.int r) (k r r0 r1)⟩
theorem ga__law_pick (T : Txt K mg) : HX.GFn P w K mg base "_law_pick" 2 ["_law_d", "_law_items"] (spA K S_pick) := by
  have g__law_below := ga__law_below (P := P) (w := w) (base := base) T
  refine LA.gfn_of T.d__law_pick T.g__law_pick sc__law_pick (by intro ds ms Q E h; unfold S_pick at h; repeat (first | (obtain ⟨rfl, _⟩ := h; rfl) | obtain ⟨_, h⟩ := h)) (fun _ _ _ _ _ _ us hl => match us, hl with | [_, _], _ => rfl) fun cdv A outer s H E hr => ⟨_, (LA.ass_one (LA.as_ret (LA.ae_ix LA.ia_any (LA.ae_var (pv 1)) (LA.ae_call HX.takesO g__law_below (hr.mono (by first | decide | omega)) rfl (LA.aa_cons (LA.ae_var (pv 0)) (LA.aa_cons (LA.ae_callB LA.ca_len rfl T.n_len (by decide +kernel) (LA.aa_cons (LA.ae_var (pv 1)) LA.aa_nil)) LA.aa_nil))) (fun _ _ => rfl)))), fun ds ms Q E h => ?_⟩
  obtain ⟨xs, rfl, hm, h0, h1, k⟩ := h
  walk_at "b"
  refine ⟨xs.length, rfl, hm, by omega, by omega, fun r r0 r1 => ?_⟩
  walk_at "b"
  rw [atI_in r0 (by omega)]
  exact k _ (List.getElem_mem (by omega))
theorem div2 {z : Int} (h : 0 < z) : DivOk z 2 := ⟨by decide, by decide⟩
theorem mulS {i j : Int} (h : -(2 ^ 64) < i ∧ i < 2 ^ 64) : MulOk i j := .inl (.inl h)
def S_time : ASp := fun ds ms Q _ => ∃ z : Int, ds = [.ptr 0, .int z] ∧ ms[0]? = some .rng ∧ 1 ≤ z ∧ ∀ n : Int, 0 ≤ n → n < z → Q (.int n) ms
theorem ga__law_time (T : Txt K mg) : HX.GFn P w K mg base "_law_time" 3 ["_law_d", "_law_size"] (spA K S_time) := by
  have g__law_pick := ga__law_pick (P := P) (w := w) (base := base) T
  have g__law_below := ga__law_below (P := P) (w := w) (base := base) T
  refine LA.gfn_of T.d__law_time T.g__law_time sc__law_time (by intro ds ms Q E h; unfold S_time at h; repeat (first | (obtain ⟨rfl, _⟩ := h; rfl) | obtain ⟨_, h⟩ := h)) (fun _ _ _ _ _ _ us hl => match us, hl with | [_, _], _ => rfl) fun cdv A outer s H E hr => ⟨_, (LA.ass_one (LA.as_ret (LA.ae_bin LA.oa_mod (LA.ae_call HX.takesO g__law_pick (hr.mono (by first | decide | omega)) rfl (LA.aa_cons (LA.ae_var (pv 0)) (LA.aa_cons (LA.ae_lst (LA.aa_cons LA.ae_int (LA.aa_cons LA.ae_int (LA.aa_cons LA.ae_int (LA.aa_cons LA.ae_int (LA.aa_cons (LA.ae_bin LA.oa_div (LA.ae_var (pv 1)) LA.ae_int) (LA.aa_cons (LA.ae_bin LA.oa_sub (LA.ae_var (pv 1)) LA.ae_int) (LA.aa_cons (LA.ae_bin LA.oa_sub (LA.ae_var (pv 1)) LA.ae_int) (LA.aa_cons (LA.ae_call HX.takesO g__law_below (hr.mono (by first | decide | omega)) rfl (LA.aa_cons (LA.ae_var (pv 0)) (LA.aa_cons (LA.ae_bin LA.oa_pow LA.ae_int LA.ae_int) LA.aa_nil))) LA.aa_nil))))))))) LA.aa_nil))) (LA.ae_var (pv 1))))), fun ds ms Q E h => ?_⟩
  obtain ⟨z, rfl, hm, z1, k⟩ := h
  walk_at "b"
  refine ⟨div2 (by omega), powT (by decide) (by decide), below_i hm (by decide) (by decide) fun r r0 r1 => ?_⟩
  walk_at "b"
  refine pick_i hm (by simp) (by simp) fun x hx => ?_
  have hq : ∃ n : Int, x = .int n := by
    simp only [List.mem_cons, List.not_mem_nil, or_false] at hx
    rcases hx with h | h | h | h | h | h | h | h <;> exact ⟨_, h⟩
  obtain ⟨n, rfl⟩ := hq
  walk_at "b"
  exact ⟨by omega, k _ (Int.emod_nonneg _ (by omega)) (Int.emod_lt_of_pos _ (by omega))⟩
end

end LW
namespace LW
open PySem PySem.Spec PyProof.Rows L2
open LA
/-! days (for laws without programs) -/
def dayO (L : Int) : D := .ins "Day" [("ticks_of_day", .int L)]
section
variable {P : Program} {w : World} {K : PySem.W.Frag} {mg : Str → Option Value} {base : Heap}
/-- is it an int and no bool -/
def intD : D → Option Bool
  | .int _ => some true
  | .bl _ => some false
  | .str _ => some false
  | .non => some false
  | .tup _ => some false
  | .lst _ => some false
  | .dk _ => some false
  | _ => none
def S_isint : ASp := fun ds ms Q _ => ∃ (d : D) (b : Bool), ds = [d] ∧ intD d = some b ∧ Q (.bl b) ms
theorem ga_is_integer (T : Txt K mg) : HX.GFn P w K mg base "is_integer" 1 ["value"] (spA K S_isint) := by
  refine LA.gfn_of T.d_is_integer T.g_is_integer sc_is_integer (by intro ds ms Q E h; unfold S_isint at h; repeat (first | (obtain ⟨rfl, _⟩ := h; rfl) | obtain ⟨_, h⟩ := h)) (fun _ _ _ _ _ _ us hl => match us, hl with | [_], _ => rfl) fun cdv A outer s H E hr => ⟨_, (LA.ass_one (LA.as_ret (LA.ae_and (LA.ae_callB LA.ca_isTy rfl T.n_isinstance (by decide +kernel) (LA.aa_cons (LA.ae_var (pv 0)) (LA.aa_cons (LA.ae_c (pe_bltn (v := .ty "int") (u := .type "int") rfl T.n_int (by decide +kernel) rfl) (fun _ => .ty _)) LA.aa_nil))) (LA.ae_one (LA.ae_not (LA.ae_callB LA.ca_isTy rfl T.n_isinstance (by decide +kernel) (LA.aa_cons (LA.ae_var (pv 0)) (LA.aa_cons (LA.ae_c (pe_bltn (v := .ty "bool") (u := .type "bool") rfl T.n_bool (by decide +kernel) rfl) (fun _ => .ty _)) LA.aa_nil)))))))), fun ds ms Q E h => ?_⟩
  obtain ⟨d, b, rfl, hb, q⟩ := h
  cases d <;> simp only [intD, Option.some.injEq, reduceCtorEq] at hb <;> subst hb <;> walk_at "b" <;> exact q
def S_Day : ISp := fun ds ms Q _ => ∃ L : Int, ds = [.int L] ∧ 1 ≤ L ∧ Q [("ticks_of_day", .int L)] ms
theorem gk_Day (T : Txt K mg) : HX.GMk P w K mg base "Day" 2 ["self", "length"] (spI K "Day" S_Day) := by
  have g_is_integer := ga_is_integer (P := P) (w := w) (base := base) T
  refine LA.gmk_of T.mk_Day T.g_Day T.d_Day_init sc_Day_init (by intro ds ms Q E h; unfold S_Day at h; repeat (first | (obtain ⟨rfl, _⟩ := h; rfl) | obtain ⟨_, h⟩ := h)) (fun _ _ _ _ _ _ us hl => match us, hl with | [_, _], _ => rfl) fun cdv A outer s H E hr => ⟨_, (LA.ass_cons (LA.as_if (LA.at_bool (LA.aw_or (LA.at_not (LA.at_val (LA.ae_call HX.takesO g_is_integer (hr.mono (by first | decide | omega)) rfl (LA.aa_cons (LA.ae_var (pv 1)) LA.aa_nil)))) (LA.aw_or1 (LA.at_cmp LA.oa_lt (LA.ae_var (pv 1)) LA.ae_int (nomark _))))) (LA.ass_one (LA.as_raise0 rfl HX.takesO T.x_InvalidLength rfl)) LA.ass_nil)
  (LA.ass_one (LA.as_fldO (c := "Day") ⟨T.c_Day, T.a_Day_ticks_of_day⟩ (pv 0) (LA.ae_var (pv 1)) rfl))), fun ds ms Q E h => ?_⟩
  obtain ⟨L, rfl, h1, q⟩ := h
  walk_at "b"
  refine ⟨.int L, true, rfl, rfl, ?_⟩
  walk_at "b"
  rw [decide_eq_false (show ¬ L < 1 by omega)]
  walk_at "b"
  exact q
def S_dlen : ASp := fun ds ms Q _ => ∃ L : Int, ds = [dayO L] ∧ Q (.int L) ms
theorem gp_Day_length (T : Txt K mg) : HX.GPr P w K mg base "Day" "length" 1 (spA K S_dlen) := by
  refine ⟨T.po_Day_length, T.c_Day, LA.fn_of T.d_Day_length sc_Day_length (by intro ds ms Q E h; unfold S_dlen at h; repeat (first | (obtain ⟨rfl, _⟩ := h; rfl) | obtain ⟨_, h⟩ := h)) (fun _ _ _ _ _ _ us hl => match us, hl with | [_], _ => rfl) fun cdv A outer s H E hr => ⟨_, (LA.ass_one (LA.as_ret (LA.ae_fld (cs := ["Day"]) (LA.fc_cons ⟨T.c_Day, T.a_Day_ticks_of_day⟩ LA.fc_nil) (LA.ae_var (pv 0)) rfl))), fun ds ms Q E h => ?_⟩⟩
  obtain ⟨L, rfl, q⟩ := h
  simp only [dayO] at *
  walk_at "b"
  exact q
end

end LW
namespace LW
open PySem PySem.Spec PyProof.Rows L2
open LA
/-! days, clocks, watches as data, without the making of watches -/
def clkO (L x : Int) : D := .ins "Clock" [("own_day", dayO L), ("own_time", .int x)]
def watO (L a b : Int) : D := .ins "Watch" [("own_day", dayO L), ("first", .int a), ("behind", .int b)]
section
variable {P : Program} {w : World} {K : PySem.W.Frag} {mg : Str → Option Value} {base : Heap}
def S_need : ASp := fun ds ms Q _ => ∃ n : Int, ds = [.int n] ∧ Q .non ms
theorem ga_need_integer (T : Txt K mg) : HX.GFn P w K mg base "need_integer" 2 ["value"] (spA K S_need) := by
  have g_is_integer := ga_is_integer (P := P) (w := w) (base := base) T
  refine LA.gfn_of T.d_need_integer T.g_need_integer sc_need_integer (by intro ds ms Q E h; unfold S_need at h; repeat (first | (obtain ⟨rfl, _⟩ := h; rfl) | obtain ⟨_, h⟩ := h)) (fun _ _ _ _ _ _ us hl => match us, hl with | [_], _ => rfl) fun cdv A outer s H E hr => ⟨_, (LA.ass_one (LA.as_if (LA.at_not (LA.at_val (LA.ae_call HX.takesO g_is_integer (hr.mono (by first | decide | omega)) rfl (LA.aa_cons (LA.ae_var (pv 0)) LA.aa_nil)))) (LA.ass_one (LA.as_raise0 rfl HX.takesO T.x_InvalidNumber rfl)) LA.ass_nil)), fun ds ms Q E h => ?_⟩
  obtain ⟨n, rfl, q⟩ := h
  walk_at "b"
  refine ⟨.int n, true, rfl, rfl, ?_⟩
  walk_at "b"
  exact q
def S_Clock : ISp := fun ds ms Q _ => ∃ (L x : Int), ds = [dayO L, .int x] ∧ Q [("own_day", dayO L), ("own_time", .int x)] ms
theorem gk_Clock (T : Txt K mg) : HX.GMk P w K mg base "Clock" 1 ["self", "day", "time"] (spI K "Clock" S_Clock) := by
  refine LA.gmk_of T.mk_Clock T.g_Clock T.d_Clock_init sc_Clock_init (by intro ds ms Q E h; unfold S_Clock at h; repeat (first | (obtain ⟨rfl, _⟩ := h; rfl) | obtain ⟨_, h⟩ := h)) (fun _ _ _ _ _ _ us hl => match us, hl with | [_, _, _], _ => rfl) fun cdv A outer s H E hr => ⟨_, (LA.ass_cons (LA.as_fldO (c := "Clock") ⟨T.c_Clock, T.a_Clock_own_day⟩ (pv 0) (LA.ae_var (pv 1)) rfl)
  (LA.ass_one (LA.as_fldO (c := "Clock") ⟨T.c_Clock, T.a_Clock_own_time⟩ (pv 0) (LA.ae_var (pv 2)) rfl))), fun ds ms Q E h => ?_⟩
  obtain ⟨L, x, rfl, q⟩ := h
  simp only [dayO] at *
  walk_at "b"
  exact q
def S_dcall : ASp := fun ds ms Q _ => ∃ (L n : Int), ds = [dayO L, .int n] ∧ 0 < L ∧ Q (clkO L (n % L)) ms
theorem gq_Day_call (T : Txt K mg) : HX.GMe P w K mg base "Day" "__call__" 4 ["self", "number"] (spA K S_dcall) := by
  have g_need_integer := ga_need_integer (P := P) (w := w) (base := base) T
  have k_Clock := gk_Clock (P := P) (w := w) (base := base) T
  refine ⟨T.me_Day_call, T.c_Day, LA.fn_of T.d_Day_call sc_Day_call (by intro ds ms Q E h; unfold S_dcall at h; repeat (first | (obtain ⟨rfl, _⟩ := h; rfl) | obtain ⟨_, h⟩ := h)) (fun _ _ _ _ _ _ us hl => match us, hl with | [_, _], _ => rfl) fun cdv A outer s H E hr => ⟨_, (LA.ass_cons (LA.as_expr (LA.ae_call HX.takesO g_need_integer (hr.mono (by first | decide | omega)) rfl (LA.aa_cons (LA.ae_var (pv 1)) LA.aa_nil)))
  (LA.ass_one (LA.as_ret (LA.ae_make HX.takesO k_Clock (hr.mono (by first | decide | omega)) rfl (LA.aa_cons (LA.ae_var (pv 0)) (LA.aa_cons (LA.ae_bin LA.oa_mod (LA.ae_var (pv 1)) (LA.ae_fld (cs := ["Day"]) (LA.fc_cons ⟨T.c_Day, T.a_Day_ticks_of_day⟩ LA.fc_nil) (LA.ae_var (pv 0)) rfl)) LA.aa_nil)))))), fun ds ms Q E h => ?_⟩⟩
  obtain ⟨L, n, rfl, h0, q⟩ := h
  simp only [dayO, clkO] at *
  walk_at "b"
  refine ⟨n, rfl, ?_⟩
  walk_at "b"
  refine ⟨h0, ?_⟩
  walk_at "b"
  refine ⟨L, n % L, rfl, ?_⟩
  exact q
def S_dspan : ASp := fun ds ms Q _ => ∃ (L a b : Int), ds = [dayO L, .int a, .int b] ∧ 0 < L ∧ Q (.int ((b - a) % L)) ms
theorem gq_Day_span (T : Txt K mg) : HX.GMe P w K mg base "Day" "span" 1 ["self", "start", "end"] (spA K S_dspan) := by
  refine ⟨T.me_Day_span, T.c_Day, LA.fn_of T.d_Day_span sc_Day_span (by intro ds ms Q E h; unfold S_dspan at h; repeat (first | (obtain ⟨rfl, _⟩ := h; rfl) | obtain ⟨_, h⟩ := h)) (fun _ _ _ _ _ _ us hl => match us, hl with | [_, _, _], _ => rfl) fun cdv A outer s H E hr => ⟨_, (LA.ass_one (LA.as_ret (LA.ae_bin LA.oa_mod (LA.ae_bin LA.oa_sub (LA.ae_var (pv 2)) (LA.ae_var (pv 1))) (LA.ae_fld (cs := ["Day"]) (LA.fc_cons ⟨T.c_Day, T.a_Day_ticks_of_day⟩ LA.fc_nil) (LA.ae_var (pv 0)) rfl)))), fun ds ms Q E h => ?_⟩⟩
  obtain ⟨L, a, b, rfl, h0, q⟩ := h
  simp only [dayO] at *
  walk_at "b"
  exact ⟨h0, q⟩
def S_dEq : ASp := fun ds ms Q _ => ∃ (L M : Int), ds = [dayO L, dayO M] ∧ Q (.bl (decide (L = M))) ms
theorem gq_Day_eq (T : Txt K mg) : HX.GMe P w K mg base "Day" "__eq__" 1 ["self", "other"] (spA K S_dEq) := by
  refine ⟨T.me_Day_eq, T.c_Day, LA.fn_of T.d_Day_eq sc_Day_eq (by intro ds ms Q E h; unfold S_dEq at h; repeat (first | (obtain ⟨rfl, _⟩ := h; rfl) | obtain ⟨_, h⟩ := h)) (fun _ _ _ _ _ _ us hl => match us, hl with | [_, _], _ => rfl) fun cdv A outer s H E hr => ⟨_, (LA.ass_one (LA.as_ret (LA.ae_and (LA.ae_callB (LA.ca_isOwn T.ow_Day) rfl T.n_isinstance (by decide +kernel) (LA.aa_cons (LA.ae_var (pv 1)) (LA.aa_cons (LA.ae_c (pe_glob (v := .ref (He.ga K "Day")) rfl T.g_Day rfl) (fun _ => .cls _)) LA.aa_nil))) (LA.ae_one (LA.ae_cmp (LA.oa_eq hr.units) (LA.ae_fld (cs := ["Day"]) (LA.fc_cons ⟨T.c_Day, T.a_Day_ticks_of_day⟩ LA.fc_nil) (LA.ae_var (pv 0)) rfl) (LA.ae_fld (cs := ["Day"]) (LA.fc_cons ⟨T.c_Day, T.a_Day_ticks_of_day⟩ LA.fc_nil) (LA.ae_var (pv 1)) rfl) (nomark _)))))), fun ds ms Q E h => ?_⟩⟩
  obtain ⟨L, M, rfl, q⟩ := h
  simp only [dayO] at *
  walk_at "b"
  exact q
def S_cSub : ASp := fun ds ms Q _ => ∃ (L a b : Int), ds = [clkO L a, clkO L b] ∧ 0 < L ∧ Q (.int ((a - b) % L)) ms
theorem gq_Clock_sub (T : Txt K mg) : HX.GMe P w K mg base "Clock" "__sub__" 3 ["self", "other"] (spA K S_cSub) := by
  have g_is_integer := ga_is_integer (P := P) (w := w) (base := base) T
  have k_Clock := gk_Clock (P := P) (w := w) (base := base) T
  refine ⟨T.me_Clock_sub, T.c_Clock, LA.fn_of T.d_Clock_sub sc_Clock_sub (by intro ds ms Q E h; unfold S_cSub at h; repeat (first | (obtain ⟨rfl, _⟩ := h; rfl) | obtain ⟨_, h⟩ := h)) (fun _ _ _ _ _ _ us hl => match us, hl with | [_, _], _ => rfl) fun cdv A outer s H E hr => ⟨_, (LA.ass_cons (LA.as_set (i := 2) sc_Clock_sub.nd rfl (Or.inl rfl) (LA.ae_fld (cs := ["Day"]) (LA.fc_cons ⟨T.c_Day, T.a_Day_ticks_of_day⟩ LA.fc_nil) (LA.ae_fld (cs := ["Clock", "Watch"]) (LA.fc_cons ⟨T.c_Clock, T.a_Clock_own_day⟩ (LA.fc_cons ⟨T.c_Watch, T.a_Watch_own_day⟩ LA.fc_nil)) (LA.ae_var (pv 0)) rfl) rfl))
  (LA.ass_cons (LA.as_if (LA.at_val (LA.ae_callB (LA.ca_isOwn T.ow_Clock) rfl T.n_isinstance (by decide +kernel) (LA.aa_cons (LA.ae_var (pv 1)) (LA.aa_cons (LA.ae_c (pe_glob (v := .ref (He.ga K "Clock")) rfl T.g_Clock rfl) (fun _ => .cls _)) LA.aa_nil)))) (LA.ass_cons (LA.as_if (LA.at_cmp (LA.oa_ne hr.units) (LA.ae_fld (cs := ["Day"]) (LA.fc_cons ⟨T.c_Day, T.a_Day_ticks_of_day⟩ LA.fc_nil) (LA.ae_fld (cs := ["Clock", "Watch"]) (LA.fc_cons ⟨T.c_Clock, T.a_Clock_own_day⟩ (LA.fc_cons ⟨T.c_Watch, T.a_Watch_own_day⟩ LA.fc_nil)) (LA.ae_var (pv 1)) rfl) rfl) (LA.ae_var (pv 2)) (nomark _)) (LA.ass_one (LA.as_raise0 rfl HX.takesO T.x_OtherDay rfl)) LA.ass_nil)
  (LA.ass_one (LA.as_ret (LA.ae_bin LA.oa_mod (LA.ae_bin LA.oa_sub (LA.ae_fld (cs := ["Clock"]) (LA.fc_cons ⟨T.c_Clock, T.a_Clock_own_time⟩ LA.fc_nil) (LA.ae_var (pv 0)) rfl) (LA.ae_fld (cs := ["Clock"]) (LA.fc_cons ⟨T.c_Clock, T.a_Clock_own_time⟩ LA.fc_nil) (LA.ae_var (pv 1)) rfl)) (LA.ae_var (pv 2)))))) LA.ass_nil)
  (LA.ass_cons (LA.as_if (LA.at_not (LA.at_val (LA.ae_call HX.takesO g_is_integer (hr.mono (by first | decide | omega)) rfl (LA.aa_cons (LA.ae_var (pv 1)) LA.aa_nil)))) LA.ass_never LA.ass_nil)
  (LA.ass_one (LA.as_ret (LA.ae_make HX.takesO k_Clock (hr.mono (by first | decide | omega)) rfl (LA.aa_cons (LA.ae_fld (cs := ["Clock", "Watch"]) (LA.fc_cons ⟨T.c_Clock, T.a_Clock_own_day⟩ (LA.fc_cons ⟨T.c_Watch, T.a_Watch_own_day⟩ LA.fc_nil)) (LA.ae_var (pv 0)) rfl) (LA.aa_cons (LA.ae_bin LA.oa_mod (LA.ae_bin LA.oa_sub (LA.ae_fld (cs := ["Clock"]) (LA.fc_cons ⟨T.c_Clock, T.a_Clock_own_time⟩ LA.fc_nil) (LA.ae_var (pv 0)) rfl) (LA.ae_var (pv 1))) (LA.ae_var (pv 2))) LA.aa_nil)))))))), fun ds ms Q E h => ?_⟩⟩
  obtain ⟨L, a, b, rfl, h0, q⟩ := h
  simp only [clkO, dayO] at *
  walk_at "b"
  exact ⟨h0, q⟩
def S_same : ASp := fun ds ms Q E => ∃ (L M : Int) (x : D), ds = [dayO L, .lst [x]] ∧ ((∃ a, x = clkO M a) ∨ ∃ a b, x = watO M a b) ∧ (L = M → Q .non ms) ∧ (L ≠ M → E ("OtherDay", []) ms)
theorem ga_need_same (T : Txt K mg) : HX.GFn P w K mg base "need_same" 2 ["day", "clocks"] (spA K S_same) := by
  have q_Day_eq := gq_Day_eq (P := P) (w := w) (base := base) T
  refine LA.gfn_of T.d_need_same T.g_need_same sc_need_same (by intro ds ms Q E h; unfold S_same at h; repeat (first | (obtain ⟨rfl, _⟩ := h; rfl) | obtain ⟨_, h⟩ := h)) (fun _ _ _ _ _ _ us hl => match us, hl with | [_, _], _ => rfl) fun cdv A outer s H E hr => ⟨_, (LA.ass_one (LA.as_for (passes_of rfl) rfl (LA.ai_items (LA.ae_var (pv 1))) (LA.ag_name (pg_name (i := 2) sc_need_same.nd rfl (Or.inl rfl))) (LA.ass_one (LA.as_if (LA.at_not (LA.at_eqO q_Day_eq T.nf_Day (hr.mono (by first | decide | omega)) (LA.ae_fld (cs := ["Clock", "Watch"]) (LA.fc_cons ⟨T.c_Clock, T.a_Clock_own_day⟩ (LA.fc_cons ⟨T.c_Watch, T.a_Watch_own_day⟩ LA.fc_nil)) (LA.ae_var (pv 2)) rfl) (LA.ae_var (pv 0)))) (LA.ass_one (LA.as_raise0 rfl HX.takesO T.x_OtherDay rfl)) LA.ass_nil)))), fun ds ms Q E h => ?_⟩
  obtain ⟨L, M, x, rfl, hx, q, e⟩ := h
  simp only [clkO, watO, dayO] at *
  rcases hx with ⟨a, rfl⟩ | ⟨a, b, rfl⟩
  all_goals
    walk_at "b"
    refine ⟨M, L, rfl, ?_⟩
    walk_at "b"
    by_cases h : L = M
    · rw [decide_eq_true h.symm]
      walk_at "b"
      exact q h
    · rw [decide_eq_false fun z => h z.symm]
      walk_at "b"
      exact e h
def S_wlen : ASp := fun ds ms Q _ => ∃ (L a b : Int), ds = [watO L a b] ∧ 0 < L ∧ Q (.int ((b - a) % L)) ms
theorem gp_Watch_length (T : Txt K mg) : HX.GPr P w K mg base "Watch" "length" 3 (spA K S_wlen) := by
  have q_Day_span := gq_Day_span (P := P) (w := w) (base := base) T
  refine ⟨T.po_Watch_length, T.c_Watch, LA.fn_of T.d_Watch_length sc_Watch_length (by intro ds ms Q E h; unfold S_wlen at h; repeat (first | (obtain ⟨rfl, _⟩ := h; rfl) | obtain ⟨_, h⟩ := h)) (fun _ _ _ _ _ _ us hl => match us, hl with | [_], _ => rfl) fun cdv A outer s H E hr => ⟨_, (LA.ass_one (LA.as_ret (LA.ae_meth HX.takesO q_Day_span (LA.ae_fld (cs := ["Clock", "Watch"]) (LA.fc_cons ⟨T.c_Clock, T.a_Clock_own_day⟩ (LA.fc_cons ⟨T.c_Watch, T.a_Watch_own_day⟩ LA.fc_nil)) (LA.ae_var (pv 0)) rfl) (hr.mono (by first | decide | omega)) (LA.aa_cons (LA.ae_fld (cs := ["Watch"]) (LA.fc_cons ⟨T.c_Watch, T.a_Watch_first⟩ LA.fc_nil) (LA.ae_var (pv 0)) rfl) (LA.aa_cons (LA.ae_fld (cs := ["Watch"]) (LA.fc_cons ⟨T.c_Watch, T.a_Watch_behind⟩ LA.fc_nil) (LA.ae_var (pv 0)) rfl) LA.aa_nil))))), fun ds ms Q E h => ?_⟩⟩
  obtain ⟨L, a, b, rfl, h0, q⟩ := h
  simp only [watO, dayO] at *
  walk_at "b"
  refine ⟨L, a, b, rfl, h0, ?_⟩
  walk_at "b"
  exact q
def S_win : ASp := fun ds ms Q E => ∃ (L M a b c : Int), ds = [watO L a b, clkO M c] ∧ 0 < L ∧ (L = M → Q (.bl (decide ((c - a) % L < (b - a) % L))) ms) ∧ (L ≠ M → E ("OtherDay", []) ms)
theorem gq_Watch_contains (T : Txt K mg) : HX.GMe P w K mg base "Watch" "__contains__" 4 ["self", "clock"] (spA K S_win) := by
  have g_need_same := ga_need_same (P := P) (w := w) (base := base) T
  have q_Day_span := gq_Day_span (P := P) (w := w) (base := base) T
  refine ⟨T.me_Watch_contains, T.c_Watch, LA.fn_of T.d_Watch_contains sc_Watch_contains (by intro ds ms Q E h; unfold S_win at h; repeat (first | (obtain ⟨rfl, _⟩ := h; rfl) | obtain ⟨_, h⟩ := h)) (fun _ _ _ _ _ _ us hl => match us, hl with | [_, _], _ => rfl) fun cdv A outer s H E hr => ⟨_, (LA.ass_cons (LA.as_expr (LA.ae_call HX.takesO g_need_same (hr.mono (by first | decide | omega)) rfl (LA.aa_cons (LA.ae_fld (cs := ["Clock", "Watch"]) (LA.fc_cons ⟨T.c_Clock, T.a_Clock_own_day⟩ (LA.fc_cons ⟨T.c_Watch, T.a_Watch_own_day⟩ LA.fc_nil)) (LA.ae_var (pv 0)) rfl) (LA.aa_cons (LA.ae_lst (LA.aa_cons (LA.ae_var (pv 1)) LA.aa_nil)) LA.aa_nil))))
  (LA.ass_one (LA.as_ret (LA.ae_cmp LA.oa_lt (LA.ae_meth HX.takesO q_Day_span (LA.ae_fld (cs := ["Clock", "Watch"]) (LA.fc_cons ⟨T.c_Clock, T.a_Clock_own_day⟩ (LA.fc_cons ⟨T.c_Watch, T.a_Watch_own_day⟩ LA.fc_nil)) (LA.ae_var (pv 0)) rfl) (hr.mono (by first | decide | omega)) (LA.aa_cons (LA.ae_fld (cs := ["Watch"]) (LA.fc_cons ⟨T.c_Watch, T.a_Watch_first⟩ LA.fc_nil) (LA.ae_var (pv 0)) rfl) (LA.aa_cons (LA.ae_fld (cs := ["Clock"]) (LA.fc_cons ⟨T.c_Clock, T.a_Clock_own_time⟩ LA.fc_nil) (LA.ae_var (pv 1)) rfl) LA.aa_nil))) (LA.ae_meth HX.takesO q_Day_span (LA.ae_fld (cs := ["Clock", "Watch"]) (LA.fc_cons ⟨T.c_Clock, T.a_Clock_own_day⟩ (LA.fc_cons ⟨T.c_Watch, T.a_Watch_own_day⟩ LA.fc_nil)) (LA.ae_var (pv 0)) rfl) (hr.mono (by first | decide | omega)) (LA.aa_cons (LA.ae_fld (cs := ["Watch"]) (LA.fc_cons ⟨T.c_Watch, T.a_Watch_first⟩ LA.fc_nil) (LA.ae_var (pv 0)) rfl) (LA.aa_cons (LA.ae_fld (cs := ["Watch"]) (LA.fc_cons ⟨T.c_Watch, T.a_Watch_behind⟩ LA.fc_nil) (LA.ae_var (pv 0)) rfl) LA.aa_nil))) (nomark _))))), fun ds ms Q E h => ?_⟩⟩
  obtain ⟨L, M, a, b, c, rfl, h0, q, e⟩ := h
  simp only [watO, clkO, dayO] at *
  walk_at "b"
  refine ⟨L, M, _, rfl, .inl ⟨c, rfl⟩, fun h => ?_, fun h => ?_⟩
  · walk_at "b"
    refine ⟨L, a, c, rfl, h0, ?_⟩
    walk_at "b"
    refine ⟨L, a, b, rfl, h0, ?_⟩
    walk_at "b"
    exact q h
  · walk_at "b"
    exact e h
end

end LW
namespace LW
open PySem PySem.Spec PyProof.Rows L2
open LA
/-! clocks that move; watches in general -/
def cmO (L x : Int) : MO := .ins "Clock" [("own_day", dayO L), ("own_time", .int x)]
/-- a clock, frozen or a cell -/
def Clk (ms : MS) (x : D) (L a : Int) : Prop := x = clkO L a ∨ ∃ k, x = .ptr k ∧ ms[k]? = some (cmO L a)
def parD (L a b : Int) : List D := ((if a ≤ b then [((0 : Int), a, b)] else [(0, a, L), (1, 0, b)]).filter fun p => decide (p.2.1 < p.2.2)).map fun p => .tup [.int p.1, .int p.2.1, .int p.2.2]
theorem par_filter (l : List (Int × Int × Int)) : (List.filter (fun d => match d with | .tup [_, .int x, .int y] => decide (x < y) | _ => false) (l.map fun p => D.tup [.int p.1, .int p.2.1, .int p.2.2])).map id = (l.filter fun p => decide (p.2.1 < p.2.2)).map fun p => D.tup [.int p.1, .int p.2.1, .int p.2.2] := by
  rw [List.map_id, List.filter_map]
  rfl
section
variable {P : Program} {w : World} {K : PySem.W.Frag} {mg : Str → Option Value} {base : Heap}
def S_dcallC : ASp := fun ds ms Q _ => ∃ (L n : Int), ds = [dayO L, .int n] ∧ 0 < L ∧ Q (.ptr ms.length) (ms ++ [cmO L (n % L)])
theorem hqc_Day_call (T : Txt K mg) : HX.GMe P w K mg base "Day" "__call__" 4 ["self", "number"] (spA K S_dcallC) := by
  have g_need_integer := ga_need_integer (P := P) (w := w) (base := base) T
  have k_Clock := gk_Clock (P := P) (w := w) (base := base) T
  refine ⟨T.me_Day_call, T.c_Day, LA.fn_of T.d_Day_call sc_Day_call (by intro ds ms Q E h; unfold S_dcallC at h; repeat (first | (obtain ⟨rfl, _⟩ := h; rfl) | obtain ⟨_, h⟩ := h)) (fun _ _ _ _ _ _ us hl => match us, hl with | [_, _], _ => rfl) fun cdv A outer s H E hr => ⟨_, (LA.ass_cons (LA.as_expr (LA.ae_call HX.takesO g_need_integer (hr.mono (by first | decide | omega)) rfl (LA.aa_cons (LA.ae_var (pv 1)) LA.aa_nil)))
  (LA.ass_one (LA.as_ret (LA.ae_makeP HX.takesO k_Clock (hr.mono (by first | decide | omega)) rfl (LA.aa_cons (LA.ae_var (pv 0)) (LA.aa_cons (LA.ae_bin LA.oa_mod (LA.ae_var (pv 1)) (LA.ae_fld (cs := ["Day"]) (LA.fc_cons ⟨T.c_Day, T.a_Day_ticks_of_day⟩ LA.fc_nil) (LA.ae_var (pv 0)) rfl)) LA.aa_nil)))))), fun ds ms Q E h => ?_⟩⟩
  obtain ⟨L, n, rfl, h0, q⟩ := h
  simp only [dayO, cmO] at *
  walk_at "b"
  refine ⟨n, rfl, ?_⟩
  walk_at "b"
  refine ⟨h0, ?_⟩
  walk_at "b"
  refine ⟨L, n % L, rfl, ?_⟩
  exact q
def S_iadd : ASp := fun ds ms Q _ => ∃ (k : Nat) (L x n : Int), ds = [.ptr k, .int n] ∧ ms[k]? = some (cmO L x) ∧ 0 < L ∧ Q (.ptr k) (ms.set k (cmO L ((x + n) % L)))
theorem gq_Clock_iadd (T : Txt K mg) : HX.GMe P w K mg base "Clock" "__iadd__" 3 ["self", "number"] (spA K S_iadd) := by
  have g_is_integer := ga_is_integer (P := P) (w := w) (base := base) T
  refine ⟨T.me_Clock_iadd, T.c_Clock, LA.fn_of T.d_Clock_iadd sc_Clock_iadd (by intro ds ms Q E h; unfold S_iadd at h; repeat (first | (obtain ⟨rfl, _⟩ := h; rfl) | obtain ⟨_, h⟩ := h)) (fun _ _ _ _ _ _ us hl => match us, hl with | [_, _], _ => rfl) fun cdv A outer s H E hr => ⟨_, (LA.ass_cons (LA.as_if (LA.at_not (LA.at_val (LA.ae_call HX.takesO g_is_integer (hr.mono (by first | decide | omega)) rfl (LA.aa_cons (LA.ae_var (pv 1)) LA.aa_nil)))) LA.ass_never LA.ass_nil)
  (LA.ass_cons (LA.as_fldP (c := "Clock") ⟨T.c_Clock, T.a_Clock_own_time⟩ (LA.ae_var (pv 0)) (LA.ae_bin LA.oa_mod (LA.ae_bin LA.oa_add (LA.ae_fld (cs := ["Clock"]) (LA.fc_cons ⟨T.c_Clock, T.a_Clock_own_time⟩ LA.fc_nil) (LA.ae_var (pv 0)) rfl) (LA.ae_var (pv 1))) (LA.ae_fld (cs := ["Day"]) (LA.fc_cons ⟨T.c_Day, T.a_Day_ticks_of_day⟩ LA.fc_nil) (LA.ae_fld (cs := ["Clock", "Watch"]) (LA.fc_cons ⟨T.c_Clock, T.a_Clock_own_day⟩ (LA.fc_cons ⟨T.c_Watch, T.a_Watch_own_day⟩ LA.fc_nil)) (LA.ae_var (pv 0)) rfl) rfl)) rfl)
  (LA.ass_one (LA.as_ret (LA.ae_var (pv 0)))))), fun ds ms Q E h => ?_⟩⟩
  obtain ⟨k, L, x, n, rfl, hm, h0, q⟩ := h
  simp only [cmO, dayO] at *
  walk_at "b"
  refine ⟨.int n, true, rfl, rfl, ?_⟩
  walk_at "b"
  unfold LA.aFldP
  walk_at "b"
  rw [hm]
  walk_at "b"
  rw [hm]
  walk_at "b"
  refine ⟨by omega, ?_⟩
  walk_at "b"
  simp only [hm]
  refine ⟨trivial, by simp, ?_⟩
  walk_at "b"
  exact q
def S_cEq : ASp := fun ds ms Q _ => ∃ (L M a b : Int), ds = [clkO L a, clkO M b] ∧ Q (.bl (decide (L = M ∧ a = b))) ms
theorem gq_Clock_eq (T : Txt K mg) : HX.GMe P w K mg base "Clock" "__eq__" 3 ["self", "other"] (spA K S_cEq) := by
  have q_Day_eq := gq_Day_eq (P := P) (w := w) (base := base) T
  refine ⟨T.me_Clock_eq, T.c_Clock, LA.fn_of T.d_Clock_eq sc_Clock_eq (by intro ds ms Q E h; unfold S_cEq at h; repeat (first | (obtain ⟨rfl, _⟩ := h; rfl) | obtain ⟨_, h⟩ := h)) (fun _ _ _ _ _ _ us hl => match us, hl with | [_, _], _ => rfl) fun cdv A outer s H E hr => ⟨_, (LA.ass_one (LA.as_ret (LA.ae_and (LA.ae_callB (LA.ca_isOwn T.ow_Clock) rfl T.n_isinstance (by decide +kernel) (LA.aa_cons (LA.ae_var (pv 1)) (LA.aa_cons (LA.ae_c (pe_glob (v := .ref (He.ga K "Clock")) rfl T.g_Clock rfl) (fun _ => .cls _)) LA.aa_nil))) (LA.ae_and (LA.ae_eqO q_Day_eq T.nf_Day (hr.mono (by first | decide | omega)) (LA.ae_fld (cs := ["Clock", "Watch"]) (LA.fc_cons ⟨T.c_Clock, T.a_Clock_own_day⟩ (LA.fc_cons ⟨T.c_Watch, T.a_Watch_own_day⟩ LA.fc_nil)) (LA.ae_var (pv 0)) rfl) (LA.ae_fld (cs := ["Clock", "Watch"]) (LA.fc_cons ⟨T.c_Clock, T.a_Clock_own_day⟩ (LA.fc_cons ⟨T.c_Watch, T.a_Watch_own_day⟩ LA.fc_nil)) (LA.ae_var (pv 1)) rfl)) (LA.ae_one (LA.ae_cmp (LA.oa_eq hr.units) (LA.ae_fld (cs := ["Clock"]) (LA.fc_cons ⟨T.c_Clock, T.a_Clock_own_time⟩ LA.fc_nil) (LA.ae_var (pv 0)) rfl) (LA.ae_fld (cs := ["Clock"]) (LA.fc_cons ⟨T.c_Clock, T.a_Clock_own_time⟩ LA.fc_nil) (LA.ae_var (pv 1)) rfl) (nomark _))))))), fun ds ms Q E h => ?_⟩⟩
  obtain ⟨L, M, a, b, rfl, q⟩ := h
  simp only [clkO, dayO] at *
  walk_at "b"
  refine ⟨L, M, rfl, ?_⟩
  walk_at "b"
  by_cases h : L = M
  · rw [decide_eq_true h]
    walk_at "b"
    simpa [h] using q
  · rw [decide_eq_false h]
    walk_at "b"
    simpa [h] using q
def S_WatchP : ISp := fun ds ms Q E => ∃ (x : D) (L M a b : Int), ds = [x, clkO M b] ∧ Clk ms x L a ∧ (L = M → Q [("own_day", dayO L), ("first", .int a), ("behind", .int b)] ms) ∧ (L ≠ M → E ("OtherDay", []) ms)
theorem gk_Watch (T : Txt K mg) : HX.GMk P w K mg base "Watch" 3 ["self", "start", "end"] (spI K "Watch" S_WatchP) := by
  have g_need_same := ga_need_same (P := P) (w := w) (base := base) T
  refine LA.gmk_of T.mk_Watch T.g_Watch T.d_Watch_init sc_Watch_init (by intro ds ms Q E h; unfold S_WatchP at h; repeat (first | (obtain ⟨rfl, _⟩ := h; rfl) | obtain ⟨_, h⟩ := h)) (fun _ _ _ _ _ _ us hl => match us, hl with | [_, _, _], _ => rfl) fun cdv A outer s H E hr => ⟨_, (LA.ass_cons (LA.as_expr (LA.ae_call HX.takesO g_need_same (hr.mono (by first | decide | omega)) rfl (LA.aa_cons (LA.ae_fld (cs := ["Clock", "Watch"]) (LA.fc_cons ⟨T.c_Clock, T.a_Clock_own_day⟩ (LA.fc_cons ⟨T.c_Watch, T.a_Watch_own_day⟩ LA.fc_nil)) (LA.ae_var (pv 1)) rfl) (LA.aa_cons (LA.ae_lst (LA.aa_cons (LA.ae_var (pv 2)) LA.aa_nil)) LA.aa_nil))))
  (LA.ass_cons (LA.as_fldO (c := "Watch") ⟨T.c_Watch, T.a_Watch_own_day⟩ (pv 0) (LA.ae_fld (cs := ["Clock", "Watch"]) (LA.fc_cons ⟨T.c_Clock, T.a_Clock_own_day⟩ (LA.fc_cons ⟨T.c_Watch, T.a_Watch_own_day⟩ LA.fc_nil)) (LA.ae_var (pv 1)) rfl) rfl)
  (LA.ass_cons (LA.as_fldO (c := "Watch") ⟨T.c_Watch, T.a_Watch_first⟩ (pv 0) (LA.ae_fld (cs := ["Clock"]) (LA.fc_cons ⟨T.c_Clock, T.a_Clock_own_time⟩ LA.fc_nil) (LA.ae_var (pv 1)) rfl) rfl)
  (LA.ass_one (LA.as_fldO (c := "Watch") ⟨T.c_Watch, T.a_Watch_behind⟩ (pv 0) (LA.ae_fld (cs := ["Clock"]) (LA.fc_cons ⟨T.c_Clock, T.a_Clock_own_time⟩ LA.fc_nil) (LA.ae_var (pv 2)) rfl) rfl))))), fun ds ms Q E h => ?_⟩
  obtain ⟨x, L, M, a, b, rfl, hx, q, e⟩ := h
  simp only [clkO, cmO, dayO] at *
  rcases hx with rfl | ⟨k, rfl, hm⟩
  · simp only [clkO, cmO, dayO] at *
    walk_at "b"
    refine ⟨L, M, _, rfl, .inl ⟨b, rfl⟩, fun h => ?_, fun h => ?_⟩
    · walk_at "b"
      exact q h
    · walk_at "b"
      exact e h
  · simp only [clkO, cmO, dayO] at *
    walk_at "b"
    rw [hm]
    walk_at "b"
    refine ⟨L, M, _, rfl, .inl ⟨b, rfl⟩, fun h => ?_, fun h => ?_⟩
    · walk_at "b"
      rw [hm]
      walk_at "b"
      rw [hm]
      walk_at "b"
      exact q h
    · walk_at "b"
      exact e h
def S_wstart : ASp := fun ds ms Q _ => ∃ (L a b : Int), ds = [watO L a b] ∧ Q (clkO L a) ms
theorem gp_Watch_start (T : Txt K mg) : HX.GPr P w K mg base "Watch" "start" 3 (spA K S_wstart) := by
  have k_Clock := gk_Clock (P := P) (w := w) (base := base) T
  refine ⟨T.po_Watch_start, T.c_Watch, LA.fn_of T.d_Watch_start sc_Watch_start (by intro ds ms Q E h; unfold S_wstart at h; repeat (first | (obtain ⟨rfl, _⟩ := h; rfl) | obtain ⟨_, h⟩ := h)) (fun _ _ _ _ _ _ us hl => match us, hl with | [_], _ => rfl) fun cdv A outer s H E hr => ⟨_, (LA.ass_one (LA.as_ret (LA.ae_make HX.takesO k_Clock (hr.mono (by first | decide | omega)) rfl (LA.aa_cons (LA.ae_fld (cs := ["Clock", "Watch"]) (LA.fc_cons ⟨T.c_Clock, T.a_Clock_own_day⟩ (LA.fc_cons ⟨T.c_Watch, T.a_Watch_own_day⟩ LA.fc_nil)) (LA.ae_var (pv 0)) rfl) (LA.aa_cons (LA.ae_fld (cs := ["Watch"]) (LA.fc_cons ⟨T.c_Watch, T.a_Watch_first⟩ LA.fc_nil) (LA.ae_var (pv 0)) rfl) LA.aa_nil))))), fun ds ms Q E h => ?_⟩⟩
  obtain ⟨L, a, b, rfl, q⟩ := h
  simp only [watO, clkO, dayO] at *
  walk_at "b"
  exact ⟨L, a, rfl, q⟩
def S_wend : ASp := fun ds ms Q _ => ∃ (L a b : Int), ds = [watO L a b] ∧ Q (clkO L b) ms
theorem gp_Watch_end (T : Txt K mg) : HX.GPr P w K mg base "Watch" "end" 3 (spA K S_wend) := by
  have k_Clock := gk_Clock (P := P) (w := w) (base := base) T
  refine ⟨T.po_Watch_end, T.c_Watch, LA.fn_of T.d_Watch_end sc_Watch_end (by intro ds ms Q E h; unfold S_wend at h; repeat (first | (obtain ⟨rfl, _⟩ := h; rfl) | obtain ⟨_, h⟩ := h)) (fun _ _ _ _ _ _ us hl => match us, hl with | [_], _ => rfl) fun cdv A outer s H E hr => ⟨_, (LA.ass_one (LA.as_ret (LA.ae_make HX.takesO k_Clock (hr.mono (by first | decide | omega)) rfl (LA.aa_cons (LA.ae_fld (cs := ["Clock", "Watch"]) (LA.fc_cons ⟨T.c_Clock, T.a_Clock_own_day⟩ (LA.fc_cons ⟨T.c_Watch, T.a_Watch_own_day⟩ LA.fc_nil)) (LA.ae_var (pv 0)) rfl) (LA.aa_cons (LA.ae_fld (cs := ["Watch"]) (LA.fc_cons ⟨T.c_Watch, T.a_Watch_behind⟩ LA.fc_nil) (LA.ae_var (pv 0)) rfl) LA.aa_nil))))), fun ds ms Q E h => ?_⟩⟩
  obtain ⟨L, a, b, rfl, q⟩ := h
  simp only [watO, clkO, dayO] at *
  walk_at "b"
  exact ⟨L, b, rfl, q⟩
def S_parts : ASp := fun ds ms Q _ => ∃ (L a b : Int), ds = [watO L a b] ∧ Q (.lst (parD L a b)) ms
theorem gp_Watch_parts (T : Txt K mg) : HX.GPr P w K mg base "Watch" "parts" 3 (spA K S_parts) := by
  refine ⟨T.po_Watch_parts, T.c_Watch, LA.fn_of T.d_Watch_parts sc_Watch_parts (by intro ds ms Q E h; unfold S_parts at h; repeat (first | (obtain ⟨rfl, _⟩ := h; rfl) | obtain ⟨_, h⟩ := h)) (fun _ _ _ _ _ _ us hl => match us, hl with | [_], _ => rfl) fun cdv A outer s H E hr => ⟨_, (LA.ass_cons (LA.as_if (LA.at_cmp LA.oa_le (LA.ae_fld (cs := ["Watch"]) (LA.fc_cons ⟨T.c_Watch, T.a_Watch_first⟩ LA.fc_nil) (LA.ae_var (pv 0)) rfl) (LA.ae_fld (cs := ["Watch"]) (LA.fc_cons ⟨T.c_Watch, T.a_Watch_behind⟩ LA.fc_nil) (LA.ae_var (pv 0)) rfl) (nomark _)) (LA.ass_one (LA.as_set (i := 1) sc_Watch_parts.nd rfl (Or.inl rfl) (LA.ae_lst (LA.aa_cons (LA.ae_tup (LA.aa_cons LA.ae_int (LA.aa_cons (LA.ae_fld (cs := ["Watch"]) (LA.fc_cons ⟨T.c_Watch, T.a_Watch_first⟩ LA.fc_nil) (LA.ae_var (pv 0)) rfl) (LA.aa_cons (LA.ae_fld (cs := ["Watch"]) (LA.fc_cons ⟨T.c_Watch, T.a_Watch_behind⟩ LA.fc_nil) (LA.ae_var (pv 0)) rfl) LA.aa_nil)))) LA.aa_nil)))) (LA.ass_one (LA.as_set (i := 1) sc_Watch_parts.nd rfl (Or.inl rfl) (LA.ae_lst (LA.aa_cons (LA.ae_tup (LA.aa_cons LA.ae_int (LA.aa_cons (LA.ae_fld (cs := ["Watch"]) (LA.fc_cons ⟨T.c_Watch, T.a_Watch_first⟩ LA.fc_nil) (LA.ae_var (pv 0)) rfl) (LA.aa_cons (LA.ae_fld (cs := ["Day"]) (LA.fc_cons ⟨T.c_Day, T.a_Day_ticks_of_day⟩ LA.fc_nil) (LA.ae_fld (cs := ["Clock", "Watch"]) (LA.fc_cons ⟨T.c_Clock, T.a_Clock_own_day⟩ (LA.fc_cons ⟨T.c_Watch, T.a_Watch_own_day⟩ LA.fc_nil)) (LA.ae_var (pv 0)) rfl) rfl) LA.aa_nil)))) (LA.aa_cons (LA.ae_tup (LA.aa_cons LA.ae_int (LA.aa_cons LA.ae_int (LA.aa_cons (LA.ae_fld (cs := ["Watch"]) (LA.fc_cons ⟨T.c_Watch, T.a_Watch_behind⟩ LA.fc_nil) (LA.ae_var (pv 0)) rfl) LA.aa_nil)))) LA.aa_nil))))))
  (LA.ass_one (LA.as_ret (LA.ae_new (LA.fe_lc (own := [("part", 2)]) rfl sc_Watch_parts.nd (LA.ai_items (LA.ae_var (pv 1))) (blkOk_by (own := [("part", 2)]) (N := ["self", "found", "part"]) (sc := defScope s_Watch_parts) (by decide +kernel)) (by decide) (fun _ _ _ _ _ => (LA.ag_name (pg_name (i := 2) sc_Watch_parts.nd rfl (Or.inl rfl)))) (fun _ _ _ _ _ => (LA.ats_one (LA.at_cmp LA.oa_lt (LA.ae_ix LA.ia_any (LA.ae_var (pv 2)) LA.ae_int (fun _ _ => rfl)) (LA.ae_ix LA.ia_any (LA.ae_var (pv 2)) LA.ae_int (fun _ _ => rfl)) (nomark _)))) (fun _ _ _ _ _ => (LA.ae_var (pv 2)))))))), fun ds ms Q E h => ?_⟩⟩
  obtain ⟨L, a, b, rfl, q⟩ := h
  simp only [watO, dayO] at *
  walk_at "b"
  unfold parD at q
  refine br_d (fun h => ?_) (fun h => ?_)
  · rw [if_pos h] at q
    walk_at "b"
    refine lcL_if id (fun d => match d with | .tup [_, .int x, .int y] => decide (x < y) | _ => false) (show 1 ≤ PySem.sizeLine by decide) (fun d hd N hN => ?_) (fun d hd _ N hN => ?_) ?_
    · simp only [List.mem_cons, List.not_mem_nil, or_false] at hd
      subst hd
      walk_at "b"
      exact hN
    · simp only [List.mem_cons, List.not_mem_nil, or_false] at hd
      subst hd
      walk_at "b"
      exact hN
    · walk_at "b"
      have : ∀ (l : List (Int × Int × Int)), (List.filter (fun d => match d with | .tup [_, .int x, .int y] => decide (x < y) | _ => false) (l.map fun p => D.tup [.int p.1, .int p.2.1, .int p.2.2])).map id = (l.filter fun p => decide (p.2.1 < p.2.2)).map fun p => D.tup [.int p.1, .int p.2.1, .int p.2.2] := par_filter
      first | exact q | (rw [← this] at q; exact q)
  · rw [if_neg h] at q
    walk_at "b"
    refine lcL_if id (fun d => match d with | .tup [_, .int x, .int y] => decide (x < y) | _ => false) (show 2 ≤ PySem.sizeLine by decide) (fun d hd N hN => ?_) (fun d hd _ N hN => ?_) ?_
    · simp only [List.mem_cons, List.not_mem_nil, or_false] at hd
      rcases hd with rfl | rfl <;> walk_at "b" <;> exact hN
    · simp only [List.mem_cons, List.not_mem_nil, or_false] at hd
      rcases hd with rfl | rfl <;> walk_at "b" <;> exact hN
    · walk_at "b"
      have : ∀ (l : List (Int × Int × Int)), (List.filter (fun d => match d with | .tup [_, .int x, .int y] => decide (x < y) | _ => false) (l.map fun p => D.tup [.int p.1, .int p.2.1, .int p.2.2])).map id = (l.filter fun p => decide (p.2.1 < p.2.2)).map fun p => D.tup [.int p.1, .int p.2.1, .int p.2.2] := par_filter
      first | exact q | (rw [← this] at q; exact q)
def S_wEq : ASp := fun ds ms Q _ => ∃ (L a b : Int) (y : D), ds = [watO L a b, y] ∧ ((∃ M c d, y = watO M c d ∧ Q (.bl (decide (L = M ∧ a = c ∧ b = d))) ms) ∨ ∃ n : Int, y = .int n ∧ Q (.bl false) ms)
theorem gq_Watch_eq (T : Txt K mg) : HX.GMe P w K mg base "Watch" "__eq__" 3 ["self", "other"] (spA K S_wEq) := by
  have q_Day_eq := gq_Day_eq (P := P) (w := w) (base := base) T
  refine ⟨T.me_Watch_eq, T.c_Watch, LA.fn_of T.d_Watch_eq sc_Watch_eq (by intro ds ms Q E h; unfold S_wEq at h; repeat (first | (obtain ⟨rfl, _⟩ := h; rfl) | obtain ⟨_, h⟩ := h)) (fun _ _ _ _ _ _ us hl => match us, hl with | [_, _], _ => rfl) fun cdv A outer s H E hr => ⟨_, (LA.ass_cons (LA.as_if (LA.at_bool (LA.aw_or (LA.at_not (LA.at_val (LA.ae_callB (LA.ca_isOwn T.ow_Watch) rfl T.n_isinstance (by decide +kernel) (LA.aa_cons (LA.ae_var (pv 1)) (LA.aa_cons (LA.ae_c (pe_glob (v := .ref (He.ga K "Watch")) rfl T.g_Watch rfl) (fun _ => .cls _)) LA.aa_nil))))) (LA.aw_or1 (LA.at_not (LA.at_eqO q_Day_eq T.nf_Day (hr.mono (by first | decide | omega)) (LA.ae_fld (cs := ["Clock", "Watch"]) (LA.fc_cons ⟨T.c_Clock, T.a_Clock_own_day⟩ (LA.fc_cons ⟨T.c_Watch, T.a_Watch_own_day⟩ LA.fc_nil)) (LA.ae_var (pv 0)) rfl) (LA.ae_fld (cs := ["Clock", "Watch"]) (LA.fc_cons ⟨T.c_Clock, T.a_Clock_own_day⟩ (LA.fc_cons ⟨T.c_Watch, T.a_Watch_own_day⟩ LA.fc_nil)) (LA.ae_var (pv 1)) rfl)))))) (LA.ass_one (LA.as_ret LA.ae_bl)) LA.ass_nil)
  (LA.ass_one (LA.as_ret (LA.ae_and (LA.ae_cmp (LA.oa_eq hr.units) (LA.ae_fld (cs := ["Watch"]) (LA.fc_cons ⟨T.c_Watch, T.a_Watch_first⟩ LA.fc_nil) (LA.ae_var (pv 0)) rfl) (LA.ae_fld (cs := ["Watch"]) (LA.fc_cons ⟨T.c_Watch, T.a_Watch_first⟩ LA.fc_nil) (LA.ae_var (pv 1)) rfl) (nomark _)) (LA.ae_one (LA.ae_cmp (LA.oa_eq hr.units) (LA.ae_fld (cs := ["Watch"]) (LA.fc_cons ⟨T.c_Watch, T.a_Watch_behind⟩ LA.fc_nil) (LA.ae_var (pv 0)) rfl) (LA.ae_fld (cs := ["Watch"]) (LA.fc_cons ⟨T.c_Watch, T.a_Watch_behind⟩ LA.fc_nil) (LA.ae_var (pv 1)) rfl) (nomark _))))))), fun ds ms Q E h => ?_⟩⟩
  obtain ⟨L, a, b, y, rfl, h⟩ := h
  simp only [watO, dayO] at *
  rcases h with ⟨M, c, d, rfl, q⟩ | ⟨n, rfl, q⟩
  · walk_at "b"
    refine ⟨L, M, rfl, ?_⟩
    walk_at "b"
    by_cases h : L = M
    · rw [decide_eq_true h]
      walk_at "b"
      by_cases h2 : a = c
      · rw [decide_eq_true h2]
        walk_at "b"
        simpa [h, h2] using q
      · rw [decide_eq_false h2]
        walk_at "b"
        simpa [h, h2] using q
    · rw [decide_eq_false h]
      walk_at "b"
      simpa [h] using q
  · walk_at "b"
    exact q
end

end LW
namespace LW
open PySem PySem.Spec PyProof.Rows L2
open LA
/-! all of a list of True (for laws without programs) -/
theorem bls_true (l : List D) : blsD (l.map fun _ => D.bl true) = some (l.map fun _ => true) := by
  induction l with
  | nil => rfl
  | cons p r ih => rw [List.map_cons, blsD, ih]; rfl
theorem all_true (l : List D) : (l.map fun _ => true).all id = true := by
  rw [List.all_map, List.all_eq_true]; exact fun _ _ => rfl

end LW
namespace LW
open PySem PySem.Spec PyProof.Rows L2
open LA
/-! the law's equality of equal data; programs that are equal -/
/-- plain data, nested n deep at most -/
def Eqd : Nat → D → Prop
  | _, .non => True
  | _, .bl _ => True
  | _, .int _ => True
  | _, .str _ => True
  | n + 1, .lst xs => xs.length ≤ 1000 ∧ ∀ x ∈ xs, Eqd n x
  | n + 1, .tup xs => xs.length ≤ 1000 ∧ ∀ x ∈ xs, Eqd n x
  | _, _ => False
theorem rangeD_at {lo : Int} {n i : Nat} {d : D} (h : (rangeD lo n)[i]? = some d) : i < n ∧ d = .int (lo + (i : Nat)) := by
  unfold rangeD at h
  rw [List.getElem?_map] at h
  by_cases hi : i < n
  · rw [List.getElem?_range hi] at h; cases h; exact ⟨hi, rfl⟩
  · rw [List.getElem?_eq_none (by simp; omega)] at h; cases h
theorem rangeD_len {lo : Int} {n : Nat} : (rangeD lo n).length = n := by simp [rangeD]
theorem rangeD_mem {lo : Int} {n : Nat} {d : D} (h : d ∈ rangeD lo n) : ∃ i, i < n ∧ d = .int (lo + (i : Nat)) := by
  obtain ⟨i, hi⟩ := List.mem_iff_getElem?.mp h
  exact ⟨i, rangeD_at hi⟩
section
variable {P : Program} {w : World} {K : PySem.W.Frag} {mg : Str → Option Value} {base : Heap}
def S_equal (n : Nat) : ASp := fun ds ms Q _ => 0 < n ∧ ∃ x : D, ds = [x, x] ∧ Eqd (n - 1) x ∧ Q (.bl true) ms
theorem ga__law_equal (T : Txt K mg) : ∀ n : Nat, HX.GFn P w K mg base "_law_equal" (n + 1) ["_law_actual", "_law_expected"] (spA K (S_equal n))
  | 0 => LA.gfn_none T.d__law_equal T.g__law_equal sc__law_equal (fun _ _ _ _ _ _ us hl => match us, hl with | [_, _], _ => rfl) (fun ds ms Q E h => Nat.lt_irrefl 0 h.1)
  | n + 1 => by
    have g__law_equal := ga__law_equal T n
    refine LA.gfn_of T.d__law_equal T.g__law_equal sc__law_equal (by intro ds ms Q E h; unfold S_equal at h; repeat (first | (obtain ⟨rfl, _⟩ := h; rfl) | obtain ⟨_, h⟩ := h)) (fun _ _ _ _ _ _ us hl => match us, hl with | [_, _], _ => rfl) fun cdv A outer s H E hr => ⟨_, (LA.ass_cons (LA.as_if (LA.at_cmp LA.oa_is (LA.ae_var (pv 1)) LA.ae_non (nomark _)) (LA.ass_one (LA.as_ret (LA.ae_cmp LA.oa_is (LA.ae_var (pv 0)) LA.ae_non (nomark _)))) LA.ass_nil)
  (LA.ass_cons (LA.as_if (LA.at_val (LA.ae_callB LA.ca_isTy rfl T.n_isinstance (by decide +kernel) (LA.aa_cons (LA.ae_var (pv 1)) (LA.aa_cons (LA.ae_c (pe_bltn (v := .ty "bool") (u := .type "bool") rfl T.n_bool (by decide +kernel) rfl) (fun _ => .ty _)) LA.aa_nil)))) (LA.ass_one (LA.as_ret (LA.ae_and (LA.ae_callB LA.ca_isTy rfl T.n_isinstance (by decide +kernel) (LA.aa_cons (LA.ae_var (pv 0)) (LA.aa_cons (LA.ae_c (pe_bltn (v := .ty "bool") (u := .type "bool") rfl T.n_bool (by decide +kernel) rfl) (fun _ => .ty _)) LA.aa_nil))) (LA.ae_one (LA.ae_cmp (LA.oa_eq hr.units) (LA.ae_var (pv 0)) (LA.ae_var (pv 1)) (nomark _)))))) LA.ass_nil)
  (LA.ass_cons (LA.as_if (LA.at_val (LA.ae_callB LA.ca_isTy rfl T.n_isinstance (by decide +kernel) (LA.aa_cons (LA.ae_var (pv 1)) (LA.aa_cons (LA.ae_c (pe_bltn (v := .ty "int") (u := .type "int") rfl T.n_int (by decide +kernel) rfl) (fun _ => .ty _)) LA.aa_nil)))) (LA.ass_one (LA.as_ret (LA.ae_and (LA.ae_callB LA.ca_isTy rfl T.n_isinstance (by decide +kernel) (LA.aa_cons (LA.ae_var (pv 0)) (LA.aa_cons (LA.ae_c (pe_bltn (v := .ty "int") (u := .type "int") rfl T.n_int (by decide +kernel) rfl) (fun _ => .ty _)) LA.aa_nil))) (LA.ae_and (LA.ae_not (LA.ae_callB LA.ca_isTy rfl T.n_isinstance (by decide +kernel) (LA.aa_cons (LA.ae_var (pv 0)) (LA.aa_cons (LA.ae_c (pe_bltn (v := .ty "bool") (u := .type "bool") rfl T.n_bool (by decide +kernel) rfl) (fun _ => .ty _)) LA.aa_nil)))) (LA.ae_one (LA.ae_cmp (LA.oa_eq hr.units) (LA.ae_var (pv 0)) (LA.ae_var (pv 1)) (nomark _))))))) LA.ass_nil)
  (LA.ass_cons (LA.as_if (LA.at_val (LA.ae_callB LA.ca_isTy rfl T.n_isinstance (by decide +kernel) (LA.aa_cons (LA.ae_var (pv 1)) (LA.aa_cons (LA.ae_c (pe_bltn (v := .ty "str") (u := .type "str") rfl T.n_str (by decide +kernel) rfl) (fun _ => .ty _)) LA.aa_nil)))) (LA.ass_one (LA.as_ret (LA.ae_and (LA.ae_callB LA.ca_isTy rfl T.n_isinstance (by decide +kernel) (LA.aa_cons (LA.ae_var (pv 0)) (LA.aa_cons (LA.ae_c (pe_bltn (v := .ty "str") (u := .type "str") rfl T.n_str (by decide +kernel) rfl) (fun _ => .ty _)) LA.aa_nil))) (LA.ae_one (LA.ae_cmp (LA.oa_eq hr.units) (LA.ae_var (pv 0)) (LA.ae_var (pv 1)) (nomark _)))))) LA.ass_nil)
  (LA.ass_cons (LA.as_if (LA.at_val (LA.ae_callB LA.ca_isTy rfl T.n_isinstance (by decide +kernel) (LA.aa_cons (LA.ae_var (pv 1)) (LA.aa_cons (LA.ae_c (pe_bltn (v := .ty "dict") (u := .type "dict") rfl T.n_dict (by decide +kernel) rfl) (fun _ => .ty _)) LA.aa_nil)))) (LA.ass_cons (LA.as_if (LA.at_bool (LA.aw_or (LA.at_not (LA.at_val (LA.ae_callB LA.ca_isTy rfl T.n_isinstance (by decide +kernel) (LA.aa_cons (LA.ae_var (pv 0)) (LA.aa_cons (LA.ae_c (pe_bltn (v := .ty "dict") (u := .type "dict") rfl T.n_dict (by decide +kernel) rfl) (fun _ => .ty _)) LA.aa_nil))))) (LA.aw_or1 (LA.at_cmp (LA.oa_ne hr.units) (LA.ae_callTy LA.ca_list rfl T.n_list (by decide +kernel) (LA.aa_cons (LA.ae_var (pv 0)) LA.aa_nil)) (LA.ae_callB LA.ca_sort rfl T.n_sorted (by decide +kernel) (LA.aa_cons (LA.ae_callTy LA.ca_list rfl T.n_list (by decide +kernel) (LA.aa_cons (LA.ae_var (pv 1)) LA.aa_nil)) LA.aa_nil)) (nomark _))))) (LA.ass_one (LA.as_ret LA.ae_bl)) LA.ass_nil)
  (LA.ass_one (LA.as_ret (LA.ae_callB (LA.ca_all rfl) rfl T.n_all (by decide +kernel) (LA.aa_cons (LA.ae_new (LA.fe_lc (own := [("_law_key", 2)]) rfl sc__law_equal.nd (LA.ai_items (LA.ae_callTy LA.ca_list rfl T.n_list (by decide +kernel) (LA.aa_cons (LA.ae_var (pv 0)) LA.aa_nil))) (blkOk_by (own := [("_law_key", 2)]) (N := ["_law_actual", "_law_expected", "_law_key", "_law_k"]) (sc := defScope s__law_equal) (by decide +kernel)) (by decide) (fun _ _ _ _ _ => (LA.ag_name (pg_name (i := 2) sc__law_equal.nd rfl (Or.inl rfl)))) (fun _ _ _ _ _ => LA.ats_nil) (fun _ _ _ _ _ => (LA.ae_call HX.takes0N g__law_equal (hr.mono (by first | decide | omega)) rfl (LA.aa_cons (LA.ae_ix LA.ia_any (LA.ae_var (pv 0)) (LA.ae_var (pv 2)) (fun _ _ => rfl)) (LA.aa_cons (LA.ae_ix LA.ia_any (LA.ae_var (pv 1)) (LA.ae_var (pv 2)) (fun _ _ => rfl)) LA.aa_nil)))))) LA.aa_nil))))) LA.ass_nil)
  (LA.ass_cons (LA.as_if (LA.at_cmp (LA.oa_ne hr.units) (LA.ae_callB LA.ca_isTy rfl T.n_isinstance (by decide +kernel) (LA.aa_cons (LA.ae_var (pv 1)) (LA.aa_cons (LA.ae_c (pe_bltn (v := .ty "tuple") (u := .type "tuple") rfl T.n_tuple (by decide +kernel) rfl) (fun _ => .ty _)) LA.aa_nil))) (LA.ae_callB LA.ca_isTy rfl T.n_isinstance (by decide +kernel) (LA.aa_cons (LA.ae_var (pv 0)) (LA.aa_cons (LA.ae_c (pe_bltn (v := .ty "tuple") (u := .type "tuple") rfl T.n_tuple (by decide +kernel) rfl) (fun _ => .ty _)) LA.aa_nil))) (nomark _)) (LA.ass_one (LA.as_ret LA.ae_bl)) LA.ass_nil)
  (LA.ass_cons (LA.as_if (LA.at_cmp (LA.oa_ne hr.units) (LA.ae_callB LA.ca_isTy rfl T.n_isinstance (by decide +kernel) (LA.aa_cons (LA.ae_var (pv 1)) (LA.aa_cons (LA.ae_c (pe_bltn (v := .ty "list") (u := .type "list") rfl T.n_list (by decide +kernel) rfl) (fun _ => .ty _)) LA.aa_nil))) (LA.ae_callB LA.ca_isTy rfl T.n_isinstance (by decide +kernel) (LA.aa_cons (LA.ae_var (pv 0)) (LA.aa_cons (LA.ae_c (pe_bltn (v := .ty "list") (u := .type "list") rfl T.n_list (by decide +kernel) rfl) (fun _ => .ty _)) LA.aa_nil))) (nomark _)) (LA.ass_one (LA.as_ret LA.ae_bl)) LA.ass_nil)
  (LA.ass_cons (LA.as_if (LA.at_cmp (LA.oa_ne hr.units) (LA.ae_callB LA.ca_len rfl T.n_len (by decide +kernel) (LA.aa_cons (LA.ae_var (pv 0)) LA.aa_nil)) (LA.ae_callB LA.ca_len rfl T.n_len (by decide +kernel) (LA.aa_cons (LA.ae_var (pv 1)) LA.aa_nil)) (nomark _)) (LA.ass_one (LA.as_ret LA.ae_bl)) LA.ass_nil)
  (LA.ass_one (LA.as_ret (LA.ae_callB (LA.ca_all rfl) rfl T.n_all (by decide +kernel) (LA.aa_cons (LA.ae_new (LA.fe_lc (own := [("_law_k", 3)]) rfl sc__law_equal.nd (LA.ai_range1 rfl T.n_range (LA.ae_callB LA.ca_len rfl T.n_len (by decide +kernel) (LA.aa_cons (LA.ae_var (pv 1)) LA.aa_nil))) (blkOk_by (own := [("_law_k", 3)]) (N := ["_law_actual", "_law_expected", "_law_key", "_law_k"]) (sc := defScope s__law_equal) (by decide +kernel)) (by decide) (fun _ _ _ _ _ => (LA.ag_name (pg_name (i := 3) sc__law_equal.nd rfl (Or.inl rfl)))) (fun _ _ _ _ _ => LA.ats_nil) (fun _ _ _ _ _ => (LA.ae_call HX.takes0N g__law_equal (hr.mono (by first | decide | omega)) rfl (LA.aa_cons (LA.ae_ix LA.ia_any (LA.ae_var (pv 0)) (LA.ae_var (pv 3)) (fun _ _ => rfl)) (LA.aa_cons (LA.ae_ix LA.ia_any (LA.ae_var (pv 1)) (LA.ae_var (pv 3)) (fun _ _ => rfl)) LA.aa_nil)))))) LA.aa_nil)))))))))))), fun ds ms Q E h => ?_⟩
    obtain ⟨_, x, rfl, he, q⟩ := h
    have he : Eqd n x := he
    cases x with
    | non => walk_at "b"; exact q
    | bl b => walk_at "b"; exact q
    | int b => walk_at "b"; exact q
    | str b => walk_at "b"; exact q
    | tup xs =>
      obtain ⟨m, rfl⟩ : ∃ m, n = m + 1 := by cases n with | zero => exact he.elim | succ m => exact ⟨m, rfl⟩
      obtain ⟨hl, hx⟩ := he
      walk_at "b"
      refine ⟨by omega, by omega, ?_⟩
      refine lcL_map (fun _ => .bl true) (by rw [rangeD_len]; unfold PySem.sizeLine; omega) (fun d hd N hN => ?_) ?_
      · obtain ⟨i, hi, rfl⟩ := rangeD_mem hd
        have hi' : i < xs.length := by omega
        walk_at "b"
        rw [show (0 : Int) + (i : Nat) = (i : Nat) by omega, LA.atI_nat, List.getElem?_eq_getElem hi']
        walk_at "b"
        rw [LA.atI_nat, List.getElem?_eq_getElem hi']
        walk_at "b"
        exact ⟨by omega, xs[i], rfl, hx _ (List.getElem_mem hi'), hN⟩
      · walk_at "b"
        rw [all_true]
        exact q
    | lst xs =>
      obtain ⟨m, rfl⟩ : ∃ m, n = m + 1 := by cases n with | zero => exact he.elim | succ m => exact ⟨m, rfl⟩
      obtain ⟨hl, hx⟩ := he
      walk_at "b"
      refine ⟨by omega, by omega, ?_⟩
      refine lcL_map (fun _ => .bl true) (by rw [rangeD_len]; unfold PySem.sizeLine; omega) (fun d hd N hN => ?_) ?_
      · obtain ⟨i, hi, rfl⟩ := rangeD_mem hd
        have hi' : i < xs.length := by omega
        walk_at "b"
        rw [show (0 : Int) + (i : Nat) = (i : Nat) by omega, LA.atI_nat, List.getElem?_eq_getElem hi']
        walk_at "b"
        rw [LA.atI_nat, List.getElem?_eq_getElem hi']
        walk_at "b"
        exact ⟨by omega, xs[i], rfl, hx _ (List.getElem_mem hi'), hN⟩
      · walk_at "b"
        rw [all_true]
        exact q
    | _ => cases n <;> exact he.elim
end

end LW
namespace LW
open PySem PySem.Spec PyProof.Rows L2
open LA
/-! the law's start: the source of numbers is the only object -/
section
variable {P : Program} {w : World} {K : PySem.W.Frag} {mg : Str → Option Value} {base : Heap}
def sp_law (K : PySem.W.Frag) : Sp := fun vs H Q _ => ∃ (a : Addr) (ns : List Int), vs = [.ref a] ∧ SqL K H a (ns.map V.int) ∧ ns.length ≤ 63 ∧ ∀ H', Q (.bl true) H'
theorem law_start {W : WX} {a : aS} {H H' : Hp} {p : Addr} {n : Nat} {σ : L2.St} {Q : VK} {nx : L2.St → Hp → Prop} (hp : H p = none) (e : Same H H') (rg : Rg H' p) (hσ : σ[1]? = some (some (.ref p))) (hl : σ.length = n + 2) (k : ∀ H', Q (.bl true) H')
    (h : a { nx := fun _ _ => False, rt := fun d _ => d = .bl true } (none :: some (.fr (.ptr 0)) :: List.replicate n none) [.rng]) : cS K ⟨W, none⟩ a { nx := nx, rt := Q } σ H' := by
  have sl : ∀ (i : Nat) (av : AV), (none :: some (AV.fr (.ptr 0)) :: List.replicate n none : ASt)[i]? = some (some av) → i = 1 ∧ av = .fr (.ptr 0) := fun i av h => by
    match i with
    | 0 => cases h
    | 1 => exact ⟨rfl, by simpa using h.symm⟩
    | i + 2 =>
      have h : (List.replicate n (none : Option AV))[i]? = some (some av) := h
      have := List.eq_of_mem_replicate (List.mem_of_getElem? h)
      cases this
  refine ⟨(⟨H, [], fun _ => none, none⟩ : Bs none), ⟨fun _ => none, [p], none⟩, [.rng], _, { nx := fun _ _ => False, rt := fun d _ => d = .bl true }, ?_, h, ?_⟩
  · refine ⟨⟨fun _ _ h => (nomatch h), by simp, fun _ _ => rfl, fun j m hj => ?_, rfl⟩, fun b o _ hb => e b o hb, fun b hb => ?_, fun _ h => (nomatch h), fun _ _ h => (nomatch h), by simp [hl], fun i av hi => ?_, fun i j q mi mj h1 => ?_, fun _ _ h => (nomatch h), fun _ _ h => (nomatch h)⟩
    · match j, hj with
      | 0, hj =>
        have : m = .rng := by simpa using hj.symm
        subst this
        obtain ⟨ns, h1, h2⟩ := rg
        exact ⟨p, rfl, .rng h1 h2⟩
      | j + 1, hj => simp at hj
    · right
      have : b = p := by simpa using hb
      rw [this]; exact hp
    · obtain ⟨rfl, rfl⟩ := sl i av hi
      exact ⟨.ref p, hσ, .ptr rfl⟩
    · obtain ⟨_, h⟩ := sl i _ h1
      cases h
  · refine ⟨fun _ _ _ _ _ _ _ q => q.elim, fun _ _ _ _ _ _ _ q => q.elim, fun _ _ _ _ _ _ _ q => q.elim, fun w' ms' H2 s' σ' v d le L r q => ?_, fun _ _ _ _ _ _ _ _ _ _ _ q => q.elim⟩
    have q : d = .bl true := q
    subst q
    cases r
    exact k H2
end

end LW
namespace LW
open PySem PySem.Spec PyProof.Rows L2
open LA
/-! whole watches -/
theorem mod_neg {x L : Int} (h : x < 0) (h2 : -L ≤ x) : x % L = x + L := by
  rw [← Int.add_mul_emod_self_left x L 1, Int.mul_one, Int.emod_eq_of_lt (by omega) (by omega)]
def parL (L a b : Int) : List (Int × Int × Int) := (if a ≤ b then [((0 : Int), a, b)] else [(0, a, L), (1, 0, b)]).filter fun p => decide (p.2.1 < p.2.2)
def triO (p : Int × Int × Int) : D := .tup [.int p.1, .int p.2.1, .int p.2.2]
theorem parD_eq {L a b : Int} : parD L a b = (parL L a b).map triO := rfl
/-- the parts, case by case -/
theorem parL_cases {L a b : Int} (a0 : 0 ≤ a) (a1 : a < L) (b0 : 0 ≤ b) (b1 : b < L) :
    (a = b ∧ parL L a b = []) ∨ (a < b ∧ parL L a b = [(0, a, b)]) ∨ (b < a ∧ b = 0 ∧ parL L a b = [(0, a, L)]) ∨ (b < a ∧ 0 < b ∧ parL L a b = [(0, a, L), (1, 0, b)]) := by
  unfold parL
  by_cases h : a ≤ b
  · by_cases h2 : a = b
    · left; subst h2; simp
    · right; left; refine ⟨by omega, ?_⟩
      rw [if_pos h]; simp; omega
  · right; right
    by_cases h2 : b = 0
    · left; refine ⟨by omega, h2, ?_⟩
      subst h2
      rw [if_neg h, List.filter_cons, if_pos (by simp; omega), List.filter_cons, if_neg (by simp), List.filter_nil]
    · right; refine ⟨by omega, by omega, ?_⟩
      rw [if_neg h]; simp; omega
theorem par_ok {L a b : Int} (a0 : 0 ≤ a) (a1 : a < L) (b0 : 0 ≤ b) (b1 : b < L) : ∀ p ∈ parL L a b, 0 ≤ p.2.1 ∧ p.2.1 < p.2.2 ∧ p.2.2 ≤ L ∧ (p.1 = 0 ∨ p.1 = 1) := by
  rcases parL_cases a0 a1 b0 b1 with ⟨_, e⟩ | ⟨_, e⟩ | ⟨_, _, e⟩ | ⟨_, _, e⟩ <;> rw [e] <;> intro p hp <;> simp only [List.mem_cons, List.not_mem_nil, or_false] at hp
  · subst hp; dsimp only; omega
  · subst hp; dsimp only; omega
  · rcases hp with rfl | rfl <;> dsimp only <;> omega
theorem par_sum {L a b : Int} (a0 : 0 ≤ a) (a1 : a < L) (b0 : 0 ≤ b) (b1 : b < L) : ((parL L a b).map fun p => p.2.2 - p.2.1).sum = (b - a) % L := by
  rcases parL_cases a0 a1 b0 b1 with ⟨h, e⟩ | ⟨h, e⟩ | ⟨h, h2, e⟩ | ⟨h, h2, e⟩ <;> rw [e]
  · rw [Int.emod_eq_of_lt (by omega) (by omega)]; simp; omega
  · rw [Int.emod_eq_of_lt (by omega) (by omega)]; simp
  · rw [mod_neg (by omega) (by omega)]; simp; omega
  · rw [mod_neg (by omega) (by omega)]; simp; omega
theorem par_in {L a b t : Int} (a0 : 0 ≤ a) (a1 : a < L) (b0 : 0 ≤ b) (b1 : b < L) (t0 : 0 ≤ t) (t1 : t < L) : ((parL L a b).any fun p => decide (p.2.1 ≤ t) && decide (t < p.2.2)) = decide ((t - a) % L < (b - a) % L) := by
  have ht : (a ≤ t ∧ (t - a) % L = t - a) ∨ (t < a ∧ (t - a) % L = t - a + L) := by
    by_cases h : a ≤ t
    · exact .inl ⟨h, Int.emod_eq_of_lt (by omega) (by omega)⟩
    · exact .inr ⟨by omega, mod_neg (by omega) (by omega)⟩
  have hb : (a ≤ b ∧ (b - a) % L = b - a) ∨ (b < a ∧ (b - a) % L = b - a + L) := by
    by_cases h : a ≤ b
    · exact .inl ⟨h, Int.emod_eq_of_lt (by omega) (by omega)⟩
    · exact .inr ⟨by omega, mod_neg (by omega) (by omega)⟩
  rcases parL_cases a0 a1 b0 b1 with ⟨h, e⟩ | ⟨h, e⟩ | ⟨h, h2, e⟩ | ⟨h, h2, e⟩ <;> rw [e] <;> rcases ht with ⟨t2, t3⟩ | ⟨t2, t3⟩ <;> rcases hb with ⟨b2, b3⟩ | ⟨b2, b3⟩ <;> rw [t3, b3] <;> (try omega) <;> rw [Bool.eq_iff_iff] <;> simp <;> omega
theorem par_srt {L a b : Int} (a0 : 0 ≤ a) (a1 : a < L) (b0 : 0 ≤ b) (b1 : b < L) : ((parL L a b).map triO).Pairwise (fun d e => ∀ p q, triD d = some p → triD e = some q → Tri.lex3 q p = false) := by
  rcases parL_cases a0 a1 b0 b1 with ⟨h, e⟩ | ⟨h, e⟩ | ⟨h, h2, e⟩ | ⟨h, h2, e⟩ <;> rw [e]
  · exact List.Pairwise.nil
  · exact List.pairwise_singleton _ _
  · exact List.pairwise_singleton _ _
  · refine List.pairwise_cons.mpr ⟨fun d hd p q hp hq => ?_, List.pairwise_singleton _ _⟩
    simp only [List.map_cons, List.map_nil, List.mem_cons, List.not_mem_nil, or_false] at hd
    subst hd
    cases hp; cases hq
    exact decide_eq_false (by dsimp only; omega)
theorem par_len {L a b : Int} (a0 : 0 ≤ a) (a1 : a < L) (b0 : 0 ≤ b) (b1 : b < L) : (parL L a b).length ≤ 2 := by
  rcases parL_cases a0 a1 b0 b1 with ⟨h, e⟩ | ⟨h, e⟩ | ⟨h, h2, e⟩ | ⟨h, h2, e⟩ <;> rw [e] <;> simp
theorem tri_eqok {l : List (Int × Int × Int)} : EqOk 3 (.lst (l.map triO)) := by
  intro d hd
  obtain ⟨p, _, rfl⟩ := List.mem_map.mp hd
  intro x hx
  simp only [List.mem_cons, List.not_mem_nil, or_false] at hx
  rcases hx with rfl | rfl | rfl <;> trivial
def insD (t : Int) (l : List (Int × Int × Int)) (i : Nat) : D := match l[i]? with
  | some p => .bl (decide (p.2.1 ≤ t) && decide (t < p.2.2))
  | none => .non
theorem insD_some {t : Int} {l : List (Int × Int × Int)} {i : Nat} {k y z : Int} (h : l[i]? = some (k, y, z)) : insD t l i = .bl (decide (y ≤ t) && decide (t < z)) := by unfold insD; rw [h]
theorem ins_map {t : Int} {l : List (Int × Int × Int)} : (List.range (l.map triO).length).map (insD t l) = l.map fun p => D.bl (decide (p.2.1 ≤ t) && decide (t < p.2.2)) := by
  apply List.ext_getElem?
  intro i
  rw [List.getElem?_map, List.getElem?_map, List.length_map]
  by_cases hi : i < l.length
  · rw [List.getElem?_range hi, List.getElem?_eq_getElem hi]; simp [hi, insD]
  · rw [List.getElem?_eq_none (by simpa using Nat.le_of_not_lt hi), List.getElem?_eq_none (Nat.le_of_not_lt hi)]; rfl
theorem ints_of {L : Int} : ∀ {ys : List D}, (∀ y ∈ ys, ∃ t : Int, y = .int t ∧ 0 ≤ t ∧ t < L) → ∃ ts : List Int, ys = ts.map D.int ∧ ∀ t ∈ ts, 0 ≤ t ∧ t < L
  | [], _ => ⟨[], rfl, fun _ h => nomatch h⟩
  | y :: ys, h => by
    obtain ⟨t, rfl, h1⟩ := h y List.mem_cons_self
    obtain ⟨ts, rfl, h2⟩ := ints_of fun y hy => h y (List.mem_cons_of_mem _ hy)
    exact ⟨t :: ts, rfl, fun x hx => (List.mem_cons.mp hx).elim (fun e => e ▸ h1) (h2 x)⟩
def cutL (L a b : Int) : List (Int × Int × Int) := if a ≤ b then [((0 : Int), a, b)] else [(0, a, L), (1, 0, b)]
def isP (d : D) : Bool := match d with
  | .tup [_, .int x, .int y] => decide (x < y)
  | _ => false
theorem cut_filter {L a b : Int} : (List.filter isP ((cutL L a b).map triO)).map id = (parL L a b).map triO := by
  rw [List.map_id, List.filter_map]
  rfl
theorem tri_eqd {l : List (Int × Int × Int)} (h : l.length ≤ 2) : Eqd 2 (.lst (l.map triO)) := by
  refine ⟨by rw [List.length_map]; omega, fun d hd => ?_⟩
  obtain ⟨p, _, rfl⟩ := List.mem_map.mp hd
  refine ⟨by simp, fun x hx => ?_⟩
  simp only [List.mem_cons, List.not_mem_nil, or_false] at hx
  rcases hx with rfl | rfl | rfl <;> trivial
theorem cut_len {L a b : Int} : (cutL L a b).length ≤ 2 := by unfold cutL; split <;> simp
section
variable {P : Program} {w : World} {K : PySem.W.Frag} {mg : Str → Option Value} {base : Heap}
def S_refW : ASp := fun ds ms Q _ => ∃ (L M a b x y : Int), ds = [watO L a b, clkO L x, clkO M y] ∧ 0 < L ∧ L ≠ M ∧ Q (.int 2) ms
theorem ga__law_refused (T : Txt K mg) : HX.GFn P w K mg base "_law_refused" 8 ["_law_watch", "_law_start", "_law_other"] (spA K S_refW) := by
  have k_Watch := gk_Watch (P := P) (w := w) (base := base) T
  have q_Watch_contains := gq_Watch_contains (P := P) (w := w) (base := base) T
  refine LA.gfn_of T.d__law_refused T.g__law_refused sc__law_refused (by intro ds ms Q E h; unfold S_refW at h; repeat (first | (obtain ⟨rfl, _⟩ := h; rfl) | obtain ⟨_, h⟩ := h)) (fun _ _ _ _ _ _ us hl => match us, hl with | [_, _, _], _ => rfl) fun cdv A outer s H E hr => ⟨_, (LA.ass_cons (LA.as_set (i := 3) sc__law_refused.nd rfl (Or.inl rfl) LA.ae_int)
  (LA.ass_cut (LA.as_try rfl rfl sc__law_refused.nd HX.takesO (fun W pn xe tk po => (LA.ass_one (LA.as_expr (LA.ae_make tk k_Watch (hr.mono (by first | decide | omega)) rfl (LA.aa_cons (LA.ae_var (pv 1)) (LA.aa_cons (LA.ae_var (pv 2)) LA.aa_nil)))))) (LA.AHds.plain (x := "OtherDay") rfl (by decide) T.g_OtherDay (LA.tb_cons (c := "InvalidLength") (b := false) T.em_InvalidLength_OtherDay (LA.tb_cons (c := "InvalidNumber") (b := false) T.em_InvalidNumber_OtherDay (LA.tb_cons (c := "OtherDay") (b := true) T.em_OtherDay_OtherDay LA.tb_nil))) (fun a oe cls d pn hz hf => (LA.ass_one (LA.as_set (i := 3) sc__law_refused.nd rfl (Or.inl rfl) (LA.ae_bin LA.oa_add (LA.ae_var (pv 3)) LA.ae_int)))) LA.AHds.nil))
  (LA.ass_cut (LA.as_try rfl rfl sc__law_refused.nd HX.takesO (fun W pn xe tk po => (LA.ass_one (LA.as_expr (LA.ae_inO tk q_Watch_contains (hr.mono (by first | decide | omega)) (LA.ae_var (pv 2)) (LA.ae_var (pv 0)))))) (LA.AHds.plain (x := "OtherDay") rfl (by decide) T.g_OtherDay (LA.tb_cons (c := "InvalidLength") (b := false) T.em_InvalidLength_OtherDay (LA.tb_cons (c := "InvalidNumber") (b := false) T.em_InvalidNumber_OtherDay (LA.tb_cons (c := "OtherDay") (b := true) T.em_OtherDay_OtherDay LA.tb_nil))) (fun a oe cls d pn hz hf => (LA.ass_one (LA.as_set (i := 3) sc__law_refused.nd rfl (Or.inl rfl) (LA.ae_bin LA.oa_add (LA.ae_var (pv 3)) LA.ae_int)))) LA.AHds.nil))
  (LA.ass_one (LA.as_ret (LA.ae_var (pv 3))))))), fun ds ms Q E h => ?_⟩
  obtain ⟨L, M, a, b, x, y, rfl, h0, hn, q⟩ := h
  walk_at "b"
  refine ⟨fun s' ms' => ms' = ms ∧ s' = [some (.fr (watO L a b)), some (.fr (clkO L x)), some (.fr (clkO M y)), some (.fr (.int 1))], ?_, ?_⟩
  · walk_at "b"
    refine ⟨_, L, M, x, y, rfl, .inl rfl, fun h => (hn h).elim, fun _ => ?_⟩
    walk_at "b"
  · rintro s' ms' ⟨rfl, rfl⟩
    walk_at "b"
    refine ⟨fun s' ms'' => ms'' = ms' ∧ s' = [some (.fr (watO L a b)), some (.fr (clkO L x)), some (.fr (clkO M y)), some (.fr (.int 2))], ?_, ?_⟩
    · walk_at "b"
      simp only [watO]
      walk_at "b"
      refine ⟨L, M, a, b, y, rfl, h0, fun h => (hn h).elim, fun _ => ?_⟩
      walk_at "b"
      trace_state
    · rintro s' ms'' ⟨rfl, rfl⟩
      walk_at "b"
      exact q
def S_rightW : ASp := fun ds ms Q _ => ∃ (L a b : Int) (ts : List Int), ds = [dayO L, watO L a b, .int a, .int b, .lst (ts.map D.int)] ∧ 0 < L ∧ 0 ≤ a ∧ a < L ∧ 0 ≤ b ∧ b < L ∧ ts.length ≤ 1000 ∧ (∀ t ∈ ts, 0 ≤ t ∧ t < L) ∧ Q (.bl true) ms
theorem ga__law_right (T : Txt K mg) : HX.GFn P w K mg base "_law_right" 8 ["_law_day", "_law_watch", "_law_start", "_law_end", "_law_times"] (spA K S_rightW) := by
  have g__law_equal := ga__law_equal (P := P) (w := w) (base := base) T 3
  have q_Clock_eq := gq_Clock_eq (P := P) (w := w) (base := base) T
  have q_Day_call := gq_Day_call (P := P) (w := w) (base := base) T
  have q_Watch_contains := gq_Watch_contains (P := P) (w := w) (base := base) T
  have p_Day_length := gp_Day_length (P := P) (w := w) (base := base) T
  have p_Watch_length := gp_Watch_length (P := P) (w := w) (base := base) T
  have p_Watch_start := gp_Watch_start (P := P) (w := w) (base := base) T
  have p_Watch_end := gp_Watch_end (P := P) (w := w) (base := base) T
  have p_Watch_parts := gp_Watch_parts (P := P) (w := w) (base := base) T
  refine LA.gfn_of T.d__law_right T.g__law_right sc__law_right (by intro ds ms Q E h; unfold S_rightW at h; repeat (first | (obtain ⟨rfl, _⟩ := h; rfl) | obtain ⟨_, h⟩ := h)) (fun _ _ _ _ _ _ us hl => match us, hl with | [_, _, _, _, _], _ => rfl) fun cdv A outer s H E hr => ⟨_, (LA.ass_cons (LA.as_set (i := 5) sc__law_right.nd rfl (Or.inl rfl) (LA.ae_prop p_Day_length (LA.ae_var (pv 0)) (hr.mono (by first | decide | omega)) rfl))
  (LA.ass_cons (LA.as_set (i := 6) sc__law_right.nd rfl (Or.inl rfl) (LA.ae_bin LA.oa_mod (LA.ae_bin LA.oa_sub (LA.ae_var (pv 3)) (LA.ae_var (pv 2))) (LA.ae_var (pv 5))))
  (LA.ass_cons (LA.as_if (LA.at_bool (LA.aw_or (LA.at_not (LA.at_val (LA.ae_call HX.takesO g__law_equal (hr.mono (by first | decide | omega)) rfl (LA.aa_cons (LA.ae_prop p_Watch_length (LA.ae_var (pv 1)) (hr.mono (by first | decide | omega)) rfl) (LA.aa_cons (LA.ae_var (pv 6)) LA.aa_nil))))) (LA.aw_or (LA.at_not (LA.at_eqO q_Clock_eq T.nf_Clock (hr.mono (by first | decide | omega)) (LA.ae_prop p_Watch_start (LA.ae_var (pv 1)) (hr.mono (by first | decide | omega)) rfl) (LA.ae_inst HX.takesO q_Day_call T.fi_Day (LA.ae_var (pv 0)) (hr.mono (by first | decide | omega)) (LA.aa_cons (LA.ae_var (pv 2)) LA.aa_nil)))) (LA.aw_or1 (LA.at_not (LA.at_eqO q_Clock_eq T.nf_Clock (hr.mono (by first | decide | omega)) (LA.ae_prop p_Watch_end (LA.ae_var (pv 1)) (hr.mono (by first | decide | omega)) rfl) (LA.ae_inst HX.takesO q_Day_call T.fi_Day (LA.ae_var (pv 0)) (hr.mono (by first | decide | omega)) (LA.aa_cons (LA.ae_var (pv 3)) LA.aa_nil)))))))) (LA.ass_one (LA.as_ret LA.ae_bl)) LA.ass_nil)
  (LA.ass_cons (LA.as_set (i := 7) sc__law_right.nd rfl (Or.inl rfl) LA.ae_int)
  (LA.ass_cons (LA.as_for (passes_of rfl) rfl (LA.ai_items (LA.ae_prop p_Watch_parts (LA.ae_var (pv 1)) (hr.mono (by first | decide | omega)) rfl)) (LA.ag_tup (n := 3) rfl (LA.ags_cons (LA.ag_name (pg_name (i := 8) sc__law_right.nd rfl (Or.inl rfl))) (LA.ags_cons (LA.ag_name (pg_name (i := 9) sc__law_right.nd rfl (Or.inl rfl))) (LA.ags_cons (LA.ag_name (pg_name (i := 10) sc__law_right.nd rfl (Or.inl rfl))) LA.ags_nil)))) (LA.ass_cons (LA.as_set (i := 7) sc__law_right.nd rfl (Or.inl rfl) (LA.ae_bin LA.oa_sub (LA.ae_bin LA.oa_add (LA.ae_var (pv 7)) (LA.ae_var (pv 10))) (LA.ae_var (pv 9))))
  (LA.ass_one (LA.as_if (LA.at_bool (LA.aw_or (LA.at_not (LA.at_chain3 LA.oa_le LA.oa_lt LA.oa_le LA.ae_int (LA.ae_var (pv 9)) (LA.ae_var (pv 10)) (LA.ae_var (pv 5)))) (LA.aw_or1 (LA.at_cmp LA.oa_notin (LA.ae_var (pv 8)) (LA.ae_tup (LA.aa_cons LA.ae_int (LA.aa_cons LA.ae_int LA.aa_nil))) rfl)))) (LA.ass_one (LA.as_ret LA.ae_bl)) LA.ass_nil))))
  (LA.ass_cons (LA.as_if (LA.at_bool (LA.aw_or (LA.at_cmp (LA.oa_ne hr.units) (LA.ae_var (pv 7)) (LA.ae_var (pv 6)) (nomark _)) (LA.aw_or1 (LA.at_cmp (LA.oa_ne hr.units) (LA.ae_prop p_Watch_parts (LA.ae_var (pv 1)) (hr.mono (by first | decide | omega)) rfl) (LA.ae_callB LA.ca_sort3 rfl T.n_sorted (by decide +kernel) (LA.aa_cons (LA.ae_prop p_Watch_parts (LA.ae_var (pv 1)) (hr.mono (by first | decide | omega)) rfl) LA.aa_nil)) (nomark _))))) (LA.ass_one (LA.as_ret LA.ae_bl)) LA.ass_nil)
  (LA.ass_cons (LA.as_for (passes_of rfl) rfl (LA.ai_items (LA.ae_var (pv 4))) (LA.ag_name (pg_name (i := 11) sc__law_right.nd rfl (Or.inr rfl))) (LA.ass_cons (LA.as_set (i := 12) sc__law_right.nd rfl (Or.inl rfl) (LA.ae_cmp LA.oa_lt (LA.ae_bin LA.oa_mod (LA.ae_bin LA.oa_sub (LA.ae_var (pv 11)) (LA.ae_var (pv 2))) (LA.ae_var (pv 5))) (LA.ae_var (pv 6)) (nomark _)))
  (LA.ass_cons (LA.as_fgt (i := 10) (LA.as_fgt (i := 9) (LA.as_fgt (i := 8) (LA.as_set (i := 13) sc__law_right.nd rfl (Or.inl rfl) (LA.ae_callB (LA.ca_any rfl) rfl T.n_any (by decide +kernel) (LA.aa_cons (LA.ae_new (LA.fe_lc (own := [("_law_later", 8), ("_law_first", 9), ("_law_last", 10)]) rfl sc__law_right.nd (LA.ai_items (LA.ae_prop p_Watch_parts (LA.ae_var (pv 1)) (hr.mono (by first | decide | omega)) rfl)) (blkOk_by (own := [("_law_later", 8), ("_law_first", 9), ("_law_last", 10)]) (N := ["_law_day", "_law_watch", "_law_start", "_law_end", "_law_times", "_law_size", "_law_length", "_law_ticks", "_law_later", "_law_first", "_law_last", "_law_time_here", "_law_due", "_law_inside"]) (sc := defScope s__law_right) (by decide +kernel)) (by decide) (fun _ _ _ _ _ => (LA.ag_tup (n := 3) rfl (LA.ags_cons (LA.ag_name (pg_name (i := 8) sc__law_right.nd rfl (Or.inl rfl))) (LA.ags_cons (LA.ag_name (pg_name (i := 9) sc__law_right.nd rfl (Or.inl rfl))) (LA.ags_cons (LA.ag_name (pg_name (i := 10) sc__law_right.nd rfl (Or.inl rfl))) LA.ags_nil))))) (fun _ _ _ _ _ => LA.ats_nil) (fun _ _ _ _ _ => (LA.ae_chain LA.oa_le LA.oa_lt (LA.ae_var (pv 9)) (LA.ae_var (pv 11)) (LA.ae_var (pv 10)))))) LA.aa_nil))))))
  (LA.ass_one (LA.as_if (LA.at_bool (LA.aw_or (LA.at_not (LA.at_val (LA.ae_call HX.takesO g__law_equal (hr.mono (by first | decide | omega)) rfl (LA.aa_cons (LA.ae_inO HX.takesO q_Watch_contains (hr.mono (by first | decide | omega)) (LA.ae_inst HX.takesO q_Day_call T.fi_Day (LA.ae_var (pv 0)) (hr.mono (by first | decide | omega)) (LA.aa_cons (LA.ae_var (pv 11)) LA.aa_nil)) (LA.ae_var (pv 1))) (LA.aa_cons (LA.ae_var (pv 12)) LA.aa_nil))))) (LA.aw_or1 (LA.at_cmp (LA.oa_ne hr.units) (LA.ae_var (pv 13)) (LA.ae_var (pv 12)) (nomark _))))) (LA.ass_one (LA.as_ret LA.ae_bl)) LA.ass_nil)))))
  (LA.ass_one (LA.as_ret LA.ae_bl))))))))), fun ds ms Q E h => ?_⟩
  obtain ⟨L, a, b, ts, rfl, h0, a0, a1, b0, b1, hl, ht, q⟩ := h
  have am : a % L = a := Int.emod_eq_of_lt a0 a1
  have bm : b % L = b := Int.emod_eq_of_lt b0 b1
  have hok := par_ok a0 a1 b0 b1
  simp only [watO, dayO] at *
  walk_at "b"
  refine ⟨L, rfl, ?_⟩
  walk_at "b"
  refine ⟨h0, ?_⟩
  walk_at "b"
  refine ⟨L, a, b, rfl, h0, ?_⟩
  walk_at "b"
  refine ⟨by decide, _, rfl, by trivial, ?_⟩
  walk_at "b"
  refine ⟨L, a, b, rfl, ?_⟩
  simp only [clkO, dayO]
  walk_at "b"
  refine ⟨L, a, rfl, h0, ?_⟩
  simp only [clkO, dayO]
  walk_at "b"
  rw [am]
  refine ⟨L, L, a, a, rfl, ?_⟩
  walk_at "b"
  refine ⟨L, a, b, rfl, ?_⟩
  simp only [clkO, dayO]
  walk_at "b"
  refine ⟨L, b, rfl, h0, ?_⟩
  simp only [clkO, dayO]
  walk_at "b"
  rw [bm]
  refine ⟨L, L, b, b, rfl, ?_⟩
  walk_at "b"
  refine ⟨L, a, b, rfl, ?_⟩
  rw [parD_eq]
  walk_at "b"
  refine forL_at (fun i s ms' => ms' = ms ∧ ∃ u v x, s = [some (.fr (.ins "Day" [("ticks_of_day", .int L)])), some (.fr (.ins "Watch" [("own_day", .ins "Day" [("ticks_of_day", .int L)]), ("first", .int a), ("behind", .int b)])), some (.fr (.int a)), some (.fr (.int b)), some (.fr (.lst (ts.map D.int))), some (.fr (.int L)), some (.fr (.int ((b - a) % L))), some (.fr (.int (((parL L a b).take i).map fun p => p.2.2 - p.2.1).sum)), u, v, x, none, none, none]) ⟨rfl, none, none, none, rfl⟩ ?_ ?_
  · rintro i d s _ hd ⟨rfl, u, v, x, rfl⟩ N hN
    rw [List.getElem?_map] at hd
    cases en : (parL L a b)[i]? with
    | none => rw [en] at hd; cases hd
    | some p =>
      rw [en] at hd; cases hd
      obtain ⟨p0, p1, p2, p3⟩ := hok p (List.mem_of_getElem? en)
      obtain ⟨k, y, z⟩ := p
      dsimp only at p0 p1 p2 p3
      simp only [triO]
      walk_at "b"
      rw [decide_eq_true p0]
      walk_at "b"
      rw [decide_eq_true p1]
      walk_at "b"
      rw [decide_eq_true p2]
      have es : ((parL L a b).take (i + 1)).map (fun p => p.2.2 - p.2.1) = ((parL L a b).take i).map (fun p => p.2.2 - p.2.1) ++ [z - y] := by
        rw [List.take_succ, en, List.map_append]; rfl
      have e2 : (((parL L a b).take i).map fun p => p.2.2 - p.2.1).sum + z - y = (((parL L a b).take (i + 1)).map fun p => p.2.2 - p.2.1).sum := by
        rw [es, List.sum_append]; simp; omega
      rw [e2]
      rcases p3 with rfl | rfl
      · walk_at "b"
        exact hN _ _ ⟨rfl, _, _, _, rfl⟩
      · walk_at "b"
        exact hN _ _ ⟨rfl, _, _, _, rfl⟩
  · rintro s ms2 ⟨rfl, u, v, x, rfl⟩
    rw [List.length_map, List.take_length, par_sum a0 a1 b0 b1]
    walk_at "b"
    refine ⟨L, a, b, rfl, ?_⟩
    rw [parD_eq]
    walk_at "b"
    refine ⟨L, a, b, rfl, ?_⟩
    rw [parD_eq]
    walk_at "b"
    refine ⟨by have := par_len a0 a1 b0 b1; omega, fun d hd => ?_, par_srt a0 a1 b0 b1, ?_⟩
    · obtain ⟨p, _, rfl⟩ := List.mem_map.mp hd
      exact ⟨p, rfl⟩
    walk_at "b"
    refine eqDeep_self tri_eqok (by decide) ?_
    walk_at "b"
    refine forL_at (fun i s ms' => ms' = ms2 ∧ ∃ u v x y z f, s = [some (.fr (.ins "Day" [("ticks_of_day", .int L)])), some (.fr (.ins "Watch" [("own_day", .ins "Day" [("ticks_of_day", .int L)]), ("first", .int a), ("behind", .int b)])), some (.fr (.int a)), some (.fr (.int b)), some (.fr (.lst (ts.map D.int))), some (.fr (.int L)), some (.fr (.int ((b - a) % L))), some (.fr (.int ((b - a) % L))), u, v, x, y, z, f]) ⟨rfl, _, _, _, none, none, none, rfl⟩ ?_ ?_
    · rintro i d s _ hd ⟨rfl, u, v, x, y, z, f, rfl⟩ N hN
      rw [List.getElem?_map] at hd
      cases en : ts[i]? with
      | none => rw [en] at hd; cases hd
      | some t =>
        rw [en] at hd; cases hd
        obtain ⟨t0, t1⟩ := ht t (List.mem_of_getElem? en)
        walk_at "b"
        refine ⟨h0, ?_⟩
        walk_at "b"
        refine ⟨L, a, b, rfl, ?_⟩
        rw [parD_eq]
        walk_at "b"
        refine lcL_idx (insD t (parL L a b)) (by rw [List.length_map]; exact Nat.le_trans (par_len a0 a1 b0 b1) (by decide)) (fun i d hd N hN => ?_) ?_
        · rw [List.getElem?_map] at hd
          cases ep : (parL L a b)[i]? with
          | none => rw [ep] at hd; cases hd
          | some p =>
            rw [ep] at hd; cases hd
            obtain ⟨k, y, z⟩ := p
            rw [insD_some ep] at hN
            simp only [triO]
            walk_at "b"
            by_cases hy : y ≤ t
            · rw [decide_eq_true hy] at hN ⊢
              walk_at "b"
              simpa using hN
            · rw [decide_eq_false hy] at hN ⊢
              walk_at "b"
              simpa using hN
        · rw [ins_map]
          walk_at "b"
          have hin : ((parL L a b).map fun p => decide (p.2.1 ≤ t) && decide (t < p.2.2)).any id = decide ((t - a) % L < (b - a) % L) := by
            rw [List.any_map]; exact par_in a0 a1 b0 b1 t0 t1
          rw [hin]
          refine ⟨L, t, rfl, h0, ?_⟩
          simp only [clkO, dayO]
          rw [Int.emod_eq_of_lt t0 t1]
          walk_at "b"
          refine ⟨L, L, a, b, t, rfl, h0, fun _ => ?_, fun h => (h rfl).elim⟩
          walk_at "b"
          refine ⟨by decide, _, rfl, by trivial, ?_⟩
          walk_at "b"
          exact hN _ _ ⟨rfl, _, _, _, _, _, _, rfl⟩
    · rintro s _ ⟨rfl, u, v, x, y, z, f, rfl⟩
      walk_at "b"
      exact q
theorem ok_law (T : Txt K mg) {fd : FuncData} (F : HX.FdAt K "law" "law" s_law (He.ga K "law") fd) : FnOk P w K mg base (L2N.CX P w) 30 (He.ga K "law") fd ["_law_script"] (sp_law K) := by
  have g__law_random := ok__law_random (P := P) (w := w) (base := base) T
  have g__law_pick := ga__law_pick (P := P) (w := w) (base := base) T
  have g__law_below := ga__law_below (P := P) (w := w) (base := base) T
  have g__law_time := ga__law_time (P := P) (w := w) (base := base) T
  have g__law_right := ga__law_right (P := P) (w := w) (base := base) T
  have g__law_equal := ga__law_equal (P := P) (w := w) (base := base) T 3
  have g__law_refused := ga__law_refused (P := P) (w := w) (base := base) T
  have qc_Day_call := hqc_Day_call (P := P) (w := w) (base := base) T
  have k_Day := gk_Day (P := P) (w := w) (base := base) T
  have k_Watch := gk_Watch (P := P) (w := w) (base := base) T
  have q_Day_call := gq_Day_call (P := P) (w := w) (base := base) T
  have q_Clock_iadd := gq_Clock_iadd (P := P) (w := w) (base := base) T
  have q_Watch_eq := gq_Watch_eq (P := P) (w := w) (base := base) T
  have p_Watch_parts := gp_Watch_parts (P := P) (w := w) (base := base) T
  have p_Watch_length := gp_Watch_length (P := P) (w := w) (base := base) T
  refine HX.fnok_of F sc_law (fun vs H Q E h => ?_) (fun cdv A outer s H vs Q E hr h => ⟨_, pss_cons (ps_set (i := 1) sc_law.nd rfl (Or.inr rfl) (HX.pe_g g__law_random (hr.mono (by first | decide | omega)) (fun σ => L2N.passAt (W := fun cl ad _ H => E cl ad H) HX.takesO σ) rfl (pa_cons (pv 0) (pa_cons pe_int pa_nil)))) (show LA.ASs _ ⟨fun cl ad _ H => E cl ad H, none⟩ _ _ from (LA.ass_cons (LA.as_set (i := 2) sc_law.nd rfl (Or.inr rfl) (LA.ae_call HX.takesO g__law_pick (hr.mono (by first | decide | omega)) rfl (LA.aa_cons (LA.ae_var (pv 1)) (LA.aa_cons (LA.ae_lst (LA.aa_cons (LA.ae_bin LA.oa_add LA.ae_int (LA.ae_call HX.takesO g__law_below (hr.mono (by first | decide | omega)) rfl (LA.aa_cons (LA.ae_var (pv 1)) (LA.aa_cons LA.ae_int LA.aa_nil)))) (LA.aa_cons (LA.ae_bin LA.oa_add (LA.ae_bin LA.oa_pow LA.ae_int LA.ae_int) LA.ae_int) (LA.aa_cons LA.ae_int LA.aa_nil)))) LA.aa_nil))))
  (LA.ass_cons (LA.as_set (i := 3) sc_law.nd rfl (Or.inl rfl) (LA.ae_make HX.takesO k_Day (hr.mono (by first | decide | omega)) rfl (LA.aa_cons (LA.ae_var (pv 2)) LA.aa_nil)))
  (LA.ass_cons (LA.as_for (passes_of rfl) rfl (LA.ai_range1 rfl T.n_range LA.ae_int) (LA.ag_name (pg_name (i := 4) sc_law.nd rfl (Or.inl rfl))) (LA.ass_cons (LA.as_set (i := 5) sc_law.nd rfl (Or.inl rfl) (LA.ae_call HX.takesO g__law_time (hr.mono (by first | decide | omega)) rfl (LA.aa_cons (LA.ae_var (pv 1)) (LA.aa_cons (LA.ae_var (pv 2)) LA.aa_nil))))
  (LA.ass_cons (LA.as_set (i := 6) sc_law.nd rfl (Or.inl rfl) (LA.ae_call HX.takesO g__law_pick (hr.mono (by first | decide | omega)) rfl (LA.aa_cons (LA.ae_var (pv 1)) (LA.aa_cons (LA.ae_lst (LA.aa_cons (LA.ae_call HX.takesO g__law_time (hr.mono (by first | decide | omega)) rfl (LA.aa_cons (LA.ae_var (pv 1)) (LA.aa_cons (LA.ae_var (pv 2)) LA.aa_nil))) (LA.aa_cons (LA.ae_var (pv 5)) (LA.aa_cons (LA.ae_bin LA.oa_mod (LA.ae_bin LA.oa_add (LA.ae_var (pv 5)) LA.ae_int) (LA.ae_var (pv 2))) (LA.aa_cons (LA.ae_bin LA.oa_mod (LA.ae_bin LA.oa_sub (LA.ae_var (pv 5)) LA.ae_int) (LA.ae_var (pv 2))) LA.aa_nil))))) LA.aa_nil))))
  (LA.ass_cons (LA.as_set (i := 7) sc_law.nd rfl (Or.inl rfl) (LA.ae_bin LA.oa_add (LA.ae_new (LA.fe_lc (own := [("_law_k", 11)]) rfl sc_law.nd (LA.ai_range1 rfl T.n_range LA.ae_int) (blkOk_by (own := [("_law_k", 11)]) (N := ["_law_script", "_law_d", "_law_size", "_law_day", "_law_turn", "_law_start", "_law_end", "_law_times", "_law_clock", "_law_watch", "_law_cut", "_law_k", "_law_part"]) (sc := defScope s_law) (by decide +kernel)) (by decide) (fun _ _ _ _ _ => (LA.ag_name (pg_name (i := 11) sc_law.nd rfl (Or.inl rfl)))) (fun _ _ _ _ _ => LA.ats_nil) (fun _ _ _ _ _ => (LA.ae_call HX.takes0N g__law_time (hr.mono (by first | decide | omega)) rfl (LA.aa_cons (LA.ae_var (pv 1)) (LA.aa_cons (LA.ae_var (pv 2)) LA.aa_nil)))))) (LA.ae_lst (LA.aa_cons (LA.ae_var (pv 5)) (LA.aa_cons (LA.ae_var (pv 6)) (LA.aa_cons (LA.ae_bin LA.oa_mod (LA.ae_bin LA.oa_sub (LA.ae_var (pv 6)) LA.ae_int) (LA.ae_var (pv 2))) (LA.aa_cons (LA.ae_bin LA.oa_mod (LA.ae_bin LA.oa_sub (LA.ae_var (pv 5)) LA.ae_int) (LA.ae_var (pv 2))) LA.aa_nil)))))))
  (LA.ass_cut (LA.as_if (LA.at_cmp LA.oa_lt (LA.ae_var (pv 2)) LA.ae_int (nomark _)) (LA.ass_one (LA.as_set (i := 7) sc_law.nd rfl (Or.inl rfl) (LA.ae_listRg rfl rfl T.n_list rfl T.n_range (LA.ae_var (pv 2))))) LA.ass_nil)
  (LA.ass_cons (LA.as_set (i := 8) sc_law.nd rfl (Or.inl rfl) (LA.ae_inst HX.takesO qc_Day_call T.fi_Day (LA.ae_var (pv 3)) (hr.mono (by first | decide | omega)) (LA.aa_cons (LA.ae_var (pv 5)) LA.aa_nil)))
  (LA.ass_cons (LA.as_set (i := 9) sc_law.nd rfl (Or.inl rfl) (LA.ae_make HX.takesO k_Watch (hr.mono (by first | decide | omega)) rfl (LA.aa_cons (LA.ae_var (pv 8)) (LA.aa_cons (LA.ae_inst HX.takesO q_Day_call T.fi_Day (LA.ae_var (pv 3)) (hr.mono (by first | decide | omega)) (LA.aa_cons (LA.ae_var (pv 6)) LA.aa_nil)) LA.aa_nil))))
  (LA.ass_cons (LA.as_aug (i := 8) sc_law.nd rfl (Or.inl rfl) LA.ae_int q_Clock_iadd T.sf_Clock (hr.mono (by first | decide | omega)))
  (LA.ass_cons (LA.as_if (LA.at_not (LA.at_val (LA.ae_call HX.takesO g__law_right (hr.mono (by first | decide | omega)) rfl (LA.aa_cons (LA.ae_var (pv 3)) (LA.aa_cons (LA.ae_var (pv 9)) (LA.aa_cons (LA.ae_var (pv 5)) (LA.aa_cons (LA.ae_var (pv 6)) (LA.aa_cons (LA.ae_var (pv 7)) LA.aa_nil)))))))) (LA.ass_one (LA.as_ret LA.ae_bl)) LA.ass_nil)
  (LA.ass_cons (LA.as_set (i := 10) sc_law.nd rfl (Or.inl rfl) (LA.ae_lst (LA.aa_cons (LA.ae_tup (LA.aa_cons LA.ae_int (LA.aa_cons (LA.ae_var (pv 5)) (LA.aa_cons (LA.ae_var (pv 2)) LA.aa_nil)))) (LA.aa_cons (LA.ae_tup (LA.aa_cons LA.ae_int (LA.aa_cons LA.ae_int (LA.aa_cons (LA.ae_var (pv 6)) LA.aa_nil)))) LA.aa_nil))))
  (LA.ass_cut (LA.as_if (LA.at_cmp LA.oa_le (LA.ae_var (pv 5)) (LA.ae_var (pv 6)) (nomark _)) (LA.ass_one (LA.as_set (i := 10) sc_law.nd rfl (Or.inl rfl) (LA.ae_lst (LA.aa_cons (LA.ae_tup (LA.aa_cons LA.ae_int (LA.aa_cons (LA.ae_var (pv 5)) (LA.aa_cons (LA.ae_var (pv 6)) LA.aa_nil)))) LA.aa_nil)))) LA.ass_nil)
  (LA.ass_cons (LA.as_if (LA.at_not (LA.at_val (LA.ae_call HX.takesO g__law_equal (hr.mono (by first | decide | omega)) rfl (LA.aa_cons (LA.ae_prop p_Watch_parts (LA.ae_var (pv 9)) (hr.mono (by first | decide | omega)) rfl) (LA.aa_cons (LA.ae_new (LA.fe_lc (own := [("_law_part", 12)]) rfl sc_law.nd (LA.ai_items (LA.ae_var (pv 10))) (blkOk_by (own := [("_law_part", 12)]) (N := ["_law_script", "_law_d", "_law_size", "_law_day", "_law_turn", "_law_start", "_law_end", "_law_times", "_law_clock", "_law_watch", "_law_cut", "_law_k", "_law_part"]) (sc := defScope s_law) (by decide +kernel)) (by decide) (fun _ _ _ _ _ => (LA.ag_name (pg_name (i := 12) sc_law.nd rfl (Or.inl rfl)))) (fun _ _ _ _ _ => (LA.ats_one (LA.at_cmp LA.oa_lt (LA.ae_ix LA.ia_any (LA.ae_var (pv 12)) LA.ae_int (fun _ _ => rfl)) (LA.ae_ix LA.ia_any (LA.ae_var (pv 12)) LA.ae_int (fun _ _ => rfl)) (nomark _)))) (fun _ _ _ _ _ => (LA.ae_var (pv 12))))) LA.aa_nil))))) (LA.ass_one (LA.as_ret LA.ae_bl)) LA.ass_nil)
  (LA.ass_cons (LA.as_if (LA.at_bool (LA.aw_or (LA.at_not (LA.at_eqO q_Watch_eq T.nf_Watch (hr.mono (by first | decide | omega)) (LA.ae_var (pv 9)) (LA.ae_make HX.takesO k_Watch (hr.mono (by first | decide | omega)) rfl (LA.aa_cons (LA.ae_inst HX.takesO q_Day_call T.fi_Day (LA.ae_var (pv 3)) (hr.mono (by first | decide | omega)) (LA.aa_cons (LA.ae_var (pv 5)) LA.aa_nil)) (LA.aa_cons (LA.ae_inst HX.takesO q_Day_call T.fi_Day (LA.ae_var (pv 3)) (hr.mono (by first | decide | omega)) (LA.aa_cons (LA.ae_var (pv 6)) LA.aa_nil)) LA.aa_nil))))) (LA.aw_or1 (LA.at_bool (LA.aw_and (LA.at_eqO q_Watch_eq T.nf_Watch (hr.mono (by first | decide | omega)) (LA.ae_var (pv 9)) (LA.ae_make HX.takesO k_Watch (hr.mono (by first | decide | omega)) rfl (LA.aa_cons (LA.ae_inst HX.takesO q_Day_call T.fi_Day (LA.ae_var (pv 3)) (hr.mono (by first | decide | omega)) (LA.aa_cons (LA.ae_var (pv 5)) LA.aa_nil)) (LA.aa_cons (LA.ae_inst HX.takesO q_Day_call T.fi_Day (LA.ae_var (pv 3)) (hr.mono (by first | decide | omega)) (LA.aa_cons (LA.ae_bin LA.oa_add (LA.ae_var (pv 6)) LA.ae_int) LA.aa_nil)) LA.aa_nil)))) (LA.aw_and1 (LA.at_cmp LA.oa_gt (LA.ae_var (pv 2)) LA.ae_int (nomark _)))))))) (LA.ass_one (LA.as_ret LA.ae_bl)) LA.ass_nil)
  (LA.ass_one (LA.as_if (LA.at_bool (LA.aw_or (LA.at_cmp (LA.oa_ne hr.units) (LA.ae_call HX.takesO g__law_refused (hr.mono (by first | decide | omega)) rfl (LA.aa_cons (LA.ae_var (pv 9)) (LA.aa_cons (LA.ae_inst HX.takesO q_Day_call T.fi_Day (LA.ae_var (pv 3)) (hr.mono (by first | decide | omega)) (LA.aa_cons (LA.ae_var (pv 5)) LA.aa_nil)) (LA.aa_cons (LA.ae_inst HX.takesO q_Day_call T.fi_Day (LA.ae_make HX.takesO k_Day (hr.mono (by first | decide | omega)) rfl (LA.aa_cons (LA.ae_bin LA.oa_add (LA.ae_var (pv 2)) LA.ae_int) LA.aa_nil)) (hr.mono (by first | decide | omega)) (LA.aa_cons LA.ae_int LA.aa_nil)) LA.aa_nil)))) LA.ae_int (nomark _)) (LA.aw_or1 (LA.at_eqO q_Watch_eq T.nf_Watch (hr.mono (by first | decide | omega)) (LA.ae_var (pv 9)) (LA.ae_prop p_Watch_length (LA.ae_var (pv 9)) (hr.mono (by first | decide | omega)) rfl))))) (LA.ass_one (LA.as_ret LA.ae_bl)) LA.ass_nil)))))))))))))))
  (LA.ass_one (LA.as_ret LA.ae_bl)))))), ?_⟩)
  · obtain ⟨a, ns, rfl, _⟩ := h
    rfl
  obtain ⟨a, ns, rfl, hS, h63, k⟩ := h
  refine ⟨.ref a, rfl, ?_⟩
  refine ⟨a, ns, _, rfl, hS, h63, fun p H1 hp e rg => ?_⟩
  refine law_start (n := 11) hp e rg rfl rfl k ?_
  walk_at "b"
  refine below_i rfl (by decide) (by decide) fun r r0 r1 => ?_
  walk_at "b"
  refine ⟨powT (by decide) (by decide), ?_⟩
  walk_at "b"
  refine pick_i rfl (by simp) (by simp) fun x hx => ?_
  obtain ⟨L, rfl, h1⟩ : ∃ L : Int, x = .int L ∧ 1 ≤ L := by
    simp only [List.mem_cons, List.not_mem_nil, or_false] at hx
    rcases hx with h | h | h
    · exact ⟨_, h, by omega⟩
    · exact ⟨_, h, by decide⟩
    · exact ⟨_, h, by decide⟩
  walk_at "b"
  refine ⟨L, rfl, h1, ?_⟩
  walk_at "b"
  refine forL_at (fun i s ms' => ms'[0]? = some .rng ∧ ∃ a b c d e f g, s = [none, some (.fr (.ptr 0)), some (.fr (.int L)), some (.fr (dayO L)), a, b, c, d, e, f, g, none, none]) ⟨rfl, none, none, none, none, none, none, none, rfl⟩ ?_ ?_
  · rintro i d s ms hd ⟨hm, a, b, c, d', e, f, g, rfl⟩ N hN
    obtain ⟨hi, rfl⟩ := rangeD_at hd
    walk_at "b"
    refine ⟨L, rfl, hm, h1, fun a a0 a1 => ?_⟩
    walk_at "b"
    refine ⟨L, rfl, hm, h1, fun y y0 y1 => ?_⟩
    walk_at "b"
    refine ⟨by omega, by omega, ?_⟩
    refine pick_i hm (by simp) (by simp) fun z hz => ?_
    obtain ⟨b, rfl, b0, b1⟩ : ∃ b : Int, z = .int b ∧ 0 ≤ b ∧ b < L := by
      have m0 : ∀ x : Int, 0 ≤ x % L ∧ x % L < L := fun x => ⟨Int.emod_nonneg _ (by omega), Int.emod_lt_of_pos _ (by omega)⟩
      simp only [List.mem_cons, List.not_mem_nil, or_false] at hz
      rcases hz with h | h | h | h
      · exact ⟨_, h, y0, y1⟩
      · exact ⟨_, h, a0, a1⟩
      · exact ⟨_, h, m0 _⟩
      · exact ⟨_, h, m0 _⟩
    walk_at "b"
    refine lcL_all (fun d => ∃ t : Int, d = .int t ∧ 0 ≤ t ∧ t < L) (by rw [rangeD_len]; decide) (fun d hd N hN => ?_) fun ys hl hys => ?_
    · walk_at "b"
      exact ⟨L, rfl, hm, h1, fun t t0 t1 => hN _ ⟨t, rfl, t0, t1⟩⟩
    obtain ⟨ts, rfl, hts⟩ := ints_of hys
    walk_at "b"
    have hl2 : ts.length = 8 := by rw [List.length_map, rangeD_len] at hl; exact hl
    have m0 : ∀ x : Int, 0 ≤ x % L ∧ x % L < L := fun x => ⟨Int.emod_nonneg _ (by omega), Int.emod_lt_of_pos _ (by omega)⟩
    have am : a % L = a := Int.emod_eq_of_lt a0 a1
    have bm : b % L = b := Int.emod_eq_of_lt b0 b1
    refine ⟨by omega, by omega, by omega, ?_⟩
    refine ⟨fun s' ms' => ms' = ms ∧ ∃ us : List Int, us.length ≤ 1000 ∧ (∀ t ∈ us, 0 ≤ t ∧ t < L) ∧ s' = [none, some (.fr (.ptr 0)), some (.fr (.int L)), some (.fr (dayO L)), some (.fr (.int (0 + (i : Nat)))), some (.fr (.int a)), some (.fr (.int b)), some (.fr (.lst (us.map D.int))), e, f, g, none, none], ?_, ?_⟩
    · walk_at "b"
      refine br_d (fun h => ?_) (fun h => ?_)
      · walk_at "b"
        refine ⟨RgOk.of_le (by decide) (by omega) (by decide) (by omega), ?_⟩
        walk_at "b"
        refine ⟨(List.range L.toNat).map fun i => 0 + (i : Nat), by simp; omega, fun t ht => ?_, ?_⟩
        · obtain ⟨j, hj, rfl⟩ := List.mem_map.mp ht
          have := List.mem_range.mp hj
          omega
        · rw [List.map_map]; rfl
      · walk_at "b"
        refine ⟨ts ++ [a, b, (b - 1) % L, (a - 1) % L], by simp; omega, fun t ht => ?_, by rw [List.map_append]; rfl⟩
        rcases List.mem_append.mp ht with h | h
        · exact hts t h
        · simp only [List.mem_cons, List.not_mem_nil, or_false] at h
          rcases h with rfl | rfl | rfl | rfl
          · exact ⟨a0, a1⟩
          · exact ⟨b0, b1⟩
          · exact m0 _
          · exact m0 _
    · rintro s' ms' ⟨rfl, us, hul, hus, rfl⟩
      simp only [dayO]
      walk_at "b"
      refine ⟨L, a, rfl, by omega, ?_⟩
      rw [am]
      walk_at "b"
      refine ⟨L, b, rfl, by omega, ?_⟩
      rw [bm]
      walk_at "b"
      refine ⟨_, L, L, a, b, rfl, .inr ⟨_, rfl, by simp⟩, fun _ => ?_, fun h => (h rfl).elim⟩
      walk_at "b"
      have hc : (ms' ++ [cmO L a])[ms'.length]? = some (cmO L a) := by simp
      rw [hc]
      have hM0 : ((ms' ++ [cmO L a]).set ms'.length (cmO L ((a + 1) % L)))[0]? = some .rng := by
        have : 0 < ms'.length := by cases ms' with | nil => simp at hm | cons x r => simp
        rw [List.getElem?_set_ne (by omega), List.getElem?_append_left this]; exact hm
      obtain ⟨M, hM⟩ : ∃ M, M = (ms' ++ [cmO L a]).set ms'.length (cmO L ((a + 1) % L)) := ⟨_, rfl⟩
      rw [← hM] at hM0
      change _ ∧ _
      refine ⟨rfl, ?_⟩
      refine ⟨_, L, a, 1, rfl, hc, by omega, ?_⟩
      rw [← hM]
      walk_at "b"
      refine ⟨L, a, b, us, rfl, by omega, a0, a1, b0, b1, hul, hus, ?_⟩
      walk_at "b"
      refine ⟨fun s' ms2 => ms2 = M ∧ s' = [none, some (.fr (.ptr 0)), some (.fr (.int L)), some (.fr (dayO L)), some (.fr (.int (0 + (i : Nat)))), some (.fr (.int a)), some (.fr (.int b)), some (.fr (.lst (us.map D.int))), some (.fr (.ptr ms'.length)), some (.fr (watO L a b)), some (.fr (.lst ((cutL L a b).map triO))), none, none], ?_, ?_⟩
      · walk_at "b"
        unfold cutL
        refine br_d (fun h => ?_) (fun h => ?_)
        · rw [if_pos h]
          walk_at "b"
          first | done | exact ⟨rfl, rfl⟩ | rfl
        · rw [if_neg h]
          walk_at "b"
          first | done | exact ⟨rfl, rfl⟩ | rfl
      · rintro s' ms2 ⟨rfl, rfl⟩
        simp only [watO, dayO]
        walk_at "b"
        refine ⟨L, a, b, rfl, ?_⟩
        rw [parD_eq]
        walk_at "b"
        refine lcL_if id isP (by rw [List.length_map]; exact Nat.le_trans cut_len (by decide)) (fun d hd N hN => ?_) (fun d hd _ N hN => ?_) ?_
        · obtain ⟨p, _, rfl⟩ := List.mem_map.mp hd
          simp only [triO] at hN ⊢
          walk_at "b"
          exact hN
        · obtain ⟨p, _, rfl⟩ := List.mem_map.mp hd
          simp only [triO] at hN ⊢
          walk_at "b"
          exact hN
        rw [cut_filter]
        walk_at "b"
        refine ⟨by decide, _, rfl, tri_eqd (par_len a0 a1 b0 b1), ?_⟩
        walk_at "b"
        refine ⟨L, a, rfl, by omega, ?_⟩
        rw [am]
        walk_at "b"
        refine ⟨L, b, rfl, by omega, ?_⟩
        rw [bm]
        walk_at "b"
        refine ⟨_, L, L, a, b, rfl, .inl rfl, fun _ => ?_, fun h => (h rfl).elim⟩
        simp only [dayO]
        walk_at "b"
        refine ⟨L, a, b, _, rfl, .inl ⟨L, a, b, rfl, ?_⟩⟩
        rw [decide_eq_true ⟨rfl, rfl, rfl⟩]
        walk_at "b"
        refine ⟨L, a, rfl, by omega, ?_⟩
        rw [am]
        walk_at "b"
        refine ⟨L, b + 1, rfl, by omega, ?_⟩
        walk_at "b"
        refine ⟨_, L, L, a, (b + 1) % L, rfl, .inl rfl, fun _ => ?_, fun h => (h rfl).elim⟩
        simp only [dayO]
        walk_at "b"
        refine ⟨L, a, b, _, rfl, .inl ⟨L, a, (b + 1) % L, rfl, ?_⟩⟩
        by_cases hL : 1 < L
        · have hb : ¬ (L = L ∧ a = a ∧ b = (b + 1) % L) := fun z => by
            have z := z.2.2
            by_cases h : b + 1 < L
            · rw [Int.emod_eq_of_lt (by omega) h] at z; omega
            · have e : b + 1 = L := by omega
              rw [e, Int.emod_self] at z; omega
          rw [decide_eq_false hb]
          walk_at "b"
          refine ⟨L, a, rfl, by omega, ?_⟩
          rw [am]
          walk_at "b"
          refine ⟨L + 1, rfl, by omega, ?_⟩
          walk_at "b"
          refine ⟨L + 1, 0, rfl, by omega, ?_⟩
          walk_at "b"
          refine ⟨L, L + 1, a, b, a, _, rfl, by omega, by omega, ?_⟩
          walk_at "b"
          refine ⟨L, a, b, rfl, by omega, ?_⟩
          walk_at "b"
          refine ⟨L, a, b, _, rfl, .inr ⟨_, rfl, ?_⟩⟩
          walk_at "b"
          exact hN _ _ ⟨hM0, _, _, _, _, _, _, _, rfl⟩
        · have e : L = 1 := by omega
          have hb : L = L ∧ a = a ∧ b = (b + 1) % L := ⟨rfl, rfl, by subst e; omega⟩
          rw [decide_eq_true hb]
          walk_at "b"
          rw [decide_eq_false hL]
          walk_at "b"
          refine ⟨L, a, rfl, by omega, ?_⟩
          rw [am]
          walk_at "b"
          refine ⟨L + 1, rfl, by omega, ?_⟩
          walk_at "b"
          refine ⟨L + 1, 0, rfl, by omega, ?_⟩
          walk_at "b"
          refine ⟨L, L + 1, a, b, a, _, rfl, by omega, by omega, ?_⟩
          walk_at "b"
          refine ⟨L, a, b, rfl, by omega, ?_⟩
          walk_at "b"
          refine ⟨L, a, b, _, rfl, .inr ⟨_, rfl, ?_⟩⟩
          walk_at "b"
          exact hN _ _ ⟨hM0, _, _, _, _, _, _, _, rfl⟩
  · rintro s ms ⟨hm, a, b, c, d, e, f, g, rfl⟩
    walk_at "b"
    first | done | rfl
end

end LW
namespace LW
open PySem PySem.Spec PyProof.Rows L2
theorem txt_of {K : PySem.W.Frag} {h : Heap} {mg : Str → Option Value} (X : K.In h) (G : h.Ns mainGlobals mg) (c : HX.SaysX hfa hfn K) : Txt K mg :=
  ⟨He.free_ok X G (c.fact 0),
   He.free_ok X G (c.fact 1),
   He.free_ok X G (c.fact 2),
   He.cls_ok (c.fact 3),
   He.noat_ok (c.fact 4),
   HX.exk_ok X G (c.fact 5),
   He.mkr_ok (c.fact 6),
   He.glo_ok X G (c.fact 7),
   He.free_ok X G (c.fact 8),
   He.free_ok X G (c.fact 9),
   LA.own_ok (c.fact 10),
   He.cls_ok (c.fact 11),
   He.noat_ok (c.fact 12),
   He.cls_ok (c.fact 13),
   He.noat_ok (c.fact 14),
   He.noat_ok (c.fact 15),
   LA.own_ok (c.fact 16),
   He.glo_ok X G (c.fact 17),
   HX.exk_ok X G (c.fact 18),
   He.noat_ok (c.fact 19),
   He.noat_ok (c.fact 20),
   He.mkr_ok (c.fact 21),
   HX.exk_ok X G (c.fact 22),
   LA.notFirst_ok (c.fact 23),
   LA.own_ok (c.fact 24),
   He.glo_ok X G (c.fact 25),
   He.mkr_ok (c.fact 26),
   He.free_ok X G (c.fact 27),
   He.free_ok X G (c.fact 28),
   He.free_ok X G (c.fact 29),
   He.free_ok X G (c.fact 30),
   He.free_ok X G (c.fact 31),
   He.free_ok X G (c.fact 32),
   He.free_ok X G (c.fact 33),
   LA.notFirst_ok (c.fact 34),
   id (c.fact 35),
   id (c.fact 36),
   of_decide_eq_true (c.fact 37),
   of_decide_eq_true (c.fact 38),
   of_decide_eq_true (c.fact 39),
   He.glo_ok X G (c.fact 40),
   He.free_ok X G (c.fact 41),
   LA.notFirst_ok (c.fact 42),
   c.def_ 0,
   He.glo_ok X G (c.fact 43),
   c.def_ 1,
   He.glo_ok X G (c.fact 44),
   c.def_ 2,
   He.glo_ok X G (c.fact 45),
   c.def_ 3,
   He.glo_ok X G (c.fact 46),
   HX.prop_ok (c.fact 47),
   c.def_ 4,
   c.def_ 5,
   c.def_ 6,
   He.glo_ok X G (c.fact 48),
   He.meth_ok (c.fact 49),
   c.def_ 7,
   He.meth_ok (c.fact 50),
   c.def_ 8,
   He.meth_ok (c.fact 51),
   c.def_ 9,
   He.meth_ok (c.fact 52),
   c.def_ 10,
   He.meth_ok (c.fact 53),
   c.def_ 11,
   HX.prop_ok (c.fact 54),
   c.def_ 12,
   c.def_ 13,
   c.def_ 14,
   He.glo_ok X G (c.fact 55),
   c.def_ 15,
   He.glo_ok X G (c.fact 56),
   He.meth_ok (c.fact 57),
   c.def_ 16,
   He.meth_ok (c.fact 58),
   c.def_ 17,
   He.meth_ok (c.fact 59),
   c.def_ 18,
   HX.prop_ok (c.fact 60),
   c.def_ 19,
   HX.prop_ok (c.fact 61),
   c.def_ 20,
   HX.prop_ok (c.fact 62),
   c.def_ 21,
   c.def_ 22,
   c.def_ 23,
   He.glo_ok X G (c.fact 63),
   c.def_ 24,
   He.glo_ok X G (c.fact 64),
   c.def_ 25,
   He.glo_ok X G (c.fact 65),
   c.def_ 26,
   He.glo_ok X G (c.fact 66)⟩
theorem hall {P : Program} {w : World} {K : PySem.W.Frag} {h : Heap} {mg : Str → Option Value} {f : Addr} (X : K.In h) (G : h.Ns mainGlobals mg) (hlf : mg ("law" : Str) = some (.ref f)) (c : HX.SaysX hfa hfn K) :
    ∃ fd : FuncData, (∀ (s : Shared) (v : Value), BindsTo s fd ⟨[v], []⟩ [("_law_script", v)]) ∧ ∀ base : Heap, K.In base → base.Ns mainGlobals mg → FnOk P w K mg base CX0 30 f fd ["_law_script"] (sp_law K) := by
  have T := txt_of X G c
  have e := hlf.symm.trans T.g_law
  cases e
  obtain ⟨fd, F⟩ := T.d_law
  have b := FunD.bindsA (ps := ["_law_script"]) F fun _ _ _ _ _ _ us hl => match us, hl with | [_], _ => rfl
  exact ⟨fd, fun s v => b s [v] rfl, fun base _ _ => HX.fnok0 (ok_law (P := P) (w := w) (base := base) T F) (fun _ _ _ _ z => z)⟩
end LW
open PySem PySem.W PySem.Calls PyProof.Rows
set_option maxHeartbeats 0 in
theorem PySem.Challenge.cw_overmidnight_k03_whole_watches_holds : PySem.Challenge.rw_overmidnight_k03_whole_watches.Holds := by
  w_on; o_law
  refine HandSHeadRun.head_any (r := OpenLaw.row PySem.Challenge.rw_overmidnight_k03_whole_watches) (q := view (OpenLaw.row PySem.Challenge.rw_overmidnight_k03_whole_watches).prog [21]) (H := LW.hk) (ob := LW.ob) (M := 6000) (loose := LW.hnm) (d := HandSHeadRun.topDef (OpenLaw.row PySem.Challenge.rw_overmidnight_k03_whole_watches).prog 21) (kwd := []) LW.ob_eq
    (by kernel_rfl) (fun s => by kernel_rfl) LW.hrun (by kernel_rfl) (by kernel_rfl) (by kernel_rfl) (by rfl) (by first | assumption | decide +kernel) (by decide +kernel) ⟨rfl, rfl, rfl, rfl, rfl, by decide +kernel⟩ ?hw ?hc
  case hw => w_witness2
  case hc =>
    refine L2.walk_ofE (l := PySem.Challenge.rw_overmidnight_k03_whole_watches) (n := 63) (k := 30) (x := "_law_script") (CX := L2.CX0) rfl (by decide) (by kernel_rfl) ⟨rfl, by decide, by decide⟩ ?F (fun _ _ _ _ z => z)
    intro w mg fa h Y G hmg0
    obtain ⟨K, KX, c⟩ := Y
    have hmg : mg ("law" : PySem.Str) = some (.ref fa) := by
      rw [← show (HandSHeadRun.topDef (OpenLaw.row PySem.Challenge.rw_overmidnight_k03_whole_watches).prog 21).name = ("law" : PySem.Str) by kernel_rfl]
      exact hmg0
    obtain ⟨fd, hb, hF⟩ := LW.hall (P := (PySem.Challenge.rw_overmidnight_k03_whole_watches).prog) (w := w) KX G hmg c
    exact ⟨K, fd, LW.sp_law K, KX, hb, fun H a ns hl _ hS => ⟨a, ns, rfl, hS, hl, fun _ => rfl⟩, hF⟩
