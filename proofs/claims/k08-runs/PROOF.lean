import PyProof.Rows.All
import Wide.All
import OpenK.AllK
import Wide.FinOn
import KE.KStateDown
import Lean
import HandS.Base
import HandS.Call
import HandS.List
import HandS.Comp
import HandS.Ends
import HandS.Dict
import HandS.Iter
import HandS.Text
import HandS.More
import HandS.Exc
import HandS.ExcOwn
import HandS.Words
import HandS.WordsList
import HandS.WordsExc
import HandS.Wide
import HandS.Defaults
import HandS.Head0
import HandS.Head1
import HandS.Head2
import HandS.HeadEnd
import HandS.HeadHook1
import HandS.HeadHook2
import HandS.IsInst
import HandS.Property
import HandS.OwnEq
import HandS.Codes
import HandS.TryOnly
import HandS.TryMany
import HandS.ExcIs
import HandS.HotCalls
import HandS.RaiseFrom
import HandS.ExcInitHot
import KE.KCallOwn
import KE.KOpsOwn
import HandS.TupAny
import HandS.Conv
import HandS.Strs
import HandS.RaiseMore
import HandS.ListEq
import HandS.SortInts
import HandS.ExcInit
import HandS.ExcField
import KE.GoesEnum
import HandS.FStr
import PyProof.FitsReplace
import HandS.NamedTupGet
import HandS.TupMul
import HandS.Style
import HandS.DictEq
import PySem.Challenge.RW_overmidnight_k08_whole_runs
set_option Elab.async false
set_option linter.all false
set_option maxRecDepth 100000
set_option maxHeartbeats 4000000
namespace HX
open PySem PySem.Spec PyProof.Rows L2
/-! ### errors whose context is none (L2N) -/
theorem passLN {X : Cx} : Passes (L2N.CX X.prog X.w) X E0 := fun _ _ _ _ _ _ _ h => by
  obtain ⟨_, _, _, _, _, _, _, _, _, _, _, _, z⟩ := h
  exact z.elim
theorem takes0N {X : Cx} : L2N.Takes X (fun _ _ _ _ => False) := fun _ _ x => by
  obtain ⟨_, _, _, _, _, _, _, _, _, _, _, _, _, _, _, _, z⟩ := x
  exact z.elim

/-! ### a def of the text, found by its global name -/
structure GFn (P : Program) (w : World) (K : PySem.W.Frag) (mg : Str → Option Value) (base : Heap) (x : Str) (k : Nat) (ps : List Str) (sp : Sp) : Prop where
  gm : mg x = some (.ref (He.ga K x))
  kp : PySem.W.keepIn K (.ref (He.ga K x)) = true
  fn : ∃ fd, FnOk P w K mg base (L2N.CX P w) k (He.ga K x) fd ps sp ∧ Binds K fd ps []
section
variable {X : Cx} {k : Nat} {x : Str} {ps : List Str} {sp : Sp} {E : XK} {p pos : Pos} {e : Expr} {es : List Expr} {t : TA}
theorem pe_g {E : L2.St → XK} (G : GFn X.prog X.w X.K X.mg X.base x k ps sp) (hr : Room k X.A) (hx : ∀ σ, PassesAt (L2N.CX X.prog X.w) X σ (E σ)) (hg : Gl X x)
    (ha : PA X (e :: es) t) (hdb : (x == ("__debug__" : Str)) = false := by decide) (he : starEach (e :: es) X.env = (false, eval e X.env) :: starEach es X.env := by rfl) (hpl : (backTo pos (starEach es X.env)).any (·.1) = false := by rfl) :
    PE X (.Call (.Name x p) (e :: es) [] pos) (tCallS sp E t) := by
  obtain ⟨fd, F, b⟩ := G.fn
  exact pe_callS F hr hg G.gm G.kp b hx ha hdb he hpl
/-- nothing is let out of the callee -/
theorem pas0 : ∀ σ : L2.St, PassesAt (L2N.CX X.prog X.w) X σ E0 := fun σ pins H s e s' I h => passLN pins σ H s e s' I h
end
section
variable {P : Program} {w : World} {K : PySem.W.Frag} {mg : Str → Option Value} {base : Heap}
/-- the context of a def's body, written out (cxOf, to be seen through) -/
abbrev cxR (P : Program) (w : World) (K : PySem.W.Frag) (mg : Str → Option Value) (base : Heap) (N : List Str) (qual : Str) (scope : Scope) (f : Addr) (cd : Value) (A : Around) (outer : List Env) (s : Shared) (H : Hp) (E : XK) : Cx :=
  { prog := P, w := w, K := K, mg := mg, base := base, A := A.deeper (envOfC qual scope s.heap.objs.size f cd), N := N, s_0 := s, H_0 := H, env := envOfC qual scope s.heap.objs.size f cd, outer := outer,
    stack := envOfC qual scope s.heap.objs.size f cd :: outer, ex := [], calm := true, fn := fun _ => true, pn := [],
    xe := fun e s' => wpAny (model P w) (A.deeper (envOfC qual scope s.heap.objs.size f cd)) (leaving (envOfC qual scope s.heap.objs.size f cd) e) (fun _ s'' => L2N.CX P w outer H s E e s'') (fun e' s'' => L2N.CX P w outer H s E e' s'') s' }
theorem cxR_eq (P : Program) (w : World) (K : PySem.W.Frag) (mg : Str → Option Value) (base : Heap) (N : List Str) (qual : Str) (scope : Scope) (f : Addr) (cd : Value) (A : Around) (outer : List Env) (s : Shared) (H : Hp) (E : XK) :
    cxR P w K mg base N qual scope f cd A outer s H E = cxOf (L2N.CX P w) P w K mg base N qual scope f cd A outer s H E := rfl
/-- in a def that may raise: what it lets out is its own wish -/
theorem takesO {P : Program} {w : World} {K : PySem.W.Frag} {mg : Str → Option Value} {base : Heap} {N : List Str} {qual : Str} {scope : Scope} {f : Addr} {cd : Value} {A : Around} {outer : List Env} {s : Shared} {H : Hp} {E : XK} :
    L2N.Takes (cxR P w K mg base N qual scope f cd A outer s H E) (fun cls d _ H => E cls d H) := L2N.takes_of rfl rfl rfl rfl
abbrev DefAt (K : PySem.W.Frag) (x qual : Str) (st : Stmt) (f : Addr) : Prop := ∃ fd, FunD K x qual (defArgs st) (defBody st) (defScope st) [] [] f fd
abbrev FdAt (K : PySem.W.Frag) (x qual : Str) (st : Stmt) (f : Addr) (fd : FuncData) : Prop := FunD K x qual (defArgs st) (defBody st) (defScope st) [] [] f fd
theorem fnok_of {x q : Str} {st : Stmt} {f : Addr} {fd : FuncData} {N ps : List Str} {k : Nat} {sp : Sp} (F : FdAt K x q st f fd) (S : FnScope N ps (defScope st)) (len : ∀ vs H Q E, sp vs H Q E → vs.length = ps.length)
    (hbody : ∀ (cdv : Value) (A : Around) (outer : List Env) (s : Shared) (H : Hp) (vs : List V) (Q : VK) (E : XK), Room k (A.deeper (envOfC q (defScope st) s.heap.objs.size f cdv)) → sp vs H Q E →
      ∃ t, PSs (cxR P w K mg base N q (defScope st) f cdv A outer s H E) (defBody st) t ∧ t { nx := fun _ H' => Q .non H', rt := Q } (start N vs) H) :
    FnOk P w K mg base (L2N.CX P w) (k + 1) f fd ps sp := F.ok S len hbody
/-- a def that lets nothing out, whatever the word for what it lets out -/
theorem fnok0 {f : Addr} {fd : FuncData} {ps : List Str} {k : Nat} {sp : Sp} (F : FnOk P w K mg base (L2N.CX P w) k f fd ps sp) (h : ∀ vs H Q E, sp vs H Q E → sp vs H Q E0) : FnOk P w K mg base CX0 k f fd ps sp :=
  ⟨F.len, fun A outer s H args us vs Q E hr e0 b r q => codeAny_mono (F.run A outer s H args us vs Q E0 hr e0 b r (h _ _ _ _ q)) fun r s' z => by
    match r, z with
    | .ok (.ret _), z => exact z
    | .ok .next, z => exact z
    | .ok .brk, z => exact z
    | .ok .cont, z => exact z
    | .error _, ⟨_, _, _, _, _, _, _, _, _, _, _, _, z⟩ => exact z.elim⟩
theorem gfn_false {x : Str} {st : Stmt} {N ps : List Str} (D : DefAt K x x st (He.ga K x)) (gm : mg x = some (.ref (He.ga K x))) (S : FnScope N ps (defScope st))
    (hb : ∀ (kV doc pm : Value) (an : Option Addr) (cdv ct : Value) (us : List Value), us.length = ps.length → bindArgs (PySem.W.fnOf x x (defArgs st) (defBody st) (defScope st) .none kV doc pm an cdv ct) ⟨us, []⟩ = pure (ps.zip us)) : GFn P w K mg base x 1 ps (fun _ _ _ _ => False) := by
  obtain ⟨fd, F⟩ := D
  exact ⟨gm, F.kp, fd, F.ok S (fun _ _ _ _ h => h.elim) (fun _ _ _ _ _ _ _ _ _ h => h.elim), F.bindsN hb⟩
theorem gfn_of {x : Str} {st : Stmt} {N ps : List Str} {k : Nat} {sp : Sp} (D : DefAt K x x st (He.ga K x)) (gm : mg x = some (.ref (He.ga K x))) (S : FnScope N ps (defScope st)) (len : ∀ vs H Q E, sp vs H Q E → vs.length = ps.length)
    (hb : ∀ (kV doc pm : Value) (an : Option Addr) (cdv ct : Value) (us : List Value), us.length = ps.length → bindArgs (PySem.W.fnOf x x (defArgs st) (defBody st) (defScope st) .none kV doc pm an cdv ct) ⟨us, []⟩ = pure (ps.zip us))
    (hbody : ∀ (cdv : Value) (A : Around) (outer : List Env) (s : Shared) (H : Hp) (vs : List V) (Q : VK) (E : XK), Room k (A.deeper (envOfC x (defScope st) s.heap.objs.size (He.ga K x) cdv)) → sp vs H Q E →
      ∃ t, PSs (cxR P w K mg base N x (defScope st) (He.ga K x) cdv A outer s H E) (defBody st) t ∧ t { nx := fun _ H' => Q .non H', rt := Q } (start N vs) H) :
    GFn P w K mg base x (k + 1) ps sp := by
  obtain ⟨fd, F⟩ := D
  exact ⟨gm, F.kp, fd, F.ok S len hbody, F.bindsN hb⟩
end

/-! ### methods, properties, instances -/
structure GMe (P : Program) (w : World) (K : PySem.W.Frag) (mg : Str → Option Value) (base : Heap) (c m : Str) (k : Nat) (ps : List Str) (sp : Sp) : Prop where
  me : Meth K (He.ga K c) m (He.ma K (He.ga K c) m)
  cl : Cls K (He.ga K c)
  fn : ∃ fd, FnOk P w K mg base (L2N.CX P w) k (He.ma K (He.ga K c) m) fd ps sp ∧ Binds K fd ps []
/-- the getter behind a property's object -/
def pg (K : PySem.W.Frag) (C : Addr) (f : Str) : Addr := match PySem.W.recIn K (He.ma K C f) "property" with
  | some (.ref g :: _) => g
  | _ => 0
structure GPr (P : Program) (w : World) (K : PySem.W.Frag) (mg : Str → Option Value) (base : Heap) (c f : Str) (k : Nat) (sp : Sp) : Prop where
  po : PropOf K (He.ga K c) f (He.ma K (He.ga K c) f) (pg K (He.ga K c) f)
  cl : Cls K (He.ga K c)
  fn : ∃ fd, FnOk P w K mg base (L2N.CX P w) k (pg K (He.ga K c) f) fd ["self"] sp ∧ Binds K fd ["self"] []
structure GMk (P : Program) (w : World) (K : PySem.W.Frag) (mg : Str → Option Value) (base : Heap) (c : Str) (k : Nat) (ps : List Str) (sp : Sp) : Prop where
  cmk : Mk K (He.ga K c) (He.ma K (He.ga K c) "__init__")
  gm : mg c = some (.ref (He.ga K c))
  fn : ∃ fd, FnOk P w K mg base (L2N.CX P w) k (He.ma K (He.ga K c) "__init__") fd ps sp ∧ Binds K fd ps []
section
variable {P : Program} {w : World} {K : PySem.W.Frag} {mg : Str → Option Value} {base : Heap}
theorem fn_of {x q : Str} {st : Stmt} {f : Addr} {N ps : List Str} {k : Nat} {sp : Sp} (D : DefAt K x q st f) (S : FnScope N ps (defScope st)) (len : ∀ vs H Q E, sp vs H Q E → vs.length = ps.length)
    (hb : ∀ (kV doc pm : Value) (an : Option Addr) (cdv ct : Value) (us : List Value), us.length = ps.length → bindArgs (PySem.W.fnOf x q (defArgs st) (defBody st) (defScope st) .none kV doc pm an cdv ct) ⟨us, []⟩ = pure (ps.zip us))
    (hbody : ∀ (cdv : Value) (A : Around) (outer : List Env) (s : Shared) (H : Hp) (vs : List V) (Q : VK) (E : XK), Room k (A.deeper (envOfC q (defScope st) s.heap.objs.size f cdv)) → sp vs H Q E →
      ∃ t, PSs (cxR P w K mg base N q (defScope st) f cdv A outer s H E) (defBody st) t ∧ t { nx := fun _ H' => Q .non H', rt := Q } (start N vs) H) :
    ∃ fd, FnOk P w K mg base (L2N.CX P w) (k + 1) f fd ps sp ∧ Binds K fd ps [] := by
  obtain ⟨fd, F⟩ := D
  exact ⟨fd, F.ok S len hbody, F.bindsN hb⟩
end
section
variable {X : Cx} {k : Nat} {c m f : Str} {ps : List Str} {sp : Sp} {E : L2.St → XK} {pos apos p : Pos} {e o : Expr} {es : List Expr} {t : TA} {ta : TE}
/-- o.m(e, ..), what is raised wished for at the slots -/
def tMethS (C : Addr) (m : Str) (sp : Sp) (E : L2.St → XK) (ta : TE) (t : TA) : TE := fun σ H Q => ta σ H fun x H1 => ∃ a dx fs, x = .ref a ∧ H1 a = some (.ins C dx fs) ∧ fs.lookup m = none ∧ t σ H1 fun vs H2 => sp (.ref a :: vs) H2 Q (E σ)
theorem pe_gm {pl : Sem Bool} (G : GMe X.prog X.w X.K X.mg X.base c m k ps sp) (he : PE X o ta) (hr : Room k X.A) (hx : ∀ σ, PassesAt (L2N.CX X.prog X.w) X σ (E σ)) (ha : PA X (e :: es) t)
    (hst : starEach (e :: es) X.env = (false, eval e X.env) :: starEach es X.env := by rfl) (hpl : (backTo pos (starEach es X.env)).any (·.1) = false := by rfl)
    (ht : eval (.Call (.Attribute o m apos) (e :: es) [] pos) X.env = (do
      let r ← eval o X.env
      standAt apos.atName
      let (g, one) ← holding [r] (getMethod r m pl)
      callWith pos g one (backTo pos (starEach (e :: es) X.env)) (backToKw pos (keywordEach [] X.env))) := by rfl) :
    PE X (.Call (.Attribute o m apos) (e :: es) [] pos) (tMethS (He.ga X.K c) m sp E ta t) := by
  obtain ⟨fd, F, b⟩ := G.fn
  refine ⟨fun pins s σ H Q I h => ?_⟩
  refine PySem.W.methodCall_KW (pl := pl) (thn (he.run pins s σ H _ I h) fun u s1 z => ?_) ht
  obtain ⟨x, H1, I1, rx, a, dx, fs, rfl, ea, hl, q⟩ := z
  cases (show u = Value.ref a from rx)
  refine getmeth_ok I1 ea G.cl G.me hl ?_
  refine PySem.W.callWith_K (first := [.ref a]) (h₀ := X.base) I.ok.mod.kin G.me.kp (thn (ha.run pos pins s1 σ H1 _ I1 q) fun us s2 z => ?_) hst hpl
  obtain ⟨vs, H2, I2, r, q2⟩ := z
  exact ⟨I2.kIn, run_fnS (us := .ref a :: us) (vs := .ref a :: vs) F hr b (hx σ) I2 (.cons rfl r) q2⟩
theorem pe_gm0 {pl : Sem Bool} (G : GMe X.prog X.w X.K X.mg X.base c m k ps sp) (he : PE X o ta) (hr : Room k X.A) (hx : ∀ σ, PassesAt (L2N.CX X.prog X.w) X σ (E σ))
    (ht : eval (.Call (.Attribute o m apos) [] [] pos) X.env = (do
      let r ← eval o X.env
      standAt apos.atName
      let (g, one) ← holding [r] (getMethod r m pl)
      callWith pos g one (backTo pos (starEach [] X.env)) (backToKw pos (keywordEach [] X.env))) := by rfl) :
    PE X (.Call (.Attribute o m apos) [] [] pos) (tMethS (He.ga X.K c) m sp E ta tNil) := by
  obtain ⟨fd, F, b⟩ := G.fn
  refine ⟨fun pins s σ H Q I h => ?_⟩
  refine PySem.W.methodCall_KW (pl := pl) (thn (he.run pins s σ H _ I h) fun u s1 z => ?_) ht
  obtain ⟨x, H1, I1, rx, a, dx, fs, rfl, ea, hl, q⟩ := z
  cases (show u = Value.ref a from rx)
  refine getmeth_ok I1 ea G.cl G.me hl ?_
  exact PySem.W.callWith_K0 (first := [.ref a]) I1.kIn G.me.kp (run_fnS (us := [.ref a]) (vs := [.ref a]) F hr b (hx σ) I1 (.cons rfl .nil) q)
/-- o.f, a property whose getter lets nothing out -/
def tPropS (C : Addr) (sp : Sp) (ta : TE) : TE := fun σ H Q => ta σ H fun x H1 => ∃ a dx fs, x = .ref a ∧ H1 a = some (.ins C dx fs) ∧ sp [.ref a] H1 Q E0
theorem pe_gp (G : GPr X.prog X.w X.K X.mg X.base c f k sp) (he : PE X o ta) (hr : Room (k + 1) X.A) (hab : attributeBase o f X.env (eval o X.env) = eval o X.env) : PE X (.Attribute o f pos) (tPropS (He.ga X.K c) sp ta) := by
  obtain ⟨fd, F, b⟩ := G.fn
  exact pe_prop (dvs := []) (E := E0) he G.cl G.po F hr b .nil passLN hab
/-- behind an __init__ that hands back None -/
def MkQ (Q : VK) (x : Addr) : VK := fun v H2 => v = .non ∧ Q (.ref x) H2
/-- C(e, ..), what is raised wished for at the slots -/
def tMakeS (C : Addr) (sp : Sp) (E : L2.St → XK) (t : TA) : TE := fun σ H Q => t σ H fun vs H1 => ∀ x dx, H1 x = none → H1 dx = none → dx ≠ x →
  sp (.ref x :: vs) (upd (upd H1 dx (.own x)) x (.ins C dx [])) (MkQ Q x) (E σ)
theorem pe_gk (G : GMk X.prog X.w X.K X.mg X.base c k ps sp) (hr : Room (k + 1) X.A) (hx : ∀ σ, PassesAt (L2N.CX X.prog X.w) X σ (E σ)) (hg : Gl X c) (ha : PA X (e :: es) t) (hdb : (c == ("__debug__" : Str)) = false := by decide)
    (he : starEach (e :: es) X.env = (false, eval e X.env) :: starEach es X.env := by rfl) (hpl : (backTo pos (starEach es X.env)).any (·.1) = false := by rfl) : PE X (.Call (.Name c p) (e :: es) [] pos) (tMakeS (He.ga X.K c) sp E t) := by
  obtain ⟨fd, F, b⟩ := G.fn
  refine ⟨fun pins s σ H Q I h => ?_⟩
  refine wpAny_Call_Name_kw (ld_glob I hg G.gm ?_ hdb)
  refine PySem.W.callWith_K (h₀ := X.base) I.ok.mod.kin G.cmk.kp (thn (ha.run pos pins s σ H _ I h) fun us s1 z => ?_) he hpl
  obtain ⟨vs, H1, I1, r, q⟩ := z
  refine ⟨I1.kIn, ?_⟩
  have hq := q (s1.heap.objs.size + 1) s1.heap.objs.size (I1.hok.fresh (Nat.le_succ _)) (I1.hok.fresh (Nat.le_refl _)) (Nat.ne_of_lt (Nat.lt_succ_self _))
  have I2 := Inv.made (C := He.ga X.K c) I1
  have r2 : Vals (V.ref (s1.heap.objs.size + 1) :: vs) (Value.ref (s1.heap.objs.size + 1) :: us) := .cons rfl r
  have hl : (Value.ref (s1.heap.objs.size + 1) :: us).length = ps.length := by rw [← r2.length, F.len _ _ _ _ hq]
  have hb2 := b _ (Value.ref (s1.heap.objs.size + 1) :: us) I2.kIn (by rw [List.append_nil]; exact hl)
  rw [List.append_nil] at hb2
  refine wpAny_call (make_map I1.kIn G.cmk.makes G.cmk.init (beq_iff_eq.mp G.cmk.fn) (codeAny_mono (F.run _ X.stack _ _ ⟨Value.ref (s1.heap.objs.size + 1) :: us, []⟩ (Value.ref (s1.heap.objs.size + 1) :: us) _ _ (E σ) (hr.make _ us [])
    (I2.env0.make _ us []) hb2 r2 hq) fun r s' hq' => ?_))
  cases r with
  | error er => exact hx σ pins _ _ er s' I2 hq'
  | ok fl =>
    cases fl with
    | ret u =>
      obtain ⟨v, H', I3, rv, rfl, q3⟩ := I2.after hq'
      exact ⟨rv, ⟨V.ref (s1.heap.objs.size + 1), H', I3, rfl, q3⟩⟩
    | next => exact False.elim hq'
    | brk => exact False.elim hq'
    | cont => exact False.elim hq'
end

/-! ### == by an own __eq__ -/
/-- the other side's class is not asked first -/
inductive Oth (K : PySem.W.Frag) (C : Addr) (H : Hp) : V → Prop
  | ins {b D dy : Addr} {gs : List (Str × V)} (h : H b = some (.ins D dy gs)) (n : PySem.W.notFirst K C (.ref D) = true) : Oth K C H (.ref b)
  | int {i : Int} (n : PySem.W.notFirst K C (.type "int") = true) : Oth K C H (.int i)
  | tup {b : Addr} {xs : List V} (h : SqT K H b xs) (n : PySem.W.notFirst K C (.type "tuple") = true) : Oth K C H (.ref b)
def rEqO (c : Str) (sp : Sp) (E : L2.St → XK) (K : PySem.W.Frag) : R2 := fun x y H Q => ∃ a dx fs, x = .ref a ∧ H a = some (.ins (He.ga K c) dx fs) ∧ Oth K (He.ga K c) H y ∧ sp [x, y] H Q E0
section
variable {X : Cx}
theorem back_of {pins : List (Addr × Obj)} {σ : L2.St} {Q : VK} {u : Value} {s : Shared} (h : EP X pins σ Q u s) : PySem.W.CmpBack (EP X pins σ Q) u s := by
  obtain ⟨v, H, I, r, q⟩ := h
  have hh : EP X pins σ Q u s := ⟨v, H, I, r, q⟩
  cases v with
  | non => cases (show u = Value.none from r); exact hh
  | bl b => cases (show u = Value.bool b from r); exact hh
  | int i => obtain ⟨t, e⟩ := (show ∃ t, u = Value.int i t from r); subst e; exact hh
  | str y => obtain ⟨t, e⟩ := (show ∃ t, u = Value.str y t from r); subst e; exact hh
  | byt y => obtain ⟨t, e⟩ := (show ∃ t, u = Value.bytes y t from r); subst e; exact hh
  | flt y => obtain ⟨t, e⟩ := (show ∃ t, u = Value.float y t from r); subst e; exact hh
  | ref a => cases (show u = Value.ref a from r); exact hh
  | ty n => cases (show u = Value.type n from r); exact hh
theorem op_eqO {c : Str} {k : Nat} {ps : List Str} {sp : Sp} (G : GMe X.prog X.w X.K X.mg X.base c "__eq__" k ps sp) (hr : Room k X.A) : OpR X (compareOp .Eq) (rEqO c sp (fun _ => E0) X.K) := by
  obtain ⟨fd, F, b⟩ := G.fn
  intro pins s σ H x y v u Q I rx ry h
  obtain ⟨a, dx, fs, rfl, ha, ho, hq⟩ := h
  cases (show v = Value.ref a from rx)
  obtain ⟨mA, O, _⟩ := ins_get I.hok ha
  obtain ⟨od, J, _⟩ := O.look
  obtain ⟨m, hF⟩ := I.fr
  have call : wpAny (model X.prog X.w) X.A (PySem.call (.ref (He.ma X.K (He.ga X.K c) "__eq__")) [.ref a, u]) (PySem.W.CmpBack (EP X pins σ Q)) X.xe s :=
    thn (run_fnS (E := fun _ => E0) (vs := [.ref a, y]) F hr b (pas0 σ) I (.cons rfl (.cons ry .nil)) hq) fun _ _ z => back_of z
  show wpAny (model X.prog X.w) X.A (richCompare .Eq (.ref a) u) (EP X pins σ Q) X.xe s
  cases ho with
  | ins h n =>
    cases (show u = Value.ref _ from ry)
    obtain ⟨_, O2, _⟩ := ins_get I.hok h
    obtain ⟨_, J2, _⟩ := O2.look
    exact PySem.W.cmp_K (op := .Eq) hr.units0 hF I.ok.mod.kin J J2.type n G.me.at_ G.me.fn call
  | int n =>
    obtain ⟨t, rfl⟩ := (show ∃ t, u = Value.int _ t from ry)
    exact PySem.W.cmp_K (op := .Eq) hr.units0 hF I.ok.mod.kin J (PySem.W.Looks.of_pure rfl) n G.me.at_ G.me.fn call
  | tup h n =>
    cases (show u = Value.ref _ from ry)
    obtain ⟨its, rv, ht, hz⟩ := I.tuple h
    obtain ⟨o, ho, hc, _⟩ := ht
    exact PySem.W.cmp_K (op := .Eq) hr.units0 hF I.ok.mod.kin J ((PySem.W.Looks.ld ho).andThen (by rw [hc]; exact .now)) n G.me.at_ G.me.fn call
end

/-! ### an instance called -/
theorem callWith_inst {M : Model} {A : Around} {E : Value → Shared → Prop} {s : Shared} {x : Addr} {pos : Pos} {args : List (Bool × Sem Value)} {Q : Value → Shared → Prop} (hpl : args.any (·.1) = false)
    (h : wpAny M A (evalArgs (.ref x) true args []) (fun a s1 => (∃ ox C od, PySem.W.InstAt s1.heap x ox C od ∧ ox.data = .plain) ∧ wpAny M A (call (.ref x) a.pos a.kw) Q E s1) E s) : wpAny M A (callWith pos (.ref x) [] args []) Q E s := by
  unfold callWith
  refine wpAny_bind (wpAny_holding (wpAny_mono h (fun a s1 z => ?_) fun _ _ y => y))
  obtain ⟨⟨ox, C, od, I, hd⟩, z⟩ := z
  refine wpAny_bind (wpAny_standAt ?_)
  have hp : (args.any (·.1) || ([] : List (Option Str × Sem Value)).any (·.1.isNone)) = false := by rw [hpl]; rfl
  simp only [hp]
  refine wpAny_bind ((PySem.W.kco_keeper (M := M) I hd).here ?_)
  refine wpAny_bind (wpAny_mono (PySem.wpAny_operateT z) (fun r s2 hr => ?_) fun _ _ y => y)
  exact wpAny_bind (wpAny_holding (wpAny_point (wpAny_pure hr)))
/-- a callee's run, as the code of a call -/
theorem run_code {X : Cx} {CX : CXT} {k : Nat} {f : Addr} {fd : FuncData} {ps : List Str} {sp : Sp} {E : XK} {pins : List (Addr × Obj)} {σ : L2.St} {H : Hp} {s : Shared} {Q : VK} {us : List Value} {vs : List V} (F : FnOk X.prog X.w X.K X.mg X.base CX k f fd ps sp) (hr : Room k X.A) (hb : Binds X.K fd ps [])
    (hx : PassesAt CX X σ E) (I : Inv X pins σ H s) (r : Vals vs us) (h : sp vs H Q E) : codeAny (model X.prog X.w) X.A (.call (.ref f) ⟨us, []⟩) (fun r s' => match r with | .ok (.ret v) => EP X pins σ Q v s' | .ok _ => False | .error e => X.xe e s') s := by
  have hl : us.length = ps.length := by rw [← r.length, F.len _ _ _ _ h]
  have b := hb s us I.kIn (by rw [List.append_nil, hl])
  rw [List.append_nil] at b
  refine codeAny_mono (F.run X.A X.stack s H ⟨us, []⟩ us vs Q E hr I.env0 b r h) fun r s' hq => ?_
  match r, hq with
  | .error e, hq => exact hx pins H s e s' I hq
  | .ok (.ret u), hq => exact I.after hq
  | .ok .next, hq => exact False.elim hq
  | .ok .brk, hq => exact False.elim hq
  | .ok .cont, hq => exact False.elim hq
/-- e(e1, ..), e an instance whose class has __call__ -/
def tInst (C : Addr) (sp : Sp) (E : L2.St → XK) (ta : TE) (t : TA) : TE := fun σ H Q => ta σ H fun x H1 => ∃ a, x = .ref a ∧ t σ H1 fun vs H2 => (∃ dx fs, H2 a = some (.ins C dx fs)) ∧ sp (.ref a :: vs) H2 Q (E σ)
theorem pe_gi {X : Cx} {k : Nat} {c : Str} {ps : List Str} {sp : Sp} {E : L2.St → XK} {pos : Pos} {f e : Expr} {es : List Expr} {t : TA} {ta : TE} (G : GMe X.prog X.w X.K X.mg X.base c "__call__" k ps sp) (gn : PySem.W.fnIn X.K (He.ma X.K (He.ga X.K c) "__call__") = true) (he : PE X f ta)
    (hr : Room k X.A) (hx : ∀ σ, PassesAt (L2N.CX X.prog X.w) X σ (E σ)) (ha : PA X (e :: es) t)
    (hst : starEach (e :: es) X.env = (false, eval e X.env) :: starEach es X.env := by rfl) (hpl : (backTo pos (starEach es X.env)).any (·.1) = false := by rfl)
    (ht : eval (.Call f (e :: es) [] pos) X.env = (do callWith pos (← eval f X.env) [] (backTo pos (starEach (e :: es) X.env)) (backToKw pos (keywordEach [] X.env))) := by rfl) :
    PE X (.Call f (e :: es) [] pos) (tInst (He.ga X.K c) sp E ta t) := by
  obtain ⟨fd, F, b⟩ := G.fn
  refine ⟨fun pins s σ H Q I h => ?_⟩
  refine Call_ (thn (he.run pins s σ H _ I h) fun u s1 z => ?_) ht
  obtain ⟨x, H1, I1, rx, a, rfl, q⟩ := z
  cases (show u = Value.ref a from rx)
  have ev := ha.run pos pins s1 σ H1 _ I1 q
  rw [hst] at ev ⊢
  refine callWith_inst (by show (false || (backTo pos (starEach es X.env)).any (·.1)) = false; rw [hpl]; rfl) (PySem.Calls.evalArgs_plain (thn ev fun us s2 z => ?_))
  obtain ⟨vs, H2, I2, r, ⟨dx, fs, ea⟩, q2⟩ := z
  obtain ⟨mA, O, _⟩ := ins_get I2.hok ea
  obtain ⟨od, J, _⟩ := O.look
  refine ⟨⟨_, _, _, J, rfl⟩, ?_⟩
  exact wpAny_call (PySem.W.kco_code I2.kIn J rfl G.me.at_ G.me.fn gn (run_code (us := .ref a :: us) (vs := .ref a :: vs) F hr b (hx σ) I2 (.cons rfl r) q2))

/-! ### raise of an own error without arguments; except clauses, some with a name -/
structure ExK (K : PySem.W.Frag) (mg : Str → Option Value) (x : Str) : Prop where
  gm : mg x = some (.ref (He.ga K x))
  ex : PySem.W.excIn K (He.ga K x) He.veBase "ValueError.__new__" = true
  kp : PySem.W.keepIn K (.ref (He.ga K x)) = true
  sb : PySem.W.subIn K (.ref (He.ga K x)) (.type "BaseException") = some true
  ty : PySem.W.typeIn K (.ref (He.ga K x)) = some (.type "type")
section
variable {X : Cx}
theorem pmk_own0 {x : Str} {p pos : Pos} (T : ExK X.K X.mg x) (hg : Gl X x) (hdb : (x == ("__debug__" : Str)) = false := by decide) : L2N.PMk X (.Call (.Name x p) [] [] pos) (fun _ H Q => Q (.ref (He.ga X.K x)) none H) := by
  intro pins s σ H Q I h
  refine wpAny_Call_Name_kw (ld_glob I hg T.gm ?_ hdb)
  refine PySem.W.callWith_K0 I.kIn T.kp ?_
  obtain ⟨bm, N, nm, qn, bs, hdct, sn, sub, ab, col, dd, k0, k1, k2, k3, k5, mN, hC, hN, hni, TT⟩ := exc_obj I.kIn T.ex
  exact wpAny_call_exc_subT PySem.F.excBase_ValueError TT hC hN hni (fun h' e hm => L2N.mk_of I hm (raises_own T.sb T.ty) h (I.hok.gone hm.new)) (Nat.zero_le _)
theorem ps_raise0 {x : Str} {W : WX} {p pos pos' : Pos} (hc : X.calm = true) (tk : L2N.Takes X W) (T : ExK X.K X.mg x) (hg : Gl X x) (hdb : (x == ("__debug__" : Str)) = false := by decide) :
    PS X (.Raise (some (.Call (.Name x p) [] [] pos)) none pos') (fun _ σ H => W (.ref (He.ga X.K x)) none σ H) := L2N.ps_raise hc tk (pmk_own0 T hg hdb)

/-- the ends behind a suite whose name goes -/
def gone (i : Nat) (D : Ends) : Ends := { nx := fun σ H => D.nx (σ.set i none) H, rt := D.rt, bk := fun σ H => D.bk (σ.set i none) H, ct := fun σ H => D.ct (σ.set i none) H }
abbrev Cl := Value × Option Nat × (Addr → Value → Option Addr → TS)
def wCls (K : PySem.W.Frag) (Wout : WX) (D : Ends) : List Cl → WX
  | [] => Wout
  | (c, none, ts) :: r => fun cls d σ H => ∃ b, PySem.W.exmOne K cls c = some b ∧ (b = true → ∀ a, H a = none → ts a cls d D σ H) ∧ (b = false → wCls K Wout D r cls d σ H)
  | (c, some i, ts) :: r => fun cls d σ H => ∃ b, PySem.W.exmOne K cls c = some b ∧ (b = true → ∀ a, H a = none → ts a cls d (gone i D) (σ.set i (some (.ref a))) H) ∧ (b = false → wCls K Wout D r cls d σ H)
/-- a suite's reading, whatever the exception -/
abbrev SuOk (X : Cx) (su : List Stmt) (ts : Addr → Value → Option Addr → TS) : Prop :=
  ∀ (a : Addr) (oe : Obj) (cls : Value) (d : Option Addr) (pn : List (Addr × Obj)), L2N.Zn cls d oe → (∃ vs, oe.data = .fields vs) → PSs (X.suite a ((a, oe) :: pn)) su (ts a cls d)
inductive HdsA (X : Cx) : List ExceptHandler → List Cl → Prop
  | nil : HdsA X [] []
  | plain {x : Str} {c : Value} {ts : Addr → Value → Option Addr → TS} {b0 : Stmt} {su : List Stmt} {np p : Pos} {hds : List ExceptHandler} {l : List Cl} (hc : Names X x c) (hsu : SuOk X (b0 :: su) ts) (r : HdsA X hds l) :
      HdsA X (.ExceptHandler (some (.Name x np)) none (b0 :: su) p :: hds) ((c, none, ts) :: l)
  | named {x n : Str} {i : Nat} {c : Value} {ts : Addr → Value → Option Addr → TS} {b0 : Stmt} {su : List Stmt} {np p : Pos} {hds : List ExceptHandler} {l : List Cl} (hi : X.N[i]? = some n) (hl : X.env.kindOf n = some .local) (hc : Names X x c)
      (hsu : SuOk X (b0 :: su) ts) (r : HdsA X hds l) : HdsA X (.ExceptHandler (some (.Name x np)) (some n) (b0 :: su) p :: hds) ((c, some i, ts) :: l)
section
variable {pins : List (Addr × Obj)} {D : Ends} {Wout : WX}
theorem suite_end {a : Addr} {oe : Obj} {s : Shared} {f : Flow} (ok : X.Ok) (h : SP (X.suite a ((a, oe) :: (X.pn ++ pins))) [] D f s) : SP X pins D f s := by
  match f, h with
  | .next, ⟨σ, H, S, q⟩ => exact ⟨σ, H, S.unsuite ok, q⟩
  | .brk, ⟨σ, H, S, q⟩ => exact ⟨σ, H, S.unsuite ok, q⟩
  | .cont, ⟨σ, H, S, q⟩ => exact ⟨σ, H, S.unsuite ok, q⟩
  | .ret _, ⟨v, σ, H, S, r, q⟩ => exact ⟨v, σ, H, S.unsuite ok, r, q⟩
end
theorem ps_tryA {body : List Stmt} {h0 : ExceptHandler} {hds : List ExceptHandler} {l : List Cl} {pos : Pos} {tb : WX → TS} {Wout : WX} (hs : X.stack = X.env :: X.outer) (hf : X.env.frame = some X.env.locals) (hN : X.N.Nodup) (tk : L2N.Takes X Wout)
    (hb : ∀ (W : WX) (pn : List (Addr × Obj)) (xe : Value → Shared → Prop), L2N.Takes (X.tr pn xe) W → PassesOwn (model X.prog X.w) X.A X.env xe → PSs (X.tr pn xe) body (tb W))
    (hh : HdsA X (h0 :: hds) l) : PS X (.Try body (h0 :: hds) [] [] pos) (fun D σ H => tb (wCls X.K Wout D l) D σ H) := by
  refine ⟨fun pins s σ H D I h => wpAny_Try_except ?_⟩
  have ok := I.ok
  have fra : X.A.frames = some (X.env :: X.outer) := ok.frames.trans (congrArg some hs)
  have B := (hb (wCls X.K Wout D l) (X.pn ++ pins) (fun e s1 => wpAny (model X.prog X.w) X.A (noteFrame e X.env) (fun _ s2 => wpAny (model X.prog X.w) X.A (setFlight e none)
    (fun _ s3 => wpAny (model X.prog X.w) X.A (handleBy e X.env (h0 :: hds)) (SP X pins D) X.xe s3) X.xe s2) X.xe s1) (fun u s' xx => ?_) PassesOwn.looking).run [] s σ H D (I.toTry _) h
  · refine wpAny_mono B (fun f s1 z => ?_) fun _ _ z => z
    match f, z with
    | .next, ⟨σ', H', J, q⟩ => exact wpAny_execs_nil ⟨σ', H', J.ofTry ok, q⟩
    | .brk, ⟨σ', H', J, q⟩ => exact ⟨σ', H', J.ofTry ok, q⟩
    | .cont, ⟨σ', H', J, q⟩ => exact ⟨σ', H', J.ofTry ok, q⟩
    | .ret _, ⟨v, σ', H', J, r, q⟩ => exact ⟨v, σ', H', J.ofTry ok, r, q⟩
  · obtain ⟨a, G, sI, pin2, σ', H', cls, d, rfl, J2, nb, up, sky, na, os, ag, wish⟩ := xx
    have J := J2.ofTry ok
    rw [show (X.tr (X.pn ++ pins) _).stack = X.env :: X.outer from hs] at sky
    show wpAny (model X.prog X.w) X.A (noteFrame (.ref a) X.env) _ _ _
    refine L2N.Sky.land L2N.Zn.steady fra hf sky fun h3 fl up3 => ?_
    have J3 : Inv X pins σ' H' { s' with heap := h3 } := J.landed nb fl.1 (up.trans up3) os ag
    obtain ⟨o3, v3, he, hz, hd⟩ := fl.there
    have nfr : a ∉ frs (X.env :: X.outer) := fun hm => by
      obtain ⟨_, o', e', hn⟩ := fl.2.2.1.mem hm
      rw [he] at e'
      cases e'
      exact hn _ hd
    have nL : a ≠ X.env.locals := fun z => nfr (by rw [z]; exact List.mem_filterMap.mpr ⟨X.env, List.mem_cons_self, hf⟩)
    have nF : a ∉ X.fs := fun hm => let ⟨e, m, q⟩ := List.mem_filterMap.mp hm; nfr (List.mem_filterMap.mpr ⟨e, List.mem_cons_of_mem _ m, q⟩)
    have S3 := J3.suite he hd na nL nF
    have look : PySem.W.Looks (model X.prog X.w) h3 (typeOf (.ref a)) cls := fun _ _ _ _ k q => wpAny_typeOf_ref (k _ _ he) (by rw [hz.1]; exact q)
    have name : ∀ {x : Str} {c : Value} {np : Pos} {Q : Value → Shared → Prop} {E : Value → Shared → Prop}, Names X x c → Q c { s' with heap := h3 } → wpAny (model X.prog X.w) (X.A.mark (some (.ref a))) (eval (.Name x np) X.env) Q E { s' with heap := h3 } := fun hc q => by
      obtain ⟨hg, hdb, hm⟩ := hc
      rcases hm with hm | ⟨hm, hv, hn⟩
      · exact ld_glob (X := X.suite a ((a, o3) :: (X.pn ++ pins))) S3 hg hm q hdb
      · exact ld_blt (X := X.suite a ((a, o3) :: (X.pn ++ pins))) S3 hg hm hv q hn hdb
    suffices go : ∀ {hh' : List ExceptHandler} {l' : List Cl}, HdsA X hh' l' → wCls X.K Wout D l' cls d σ' H' → wpAny (model X.prog X.w) X.A (handleBy (.ref a) X.env hh') (SP X pins D) X.xe { s' with heap := h3 } from go hh wish
    intro hh' l' hk
    induction hk with
    | nil =>
      intro wo
      refine wpAny_handleBy_nil ?_
      obtain ⟨_, _, _, oe, vs, T, oT, _, ge, gz, gd, g1, _⟩ := id fl
      unfold PySem.passOn
      refine wpAny_bind (wpAny_field ge gd g1 ?_)
      rw [if_neg (show ¬ ((Value.ref T == Value.none) = true) by simp)]
      have out : wpAny (model X.prog X.w) X.A (setFlight (.ref a) X.env.frame) (fun _ s4 => wpAny (model X.prog X.w) X.A (throw (.ref a) : Sem Flow) (SP X pins D) X.xe s4) X.xe { s' with heap := h3 } := by
        rw [hf]
        refine HandSPX.setFlight_upZ fl fun h4 hh4 up4 => wpAny_throw (tk _ _ ?_)
        exact ⟨a, G, sI, pins, σ', H', cls, d, rfl, J, nb, (up.trans up3).trans up4, .inr (.inr (by rw [hs]; exact hh4)), na, os, ag, wo⟩
      first | exact wpAny_bind out | exact wpAny_bind (wpAny_pure (wpAny_bind out))
    | plain hc hsu r ih =>
      rintro ⟨b, hb1, yes, no⟩
      refine wpAny_handleBy_cons (codeAny_handlers_test ?_) (by intro q; cases q)
      refine name hc ((PySem.W.exm_one (M := model X.prog X.w) J3.kIn look hb1).here ?_)
      cases b with
      | false => exact ih (no rfl)
      | true =>
        refine codeAny_handlers_suite (HandSPX.lands_againZ fl fun h4 fl4 up4 => ?_)
        obtain ⟨o4, v4, he4, hz4, hd4⟩ := fl4.there
        have S4 := (J.landed nb fl4.1 ((up.trans up3).trans up4) os ag : Inv X pins σ' H' { s' with heap := h4 }).suite he4 hd4 na nL nF
        exact wpAny_mono ((hsu a o4 cls d (X.pn ++ pins) hz4 ⟨_, hd4⟩).run [] _ _ H' _ S4 (yes rfl a na)) (fun _ _ z => suite_end ok z) fun _ _ z => False.elim z
    | @named x n i c ts b0 su np p hds2 l2 hi hl hc hsu r ih =>
      rintro ⟨b, hb1, yes, no⟩
      refine wpAny_handleBy_cons (codeAny_handlers_test ?_) (by intro q; cases q)
      refine name hc ((PySem.W.exm_one (M := model X.prog X.w) J3.kIn look hb1).here ?_)
      cases b with
      | false => exact ih (no rfl)
      | true =>
        refine codeAny_handlers_suite_as (HandSPX.lands_againZ fl fun h4 fl4 up4 => ?_)
        obtain ⟨o4, v4, he4, hz4, hd4⟩ := fl4.there
        have S4 := (J.landed nb fl4.1 ((up.trans up3).trans up4) os ag : Inv X pins σ' H' { s' with heap := h4 }).suite he4 hd4 na nL nF
        refine store_ok (X := X.suite a ((a, o4) :: (X.pn ++ pins))) (v := .ref a) S4 hN hi (.inl hl) rfl (fun s5 S5 => ?_) (.inr hl)
        refine wpAny_mono ((hsu a o4 cls d (X.pn ++ pins) hz4 ⟨_, hd4⟩).run [] s5 _ H' _ S5 (yes rfl a na)) (fun f s6 z => ?_) fun _ _ z => False.elim z
        have lets : ∀ {σ6 : L2.St} {H6 : Hp} {Q : Shared → Prop}, Inv (X.suite a ((a, o4) :: (X.pn ++ pins))) [] σ6 H6 s6 → (∀ s7, Inv X pins (σ6.set i none) H6 s7 → Q s7) →
            wpAny (model X.prog X.w) X.A (do bindName X.env n .none; unbindBehindTheSuite X.env n p) (fun _ s7 => Q s7) X.xe s6 := fun S6 q => gone_ok (S6.unsuite ok) hN hi hl q
        match f, z with
        | .next, ⟨_, _, S6, q⟩ => exact lets S6 fun s7 J7 => ⟨_, _, J7, q⟩
        | .brk, ⟨_, _, S6, q⟩ => exact lets S6 fun s7 J7 => ⟨_, _, J7, q⟩
        | .cont, ⟨_, _, S6, q⟩ => exact lets S6 fun s7 J7 => ⟨_, _, J7, q⟩
        | .ret _, ⟨_, _, _, S6, r6, q⟩ => exact lets S6 fun s7 J7 => ⟨_, _, _, J7, r6, q⟩
/-- isinstance(e, c) in a suite: e is the exception that is handled -/
def rIsX (K : PySem.W.Frag) (a : Addr) (cls : Value) (d : Option Addr) : List V → Hp → VK → Prop := fun xs H Q => ∃ D, cls = .ref D ∧ d = none ∧ ExcC K D ∧ rIsE K D a xs H Q
theorem call_isX {a : Addr} {cls : Value} {d : Option Addr} {oe : Obj} {pn : List (Addr × Obj)} (hz : L2N.Zn cls d oe) (hf : ∃ vs, oe.data = .fields vs) : CallR (X.suite a ((a, oe) :: pn)) (.builtin "isinstance") (rIsX X.K a cls d) := fun pins s σ H xs us Q I r h => by
  obtain ⟨D, rfl, rfl, C, h⟩ := h
  exact call_isE C hz.zc hf pins s σ H xs us Q I r h
end

/-! ### heaps: all but d stays -/
def ExB (d : Addr) (H H' : Hp) : Prop := ∀ a o, a ≠ d → H a = some o → H' a = some o
theorem ExB.refl (d : Addr) (H : Hp) : ExB d H H := fun _ _ _ h => h
theorem ExB.trans {d : Addr} {H H1 H2 : Hp} (a : ExB d H H1) (b : ExB d H1 H2) : ExB d H H2 := fun c o n h => b c o n (a c o n h)
theorem ExB.of {d : Addr} {H H' : Hp} (h : Same H H') : ExB d H H' := fun c o _ e => h c o e
theorem ExB.upd2 {d : Addr} {H H1 : Hp} {o : HO} (e : ExB d H H1) : ExB d H (upd H1 d o) := fun c u n q => by rw [upd_ne n]; exact e c u n q
theorem ExB.updd {d : Addr} {H : Hp} {o : HO} : ExB d H (upd H d o) := fun c u n e => by rw [upd_ne n]; exact e
theorem Same.app {H H' : Hp} {p : Addr} {o : HO} (e : Same H H') (h : H p = none) : Same H (upd H' p o) := fun c u q => by rw [upd_ne (ne_of_none q h)]; exact e c u q
theorem Same.new {H : Hp} {p : Addr} {o : HO} (h : H p = none) : Same H (upd H p o) := fun c u e => by rw [upd_ne (ne_of_none e h)]; exact e

/-! ### the steps of a reading -/
section
variable {σ : L2.St} {H : Hp} {Q : VK} {QT : Bool → Hp → Prop} {QA : List V → Hp → Prop} {i : Nat} {v x y z : V} {ta tb te : TE} {r : R2} {m n : Int} {D : Ends} {t1 t2 : TS} {tt tu : TT} {tr : TA} {g : TG} {K : PySem.W.Frag}
theorem z_var (h : σ[i]? = some (some v)) (q : Q v H) : tVar i σ H Q := ⟨v, h, q⟩
theorem z_c (q : Q v H) : tC v σ H Q := q
theorem z_op (q : ta σ H fun x H1 => tb σ H1 fun y H2 => r x y H2 Q) : tOp r ta tb σ H Q := q
theorem z_un {r : V → Hp → VK → Prop} (q : ta σ H fun x H1 => r x H1 Q) : tUn r ta σ H Q := q
theorem z_I0 {f : Int → Int → V} (q : Q (f m n) H) : rI0 f (.int m) (.int n) H Q := ⟨m, n, rfl, rfl, q⟩
theorem z_I {C : Int → Int → Prop} {f : Int → Int → V} (c : C m n) (q : Q (f m n) H) : rI C f (.int m) (.int n) H Q := ⟨m, n, rfl, rfl, c, q⟩
theorem z_U {f : Int → V} (q : Q (f m) H) : rU f (.int m) H Q := ⟨m, rfl, q⟩
theorem z_eq (c : scal x y = true) (q : Q (.bl (decide (x = y))) H) : rEq x y H Q := ⟨c, q⟩
theorem z_ne (c : scal x y = true) (q : Q (.bl (!decide (x = y))) H) : rNe x y H Q := ⟨c, q⟩
theorem z_test (q : te σ H fun x H' => ∃ k, x = .bl k ∧ QT k H') : tTest te σ H QT := q
theorem z_tB (q : te σ H fun x H' => ∃ k, x = .bl k ∧ QT k H') : tB te σ H QT := q
theorem z_bl {k : Bool} {p : Bool → Prop} (q : p k) : ∃ k', V.bl k = .bl k' ∧ p k' := ⟨k, rfl, q⟩
theorem z_and (q : tt σ H fun c H1 => if c = true then tu σ H1 QT else QT false H1) : tAnd tt tu σ H QT := q
theorem z_or (q : tt σ H fun c H1 => if c = true then QT true H1 else tu σ H1 QT) : tOr tt tu σ H QT := q
theorem z_not (q : tt σ H fun c H1 => QT (!c) H1) : tNot tt σ H QT := q
theorem z_andV (q : ta σ H fun x H1 => ∃ c, x = .bl c ∧ if c = true then tb σ H1 Q else Q (.bl false) H1) : tAndV ta tb σ H Q := q
theorem z_orV (q : ta σ H fun x H1 => ∃ c, x = .bl c ∧ if c = true then Q (.bl true) H1 else tb σ H1 Q) : tOrV ta tb σ H Q := q
theorem z_notV (q : ta σ H fun x H1 => ∃ c, x = .bl c ∧ Q (.bl (!c)) H1) : tNotV ta σ H Q := q
theorem z_ifE (q : tt σ H fun c H1 => if c = true then ta σ H1 Q else tb σ H1 Q) : tIf tt ta tb σ H Q := q
theorem z_seq (q : t1 { D with nx := t2 D } σ H) : tSeq t1 t2 D σ H := q
theorem z_next (q : D.nx σ H) : tNext D σ H := q
theorem z_asg (q : te σ H fun x H1 => g x σ H1 D.nx) : tAsg te g D σ H := q
theorem z_name {QN : L2.St → Hp → Prop} (q : QN (σ.set i (some v)) H) : gName i v σ H QN := q
theorem z_sub {QN : L2.St → Hp → Prop} {t : TSet} (q : ta σ H fun o H1 => tb σ H1 fun i H2 => t o i v H2 fun H3 => QN σ H3) : gSub ta tb t v σ H QN := q
theorem z_ret (q : te σ H D.rt) : tRet te D σ H := q
theorem z_retN (q : D.rt .non H) : tRetN D σ H := q
theorem z_drop (q : te σ H fun _ H1 => D.nx σ H1) : tDrop te D σ H := q
theorem z_if (q : tt σ H fun b H1 => if b = true then t1 D σ H1 else t2 D σ H1) : tIfS tt t1 t2 D σ H := q
theorem z_cb {r : List V → Hp → VK → Prop} (q : tr σ H fun vs H1 => r vs H1 Q) : tCB r tr σ H Q := q
theorem z_nil (q : QA [] H) : tNil σ H QA := q
theorem z_cons (q : ta σ H fun x H1 => tr σ H1 fun xs H2 => QA (x :: xs) H2) : tCons ta tr σ H QA := q
theorem z_call {sp : Sp} {dvs : List V} {E : XK} (q : tr σ H fun vs H1 => sp (vs ++ dvs) H1 Q E) : tCall sp dvs E tr σ H Q := q
theorem z_callS {sp : Sp} {E : L2.St → XK} (q : tr σ H fun vs H1 => sp vs H1 Q (E σ)) : tCallS sp E tr σ H Q := q
theorem z_lst (q : tr σ H fun xs H1 => xs.length ≤ sizeLine ∧ ∀ p, H1 p = none → Q (.ref p) (upd H1 p (.lst xs))) : tLst tr σ H Q := q
theorem z_tup (q : tr σ H fun xs H1 => xs.length ≤ sizeLine ∧ ∀ p, H1 p = none → Q (.ref p) (upd H1 p (.tup xs))) : tTup tr σ H Q := q
theorem z_new {xs : List V} {P : Addr → Prop} (h : xs.length ≤ 1000) (q : ∀ p, H p = none → P p) : xs.length ≤ sizeLine ∧ ∀ p, H p = none → P p := ⟨Nat.le_trans h (by decide), q⟩
theorem z_ixL {p : Addr} {xs : List V} (h : SqL K H p xs) (a : atI xs m = some v) (q : Q v H) : rIxL K (.ref p) (.int m) H Q := ⟨p, xs, m, v, rfl, rfl, h, a, q⟩
theorem z_ixT {p : Addr} {xs : List V} (h : SqT K H p xs) (a : atI xs m = some v) (q : Q v H) : rIxT K (.ref p) (.int m) H Q := ⟨p, xs, m, v, rfl, rfl, h, a, q⟩
theorem z_setL {p : Addr} {xs : List V} {j : Nat} {QH : Hp → Prop} (h : H p = some (.lst xs)) (a : ixN xs.length m = some j) (q : QH (upd H p (.lst (xs.set j v)))) : rSetL (.ref p) (.int m) v H QH := ⟨p, xs, m, j, rfl, rfl, h, a, q⟩
theorem z_bm {T : String} {r : V → List V → Hp → VK → Prop} (q : te σ H fun x H1 => tyV K T x H1 ∧ tr σ H1 fun xs H2 => r x xs H2 Q) : tBM K T r te tr σ H Q := q
theorem z_bm0 {T : String} {r : V → List V → Hp → VK → Prop} (q : te σ H fun x H1 => tyV K T x H1 ∧ r x [] H1 Q) : tBM0 K T r te σ H Q := q
theorem z_tyL {p : Addr} {xs : List V} {P : Prop} (h : H p = some (.lst xs)) (q : P) : tyV K "list" (.ref p) H ∧ P := ⟨.inl ⟨rfl, _, SqL.of h⟩, q⟩
theorem z_popAt {p : Addr} {xs : List V} {j : Nat} (h : H p = some (.lst xs)) (h1 : -(2 ^ 63) ≤ m) (h2 : m < 2 ^ 63) (a : seqIndex? m xs.length = some j) (b : xs[j]? = some y) (q : Q y (upd H p (.lst (xs.eraseIdx j)))) : rPopAt (.ref p) [.int m] H Q := ⟨p, xs, m, j, y, rfl, rfl, h, h1, h2, a, b, q⟩
theorem z_t {P Q : Prop} (q : P) : if true = true then P else Q := q
theorem z_f {P Q : Prop} (q : Q) : if false = true then P else Q := q
theorem z_dt {c P Q : Prop} [Decidable c] (h : c) (q : P) : if decide c = true then P else Q := by rw [if_pos (decide_eq_true h)]; exact q
theorem z_df {c P Q : Prop} [Decidable c] (h : ¬ c) (q : Q) : if decide c = true then P else Q := by rw [if_neg (by rw [decide_eq_false h]; decide)]; exact q
theorem z_n1 {P Q : Prop} (q : Q) : if (!true) = true then P else Q := q
theorem z_n0 {P Q : Prop} (q : P) : if (!false) = true then P else Q := q
theorem z_nb {b : Bool} {P Q : Prop} (q : if b = true then Q else P) : if (!b) = true then P else Q := by cases b <;> exact q
theorem z_d2 {c P Q : Prop} [Decidable c] (h1 : c → P) (h2 : ¬ c → Q) : if decide c = true then P else Q := by
  by_cases h : c
  · exact z_dt h (h1 h)
  · exact z_df h (h2 h)
theorem z_b2 {b : Bool} {P Q : Prop} (h1 : b = true → P) (h2 : b = false → Q) : if b = true then P else Q := by
  cases b with
  | true => exact h1 rfl
  | false => exact h2 rfl
theorem fm_eq {a n : Int} (h : 0 < n) : a.fmod n = a % n := Int.fmod_eq_emod_of_nonneg a (Int.le_of_lt h)
theorem fm_nn {a n : Int} (h : 0 < n) : 0 ≤ a.fmod n := by rw [fm_eq h]; exact Int.emod_nonneg a (by omega)
theorem fm_lt {a n : Int} (h : 0 < n) : a.fmod n < n := by rw [fm_eq h]; exact Int.emod_lt_of_pos a h
theorem fd_eq {a n : Int} (h : 0 < n) : a.fdiv n = a / n := Int.fdiv_eq_ediv_of_nonneg a (Int.le_of_lt h)
theorem z_di {m n : Int} {P Q : Prop} (q : if decide (m = n) = true then P else Q) : if decide (V.int m = V.int n) = true then P else Q := by
  have e : decide (V.int m = V.int n) = decide (m = n) := by
    by_cases h : m = n
    · subst h; simp
    · rw [decide_eq_false h, decide_eq_false (fun e => h (V.int.inj e))]
  rw [e]; exact q
theorem dec_i {m n : Int} : decide (V.int m = V.int n) = decide (m = n) := by
  by_cases h : m = n
  · subst h; simp
  · rw [decide_eq_false h, decide_eq_false (fun e => h (V.int.inj e))]
theorem atc {α : Type} {xs : List α} {m : Int} {v : α} (j : Nat) (e : m = (j : Int)) (h : xs[j]? = some v) : atI xs m = some v := by rw [e]; exact atI_nat h
theorem ixc {n : Nat} {m : Int} (j : Nat) (e : m = (j : Int)) (h : j < n) : ixN n m = some j := by
  unfold ixN
  rw [if_pos (by omega), if_pos (by omega), e]
  simp
theorem sqc {n : Nat} {m : Int} (j : Nat) (e : m = (j : Int)) (h : j < n) : seqIndex? m n = some j := (ixN_seq (ixc j e h)).1
/-- int of an int, of a truth value -/
def rIntI : List V → Hp → VK → Prop := fun xs H Q => ∃ i, xs = [.int i] ∧ Q (.int i) H
def rIntB : List V → Hp → VK → Prop := fun xs H Q => ∃ k, xs = [.bl k] ∧ Q (.int (if k then 1 else 0)) H
theorem z_intI (q : Q (.int m) H) : rIntI [.int m] H Q := ⟨m, rfl, q⟩
theorem z_intB {k : Bool} (q : Q (.int (if k then 1 else 0)) H) : rIntB [.bl k] H Q := ⟨k, rfl, q⟩
def rAbs : List V → Hp → VK → Prop := fun xs H Q => ∃ i, xs = [.int i] ∧ Q (.int (if i < 0 then -i else i)) H
theorem z_abs (q : Q (.int (if m < 0 then -m else m)) H) : rAbs [.int m] H Q := ⟨m, rfl, q⟩
def rListOf (K : PySem.W.Frag) : List V → Hp → VK → Prop := fun xs H Q => ∃ p ys, xs = [.ref p] ∧ (SqL K H p ys ∨ SqT K H p ys) ∧ ∀ l, H l = none → Q (.ref l) (upd H l (.lst ys))
theorem z_listL {p : Addr} {ys : List V} (h : SqL K H p ys) (q : ∀ l, H l = none → Q (.ref l) (upd H l (.lst ys))) : rListOf K [.ref p] H Q := ⟨p, ys, rfl, .inl h, q⟩
theorem z_listT {p : Addr} {ys : List V} (h : SqT K H p ys) (q : ∀ l, H l = none → Q (.ref l) (upd H l (.lst ys))) : rListOf K [.ref p] H Q := ⟨p, ys, rfl, .inr h, q⟩
def rTupOf (K : PySem.W.Frag) : List V → Hp → VK → Prop := fun xs H Q => ∃ p ys, xs = [.ref p] ∧ SqL K H p ys ∧ ∀ l, H l = none → Q (.ref l) (upd H l (.tup ys))
theorem z_tupL {p : Addr} {ys : List V} (h : SqL K H p ys) (q : ∀ l, H l = none → Q (.ref l) (upd H l (.tup ys))) : rTupOf K [.ref p] H Q := ⟨p, ys, rfl, h, q⟩
def rLenSq (K : PySem.W.Frag) : List V → Hp → VK → Prop := fun xs H Q => ∃ p ys, xs = [.ref p] ∧ (SqL K H p ys ∨ SqT K H p ys) ∧ Q (.int ys.length) H
theorem z_lenL {p : Addr} {ys : List V} (h : SqL K H p ys) (q : Q (.int ys.length) H) : rLenSq K [.ref p] H Q := ⟨p, ys, rfl, .inl h, q⟩
theorem z_lenT {p : Addr} {ys : List V} (h : SqT K H p ys) (q : Q (.int ys.length) H) : rLenSq K [.ref p] H Q := ⟨p, ys, rfl, .inr h, q⟩
end
def rIxA (K : PySem.W.Frag) : R2 := fun x y H Q => ∃ p xs i v, x = .ref p ∧ y = .int i ∧ (SqL K H p xs ∨ SqT K H p xs) ∧ atI xs i = some v ∧ Q v H
theorem z_ixA {K : PySem.W.Frag} {H : Hp} {Q : VK} {p : Addr} {xs : List V} {m : Int} {v : V} (h : SqL K H p xs ∨ SqT K H p xs) (a : atI xs m = some v) (q : Q v H) : rIxA K (.ref p) (.int m) H Q := ⟨p, xs, m, v, rfl, rfl, h, a, q⟩
section
variable {X : Cx}
theorem ix_any : IxR X (rIxA X.K) := by
  have h := (ix_list (X := X)).or (ix_tup (X := X))
  intro b hb pins s σ H x y v u Q I rx ry q
  obtain ⟨p, xs, i, z, e1, e2, hs, ha, q⟩ := q
  refine h b hb pins s σ H x y v u Q I rx ry ?_
  rcases hs with hs | hs
  · exact .inl ⟨p, xs, i, z, e1, e2, hs, ha, q⟩
  · exact .inr ⟨p, xs, i, z, e1, e2, hs, ha, q⟩
theorem call_intI : CallR X (.type "int") rIntI := fun pins s σ H xs us Q I r h => by
  obtain ⟨i, e, q⟩ := h
  exact call_int1 pins s σ H xs us Q I r (.inl ⟨i, e, q⟩)
theorem call_intB : CallR X (.type "int") rIntB := fun pins s σ H xs us Q I r h => by
  obtain ⟨i, e, q⟩ := h
  exact call_int1 pins s σ H xs us Q I r (.inr ⟨i, e, q⟩)
theorem call_absI : CallR X (.builtin "abs") rAbs := fun pins s σ H xs us Q I r h => call_abs pins s σ H xs us Q I r h
theorem call_listOf : CallR X (.type "list") (rListOf X.K) := fun pins s σ H xs us Q I r h => call_list_of pins s σ H xs us Q I r h
theorem call_tupOf : CallR X (.type "tuple") (rTupOf X.K) := fun pins s σ H xs us Q I r h => by
  obtain ⟨p, ys, e, hS, q⟩ := h
  exact call_tuple_of pins s σ H xs us Q I r ⟨p, ys, e, .inl ⟨hS, q⟩⟩
theorem call_lenSq : CallR X (.builtin "len") (rLenSq X.K) := fun pins s σ H xs us Q I r h => call_len_seq pins s σ H xs us Q I r h
end

theorem Same.made {H : Hp} {x dx : Addr} {o1 o2 o3 : HO} (hx : H x = none) (hd : H dx = none) : Same H (upd (upd (upd H dx o1) x o2) x o3) := fun c u e => by
  rw [upd_ne (ne_of_none e hx), upd_ne (ne_of_none e hx), upd_ne (ne_of_none e hd)]
  exact e
theorem ExB.rd {d b : Addr} {H H' : Hp} {u : HO} (e : ExB d H H') (n : b ≠ d) (h : Rd H b u) : Rd H' b u := by
  rcases h with h | ⟨o, h⟩
  · exact .inl (e _ _ n h)
  · exact .inr ⟨o, e _ _ n h⟩
theorem ExB.sl {K : PySem.W.Frag} {d b : Addr} {H H' : Hp} {xs : List V} (e : ExB d H H') (n : b ≠ d) (h : SqL K H b xs) : SqL K H' b xs := by
  rcases h with h | h
  · exact .inl (e.rd n h)
  · exact .inr h
theorem ExB.st {K : PySem.W.Frag} {d b : Addr} {H H' : Hp} {xs : List V} (e : ExB d H H') (n : b ≠ d) (h : SqT K H b xs) : SqT K H' b xs := by
  rcases h with h | h
  · exact .inl (e.rd n h)
  · exact .inr h
theorem Same.st {K : PySem.W.Frag} {b : Addr} {H H' : Hp} {xs : List V} (e : Same H H') (h : SqT K H b xs) : SqT K H' b xs := (ExB.of (d := b + 1) e).st (Nat.ne_of_lt (Nat.lt_succ_self b)) h
theorem Same.sl {K : PySem.W.Frag} {b : Addr} {H H' : Hp} {xs : List V} (e : Same H H') (h : SqL K H b xs) : SqL K H' b xs := (ExB.of (d := b + 1) e).sl (Nat.ne_of_lt (Nat.lt_succ_self b)) h

/-! ### fields, calls of methods, kinds: steps -/
theorem lk0 {f : Str} {v : V} {r : List (Str × V)} : List.lookup f ((f, v) :: r) = some v := by simp [List.lookup]
theorem lk1 {f g : Str} {x : V} {r : List (Str × V)} {o : Option V} (h : (g == f) = false) (q : List.lookup g r = o) : List.lookup g ((f, x) :: r) = o := by simp only [List.lookup, h]; exact q
theorem pf_nil {f : Str} {v : V} : putF f v [] = [(f, v)] := rfl
theorem pf_hit {f : Str} {v x : V} {r : List (Str × V)} : putF f v ((f, x) :: r) = (f, v) :: r := if_pos rfl
theorem pf_miss {f g : Str} {v x : V} {r r' : List (Str × V)} (h : ¬ g = f) (q : putF f v r = r') : putF f v ((g, x) :: r) = (g, x) :: r' := by
  show (if g = f then _ else (g, x) :: putF f v r) = _
  rw [if_neg h, q]
def FldK (K : PySem.W.Frag) (f : Str) (x : V) (H : Hp) (Q : VK) : Prop := ∃ a C dx fs v, x = .ref a ∧ H a = some (.ins C dx fs) ∧ Cls K C ∧ NoAttr K C f ∧ fs.lookup f = some v ∧ Q v H
def SFldK (K : PySem.W.Frag) (f : Str) (y x : V) (H : Hp) (P : Hp → Prop) : Prop := ∃ a C dx fs, x = .ref a ∧ H a = some (.ins C dx fs) ∧ Cls K C ∧ NoAttr K C f ∧ fs.length < 1000 ∧ P (upd H a (.ins C dx (putF f y fs)))
def MethK (C : Addr) (m : Str) (x : V) (H : Hp) (P : Addr → Prop) : Prop := ∃ a dx fs, x = .ref a ∧ H a = some (.ins C dx fs) ∧ fs.lookup m = none ∧ P a
def PropK (C : Addr) (x : V) (H : Hp) (P : Addr → Prop) : Prop := ∃ a dx fs, x = .ref a ∧ H a = some (.ins C dx fs) ∧ P a
def InstK (x : V) (P : Addr → Prop) : Prop := ∃ a, x = .ref a ∧ P a
def CallK (C a : Addr) (H : Hp) (P : Prop) : Prop := (∃ dx fs, H a = some (.ins C dx fs)) ∧ P
section
variable {σ : L2.St} {H : Hp} {Q : VK} {K : PySem.W.Frag} {te tv : TE} {D : Ends} {f : Str} {p C dx : Addr} {fs fs' : List (Str × V)} {v : V} {tr : TA}
theorem z_fld (q : te σ H fun x H1 => FldK K f x H1 Q) : tFld K te f σ H Q := q
theorem z_fld2 (h : H p = some (.ins C dx fs)) (c : Cls K C) (n : NoAttr K C f) (l : fs.lookup f = some v) (q : Q v H) : FldK K f (.ref p) H Q := ⟨p, C, dx, fs, v, rfl, h, c, n, l, q⟩
theorem z_sfld (q : tv σ H fun y H1 => te σ H1 fun x H2 => SFldK K f y x H2 fun H3 => D.nx σ H3) : sFld K te tv f D σ H := q
theorem z_sfld2 {P : Hp → Prop} (h : H p = some (.ins C dx fs)) (c : Cls K C) (n : NoAttr K C f) (z : fs.length < 1000) (e : putF f v fs = fs') (q : P (upd H p (.ins C dx fs'))) : SFldK K f v (.ref p) H P := ⟨p, C, dx, fs, rfl, h, c, n, z, by rw [e]; exact q⟩
theorem z_meth {m : Str} {sp : Sp} {E : L2.St → XK} (q : te σ H fun x H1 => MethK C m x H1 fun a => tr σ H1 fun vs H2 => sp (.ref a :: vs) H2 Q (E σ)) : tMethS C m sp E te tr σ H Q := q
theorem z_meth2 {m : Str} {P : Addr → Prop} (h : H p = some (.ins C dx fs)) (l : fs.lookup m = none) (q : P p) : MethK C m (.ref p) H P := ⟨p, dx, fs, rfl, h, l, q⟩
theorem z_prop {sp : Sp} (q : te σ H fun x H1 => PropK C x H1 fun a => sp [.ref a] H1 Q E0) : tPropS C sp te σ H Q := q
theorem z_prop2 {P : Addr → Prop} (h : H p = some (.ins C dx fs)) (q : P p) : PropK C (.ref p) H P := ⟨p, dx, fs, rfl, h, q⟩
theorem z_make {sp : Sp} {E : L2.St → XK} (q : tr σ H fun vs H1 => ∀ x dx, H1 x = none → H1 dx = none → dx ≠ x → sp (.ref x :: vs) (upd (upd H1 dx (.own x)) x (.ins C dx [])) (MkQ Q x) (E σ)) : tMakeS C sp E tr σ H Q := q
theorem z_inst {sp : Sp} {E : L2.St → XK} (q : te σ H fun x H1 => InstK x fun a => tr σ H1 fun vs H2 => CallK C a H2 (sp (.ref a :: vs) H2 Q (E σ))) : tInst C sp E te tr σ H Q := q
theorem z_inst2 {P : Addr → Prop} (q : P p) : InstK (.ref p) P := ⟨p, rfl, q⟩
theorem z_inst3 {P : Prop} (h : H p = some (.ins C dx fs)) (q : P) : CallK C p H P := ⟨⟨dx, fs, h⟩, q⟩
def ChK (r' : R2) (tc : TE) (σ : L2.St) (y z : V) (H : Hp) (Q : VK) : Prop := ∃ k, z = .bl k ∧ (if k = true then tc σ H fun w' H4 => r' y w' H4 Q else Q (.bl false) H)
theorem z_chain {r r' : R2} {ta tb tc : TE} (q : ta σ H fun x H1 => tb σ H1 fun y H2 => r x y H2 fun z H3 => ChK r' tc σ y z H3 Q) : tChain r r' ta tb tc σ H Q := q
theorem z_ch2 {r' : R2} {tc : TE} {y : V} {k : Bool} (q : if k = true then tc σ H fun w' H4 => r' y w' H4 Q else Q (.bl false) H) : ChK r' tc σ y (.bl k) H Q := ⟨k, rfl, q⟩
def EqOK (c : Str) (sp : Sp) (K : PySem.W.Frag) (x y : V) (H : Hp) (Q : VK) : Prop := ∃ a dx fs, x = .ref a ∧ H a = some (.ins (He.ga K c) dx fs) ∧ Oth K (He.ga K c) H y ∧ sp [x, y] H Q E0
theorem z_eqO {c : Str} {sp : Sp} {E : L2.St → XK} {y : V} (h : H p = some (.ins (He.ga K c) dx fs)) (o : Oth K (He.ga K c) H y) (q : sp [.ref p, y] H Q E0) : rEqO c sp E K (.ref p) y H Q := ⟨p, dx, fs, rfl, h, o, q⟩
theorem z_isi {x c : V} {t u : Value} {b : Bool} (hc : ClsV c u) (ht : TyX K H x t) (hk : PySem.W.kitOne K t u = some b) (q : Q (.bl b) H) : rIsi K [x, c] H Q := ⟨x, c, t, u, b, rfl, hc, ht, hk, q⟩
end
theorem kb_NoneType_bool {K : PySem.W.Frag} : PySem.W.kitOne K (.type "NoneType") (.type "bool") = some false := kit_ty (by decide +kernel)
theorem kb_NoneType_int {K : PySem.W.Frag} : PySem.W.kitOne K (.type "NoneType") (.type "int") = some false := kit_ty (by decide +kernel)
theorem kb_NoneType_str {K : PySem.W.Frag} : PySem.W.kitOne K (.type "NoneType") (.type "str") = some false := kit_ty (by decide +kernel)
theorem kb_NoneType_dict {K : PySem.W.Frag} : PySem.W.kitOne K (.type "NoneType") (.type "dict") = some false := kit_ty (by decide +kernel)
theorem kb_NoneType_tuple {K : PySem.W.Frag} : PySem.W.kitOne K (.type "NoneType") (.type "tuple") = some false := kit_ty (by decide +kernel)
theorem kb_NoneType_list {K : PySem.W.Frag} : PySem.W.kitOne K (.type "NoneType") (.type "list") = some false := kit_ty (by decide +kernel)
theorem kb_bool_bool {K : PySem.W.Frag} : PySem.W.kitOne K (.type "bool") (.type "bool") = some true := kit_ty (by decide +kernel)
theorem kb_bool_int {K : PySem.W.Frag} : PySem.W.kitOne K (.type "bool") (.type "int") = some true := kit_ty (by decide +kernel)
theorem kb_bool_str {K : PySem.W.Frag} : PySem.W.kitOne K (.type "bool") (.type "str") = some false := kit_ty (by decide +kernel)
theorem kb_bool_dict {K : PySem.W.Frag} : PySem.W.kitOne K (.type "bool") (.type "dict") = some false := kit_ty (by decide +kernel)
theorem kb_bool_tuple {K : PySem.W.Frag} : PySem.W.kitOne K (.type "bool") (.type "tuple") = some false := kit_ty (by decide +kernel)
theorem kb_bool_list {K : PySem.W.Frag} : PySem.W.kitOne K (.type "bool") (.type "list") = some false := kit_ty (by decide +kernel)
theorem kb_int_bool {K : PySem.W.Frag} : PySem.W.kitOne K (.type "int") (.type "bool") = some false := kit_ty (by decide +kernel)
theorem kb_int_int {K : PySem.W.Frag} : PySem.W.kitOne K (.type "int") (.type "int") = some true := kit_ty (by decide +kernel)
theorem kb_int_str {K : PySem.W.Frag} : PySem.W.kitOne K (.type "int") (.type "str") = some false := kit_ty (by decide +kernel)
theorem kb_int_dict {K : PySem.W.Frag} : PySem.W.kitOne K (.type "int") (.type "dict") = some false := kit_ty (by decide +kernel)
theorem kb_int_tuple {K : PySem.W.Frag} : PySem.W.kitOne K (.type "int") (.type "tuple") = some false := kit_ty (by decide +kernel)
theorem kb_int_list {K : PySem.W.Frag} : PySem.W.kitOne K (.type "int") (.type "list") = some false := kit_ty (by decide +kernel)
theorem kb_str_bool {K : PySem.W.Frag} : PySem.W.kitOne K (.type "str") (.type "bool") = some false := kit_ty (by decide +kernel)
theorem kb_str_int {K : PySem.W.Frag} : PySem.W.kitOne K (.type "str") (.type "int") = some false := kit_ty (by decide +kernel)
theorem kb_str_str {K : PySem.W.Frag} : PySem.W.kitOne K (.type "str") (.type "str") = some true := kit_ty (by decide +kernel)
theorem kb_str_dict {K : PySem.W.Frag} : PySem.W.kitOne K (.type "str") (.type "dict") = some false := kit_ty (by decide +kernel)
theorem kb_str_tuple {K : PySem.W.Frag} : PySem.W.kitOne K (.type "str") (.type "tuple") = some false := kit_ty (by decide +kernel)
theorem kb_str_list {K : PySem.W.Frag} : PySem.W.kitOne K (.type "str") (.type "list") = some false := kit_ty (by decide +kernel)
theorem kb_list_bool {K : PySem.W.Frag} : PySem.W.kitOne K (.type "list") (.type "bool") = some false := kit_ty (by decide +kernel)
theorem kb_list_int {K : PySem.W.Frag} : PySem.W.kitOne K (.type "list") (.type "int") = some false := kit_ty (by decide +kernel)
theorem kb_list_str {K : PySem.W.Frag} : PySem.W.kitOne K (.type "list") (.type "str") = some false := kit_ty (by decide +kernel)
theorem kb_list_dict {K : PySem.W.Frag} : PySem.W.kitOne K (.type "list") (.type "dict") = some false := kit_ty (by decide +kernel)
theorem kb_list_tuple {K : PySem.W.Frag} : PySem.W.kitOne K (.type "list") (.type "tuple") = some false := kit_ty (by decide +kernel)
theorem kb_list_list {K : PySem.W.Frag} : PySem.W.kitOne K (.type "list") (.type "list") = some true := kit_ty (by decide +kernel)
theorem kb_tuple_bool {K : PySem.W.Frag} : PySem.W.kitOne K (.type "tuple") (.type "bool") = some false := kit_ty (by decide +kernel)
theorem kb_tuple_int {K : PySem.W.Frag} : PySem.W.kitOne K (.type "tuple") (.type "int") = some false := kit_ty (by decide +kernel)
theorem kb_tuple_str {K : PySem.W.Frag} : PySem.W.kitOne K (.type "tuple") (.type "str") = some false := kit_ty (by decide +kernel)
theorem kb_tuple_dict {K : PySem.W.Frag} : PySem.W.kitOne K (.type "tuple") (.type "dict") = some false := kit_ty (by decide +kernel)
theorem kb_tuple_tuple {K : PySem.W.Frag} : PySem.W.kitOne K (.type "tuple") (.type "tuple") = some true := kit_ty (by decide +kernel)
theorem kb_tuple_list {K : PySem.W.Frag} : PySem.W.kitOne K (.type "tuple") (.type "list") = some false := kit_ty (by decide +kernel)
theorem kb_dict_bool {K : PySem.W.Frag} : PySem.W.kitOne K (.type "dict") (.type "bool") = some false := kit_ty (by decide +kernel)
theorem kb_dict_int {K : PySem.W.Frag} : PySem.W.kitOne K (.type "dict") (.type "int") = some false := kit_ty (by decide +kernel)
theorem kb_dict_str {K : PySem.W.Frag} : PySem.W.kitOne K (.type "dict") (.type "str") = some false := kit_ty (by decide +kernel)
theorem kb_dict_dict {K : PySem.W.Frag} : PySem.W.kitOne K (.type "dict") (.type "dict") = some true := kit_ty (by decide +kernel)
theorem kb_dict_tuple {K : PySem.W.Frag} : PySem.W.kitOne K (.type "dict") (.type "tuple") = some false := kit_ty (by decide +kernel)
theorem kb_dict_list {K : PySem.W.Frag} : PySem.W.kitOne K (.type "dict") (.type "list") = some false := kit_ty (by decide +kernel)
theorem ty_L {K : PySem.W.Frag} {H : Hp} {a : Addr} {xs : List V} (h : SqL K H a xs) : TyX K H (.ref a) (.type "list") := by
  rcases h with (h | ⟨o, h⟩) | ⟨o, its, n, h, c, _⟩
  · exact .base (.lst h)
  · exact .base (.frz h)
  · exact .kList h c
theorem ty_T {K : PySem.W.Frag} {H : Hp} {a : Addr} {xs : List V} (h : SqT K H a xs) : TyX K H (.ref a) (.type "tuple") := by
  rcases h with (h | ⟨o, h⟩) | ⟨o, its, n, h, c, _⟩
  · exact .base (.tup h)
  · exact .fTuple h
  · exact .kTuple h c
def rIsN : R2 := fun x y H Q => y = .non ∧ Q (.bl (decide (x = .non))) H
def rIsNN : R2 := fun x y H Q => y = .non ∧ Q (.bl (!decide (x = .non))) H
theorem op_isNone {X : Cx} : OpR X (compareOp .Is) rIsN := fun pins s σ H x y v u Q I rx ry h => op_isN pins s σ H x y v u Q I rx ry h
theorem op_isNotNone {X : Cx} : OpR X (compareOp .IsNot) rIsNN := fun pins s σ H x y v u Q I rx ry h => op_notN pins s σ H x y v u Q I rx ry h
theorem z_isN {x : V} {H : Hp} {Q : VK} (q : Q (.bl (decide (x = .non))) H) : rIsN x .non H Q := ⟨rfl, q⟩
theorem z_isNN {x : V} {H : Hp} {Q : VK} (q : Q (.bl (!decide (x = .non))) H) : rIsNN x .non H Q := ⟨rfl, q⟩
/-- is it an int, and no bool? -/
def IntQ (K : PySem.W.Frag) (H : Hp) (v : V) (b : Bool) : Prop := ∃ t b1 b2, TyX K H v t ∧ PySem.W.kitOne K t (.type "int") = some b1 ∧ PySem.W.kitOne K t (.type "bool") = some b2 ∧ b = (b1 && !b2)
theorem TyX.keep {K : PySem.W.Frag} {H H' : Hp} {v : V} {t : Value} (h : TyX K H v t) (e : Same H H') : TyX K H' v t := by
  cases h with
  | base h =>
    cases h with
    | non => exact .base .non
    | bl x => exact .base (.bl x)
    | int x => exact .base (.int x)
    | str x => exact .base (.str x)
    | flt x => exact .base (.flt x)
    | lst h => exact .base (.lst (e _ _ h))
    | frz h => exact .base (.frz (e _ _ h))
    | tup h => exact .base (.tup (e _ _ h))
    | dK h => exact .base (.dK (e _ _ h))
    | dT h => exact .base (.dT (e _ _ h))
    | ins h a b c d f => exact .base (.ins (e _ _ h) a b c d f)
  | byt b => exact .byt b
  | set h => exact .set (e _ _ h)
  | kList h c => exact .kList h c
  | kTuple h c => exact .kTuple h c
  | kDict h c => exact .kDict h c
  | fTuple h => exact .fTuple (e _ _ h)
  | fDict h => exact .fDict (e _ _ h)
theorem IntQ.keep {K : PySem.W.Frag} {H H' : Hp} {v : V} {b : Bool} (h : IntQ K H v b) (e : Same H H') : IntQ K H' v b := let ⟨t, b1, b2, ht, r⟩ := h; ⟨t, b1, b2, TyX.keep ht e, r⟩
theorem intQ_int {K : PySem.W.Frag} {H : Hp} {i : Int} : IntQ K H (.int i) true := ⟨_, true, false, .base (.int i), kit_ty (by decide +kernel), kit_ty (by decide +kernel), rfl⟩
theorem intQ_bl {K : PySem.W.Frag} {H : Hp} {i : Bool} : IntQ K H (.bl i) false := ⟨_, true, true, .base (.bl i), kit_ty (by decide +kernel), kit_ty (by decide +kernel), rfl⟩
theorem intQ_non {K : PySem.W.Frag} {H : Hp} : IntQ K H .non false := ⟨_, false, false, .base .non, kit_ty (by decide +kernel), kit_ty (by decide +kernel), rfl⟩
theorem intQ_str {K : PySem.W.Frag} {H : Hp} {z : Str} : IntQ K H (.str z) false := ⟨_, false, false, .base (.str z), kit_ty (by decide +kernel), kit_ty (by decide +kernel), rfl⟩
/-- what a class must say so that isinstance asks its instances rightly -/
structure InK (K : PySem.W.Frag) (c : Str) : Prop where
  cl : Cls K (He.ga K c)
  ha : PySem.W.findIn K (.ref (He.ga K c)) "__class__" = some (some (.builtin "object.__class__"))
  hn : PySem.W.specialIn K (.builtin "object.__class__") "__get__" = some (some (.builtin "getset_descriptor.__get__"))
  ht : PySem.W.takesIn K (.builtin "object.__class__") = some true
  hm : PySem.W.mroIn K (He.ga K c) (.type "object") = some true
theorem InK.ty {K : PySem.W.Frag} {c : Str} (k : InK K c) {H : Hp} {a dx : Addr} {fs : List (Str × V)} (h : H a = some (.ins (He.ga K c) dx fs)) : TyX K H (.ref a) (.ref (He.ga K c)) := .base (.ins h k.cl k.ha k.hn k.ht k.hm)

/-! ### loops, comprehensions: what is asked of the prover -/
section
variable {σ : L2.St} {H : Hp} {Q : VK} {K : PySem.W.Frag} {D : Ends} {g : TG} {tb : TS} {tl te : TE} {tt : TT} {vs : List Nat}
structure ForS (src : Hp → Prop) (xs : List V) (g : TG) (tb : TS) (D : Ends) (σ : L2.St) (H : Hp) (Pv : Nat → L2.St → Hp → Prop) : Prop where
  h0 : Pv 0 σ H
  hl : ∀ i σ H, i ≤ xs.length → Pv i σ H → src H
  hs : ∀ i x σ H, xs[i]? = some x → Pv i σ H → g x σ H fun σ2 H2 => tb { D with nx := Pv (i + 1), ct := Pv (i + 1), bk := D.nx } σ2 H2
  hd : ∀ σ H, Pv xs.length σ H → D.nx σ H
theorem z_forL (q : tl σ H fun x H1 => ∃ a xs, x = .ref a ∧ SqL K H1 a xs ∧ ∃ Pv, ForS (fun H => SqL K H a xs) xs g tb D σ H1 Pv) (hm : ∀ σ H (Q Q' : VK), (∀ v H', Q v H' → Q' v H') → tl σ H Q → tl σ H Q') : tFor (iList K tl) g tb D σ H := by
  refine hm _ _ _ _ (fun v H1 z => ?_) q
  obtain ⟨a, xs, rfl, hS, Pv, F⟩ := z
  exact ⟨a, rfl, ⟨xs, hS⟩, for_list (K := K) Pv F.h0 F.hl F.hs F.hd⟩
theorem z_forT (q : tl σ H fun x H1 => ∃ a xs, x = .ref a ∧ SqT K H1 a xs ∧ ∃ Pv, ForS (fun H => SqT K H a xs) xs g tb D σ H1 Pv) (hm : ∀ σ H (Q Q' : VK), (∀ v H', Q v H' → Q' v H') → tl σ H Q → tl σ H Q') : tFor (iTup K tl) g tb D σ H := by
  refine hm _ _ _ _ (fun v H1 z => ?_) q
  obtain ⟨a, xs, rfl, hS, Pv, F⟩ := z
  exact ⟨a, rfl, ⟨xs, hS⟩, for_tup (K := K) Pv F.h0 F.hl F.hs F.hd⟩
theorem mono_var {i : Nat} : ∀ σ H (Q Q' : VK), (∀ v H', Q v H' → Q' v H') → tVar i σ H Q → tVar i σ H Q' := fun _ _ _ _ k ⟨v, e, q⟩ => ⟨v, e, k _ _ q⟩
theorem z_forLv {i : Nat} {a : Addr} {xs : List V} (e : σ[i]? = some (some (.ref a))) (hS : SqL K H a xs) (Pv : Nat → L2.St → Hp → Prop) (F : ForS (fun H => SqL K H a xs) xs g tb D σ H Pv) : tFor (iList K (tVar i)) g tb D σ H :=
  z_forL ⟨_, e, a, xs, rfl, hS, Pv, F⟩ mono_var
theorem z_forTv {i : Nat} {a : Addr} {xs : List V} (e : σ[i]? = some (some (.ref a))) (hS : SqT K H a xs) (Pv : Nat → L2.St → Hp → Prop) (F : ForS (fun H => SqT K H a xs) xs g tb D σ H Pv) : tFor (iTup K (tVar i)) g tb D σ H :=
  z_forT ⟨_, e, a, xs, rfl, hS, Pv, F⟩ mono_var
structure LcR (n : Nat) (g : TG) (tt : TT) (te : TE) (vs : List Nat) (σ : L2.St) (H1 : Hp) (D : Addr) (Q : VK) (Pv : Nat → Hp → Prop) : Prop where
  h0 : Pv 0 (upd H1 D (.lst []))
  hs : ∀ i H, i < n → Pv i H → g (.int i) (wipe σ vs) H fun σ2 H2 => wipe σ2 vs = wipe σ vs ∧ tt σ2 H2 fun b H3 =>
    if b = true then te σ2 H3 fun y H4 => ∃ acc, H4 D = some (.lst acc) ∧ acc.length < sizeLine ∧ Pv (i + 1) (upd H4 D (.lst (acc ++ [y]))) else Pv (i + 1) H3
  hd : ∀ H, Pv n H → Q (.ref D) H
structure ForR (n : Nat) (g : TG) (tb : TS) (D : Ends) (σ : L2.St) (H : Hp) (Pv : Nat → L2.St → Hp → Prop) : Prop where
  h0 : Pv 0 σ H
  hs : ∀ i σ H, i < n → Pv i σ H → g (.int i) σ H fun σ2 H2 => tb { D with nx := Pv (i + 1), ct := Pv (i + 1), bk := D.nx } σ2 H2
  hd : ∀ σ H, Pv n σ H → D.nx σ H
structure LcS (src : Hp → Prop) (xs : List V) (g : TG) (tt : TT) (te : TE) (vs : List Nat) (σ : L2.St) (H1 : Hp) (D : Addr) (Q : VK) (Pv : Nat → Hp → Prop) : Prop where
  h0 : Pv 0 (upd H1 D (.lst []))
  hl : ∀ i H, i ≤ xs.length → Pv i H → src H
  hs : ∀ i x H, xs[i]? = some x → Pv i H → g x (wipe σ vs) H fun σ2 H2 => wipe σ2 vs = wipe σ vs ∧ tt σ2 H2 fun b H3 =>
    if b = true then te σ2 H3 fun y H4 => ∃ acc, H4 D = some (.lst acc) ∧ acc.length < sizeLine ∧ Pv (i + 1) (upd H4 D (.lst (acc ++ [y]))) else Pv (i + 1) H3
  hd : ∀ H, Pv xs.length H → Q (.ref D) H
theorem z_lcLv {i : Nat} {a : Addr} {xs : List V} (e : σ[i]? = some (some (.ref a))) (hS : SqL K H a xs) (F : ∀ D, H D = none → ∃ Pv, LcS (fun H => SqL K H a xs) xs g tt te vs σ H D Q Pv) : tLc (iList K (tVar i)) g tt te vs σ H Q :=
  ⟨_, e, a, rfl, ⟨xs, hS⟩, fun D hD => let ⟨Pv, F⟩ := F D hD; lc_list (K := K) Pv F.h0 F.hl F.hs F.hd⟩
theorem z_lcTv {i : Nat} {a : Addr} {xs : List V} (e : σ[i]? = some (some (.ref a))) (hS : SqT K H a xs) (F : ∀ D, H D = none → ∃ Pv, LcS (fun H => SqT K H a xs) xs g tt te vs σ H D Q Pv) : tLc (iTup K (tVar i)) g tt te vs σ H Q :=
  ⟨_, e, a, rfl, ⟨xs, hS⟩, fun D hD => let ⟨Pv, F⟩ := F D hD; lc_tup (K := K) Pv F.h0 F.hl F.hs F.hd⟩
theorem z_acc {D : Addr} {acc : List V} {y : V} {P : Hp → Prop} (h : H D = some (.lst acc)) (hz : acc.length < 100000) (q : P (upd H D (.lst (acc ++ [y])))) : ∃ acc, H D = some (.lst acc) ∧ acc.length < sizeLine ∧ P (upd H D (.lst (acc ++ [y]))) :=
  ⟨acc, h, Nat.lt_of_lt_of_le hz (by decide), q⟩
theorem z_lcR {ta : TA} (q : ta σ H fun ws H1 => ∃ n : Nat, ws = [.int n] ∧ n ≤ 100000 ∧ ∀ D, H1 D = none → ∃ Pv, LcR n g tt te vs σ H1 D Q Pv) (hm : ∀ σ H (Q Q' : List V → Hp → Prop), (∀ v H', Q v H' → Q' v H') → ta σ H Q → ta σ H Q') : tLc (iRng1 ta) g tt te vs σ H Q := by
  refine hm _ _ _ _ (fun v H1 z => ?_) q
  obtain ⟨n, rfl, hn, F⟩ := z
  refine ⟨n, rfl, by omega, by omega, fun D hD => ?_⟩
  obtain ⟨Pv, F⟩ := F D hD
  exact lc_range (lo := 0) (n := n) Pv F.h0 (fun i H hi p => by have := F.hs i H hi p; rw [Int.zero_add]; exact this) F.hd
theorem z_forR {ta : TA} (q : ta σ H fun ws H1 => ∃ n : Nat, ws = [.int n] ∧ n ≤ 100000 ∧ ∃ Pv, ForR n g tb D σ H1 Pv) (hm : ∀ σ H (Q Q' : List V → Hp → Prop), (∀ v H', Q v H' → Q' v H') → ta σ H Q → ta σ H Q') : tFor (iRng1 ta) g tb D σ H := by
  refine hm _ _ _ _ (fun v H1 z => ?_) q
  obtain ⟨n, rfl, hn, Pv, F⟩ := z
  refine ⟨n, rfl, by omega, by omega, ?_⟩
  exact for_range (lo := 0) (n := n) Pv F.h0 (fun i σ H hi p => by have := F.hs i σ H hi p; rw [Int.zero_add]; exact this) F.hd
theorem mono_nil : ∀ σ H (Q Q' : List V → Hp → Prop), (∀ v H', Q v H' → Q' v H') → tNil σ H Q → tNil σ H Q' := fun _ _ _ _ k q => k _ _ q
theorem mono_cons {ta : TE} {tr : TA} (ha : ∀ σ H (Q Q' : VK), (∀ v H', Q v H' → Q' v H') → ta σ H Q → ta σ H Q') (hr : ∀ σ H (Q Q' : List V → Hp → Prop), (∀ v H', Q v H' → Q' v H') → tr σ H Q → tr σ H Q') :
    ∀ σ H (Q Q' : List V → Hp → Prop), (∀ v H', Q v H' → Q' v H') → tCons ta tr σ H Q → tCons ta tr σ H Q' := fun σ H Q Q' k q => ha _ _ _ _ (fun v H1 q1 => hr _ _ _ _ (fun vs H2 q2 => k _ _ q2) q1) q
theorem mono_c {v : V} : ∀ σ H (Q Q' : VK), (∀ v H', Q v H' → Q' v H') → tC v σ H Q → tC v σ H Q' := fun _ _ _ _ k q => k _ _ q
theorem mono_cbLen {ta : TA} (hr : ∀ σ H (Q Q' : List V → Hp → Prop), (∀ v H', Q v H' → Q' v H') → ta σ H Q → ta σ H Q') : ∀ σ H (Q Q' : VK), (∀ v H', Q v H' → Q' v H') → tCB (rLenSq K) ta σ H Q → tCB (rLenSq K) ta σ H Q' :=
  fun σ H Q Q' k q => hr _ _ _ _ (fun vs H1 ⟨p, ys, e, h, q⟩ => ⟨p, ys, e, h, k _ _ q⟩) q
theorem mono_callS {sp : Sp} {E : L2.St → XK} {ta : TA} (hs : ∀ vs H (Q Q' : VK) E, (∀ v H', Q v H' → Q' v H') → sp vs H Q E → sp vs H Q' E) (hr : ∀ σ H (Q Q' : List V → Hp → Prop), (∀ v H', Q v H' → Q' v H') → ta σ H Q → ta σ H Q') :
    ∀ σ H (Q Q' : VK), (∀ v H', Q v H' → Q' v H') → tCallS sp E ta σ H Q → tCallS sp E ta σ H Q' := fun σ H Q Q' k q => hr _ _ _ _ (fun vs H1 q => hs _ _ _ _ _ k q) q
theorem z_all {p : Addr} {bs : List Bool} (h : SqL K H p (bs.map V.bl)) (q : Q (.bl (bs.all id)) H) : rAll K [.ref p] H Q := ⟨p, bs, rfl, h, q⟩
theorem z_any {p : Addr} {bs : List Bool} (h : SqL K H p (bs.map V.bl)) (q : Q (.bl (bs.any id)) H) : rAny K [.ref p] H Q := ⟨p, bs, rfl, h, q⟩
theorem z_yes {QT : Bool → Hp → Prop} (q : QT true H) : tYes σ H QT := q
theorem z_cat {p b : Addr} {xs zs : List V} (h : H p = some (.lst xs)) (h2 : H b = some (.lst zs)) (hz : xs.length + zs.length ≤ 100000) (q : ∀ l, H l = none → Q (.ref l) (upd H l (.lst (xs ++ zs)))) : rCat (.ref p) (.ref b) H Q :=
  ⟨p, b, xs, zs, rfl, rfl, h, h2, Nat.le_trans hz (by decide), q⟩
theorem sz_lt {n : Nat} (h : n < 100000) : n < sizeLine := Nat.lt_of_lt_of_le h (by decide)
theorem sz_le {n : Nat} (h : n ≤ 100000) : n ≤ sizeLine := Nat.le_trans h (by decide)
theorem int_at {ns : List Int} {i : Nat} {x : V} (h : (ns.map V.int)[i]? = some x) : ∃ z, ns[i]? = some z ∧ x = V.int z := by
  rw [List.getElem?_map] at h
  cases e : ns[i]? with
  | none => rw [e] at h; cases h
  | some z => rw [e] at h; exact ⟨z, rfl, (Option.some.inj h).symm⟩
theorem lt_of_at {α : Type} {xs : List α} {i : Nat} {x : α} (h : xs[i]? = some x) : i < xs.length := (List.getElem?_eq_some_iff.mp h).1
end

/-! ### operators by own methods -/
/-- what a class must say of an operator's names -/
structure BinC (K : PySem.W.Frag) (c : Str) (nm : String) : Prop where
  first : PySem.W.selfFirst K (He.ga K c) = true
  rr : ∃ rc, PySem.W.findIn K (.ref (He.ga K c)) (dunderR nm) = some rc ∧ (rc = none ∨ ∃ g : Addr, rc = some (.ref g))
  i1 : ∃ fo, PySem.W.findIn K (.type "int") (PySem.dunder nm) = some fo
  i2 : ∃ ro, PySem.W.findIn K (.type "int") (dunderR nm) = some ro
  sub : PySem.W.subIn K (.type "int") (.ref (He.ga K c)) = some false
  bus : PySem.W.subIn K (.ref (He.ga K c)) (.type "int") = some false
def binB (K : PySem.W.Frag) (c : Str) (nm : String) : Bool := PySem.W.selfFirst K (He.ga K c) && ((match PySem.W.findIn K (.ref (He.ga K c)) (dunderR nm) with
  | some none => true
  | some (some (.ref _)) => true
  | _ => false) && ((PySem.W.findIn K (.type "int") (PySem.dunder nm)).isSome && ((PySem.W.findIn K (.type "int") (dunderR nm)).isSome && (decide (PySem.W.subIn K (.type "int") (.ref (He.ga K c)) = some false) && decide (PySem.W.subIn K (.ref (He.ga K c)) (.type "int") = some false)))))
theorem bin_ok {K : PySem.W.Frag} {c : Str} {nm : String} (h : binB K c nm = true) : BinC K c nm := by
  obtain ⟨h1, h⟩ := He.ba h
  obtain ⟨h2, h⟩ := He.ba h
  obtain ⟨h3, h⟩ := He.ba h
  obtain ⟨h4, h⟩ := He.ba h
  obtain ⟨h5, h6⟩ := He.ba h
  refine ⟨h1, ?_, Option.isSome_iff_exists.mp h3, Option.isSome_iff_exists.mp h4, of_decide_eq_true h5, of_decide_eq_true h6⟩
  split at h2
  · exact ⟨_, by assumption, .inl rfl⟩
  · exact ⟨_, by assumption, .inr ⟨_, rfl⟩⟩
  · cases h2
/-- the other side: a number, or one of the same class -/
inductive Mate (K : PySem.W.Frag) (c : Str) (H : Hp) : V → Prop
  | int {i : Int} : Mate K c H (.int i)
  | ins {b dy : Addr} {gs : List (Str × V)} (h : H b = some (.ins (He.ga K c) dy gs)) : Mate K c H (.ref b)
def BinK (c : Str) (sp : Sp) (E : XK) (K : PySem.W.Frag) (x y : V) (H : Hp) (Q : VK) : Prop := ∃ a dx fs, x = .ref a ∧ H a = some (.ins (He.ga K c) dx fs) ∧ Mate K c H y ∧ sp [x, y] H Q E
def tBinO (c : Str) (sp : Sp) (E : L2.St → XK) (K : PySem.W.Frag) (ta tb : TE) : TE := fun σ H Q => ta σ H fun x H1 => tb σ H1 fun y H2 => BinK c sp (E σ) K x y H2 Q
def RBinK (c : Str) (sp : Sp) (E : XK) (K : PySem.W.Frag) (x y : V) (H : Hp) (Q : VK) : Prop := ∃ i a dx fs, x = .int i ∧ y = .ref a ∧ H a = some (.ins (He.ga K c) dx fs) ∧ sp [y, x] H Q E
def tRBinO (c : Str) (sp : Sp) (E : L2.St → XK) (K : PySem.W.Frag) (ta tb : TE) : TE := fun σ H Q => ta σ H fun x H1 => tb σ H1 fun y H2 => RBinK c sp (E σ) K x y H2 Q
def IpK (c : Str) (sp : Sp) (K : PySem.W.Frag) (x y : V) (H : Hp) (Q : VK) : Prop := ∃ a dx fs, x = .ref a ∧ H a = some (.ins (He.ga K c) dx fs) ∧ sp [x, y] H Q E0
/-- x in o, o an instance: what its __contains__ says -/
def InO (c : Str) (sp : Sp) (E : XK) (K : PySem.W.Frag) (x y : V) (H : Hp) (Q : VK) : Prop := ∃ a dx fs, y = .ref a ∧ H a = some (.ins (He.ga K c) dx fs) ∧ sp [y, x] H (fun r H3 => ∃ k, r = .bl k ∧ Q (.bl k) H3) E
def tInO (c : Str) (sp : Sp) (E : L2.St → XK) (K : PySem.W.Frag) (ta tb : TE) : TE := fun σ H Q => ta σ H fun x H1 => tb σ H1 fun y H2 => InO c sp (E σ) K x y H2 Q
/-- o[i], o an instance -/
def SubO (c : Str) (sp : Sp) (E : XK) (K : PySem.W.Frag) (x y : V) (H : Hp) (Q : VK) : Prop := ∃ a dx fs, x = .ref a ∧ H a = some (.ins (He.ga K c) dx fs) ∧ sp [x, y] H Q E
def tSubO (c : Str) (sp : Sp) (E : L2.St → XK) (K : PySem.W.Frag) (ta tb : TE) : TE := fun σ H Q => ta σ H fun x H1 => tb σ H1 fun y H2 => SubO c sp (E σ) K x y H2 Q
section
variable {X : Cx} {k : Nat} {c m : Str} {ps : List Str} {sp : Sp} {E : L2.St → XK} {a b : Expr} {ta tb : TE} {pos : Pos} {op : Operator}
theorem pe_binO (G : GMe X.prog X.w X.K X.mg X.base c m k ps sp) (B : BinC X.K c op.info.2) (hr : Room k X.A) (hx : ∀ σ, PassesAt (L2N.CX X.prog X.w) X σ (E σ)) (ha : PE X a ta) (hb : PE X b tb)
    (hd : PySem.dunder op.info.2 = m := by rfl) : PE X (.BinOp a op b pos) (tBinO c sp E X.K ta tb) := by
  obtain ⟨fd, F, bi⟩ := G.fn
  refine ⟨fun pins s σ H Q I h => wpAny_BinOp (binT ha hb I h fun v u s2 x y H2 I2 rx ry q => ?_)⟩
  obtain ⟨p, dx, fs, rfl, hp, hm, hq⟩ := q
  cases (show v = Value.ref p from rx)
  obtain ⟨mA, O, _⟩ := ins_get I2.hok hp
  obtain ⟨od, J, _⟩ := O.look
  obtain ⟨mm, hF⟩ := I2.fr
  have call : wpAny (model X.prog X.w) X.A (PySem.call (.ref (He.ma X.K (He.ga X.K c) m)) [.ref p, u]) (PySem.W.CmpBack (EP X pins σ Q)) X.xe s2 :=
    thn (run_fnS (E := E) (vs := [.ref p, y]) F hr bi (hx σ) I2 (.cons rfl (.cons ry .nil)) hq) fun _ _ z => back_of z
  cases hm with
  | int =>
    obtain ⟨t, rfl⟩ := (show ∃ t, u = Value.int _ t from ry)
    obtain ⟨rc, hrc, hrp⟩ := B.rr
    obtain ⟨fo, hfo⟩ := B.i1
    obtain ⟨ro, hro⟩ := B.i2
    exact PySem.W.ksp_binT hF I2.ok.mod.kin J rfl B.first (by rw [hd]; exact G.me.at_) G.me.fn hrc hrp hfo hro B.sub call
  | ins h =>
    cases (show u = Value.ref _ from ry)
    obtain ⟨_, O2, _⟩ := ins_get I2.hok h
    obtain ⟨_, J2, _⟩ := O2.look
    exact PySem.W.binop_K hF I2.ok.mod.kin J J2.type B.first (by rw [hd]; exact G.me.at_) G.me.fn call
theorem int_add_ref {p : Addr} {i : Int} {t : Tok} {ox : Obj} (hd : ox.data = .plain) : GivesAt (fun s => s.heap.get? p = some ox) (Builtin.«int.__add__» ⟨[.int i t, .ref p], []⟩) (.val Value.notImplemented) := by
  intro prog w A R s hp h
  obtain ⟨hh, g, d, tk, os⟩ := s
  show wpAny _ _ (Builtin.Int.intBinary "__add__" (fun x y => PySem.retInt (x + y)) false ⟨[.int i t, .ref p], []⟩) _ _ _
  unfold Builtin.Int.intBinary
  refine wpAny_bind (wpAny_pure ?_)
  dsimp only
  refine wpAny_bind (wpAny_bind (wpAny_pure (wpAny_pure ?_)))
  refine wpAny_bind (wpAny_bind (m := load p) (wpAny_load hp ?_))
  rw [hd]
  refine wpAny_pure ?_
  exact wpAny_bind (wpAny_rule (wpAny_pure h))
theorem pe_radd {f : Addr} (G : GMe X.prog X.w X.K X.mg X.base c "__radd__" k ps sp) (B : BinC X.K c "add") (hs : PySem.W.findIn X.K (.ref (He.ga X.K c)) "__add__" = some (some (.ref f))) (hr : Room k X.A)
    (hx : ∀ σ, PassesAt (L2N.CX X.prog X.w) X σ (E σ)) (ha : PE X a ta) (hb : PE X b tb) : PE X (.BinOp a .Add b pos) (tRBinO c sp E X.K ta tb) := by
  obtain ⟨fd, F, bi⟩ := G.fn
  refine ⟨fun pins s σ H Q I h => wpAny_BinOp (binT ha hb I h fun v u s2 x y H2 I2 rx ry q => ?_)⟩
  obtain ⟨i, p, dx, fs, rfl, rfl, hp, hq⟩ := q
  cases (show u = Value.ref p from ry)
  obtain ⟨t, rfl⟩ := (show ∃ t, v = Value.int _ t from rx)
  obtain ⟨mA, O, _⟩ := ins_get I2.hok hp
  obtain ⟨od, J, _⟩ := O.look
  obtain ⟨mm, hF⟩ := I2.fr
  have XX := I2.kIn
  have call : wpAny (model X.prog X.w) X.A (PySem.call (.ref (He.ma X.K (He.ga X.K c) "__radd__")) [.ref p, .int i t]) (PySem.W.CmpBack (EP X pins σ Q)) X.xe s2 :=
    thn (run_fnS (E := E) (vs := [.ref p, .int i]) F hr bi (hx σ) I2 (.cons rfl (.cons ⟨t, rfl⟩ .nil)) hq) fun _ _ z => back_of z
  have one := PySem.W.ksp_try XX J G.me.at_ G.me.fn call
  obtain ⟨cd, rest, hcd, hm⟩ := PySem.W.ksp_first B.first
  have L1 : PySem.W.Looks (model X.prog X.w) s2.heap (typeOf (.int i t)) (.type "int") := PySem.W.Looks.of_pure rfl
  have L2 : PySem.W.Looks (model X.prog X.w) s2.heap (typeOf (.ref p)) (.ref (He.ga X.K c)) := J.type
  have L3 : PySem.W.Looks (model X.prog X.w) s2.heap (fillsNumberSlot (.type "int") "add") true := PySem.W.Looks.of_pure PySem.F.fills_int_add
  have L4 : PySem.W.Looks (model X.prog X.w) s2.heap (fillsNumberSlot (.ref (He.ga X.K c)) "add") true := PySem.W.fills_K XX hcd hm hs
  have L5 : PySem.W.Looks (model X.prog X.w) s2.heap (isSubtype (.ref (He.ga X.K c)) (.type "int")) false := PySem.W.looks_subIn XX B.bus
  have hne : (Value.type "int" == Value.ref (He.ga X.K c)) = false := Bool.eq_false_iff.mpr fun q => by cases beq_iff_eq.mp q
  have hpy : numberSlotInPython (.type "int") "add" = pure false := rfl
  show wpAny _ _ (holding _ _) _ _ _
  refine wpAny_holding (wpAny_bind (m := binaryOp1 "add" (.int i t) (.ref p)) ?_)
  unfold binaryOp1
  refine wpAny_bind (L1.here (wpAny_bind (L2.here (wpAny_bind (L3.here ?_)))))
  simp only [hne, Bool.false_eq_true, if_false]
  refine wpAny_bind (L4.here ?_)
  simp only [Bool.and_self, if_true]
  refine wpAny_bind (L5.here ?_)
  simp only [Bool.false_eq_true, if_false, pure_bind, Bool.not_false, Bool.and_self, if_true, hpy]
  refine wpAny_bind ?_
  apply wpAny_tryMethod_declines (typeIs_int s2 i t) PySem.F.slot_int_add
  apply call_givesAt (m := .val Value.notImplemented) PySem.F.slot_int_add (typeIs_int s2 i t) PySem.F.entry_int_add (PySem.F.args_int_add_2 _ _) (int_add_ref (p := p) (i := i) (t := t) rfl) J.at_
  refine ⟨rfl, ?_⟩
  refine wpAny_bind (wpAny_mono one (fun r s' hr' => ?_) fun _ _ e => e)
  obtain ⟨v, rfl, hq⟩ := hr'
  exact wpAny_bind (wpAny_rule (wpAny_pure (wpAny_pure hq)))
theorem pip_own (G : GMe X.prog X.w X.K X.mg X.base c m k ps sp) (hf : PySem.W.selfFirst X.K (He.ga X.K c) = true) (hr : Room k X.A) (hd : dunderI op.info.2 = m := by rfl) : PIp X op (IpK c sp X.K) := by
  obtain ⟨fd, F, bi⟩ := G.fn
  intro pins s σ H x y v u Q I rx ry q
  obtain ⟨p, dx, fs, rfl, hp, hq⟩ := q
  cases (show v = Value.ref p from rx)
  obtain ⟨mA, O, _⟩ := ins_get I.hok hp
  obtain ⟨od, J, _⟩ := O.look
  obtain ⟨mm, hF⟩ := I.fr
  have call : wpAny (model X.prog X.w) X.A (PySem.call (.ref (He.ma X.K (He.ga X.K c) m)) [.ref p, u]) (PySem.W.CmpBack (EP X pins σ Q)) X.xe s :=
    thn (run_fnS (E := fun _ => E0) (vs := [.ref p, y]) F hr bi (pas0 σ) I (.cons rfl (.cons ry .nil)) hq) fun _ _ z => back_of z
  exact PySem.W.ksp_inplace hF I.ok.mod.kin J hf (by rw [hd]; exact G.me.at_) G.me.fn call
theorem pe_inO (G : GMe X.prog X.w X.K X.mg X.base c "__contains__" k ps sp) (hr : Room k X.A) (hx : ∀ σ, PassesAt (L2N.CX X.prog X.w) X σ (E σ)) (ha : PE X a ta) (hb : PE X b tb) (hm : behindInMarks .In b = false := by rfl) :
    PE X (.Compare a [.In] [b] pos) (tInO c sp E X.K ta tb) := by
  obtain ⟨fd, F, bi⟩ := G.fn
  refine ⟨fun pins s σ H Q I h => wpAny_Compare1 (binT ha hb I h fun v u s2 x y H2 I2 rx ry q => ?_) hm⟩
  obtain ⟨p, dx, fs, rfl, hp, hq⟩ := q
  cases (show u = Value.ref p from ry)
  obtain ⟨mA, O, _⟩ := ins_get I2.hok hp
  obtain ⟨od, J, _⟩ := O.look
  obtain ⟨mm, hF⟩ := I2.fr
  refine PySem.W.in_K hF I2.ok.mod.kin J G.me.at_ G.me.fn (thn (run_fnS (E := E) (vs := [.ref p, x]) F hr bi (hx σ) I2 (.cons rfl (.cons rx .nil)) hq) fun r s3 z => ?_)
  obtain ⟨rv, H3, I3, rr, k', rfl, q3⟩ := z
  cases (show r = Value.bool k' from rr)
  exact wpAny_truthy_bool ⟨.bl k', H3, I3, rfl, q3⟩
/-- a method's run, one level deeper -/
theorem run_in1 {CX : CXT} {f : Addr} {fd : FuncData} {E : XK} {pins : List (Addr × Obj)} {σ : L2.St} {H : Hp} {s : Shared} {Q : VK} {us : List Value} {vs : List V} (F : FnOk X.prog X.w X.K X.mg X.base CX k f fd ps sp) (hr : Room (k + 1) X.A) (hb : Binds X.K fd ps [])
    (hx : PassesAt CX X σ E) (I : Inv X pins σ H s) (r : Vals vs us) (h : sp vs H Q E) : wpAny (model X.prog X.w) X.A.in1 (PySem.call (.ref f) us) (EP X pins σ Q) X.xe s := by
  have hl : us.length = ps.length := by rw [← r.length, F.len _ _ _ _ h]
  have b := hb s us I.kIn (by rw [List.append_nil, hl])
  rw [List.append_nil] at b
  refine wpAny_call (codeAny_mono (F.run X.A.in1 X.stack s H ⟨us, []⟩ us vs Q E hr.in1 I.env0.in1 b r h) fun r s' hq => ?_)
  match r, hq with
  | .error e, hq => exact hx pins H s e s' I hq
  | .ok (.ret u), hq => exact I.after hq
  | .ok .next, hq => exact False.elim hq
  | .ok .brk, hq => exact False.elim hq
  | .ok .cont, hq => exact False.elim hq
theorem pe_subO (G : GMe X.prog X.w X.K X.mg X.base c "__getitem__" k ps sp) (gn : PySem.W.fnIn X.K (He.ma X.K (He.ga X.K c) "__getitem__") = true) (hr : Room (k + 1) X.A) (hx : ∀ σ, PassesAt (L2N.CX X.prog X.w) X σ (E σ)) (ha : PE X a ta) (hb : PE X b tb)
    (hsl : ∀ o i, subscripted b true o i = runValue (.builtin "lifetime.subscript" ⟨[o, i], []⟩)) : PE X (.Subscript a b pos) (tSubO c sp E X.K ta tb) := by
  obtain ⟨fd, F, bi⟩ := G.fn
  refine ⟨fun pins s σ H Q I h => Subscript_ (binT ha hb I h fun v u s2 x y H2 I2 rx ry q => ?_)⟩
  obtain ⟨p, dx, fs, rfl, hp, hq⟩ := q
  cases (show v = Value.ref p from rx)
  obtain ⟨mA, O, _⟩ := ins_get I2.hok hp
  obtain ⟨od, J, _⟩ := O.look
  obtain ⟨mm, hF⟩ := I2.fr
  exact PySem.W.sub_K hF I2.ok.mod.kin J G.me.at_ gn G.me.fn (run_in1 (vs := [.ref p, y]) F hr bi (hx σ) I2 (.cons rfl (.cons ry .nil)) hq) (hsl _ _)
end
section
variable {σ : L2.St} {H : Hp} {Q : VK} {K : PySem.W.Frag} {ta tb te : TE} {c : Str} {sp : Sp} {p dx : Addr} {fs : List (Str × V)} {x y : V} {i : Int} {D : Ends} {n : Nat}
theorem z_binO {E : L2.St → XK} (q : ta σ H fun x H1 => tb σ H1 fun y H2 => BinK c sp (E σ) K x y H2 Q) : tBinO c sp E K ta tb σ H Q := q
theorem z_binK {E : XK} (h : H p = some (.ins (He.ga K c) dx fs)) (m : Mate K c H y) (q : sp [.ref p, y] H Q E) : BinK c sp E K (.ref p) y H Q := ⟨p, dx, fs, rfl, h, m, q⟩
theorem z_rbinO {E : L2.St → XK} (q : ta σ H fun x H1 => tb σ H1 fun y H2 => RBinK c sp (E σ) K x y H2 Q) : tRBinO c sp E K ta tb σ H Q := q
theorem z_rbinK {E : XK} (h : H p = some (.ins (He.ga K c) dx fs)) (q : sp [.ref p, .int i] H Q E) : RBinK c sp E K (.int i) (.ref p) H Q := ⟨i, p, dx, fs, rfl, rfl, h, q⟩
theorem z_aug {ti : TIp} (h : σ[n]? = some (some x)) (q : te σ H fun y H1 => ti x y H1 fun z H2 => D.nx (σ.set n (some z)) H2) : tAug n te ti D σ H := ⟨x, h, q⟩
theorem z_ipK (h : H p = some (.ins (He.ga K c) dx fs)) (q : sp [.ref p, y] H Q E0) : IpK c sp K (.ref p) y H Q := ⟨p, dx, fs, rfl, h, q⟩
theorem z_inO {E : L2.St → XK} (q : ta σ H fun x H1 => tb σ H1 fun y H2 => InO c sp (E σ) K x y H2 Q) : tInO c sp E K ta tb σ H Q := q
theorem z_inK {E : XK} (h : H p = some (.ins (He.ga K c) dx fs)) (q : sp [.ref p, x] H (fun r H3 => ∃ k, r = .bl k ∧ Q (.bl k) H3) E) : InO c sp E K x (.ref p) H Q := ⟨p, dx, fs, rfl, h, q⟩
theorem z_subO {E : L2.St → XK} (q : ta σ H fun x H1 => tb σ H1 fun y H2 => SubO c sp (E σ) K x y H2 Q) : tSubO c sp E K ta tb σ H Q := q
theorem z_subK {E : XK} (h : H p = some (.ins (He.ga K c) dx fs)) (q : sp [.ref p, y] H Q E) : SubO c sp E K (.ref p) y H Q := ⟨p, dx, fs, rfl, h, q⟩
theorem z_rep {xs : List V} {k : Int} (h : H p = some (.lst xs)) (h1 : -(2 ^ 63) ≤ k) (h2 : k < 2 ^ 63) (hz : xs.length * k.toNat ≤ 100000) (q : ∀ l, H l = none → Q (.ref l) (upd H l (.lst (List.replicate k.toNat xs).flatten))) : rRep (.ref p) (.int k) H Q :=
  ⟨p, k, xs, rfl, rfl, h, h1, h2, Nat.le_trans hz (by decide), q⟩
end

/-! ### the head: facts as Bools of what is reached, defs by their places -/
/-- a def: where it stands, its name, qualified name, statement -/
structure DefX where
  at_ : PySem.W.Frag → Addr
  name : Str
  qual : Str
  st : Stmt
def fnX (K : PySem.W.Frag) (f : Addr) : He.FnW := match K.lookup f with
  | some ⟨_, _, .func fd, _⟩ => some (fd.name, fd.qualname, fd.params, fd.body, fd.scope, fd.globals, fd.closure, fd.builtins)
  | _ => none
def DefX.val (d : DefX) : He.FnW := some (d.name, d.qual, defArgs d.st, .stmts (defBody d.st), defScope d.st, mainGlobals, [], builtinsNs)
def okX (K : PySem.W.Frag) (f : Addr) (q : Str) : Bool := PySem.W.keepIn K (.ref f) && (match K.lookup f with
  | some ⟨_, _, .func fd, _⟩ => PySem.W.codeIn K fd.code q && (He.dflB K fd.defaults [] && He.kwdB K fd.kwdefaults [])
  | _ => false)
theorem defAt_of {K : PySem.W.Frag} {f : Addr} {d : DefX} (e : fnX K f = d.val) (c : okX K f d.qual = true) : DefAt K d.name d.qual d.st f := by
  obtain ⟨kp, c⟩ := He.ba c
  unfold fnX at e
  match q : K.lookup f with
  | none => rw [q] at c; cases c
  | some ⟨oc, od, dt, osl⟩ =>
    rw [q] at c e
    match dt with
    | .func ⟨n1, n2, n3, n4, n5, n6, n7, n8, n9, n10, n11, n12, n13, n14, n15⟩ =>
      have e : (some (n1, n2, n3, n4, n5, n6, n7, n15) : He.FnW) = some (d.name, d.qual, defArgs d.st, .stmts (defBody d.st), defScope d.st, mainGlobals, [], builtinsNs) := e
      simp only [Option.some.injEq, Prod.mk.injEq] at e
      obtain ⟨h1, h2, h3, h4, h5, h6, h7, h8⟩ := e
      subst h1 h2 h3 h4 h5 h6 h7 h8
      obtain ⟨c1, c⟩ := He.ba (show (PySem.W.codeIn K n13 d.qual && (He.dflB K n8 [] && He.kwdB K n9 [])) = true from c)
      obtain ⟨c2, c3⟩ := He.ba c
      exact ⟨_, ⟨oc, od, n8, n9, n10, n11, n12, n13, n14, osl, rfl, q, c1, He.dflB_ok c2, He.kwdB_ok c3⟩, kp⟩
abbrev AlX : Type := Bool × List He.FnW
def obsX (fa : List (PySem.W.Frag → Bool)) (fn : List DefX) (K : PySem.W.Frag) : AlX := ((fa.all fun f => f K) && fn.all fun d => okX K (d.at_ K) d.qual, fn.map fun d => fnX K (d.at_ K))
def valX (fn : List DefX) : AlX := (true, fn.map DefX.val)
def SaysX (fa : List (PySem.W.Frag → Bool)) (fn : List DefX) (K : PySem.W.Frag) : Prop := obsX fa fn K = valX fn
def obsXG (n : Nat) (fa : List (PySem.W.Frag → Bool)) (fn : List DefX) (g : Addr → Option Obj) : AlX := obsX fa fn (He.frG g (He.asD g n))
def hookX (n : Nat) (fa : List (PySem.W.Frag → Bool)) (fn : List DefX) : PySem.W.Hook where
  α := AlX
  obs := fun s => obsXG n fa fn s.heap.get?
  val := fun _ => valX fn
  says := fun _ h => ∃ K : PySem.W.Frag, K.In h ∧ SaysX fa fn K
  of := fun _ _ e => ⟨_, He.frG_in, e⟩
  keeps := fun _ _ _ ⟨K, hK, c⟩ k => ⟨K, PySem.W.Frag.In.keeps hK k, c⟩
theorem obsXG_eq {n : Nat} {fa : List (PySem.W.Frag → Bool)} {fn : List DefX} {g : Addr → Option Obj} {s : Shared} (h : ∀ a, g a = s.heap.get? a) : obsXG n fa fn g = (hookX n fa fn).obs s := by
  have e : g = s.heap.get? := funext h
  rw [e] <;> rfl
section
variable {fa : List (PySem.W.Frag → Bool)} {fn : List DefX} {K : PySem.W.Frag}
theorem SaysX.fact (c : SaysX fa fn K) (i : Nat) {f : PySem.W.Frag → Bool} (h : fa[i]? = some f := by rfl) : f K = true :=
  List.all_eq_true.mp (He.ba (show ((fa.all fun f => f K) && fn.all fun d => okX K (d.at_ K) d.qual) = true from congrArg (fun z : AlX => z.1) c)).1 f (List.mem_of_getElem? h)
theorem SaysX.def_ (c : SaysX fa fn K) (i : Nat) {d : DefX} (h : fn[i]? = some d := by rfl) : DefAt K d.name d.qual d.st (d.at_ K) := by
  have c2 := (He.ba (show ((fa.all fun f => f K) && fn.all fun d => okX K (d.at_ K) d.qual) = true from congrArg (fun z : AlX => z.1) c)).2
  have e : fn.map (fun d => fnX K (d.at_ K)) = fn.map DefX.val := congrArg (fun z : AlX => z.2) c
  have e2 : (fn.map fun d => fnX K (d.at_ K))[i]? = (fn.map DefX.val)[i]? := by rw [e]
  rw [List.getElem?_map, List.getElem?_map, h] at e2
  exact defAt_of (Option.some.inj e2) (List.all_eq_true.mp c2 d (List.mem_of_getElem? h))
end
/-- a property's object, its getter -/
def propB (K : PySem.W.Frag) (c f : Str) : Bool := He.eqO (PySem.W.findIn K (.ref (He.ga K c)) f) (some (some (.ref (He.ma K (He.ga K c) f)))) && (decide (PySem.W.specialIn K (.ref (He.ma K (He.ga K c) f)) "__get__" = some (some (.builtin "property.__get__"))) &&
  (decide (PySem.W.takesIn K (.ref (He.ma K (He.ga K c) f)) = some true) && decide ((PySem.W.recIn K (He.ma K (He.ga K c) f) "property").map List.head? = some (some (.ref (pg K (He.ga K c) f))))))
theorem prop_ok {K : PySem.W.Frag} {c f : Str} (h : propB K c f = true) : PropOf K (He.ga K c) f (He.ma K (He.ga K c) f) (pg K (He.ga K c) f) := by
  obtain ⟨h1, h⟩ := He.ba h
  obtain ⟨h2, h⟩ := He.ba h
  obtain ⟨h3, h4⟩ := He.ba h
  refine ⟨He.eqO_ok h1, of_decide_eq_true h2, of_decide_eq_true h3, ?_⟩
  have h5 := of_decide_eq_true h4
  generalize pg K (He.ga K c) f = g at h5 ⊢
  cases q : PySem.W.recIn K (He.ma K (He.ga K c) f) "property" with
  | none => rw [q] at h5; cases h5
  | some l =>
    rw [q] at h5
    cases l with
    | nil => cases h5
    | cons v rest =>
      have e : v = .ref g := by simpa using h5
      exact ⟨rest, by rw [e]⟩
def inB (K : PySem.W.Frag) (c : Str) : Bool := (He.Fa.cls c).ok K && (decide (PySem.W.findIn K (.ref (He.ga K c)) "__class__" = some (some (.builtin "object.__class__"))) &&
  (decide (PySem.W.specialIn K (.builtin "object.__class__") "__get__" = some (some (.builtin "getset_descriptor.__get__"))) && (decide (PySem.W.takesIn K (.builtin "object.__class__") = some true) && decide (PySem.W.mroIn K (He.ga K c) (.type "object") = some true))))
theorem in_ok {K : PySem.W.Frag} {c : Str} (h : inB K c = true) : InK K c := by
  obtain ⟨h1, h⟩ := He.ba h
  obtain ⟨h2, h⟩ := He.ba h
  obtain ⟨h3, h⟩ := He.ba h
  obtain ⟨h4, h5⟩ := He.ba h
  exact ⟨He.cls_ok h1, of_decide_eq_true h2, of_decide_eq_true h3, of_decide_eq_true h4, of_decide_eq_true h5⟩
def ecB (K : PySem.W.Frag) (c : Str) : Bool := decide (PySem.W.findIn K (.ref (He.ga K c)) "__getattribute__" = some (some (.builtin "BaseException.__getattribute__"))) && (decide (PySem.W.findIn K (.ref (He.ga K c)) "__getattr__" = some none) &&
  (decide (PySem.W.subIn K (.ref (He.ga K c)) (.type "BaseException") = some true) && (PySem.W.hasDictIn K (He.ga K c) && (decide (PySem.W.findIn K (.ref (He.ga K c)) "__class__" = some (some (.builtin "object.__class__"))) &&
  (decide (PySem.W.specialIn K (.builtin "object.__class__") "__get__" = some (some (.builtin "getset_descriptor.__get__"))) && (decide (PySem.W.takesIn K (.builtin "object.__class__") = some true) && decide (PySem.W.mroIn K (He.ga K c) (.type "object") = some true)))))))
theorem ec_ok {K : PySem.W.Frag} {c : Str} (h : ecB K c = true) : ExcC K (He.ga K c) := by
  obtain ⟨h1, h⟩ := He.ba h
  obtain ⟨h2, h⟩ := He.ba h
  obtain ⟨h3, h⟩ := He.ba h
  obtain ⟨h4, h⟩ := He.ba h
  obtain ⟨h5, h⟩ := He.ba h
  obtain ⟨h6, h⟩ := He.ba h
  obtain ⟨h7, h8⟩ := He.ba h
  exact ⟨of_decide_eq_true h1, of_decide_eq_true h2, of_decide_eq_true h3, h4, of_decide_eq_true h5, of_decide_eq_true h6, of_decide_eq_true h7, of_decide_eq_true h8⟩
theorem exk_ok {K : PySem.W.Frag} {h : Heap} {mg : Str → Option Value} (X : K.In h) (G : h.Ns mainGlobals mg) {x : Str} (c1 : ((He.Fa.glo x).ok K && (He.Fa.exc x).ok K) = true) : ExK K mg x :=
  let ⟨a, b, c, d⟩ := He.exc_ok (He.ba c1).2
  ⟨He.glo_ok X G (He.ba c1).1, a, b, c, d⟩

end HX

set_option Elab.async false
set_option linter.all false
set_option maxRecDepth 100000
set_option maxHeartbeats 4000000
/-! LA: data without a heap. D: values as trees; W: the frozen part of the heap and the changing objects' places; Lk: the slots and the heap bear the data. -/
namespace LA
open PySem PySem.Spec PyProof.Rows L2

/-- a value, as a tree; ptr k: the k-th changing object -/
inductive D where
  | non | bl (b : Bool) | int (i : Int) | str (x : Str) | ty (n : String) | cls (c : Str)
  | tup (xs : List D) | lst (xs : List D) | dk (kvs : List (Key × D)) | dt (kvs : List (List Key × D))
  | ins (c : Str) (fs : List (Str × D)) | ptr (k : Nat) | exn (c : Str) (fs : List (Str × D))
instance : Inhabited D := ⟨.non⟩

structure W where
  F : Hp
  as : List Addr
  /-- the error that is handled -/
  ex : Option Addr := none

mutual
inductive Rep (K : PySem.W.Frag) (w : W) : V → D → Prop
  | non : Rep K w .non .non
  | bl (b : Bool) : Rep K w (.bl b) (.bl b)
  | int (i : Int) : Rep K w (.int i) (.int i)
  | str (x : Str) : Rep K w (.str x) (.str x)
  | ty (n : String) : Rep K w (.ty n) (.ty n)
  | cls (c : Str) : Rep K w (.ref (He.ga K c)) (.cls c)
  | tup {a : Addr} {vs : List V} {ds : List D} (h : w.F a = some (.tup vs)) (r : RepL K w vs ds) : Rep K w (.ref a) (.tup ds)
  | lst {a : Addr} {vs : List V} {ds : List D} (h : w.F a = some (.lst vs)) (r : RepL K w vs ds) : Rep K w (.ref a) (.lst ds)
  | dk {a : Addr} {vs : List (Key × V)} {ds : List (Key × D)} (h : Rd w.F a (.dK vs)) (r : RepK K w vs ds) : Rep K w (.ref a) (.dk ds)
  | dt {a : Addr} {vs : List (List Key × V)} {ds : List (List Key × D)} (h : Rd w.F a (.dT vs)) (r : RepT K w vs ds) : Rep K w (.ref a) (.dt ds)
  | ins {a dx : Addr} {c : Str} {vs : List (Str × V)} {ds : List (Str × D)} (h : w.F a = some (.ins (He.ga K c) dx vs)) (r : RepF K w vs ds) : Rep K w (.ref a) (.ins c ds)
  | ptr {a : Addr} {k : Nat} (h : w.as[k]? = some a) : Rep K w (.ref a) (.ptr k)
inductive RepL (K : PySem.W.Frag) (w : W) : List V → List D → Prop
  | nil : RepL K w [] []
  | cons {v : V} {d : D} {vs : List V} {ds : List D} (h : Rep K w v d) (r : RepL K w vs ds) : RepL K w (v :: vs) (d :: ds)
inductive RepK (K : PySem.W.Frag) (w : W) : List (Key × V) → List (Key × D) → Prop
  | nil : RepK K w [] []
  | cons {k : Key} {v : V} {d : D} {vs : List (Key × V)} {ds : List (Key × D)} (h : Rep K w v d) (r : RepK K w vs ds) : RepK K w ((k, v) :: vs) ((k, d) :: ds)
inductive RepT (K : PySem.W.Frag) (w : W) : List (List Key × V) → List (List Key × D) → Prop
  | nil : RepT K w [] []
  | cons {k : List Key} {v : V} {d : D} {vs : List (List Key × V)} {ds : List (List Key × D)} (h : Rep K w v d) (r : RepT K w vs ds) : RepT K w ((k, v) :: vs) ((k, d) :: ds)
inductive RepF (K : PySem.W.Frag) (w : W) : List (Str × V) → List (Str × D) → Prop
  | nil : RepF K w [] []
  | cons {k : Str} {v : V} {d : D} {vs : List (Str × V)} {ds : List (Str × D)} (h : Rep K w v d) (r : RepF K w vs ds) : RepF K w ((k, v) :: vs) ((k, d) :: ds)
end

/-- what w bears, w' bears -/
structure Le (K : PySem.W.Frag) (w w' : W) : Prop where
  t : ∀ (a : Addr) (vs : List V), w.F a = some (.tup vs) → w'.F a = some (.tup vs)
  l : ∀ (a : Addr) (vs : List V), w.F a = some (.lst vs) → w'.F a = some (.lst vs)
  k : ∀ (a : Addr) (vs : List (Key × V)), Rd w.F a (.dK vs) → Rd w'.F a (.dK vs)
  d : ∀ (a : Addr) (vs : List (List Key × V)), Rd w.F a (.dT vs) → Rd w'.F a (.dT vs)
  i : ∀ (a C dx : Addr) (vs : List (Str × V)), w.F a = some (.ins C dx vs) → w'.F a = some (.ins C dx vs)
  p : ∀ (k : Nat) (a : Addr), w.as[k]? = some a → w'.as[k]? = some a
  x : ∀ (a : Addr) (vs : List (Str × V)), w.F a = some (.xd vs) → w'.F a = some (.xd vs)
section
variable {K : PySem.W.Frag} {w w1 w2 w' : W}
theorem Le.refl (K : PySem.W.Frag) (w : W) : Le K w w := ⟨fun _ _ h => h, fun _ _ h => h, fun _ _ h => h, fun _ _ h => h, fun _ _ _ _ h => h, fun _ _ h => h, fun _ _ h => h⟩
theorem Le.trans (a : Le K w w1) (b : Le K w1 w2) : Le K w w2 :=
  ⟨fun v d h => b.t v d (a.t v d h), fun v d h => b.l v d (a.l v d h), fun v d h => b.k v d (a.k v d h), fun v d h => b.d v d (a.d v d h), fun v d e f h => b.i v d e f (a.i v d e f h), fun v d h => b.p v d (a.p v d h), fun v d h => b.x v d (a.x v d h)⟩
theorem Rep.mono (e : Le K w w') {v : V} {d : D} (h : Rep K w v d) : Rep K w' v d := by
  refine Rep.rec (motive_1 := fun v d _ => Rep K w' v d) (motive_2 := fun v d _ => RepL K w' v d) (motive_3 := fun v d _ => RepK K w' v d) (motive_4 := fun v d _ => RepT K w' v d) (motive_5 := fun v d _ => RepF K w' v d)
    .non .bl .int .str .ty .cls (fun h _ r => .tup (e.t _ _ h) r) (fun h _ r => .lst (e.l _ _ h) r) (fun h _ r => .dk (e.k _ _ h) r) (fun h _ r => .dt (e.d _ _ h) r) (fun h _ r => .ins (e.i _ _ _ _ h) r) (fun h => .ptr (e.p _ _ h))
    .nil (fun _ _ h r => .cons h r) .nil (fun _ _ h r => .cons h r) .nil (fun _ _ h r => .cons h r) .nil (fun _ _ h r => .cons h r) h
theorem RepL.mono (e : Le K w w') : ∀ {v : List V} {d : List D}, RepL K w v d → RepL K w' v d
  | _, _, .nil => .nil
  | _, _, .cons h r => .cons (h.mono e) (RepL.mono e r)
theorem RepK.mono (e : Le K w w') : ∀ {v : List (Key × V)} {d : List (Key × D)}, RepK K w v d → RepK K w' v d
  | _, _, .nil => .nil
  | _, _, .cons h r => .cons (h.mono e) (RepK.mono e r)
theorem RepT.mono (e : Le K w w') : ∀ {v : List (List Key × V)} {d : List (List Key × D)}, RepT K w v d → RepT K w' v d
  | _, _, .nil => .nil
  | _, _, .cons h r => .cons (h.mono e) (RepT.mono e r)
theorem RepF.mono (e : Le K w w') : ∀ {v : List (Str × V)} {d : List (Str × D)}, RepF K w v d → RepF K w' v d
  | _, _, .nil => .nil
  | _, _, .cons h r => .cons (h.mono e) (RepF.mono e r)
theorem Rd.ext {F F' : Hp} {a : Addr} {u : HO} (h : ∀ a o, F a = some o → F' a = some o) (r : Rd F a u) : Rd F' a u := r.elim (fun q => .inl (h _ _ q)) fun ⟨o, q⟩ => .inr ⟨o, h _ _ q⟩
/-- more is frozen, more changes -/
theorem Le.ext (h1 : ∀ a o, w.F a = some o → w'.F a = some o) (h2 : ∀ (k : Nat) (a : Addr), w.as[k]? = some a → w'.as[k]? = some a) : Le K w w' :=
  ⟨fun _ _ h => h1 _ _ h, fun _ _ h => h1 _ _ h, fun _ _ h => Rd.ext h1 h, fun _ _ h => Rd.ext h1 h, fun _ _ _ _ h => h1 _ _ h, h2, fun _ _ h => h1 _ _ h⟩
theorem Le.new {p : Addr} {o : HO} (h : w.F p = none) : Le K w { w with F := upd w.F p o } := .ext (fun a u e => by show upd w.F p o a = some u; rw [upd_ne (ne_of_none e h)]; exact e) fun _ _ h => h
theorem RepL.length : ∀ {v : List V} {d : List D}, RepL K w v d → v.length = d.length
  | _, _, .nil => rfl
  | _, _, .cons _ r => congrArg (· + 1) (RepL.length r)
theorem RepL.get : ∀ {v : List V} {d : List D} {i : Nat} {x : D}, RepL K w v d → d[i]? = some x → ∃ u, v[i]? = some u ∧ Rep K w u x
  | _, _, _, _, .nil, e => by simp at e
  | _, _, 0, _, .cons h _, e => by simp at e; subst e; exact ⟨_, rfl, h⟩
  | _, _, i + 1, x, .cons _ r, e => by
    obtain ⟨u, h1, h2⟩ := RepL.get (i := i) (x := x) r (by simpa using e)
    exact ⟨u, by simpa using h1, h2⟩
theorem RepL.getV : ∀ {v : List V} {d : List D} {i : Nat} {u : V}, RepL K w v d → v[i]? = some u → ∃ x, d[i]? = some x ∧ Rep K w u x
  | _, _, _, _, .nil, e => by simp at e
  | _, _, 0, _, .cons h _, e => by simp at e; subst e; exact ⟨_, rfl, h⟩
  | _, _, i + 1, x, .cons _ r, e => by
    obtain ⟨u, h1, h2⟩ := RepL.getV (i := i) r (by simpa using e)
    exact ⟨u, by simpa using h1, h2⟩
theorem RepL.append : ∀ {v v' : List V} {d d' : List D}, RepL K w v d → RepL K w v' d' → RepL K w (v ++ v') (d ++ d')
  | _, _, _, _, .nil, s => s
  | _, _, _, _, .cons h r, s => .cons h (RepL.append r s)
theorem RepL.take : ∀ {v : List V} {d : List D} (n : Nat), RepL K w v d → RepL K w (v.take n) (d.take n)
  | _, _, 0, _ => .nil
  | _, _, _ + 1, .nil => .nil
  | _, _, n + 1, .cons h r => .cons h (RepL.take n r)
theorem RepL.drop : ∀ {v : List V} {d : List D} (n : Nat), RepL K w v d → RepL K w (v.drop n) (d.drop n)
  | _, _, 0, r => r
  | _, _, _ + 1, .nil => .nil
  | _, _, n + 1, .cons _ r => RepL.drop n r
theorem RepL.set {x : V} {y : D} (h : Rep K w x y) : ∀ {v : List V} {d : List D} (i : Nat), RepL K w v d → RepL K w (v.set i x) (d.set i y)
  | _, _, _, .nil => .nil
  | _, _, 0, .cons _ r => .cons h r
  | _, _, i + 1, .cons q r => .cons q (RepL.set h i r)
theorem RepL.ints : ∀ (ns : List Int), RepL K w (ns.map V.int) (ns.map D.int)
  | [] => .nil
  | n :: r => .cons (.int n) (RepL.ints r)
theorem RepL.strs : ∀ (ns : List Str), RepL K w (ns.map V.str) (ns.map D.str)
  | [] => .nil
  | n :: r => .cons (.str n) (RepL.strs r)
theorem RepL.of_ints : ∀ {ns : List Int} {vs : List V}, RepL K w vs (ns.map D.int) → vs = ns.map V.int
  | [], _, .nil => rfl
  | n :: r, _, .cons h q => by cases h; rw [RepL.of_ints q]; rfl
theorem RepL.of_strs : ∀ {ns : List Str} {vs : List V}, RepL K w vs (ns.map D.str) → vs = ns.map V.str
  | [], _, .nil => rfl
  | n :: r, _, .cons h q => by cases h; rw [RepL.of_strs q]; rfl
theorem RepL.of_bls : ∀ {ns : List Bool} {vs : List V}, RepL K w vs (ns.map D.bl) → vs = ns.map V.bl
  | [], _, .nil => rfl
  | n :: r, _, .cons h q => by cases h; rw [RepL.of_bls q]; rfl
theorem RepF.lookup : ∀ {v : List (Str × V)} {d : List (Str × D)} {f : Str} {x : D}, RepF K w v d → d.lookup f = some x → ∃ u, v.lookup f = some u ∧ Rep K w u x
  | _, _, _, _, .nil, e => by simp at e
  | _, _, f, x, .cons (k := k) h r, e => by
    simp only [List.lookup_cons] at e ⊢
    cases q : f == k with
    | true => rw [q] at e; cases e; exact ⟨_, rfl, h⟩
    | false => rw [q] at e; exact RepF.lookup r e
theorem RepF.lookup_none : ∀ {v : List (Str × V)} {d : List (Str × D)} {f : Str}, RepF K w v d → d.lookup f = none → v.lookup f = none
  | _, _, _, .nil, _ => rfl
  | _, _, f, .cons (k := k) h r, e => by
    simp only [List.lookup_cons] at e ⊢
    cases q : f == k with
    | true => rw [q] at e; cases e
    | false => rw [q] at e; exact RepF.lookup_none r e
theorem RepF.length : ∀ {v : List (Str × V)} {d : List (Str × D)}, RepF K w v d → v.length = d.length
  | _, _, .nil => rfl
  | _, _, .cons _ r => congrArg (· + 1) (RepF.length r)
def putD (f : Str) (y : D) : List (Str × D) → List (Str × D)
  | [] => [(f, y)]
  | (g, x) :: r => if g = f then (f, y) :: r else (g, x) :: putD f y r
theorem RepF.put {f : Str} {x : V} {y : D} (h : Rep K w x y) : ∀ {v : List (Str × V)} {d : List (Str × D)}, RepF K w v d → RepF K w (putF f x v) (putD f y d)
  | _, _, .nil => .cons h .nil
  | _, _, .cons (k := k) q r => by
    unfold putF putD
    by_cases e : k = f
    · rw [if_pos e, if_pos e]; subst e; exact .cons h r
    · rw [if_neg e, if_neg e]; exact .cons q (RepF.put h r)
theorem RepK.length : ∀ {v : List (Key × V)} {d : List (Key × D)}, RepK K w v d → v.length = d.length
  | _, _, .nil => rfl
  | _, _, .cons _ r => congrArg (· + 1) (RepK.length r)
theorem RepT.length : ∀ {v : List (List Key × V)} {d : List (List Key × D)}, RepT K w v d → v.length = d.length
  | _, _, .nil => rfl
  | _, _, .cons _ r => congrArg (· + 1) (RepT.length r)
/-- what a dict holds -/
def valD {κ : Type} [DecidableEq κ] (kvs : List (κ × D)) (k : κ) : Option D := (kvs.find? fun kv => decide (kv.1 = k)).map (·.2)
def putDK {κ : Type} [DecidableEq κ] (kvs : List (κ × D)) (k : κ) (v : D) : List (κ × D) := if (kvs.any fun kv => decide (kv.1 = k)) then kvs.map fun kv => if kv.1 = k then (kv.1, v) else kv else kvs ++ [(k, v)]
theorem RepK.val {v : List (Key × V)} {d : List (Key × D)} (h : RepK K w v d) (k : Key) : (∀ x, valD d k = some x → ∃ u, valV v k = some u ∧ Rep K w u x) ∧ (valD d k = none → valV v k = none) := by
  induction d generalizing v with
  | nil => cases h; exact ⟨fun _ e => by simp [valD] at e, fun _ => rfl⟩
  | cons p d ih =>
    cases h with
    | cons h r =>
      rename_i k' u x vs
      by_cases e : k' = k
      · refine ⟨fun x' q => ?_, fun q => ?_⟩
        · have : valD ((k', x) :: d) k = some x := by simp [valD, List.find?_cons, e]
          rw [this] at q; cases q
          exact ⟨u, by simp [valV, List.find?_cons, e], h⟩
        · have : valD ((k', x) :: d) k = some x := by simp [valD, List.find?_cons, e]
          rw [this] at q; cases q
      · have e1 : valD ((k', x) :: d) k = valD d k := by simp [valD, List.find?_cons, e]
        have e2 : valV ((k', u) :: vs) k = valV vs k := by simp [valV, List.find?_cons, e]
        rw [e1, e2]
        exact ih r
theorem RepT.val {v : List (List Key × V)} {d : List (List Key × D)} (h : RepT K w v d) (k : List Key) : (∀ x, valD d k = some x → ∃ u, valV v k = some u ∧ Rep K w u x) ∧ (valD d k = none → valV v k = none) := by
  induction d generalizing v with
  | nil => cases h; exact ⟨fun _ e => by simp [valD] at e, fun _ => rfl⟩
  | cons p d ih =>
    cases h with
    | cons h r =>
      rename_i k' u x vs
      by_cases e : k' = k
      · refine ⟨fun x' q => ?_, fun q => ?_⟩
        · have : valD ((k', x) :: d) k = some x := by simp [valD, List.find?_cons, e]
          rw [this] at q; cases q
          exact ⟨u, by simp [valV, List.find?_cons, e], h⟩
        · have : valD ((k', x) :: d) k = some x := by simp [valD, List.find?_cons, e]
          rw [this] at q; cases q
      · have e1 : valD ((k', x) :: d) k = valD d k := by simp [valD, List.find?_cons, e]
        have e2 : valV ((k', u) :: vs) k = valV vs k := by simp [valV, List.find?_cons, e]
        rw [e1, e2]
        exact ih r
theorem RepK.snoc {k : Key} {x : V} {y : D} (h : Rep K w x y) : ∀ {v : List (Key × V)} {d : List (Key × D)}, RepK K w v d → RepK K w (v ++ [(k, x)]) (d ++ [(k, y)])
  | _, _, .nil => .cons h .nil
  | _, _, .cons q r => .cons q (RepK.snoc h r)
theorem RepT.snoc {k : List Key} {x : V} {y : D} (h : Rep K w x y) : ∀ {v : List (List Key × V)} {d : List (List Key × D)}, RepT K w v d → RepT K w (v ++ [(k, x)]) (d ++ [(k, y)])
  | _, _, .nil => .cons h .nil
  | _, _, .cons q r => .cons q (RepT.snoc h r)
theorem RepK.any (k : Key) : ∀ {v : List (Key × V)} {d : List (Key × D)}, RepK K w v d → (v.any fun kv => decide (kv.1 = k)) = d.any fun kv => decide (kv.1 = k)
  | _, _, .nil => rfl
  | _, _, .cons _ r => by simp only [List.any_cons]; rw [RepK.any k r]
theorem RepT.any (k : List Key) : ∀ {v : List (List Key × V)} {d : List (List Key × D)}, RepT K w v d → (v.any fun kv => decide (kv.1 = k)) = d.any fun kv => decide (kv.1 = k)
  | _, _, .nil => rfl
  | _, _, .cons _ r => by simp only [List.any_cons]; rw [RepT.any k r]
theorem RepK.map {k : Key} {x : V} {y : D} (h : Rep K w x y) : ∀ {v : List (Key × V)} {d : List (Key × D)}, RepK K w v d → RepK K w (v.map fun kv => if kv.1 = k then (kv.1, x) else kv) (d.map fun kv => if kv.1 = k then (kv.1, y) else kv)
  | _, _, .nil => .nil
  | _, _, .cons (k := k') q r => by
    simp only [List.map_cons]
    by_cases e : k' = k
    · rw [if_pos e, if_pos e]; exact .cons h (RepK.map h r)
    · rw [if_neg e, if_neg e]; exact .cons q (RepK.map h r)
theorem RepT.map {k : List Key} {x : V} {y : D} (h : Rep K w x y) : ∀ {v : List (List Key × V)} {d : List (List Key × D)}, RepT K w v d → RepT K w (v.map fun kv => if kv.1 = k then (kv.1, x) else kv) (d.map fun kv => if kv.1 = k then (kv.1, y) else kv)
  | _, _, .nil => .nil
  | _, _, .cons (k := k') q r => by
    simp only [List.map_cons]
    by_cases e : k' = k
    · rw [if_pos e, if_pos e]; exact .cons h (RepT.map h r)
    · rw [if_neg e, if_neg e]; exact .cons q (RepT.map h r)
theorem RepK.put {k : Key} {x : V} {y : D} {v : List (Key × V)} {d : List (Key × D)} (r : RepK K w v d) (h : Rep K w x y) : RepK K w (putK v k x) (putDK d k y) := by
  unfold putK putDK
  rw [RepK.any k r]
  split
  · exact RepK.map h r
  · exact RepK.snoc h r
theorem RepT.put {k : List Key} {x : V} {y : D} {v : List (List Key × V)} {d : List (List Key × D)} (r : RepT K w v d) (h : Rep K w x y) : RepT K w (putK v k x) (putDK d k y) := by
  unfold putK putDK
  rw [RepT.any k r]
  split
  · exact RepT.map h r
  · exact RepT.snoc h r
theorem RepK.get : ∀ {v : List (Key × V)} {d : List (Key × D)} {i : Nat} {k : Key} {x : V}, RepK K w v d → v[i]? = some (k, x) → ∃ u, d[i]? = some (k, u) ∧ Rep K w x u
  | _, _, _, _, _, .nil, e => by simp at e
  | _, _, 0, _, _, .cons h _, e => by simp at e; obtain ⟨rfl, rfl⟩ := e; exact ⟨_, rfl, h⟩
  | _, _, i + 1, k, x, .cons _ r, e => by
    obtain ⟨u, h1, h2⟩ := RepK.get (i := i) r (by simpa using e)
    exact ⟨u, by simpa using h1, h2⟩
theorem RepT.get : ∀ {v : List (List Key × V)} {d : List (List Key × D)} {i : Nat} {k : List Key} {x : V}, RepT K w v d → v[i]? = some (k, x) → ∃ u, d[i]? = some (k, u) ∧ Rep K w x u
  | _, _, _, _, _, .nil, e => by simp at e
  | _, _, 0, _, _, .cons h _, e => by simp at e; obtain ⟨rfl, rfl⟩ := e; exact ⟨_, rfl, h⟩
  | _, _, i + 1, k, x, .cons _ r, e => by
    obtain ⟨u, h1, h2⟩ := RepT.get (i := i) r (by simpa using e)
    exact ⟨u, by simpa using h1, h2⟩
end

/-! ### objects that change; slots; the state -/
inductive MO where
  | lst (xs : List D) | dk (kvs : List (Key × D)) | dt (kvs : List (List Key × D)) | ins (c : Str) (fs : List (Str × D)) | rng
inductive AV where
  | fr (d : D) | ow (m : MO) | ex (x : Str × List (Str × D))
abbrev ASt := List (Option AV)
abbrev MS := List MO
inductive RepM (K : PySem.W.Frag) (w : W) (H : Hp) (a : Addr) : MO → Prop
  | lst {vs : List V} {ds : List D} (h : H a = some (.lst vs)) (r : RepL K w vs ds) : RepM K w H a (.lst ds)
  | dk {vs : List (Key × V)} {ds : List (Key × D)} (h : H a = some (.dK vs)) (r : RepK K w vs ds) : RepM K w H a (.dk ds)
  | dt {vs : List (List Key × V)} {ds : List (List Key × D)} (h : H a = some (.dT vs)) (r : RepT K w vs ds) : RepM K w H a (.dt ds)
  | ins {dx : Addr} {c : Str} {vs : List (Str × V)} {ds : List (Str × D)} (h : H a = some (.ins (He.ga K c) dx vs)) (r : RepF K w vs ds) : RepM K w H a (.ins c ds)
  | rng {ns : List Int} (h : H a = some (.lst (ns.map V.int))) (l : 2 ≤ ns.length) : RepM K w H a .rng
/-- the error that is handled: its place, its class, its own dict -/
abbrev XI := Option (Addr × Value × Option Addr)
abbrev XD := Str × List (Str × D)
/-- an error: its class, its own dict -/
def RepX (K : PySem.W.Frag) (w : W) (cl : Value) (ad : Option Addr) (x : XD) : Prop := cl = .ref (He.ga K x.1) ∧ ((ad = none ∧ x.2 = []) ∨ ∃ a fs, ad = some a ∧ w.F a = some (.xd fs) ∧ RepF K w fs x.2)
theorem RepX.mono {K : PySem.W.Frag} {w w' : W} {cl : Value} {ad : Option Addr} {x : XD} (e : Le K w w') (h : RepX K w cl ad x) : RepX K w' cl ad x := by
  obtain ⟨h1, h2⟩ := h
  refine ⟨h1, h2.imp id ?_⟩
  rintro ⟨a, fs, e1, e2, r⟩
  exact ⟨a, fs, e1, e.x _ _ e2, r.mono e⟩
structure Bs (ex : XI) where
  H : Hp
  as : List Addr
  F : Hp
  /-- the object that an __init__ is filling, in slot 0 -/
  self : Option Addr := none
structure St0 (K : PySem.W.Frag) (w : W) (ms : MS) (H : Hp) : Prop where
  fh : ∀ a o, w.F a = some o → H a = some o
  nd : w.as.Nodup
  na : ∀ a ∈ w.as, w.F a = none
  ce : ∀ (k : Nat) m, ms[k]? = some m → ∃ a, w.as[k]? = some a ∧ RepM K w H a m
  ln : w.as.length = ms.length
def SlotOk (K : PySem.W.Frag) {ex : XI} (B : Bs ex) (w : W) (σ : L2.St) (H : Hp) (i : Nat) : AV → Prop
  | .fr d => ∃ v, σ[i]? = some (some v) ∧ Rep K w v d
  | .ow m => ∃ p, σ[i]? = some (some (.ref p)) ∧ RepM K w H p m ∧ w.F p = none ∧ p ∉ w.as ∧ B.H p = none
  | .ex x => ∃ a cl ad, ex = some (a, cl, ad) ∧ σ[i]? = some (some (.ref a)) ∧ RepX K w cl ad x
structure Lk (K : PySem.W.Frag) {ex : XI} (B : Bs ex) (w : W) (ms : MS) (s : ASt) (σ : L2.St) (H : Hp) : Prop where
  s0 : St0 K w ms H
  keep : ∀ a o, a ∉ B.as → B.H a = some o → H a = some o
  pre : ∀ a ∈ w.as, a ∈ B.as ∨ B.H a = none
  bas : ∀ a ∈ B.as, a ∈ w.as
  fz : ∀ a o, w.F a = some o → (∃ u, B.F a = some u) ∨ a ∈ B.as ∨ B.H a = none
  len : s.length = σ.length
  sl : ∀ (i : Nat) av, s[i]? = some (some av) → SlotOk K B w σ H i av
  dj : ∀ (i j : Nat) p mi mj, s[i]? = some (some (.ow mi)) → s[j]? = some (some (.ow mj)) → σ[i]? = some (some (.ref p)) → σ[j]? = some (some (.ref p)) → i = j
  bf : ∀ a u, B.F a = some u → ∃ o, B.H a = some o
  sf : ∀ x m, B.self = some x → s[0]? = some (some (.ow m)) → σ[0]? = some (some (.ref x))
section
variable {K : PySem.W.Frag} {ex : XI} {B : Bs ex} {w w' : W} {ms : MS} {s : ASt} {σ : L2.St} {H : Hp} {p : Addr} {o : HO} {m : MO}
theorem RepM.there (h : RepM K w H p m) : ∃ o, H p = some o := by cases h <;> exact ⟨_, by assumption⟩
theorem RepM.mono {H' : Hp} (e : Le K w w') (h : RepM K w H p m) (k : ∀ o, H p = some o → H' p = some o) : RepM K w' H' p m := by
  cases h with
  | lst h r => exact .lst (k _ h) (r.mono e)
  | dk h r => exact .dk (k _ h) (r.mono e)
  | dt h r => exact .dt (k _ h) (r.mono e)
  | ins h r => exact .ins (k _ h) (r.mono e)
  | rng h l => exact .rng (k _ h) l
theorem St0.alive (h : St0 K w ms H) {a : Addr} (ha : a ∈ w.as) : ∃ o, H a = some o := by
  obtain ⟨k, hk, e⟩ := List.mem_iff_getElem.mp ha
  have : k < ms.length := by rw [← h.ln]; exact hk
  obtain ⟨b, hb, r⟩ := h.ce k ms[k] (by simp [this])
  have : b = a := by
    have q : w.as[k]? = some a := by simp [hk, e]
    rw [q] at hb; exact (Option.some.inj hb).symm
  subst this
  exact r.there
theorem Lk.fresh (L : Lk K B w ms s σ H) (hp : H p = none) : w.F p = none ∧ p ∉ w.as ∧ B.H p = none := by
  have h2 : p ∉ w.as := fun ha => by
    obtain ⟨o, e⟩ := L.s0.alive ha
    rw [hp] at e; cases e
  refine ⟨?_, h2, ?_⟩
  · cases q : w.F p with
    | none => rfl
    | some o => have := L.s0.fh p o q; rw [hp] at this; cases this
  · cases q : B.H p with
    | none => rfl
    | some o => have := L.keep p o (fun z => h2 (L.bas p z)) q; rw [hp] at this; cases this
/-- a new frozen object -/
theorem Lk.new (L : Lk K B w ms s σ H) (hp : H p = none) : Lk K B { w with F := upd w.F p o } ms s σ (upd H p o) := by
  obtain ⟨f1, f2, f3⟩ := L.fresh hp
  have le : Le K w { w with F := upd w.F p o } := Le.new f1
  have kp : ∀ a u, H a = some u → upd H p o a = some u := fun a u e => by rw [upd_ne (ne_of_none e hp)]; exact e
  refine ⟨⟨fun a u e => ?_, L.s0.nd, fun a ha => ?_, fun k m e => ?_, L.s0.ln⟩, fun a u na e => kp _ _ (L.keep a u na e), L.pre, L.bas, fun a u e => ?_, L.len, fun i av e => ?_, L.dj, L.bf, L.sf⟩
  · by_cases q : a = p
    · subst q; have e : upd w.F a o a = some u := e; rw [upd_same] at e; rw [upd_same]; exact e
    · have e : upd w.F p o a = some u := e; rw [upd_ne q] at e; exact kp _ _ (L.s0.fh a u e)
  · show upd w.F p o a = none
    rw [upd_ne (show a ≠ p from fun z => f2 (z ▸ ha))]; exact L.s0.na a ha
  · obtain ⟨a, ha, r⟩ := L.s0.ce k m e
    exact ⟨a, ha, r.mono le (kp a)⟩
  · by_cases q : a = p
    · subst q; exact .inr (.inr f3)
    · have e : upd w.F p o a = some u := e; rw [upd_ne q] at e; exact L.fz a u e
  · have := L.sl i av e
    cases av with
    | fr d => obtain ⟨v, e1, r⟩ := this; exact ⟨v, e1, r.mono le⟩
    | ex x => obtain ⟨a, c, d, e0, e1, r⟩ := this; exact ⟨a, c, d, e0, e1, r.mono le⟩
    | ow m =>
      obtain ⟨q, e1, r, n1, n2, n3⟩ := this
      refine ⟨q, e1, r.mono le (kp q), ?_, n2, n3⟩
      show upd w.F p o q = none
      obtain ⟨u, hu⟩ := r.there
      rw [upd_ne (ne_of_none hu hp)]; exact n1
/-- a slot stored -/
theorem Lk.set (L : Lk K B w ms s σ H) {i : Nat} {v : V} {d : D} (r : Rep K w v d) : Lk K B w ms (s.set i (some (.fr d))) (σ.set i (some v)) H := by
  refine ⟨L.s0, L.keep, L.pre, L.bas, L.fz, by simp [L.len], fun j av e => ?_, fun j k q mi mj e1 e2 e3 e4 => ?_, L.bf, fun x m hs e => ?_⟩
  · by_cases h : i = j
    · subst h
      have hl : i < s.length := by
        have := (List.getElem?_eq_some_iff.mp e).1
        simpa using this
      rw [List.getElem?_set_self hl] at e
      cases e
      exact ⟨v, by rw [List.getElem?_set_self (by rw [← L.len]; exact hl)], r⟩
    · rw [List.getElem?_set_ne h] at e
      have := L.sl j av e
      cases av with
      | fr d => obtain ⟨u, e1, r⟩ := this; exact ⟨u, by rw [List.getElem?_set_ne h]; exact e1, r⟩
      | ex x => obtain ⟨a, c, d, e0, e1, r⟩ := this; exact ⟨a, c, d, e0, by rw [List.getElem?_set_ne h]; exact e1, r⟩
      | ow m => obtain ⟨u, e1, r⟩ := this; exact ⟨u, by rw [List.getElem?_set_ne h]; exact e1, r⟩
  · have ne : ∀ {j m}, (s.set i (some (.fr d)))[j]? = some (some (AV.ow m)) → i ≠ j := fun {j m} e z => by
      subst z
      have hl : i < s.length := by have := (List.getElem?_eq_some_iff.mp e).1; simpa using this
      rw [List.getElem?_set_self hl] at e; cases e
    have n1 := ne e1
    have n2 := ne e2
    rw [List.getElem?_set_ne n1] at e1 e3
    rw [List.getElem?_set_ne n2] at e2 e4
    exact L.dj j k q mi mj e1 e2 e3 e4
  · by_cases z : i = 0
    · subst z
      have hl : 0 < s.length := by have := (List.getElem?_eq_some_iff.mp e).1; simpa using this
      rw [List.getElem?_set_self hl] at e; cases e
    · rw [List.getElem?_set_ne z] at e ⊢
      exact L.sf x m hs e
/-- a slot of a new object of one's own -/
theorem Lk.newOwn (L : Lk K B w ms s σ H) {i : Nat} (i0 : 0 < i) (hp : H p = none) (r : RepM K w (upd H p o) p m) : Lk K B w ms (s.set i (some (.ow m))) (σ.set i (some (.ref p))) (upd H p o) := by
  obtain ⟨f1, f2, f3⟩ := L.fresh hp
  have kp : ∀ a u, H a = some u → upd H p o a = some u := fun a u e => by rw [upd_ne (ne_of_none e hp)]; exact e
  refine ⟨⟨fun a u e => kp _ _ (L.s0.fh a u e), L.s0.nd, L.s0.na, fun k m e => ?_, L.s0.ln⟩, fun a u na e => kp _ _ (L.keep a u na e), L.pre, L.bas, L.fz, by simp [L.len], fun j av e => ?_, fun j k q mi mj e1 e2 e3 e4 => ?_, L.bf, fun x m hs e => ?_⟩
  · obtain ⟨a, ha, r⟩ := L.s0.ce k m e
    exact ⟨a, ha, r.mono (Le.refl _ _) (kp a)⟩
  · by_cases h : i = j
    · subst h
      have hl : i < s.length := by have := (List.getElem?_eq_some_iff.mp e).1; simpa using this
      rw [List.getElem?_set_self hl] at e
      cases e
      exact ⟨p, by rw [List.getElem?_set_self (by rw [← L.len]; exact hl)], r, f1, f2, f3⟩
    · rw [List.getElem?_set_ne h] at e
      have := L.sl j av e
      cases av with
      | fr d => obtain ⟨u, e1, r⟩ := this; exact ⟨u, by rw [List.getElem?_set_ne h]; exact e1, r⟩
      | ex x => obtain ⟨a, c, d, e0, e1, r⟩ := this; exact ⟨a, c, d, e0, by rw [List.getElem?_set_ne h]; exact e1, r⟩
      | ow m => obtain ⟨u, e1, r, rest⟩ := this; exact ⟨u, by rw [List.getElem?_set_ne h]; exact e1, r.mono (Le.refl _ _) (kp u), rest⟩
  · have ne : ∀ {j : Nat} {mj : MO}, i ≠ j → (s.set i (some (.ow m)))[j]? = some (some (AV.ow mj)) → (σ.set i (some (.ref p)))[j]? = some (some (.ref q)) → q ≠ p := fun {j mj} h e e' z => by
      rw [List.getElem?_set_ne h] at e e'
      obtain ⟨u, e1, r, _⟩ := L.sl j _ e
      rw [e1] at e'
      obtain ⟨o', ho⟩ := r.there
      have : u = q := by simpa using e'
      rw [this, z, hp] at ho; cases ho
    have at_ : ∀ {j : Nat} {mj : MO}, i = j → (s.set i (some (.ow m)))[j]? = some (some (AV.ow mj)) → (σ.set i (some (.ref p)))[j]? = some (some (.ref q)) → q = p := fun {j mj} h e e' => by
      subst h
      have hl : i < s.length := by have := (List.getElem?_eq_some_iff.mp e).1; simpa using this
      rw [List.getElem?_set_self (by rw [← L.len]; exact hl)] at e'
      simpa using e'.symm
    by_cases hj : i = j <;> by_cases hk : i = k
    · exact hj.symm.trans hk
    · exact absurd (at_ hj e1 e3) (ne hk e2 e4)
    · exact absurd (at_ hk e2 e4) (ne hj e1 e3)
    · rw [List.getElem?_set_ne hj] at e1 e3
      rw [List.getElem?_set_ne hk] at e2 e4
      exact L.dj j k q mi mj e1 e2 e3 e4
  · rw [List.getElem?_set_ne (by omega)] at e ⊢
    exact L.sf x m hs e
/-- an own object changed -/
theorem Lk.updOwn (L : Lk K B w ms s σ H) {i : Nat} {m' : MO} (h : s[i]? = some (some (.ow m))) (e : σ[i]? = some (some (.ref p))) (r : RepM K w (upd H p o) p m') : Lk K B w ms (s.set i (some (.ow m'))) σ (upd H p o) := by
  obtain ⟨p', e1, r0, n1, n2, n3⟩ := L.sl i _ h
  have : p' = p := by rw [e] at e1; simpa using e1.symm
  subst this
  have il : i < s.length := (List.getElem?_eq_some_iff.mp h).1
  refine ⟨⟨fun a u e => ?_, L.s0.nd, L.s0.na, fun k m e => ?_, L.s0.ln⟩, fun a u na e => ?_, L.pre, L.bas, L.fz, by simp [L.len], fun j av e' => ?_, fun j k q mi mj q1 q2 q3 q4 => ?_, L.bf, fun x mm hs e' => ?_⟩
  · rw [upd_ne (fun z => by rw [z, n1] at e; cases e)]; exact L.s0.fh a u e
  · obtain ⟨a, ha, r⟩ := L.s0.ce k m e
    exact ⟨a, ha, r.mono (Le.refl _ _) fun u q => by rw [upd_ne (show a ≠ p' from fun z => n2 (z ▸ List.mem_of_getElem? ha))]; exact q⟩
  · rw [upd_ne (fun z => by rw [z, n3] at e; cases e)]; exact L.keep a u na e
  · by_cases hij : i = j
    · subst hij
      rw [List.getElem?_set_self il] at e'
      cases e'
      exact ⟨p', e, r, n1, n2, n3⟩
    · rw [List.getElem?_set_ne hij] at e'
      have := L.sl j av e'
      cases av with
      | fr d => exact this
      | ex x => exact this
      | ow mm =>
        obtain ⟨u, e1, r, rest⟩ := this
        refine ⟨u, e1, r.mono (Le.refl _ _) fun o q => ?_, rest⟩
        rw [upd_ne (show u ≠ p' from fun z => hij ((L.dj i j p' _ _ h e' e (z ▸ e1))))]; exact q
  · have back : ∀ {j : Nat} {mj : MO}, (s.set i (some (.ow m')))[j]? = some (some (AV.ow mj)) → ∃ mj', s[j]? = some (some (AV.ow mj')) := fun {j mj} e => by
      by_cases hij : i = j
      · subst hij; exact ⟨m, h⟩
      · rw [List.getElem?_set_ne hij] at e; exact ⟨mj, e⟩
    obtain ⟨_, b1⟩ := back q1
    obtain ⟨_, b2⟩ := back q2
    exact L.dj j k q _ _ b1 b2 q3 q4
  · by_cases z : i = 0
    · subst z; exact L.sf x _ hs h
    · rw [List.getElem?_set_ne z] at e'; exact L.sf x mm hs e'
/-- a frozen value of an own object -/
def MO.d : MO → Option D
  | .lst xs => some (.lst xs)
  | .dk k => some (.dk k)
  | .dt k => some (.dt k)
  | .ins c f => some (.ins c f)
  | .rng => none
/-- an own object that changes no more -/
theorem Lk.freeze (L : Lk K B w ms s σ H) {i : Nat} {d : D} (h : s[i]? = some (some (.ow m))) (hd : m.d = some d) : ∃ w', Le K w w' ∧ Lk K B w' ms (s.set i (some (.fr d))) σ H := by
  obtain ⟨p, e1, r0, n1, n2, n3⟩ := L.sl i _ h
  have il : i < s.length := (List.getElem?_eq_some_iff.mp h).1
  obtain ⟨o, ho⟩ := r0.there
  have le : Le K w { w with F := upd w.F p o } := Le.new n1
  have rp : Rep K { w with F := upd w.F p o } (.ref p) d := by
    have hF : ({ w with F := upd w.F p o } : W).F p = some o := upd_same
    cases r0 with
    | lst h' r => cases hd; rw [h'] at ho; cases ho; exact .lst hF (r.mono le)
    | dk h' r => cases hd; rw [h'] at ho; cases ho; exact .dk (.inl hF) (r.mono le)
    | dt h' r => cases hd; rw [h'] at ho; cases ho; exact .dt (.inl hF) (r.mono le)
    | ins h' r => cases hd; rw [h'] at ho; cases ho; exact .ins hF (r.mono le)
    | rng h l => cases hd
  refine ⟨{ w with F := upd w.F p o }, le, ⟨fun a u e => ?_, L.s0.nd, fun a ha => ?_, fun k m e => ?_, L.s0.ln⟩, L.keep, L.pre, L.bas, fun a u e => ?_, by simp [L.len], fun j av e' => ?_, fun j k q mi mj q1 q2 q3 q4 => ?_, L.bf, fun x mm hs e' => ?_⟩
  · by_cases q : a = p
    · subst q; have e : upd w.F a o a = some u := e; rw [upd_same] at e; cases e; exact ho
    · have e : upd w.F p o a = some u := e; rw [upd_ne q] at e; exact L.s0.fh a u e
  · show upd w.F p o a = none
    rw [upd_ne (show a ≠ p from fun z => n2 (z ▸ ha))]; exact L.s0.na a ha
  · obtain ⟨a, ha, r⟩ := L.s0.ce k m e
    exact ⟨a, ha, r.mono le fun _ q => q⟩
  · by_cases q : a = p
    · subst q; exact .inr (.inr n3)
    · have e : upd w.F p o a = some u := e; rw [upd_ne q] at e; exact L.fz a u e
  · by_cases hij : i = j
    · subst hij
      rw [List.getElem?_set_self il] at e'
      cases e'
      exact ⟨_, e1, rp⟩
    · rw [List.getElem?_set_ne hij] at e'
      have := L.sl j av e'
      cases av with
      | fr d => obtain ⟨v, a, b⟩ := this; exact ⟨v, a, b.mono le⟩
      | ex x => obtain ⟨a, c, d, e0, e1, r⟩ := this; exact ⟨a, c, d, e0, e1, r.mono le⟩
      | ow mm =>
        obtain ⟨u, e2, r, m1, m2, m3⟩ := this
        refine ⟨u, e2, r.mono le fun _ q => q, ?_, m2, m3⟩
        show upd w.F p o u = none
        rw [upd_ne (show u ≠ p from fun z => hij ((L.dj i j p _ _ h e' e1 (z ▸ e2))))]; exact m1
  · have back : ∀ {j : Nat} {mj : MO}, (s.set i (some (.fr d)))[j]? = some (some (AV.ow mj)) → s[j]? = some (some (AV.ow mj)) := fun {j mj} e => by
      by_cases hij : i = j
      · subst hij; rw [List.getElem?_set_self il] at e; cases e
      · rw [List.getElem?_set_ne hij] at e; exact e
    exact L.dj j k q _ _ (back q1) (back q2) q3 q4
  · by_cases z : i = 0
    · subst z; rw [List.getElem?_set_self il] at e'; cases e'
    · rw [List.getElem?_set_ne z] at e'; exact L.sf x mm hs e'
end
end LA

set_option Elab.async false
set_option linter.all false
set_option maxRecDepth 100000
set_option maxHeartbeats 4000000
/-! LA2: readings over data: expressions, tests, arguments, statements. -/
namespace LA
open PySem PySem.Spec PyProof.Rows L2

/-- a mark: what it speaks of is not looked at by the way -/
inductive Tag {α β : Type} (a : α) (b : β) : Type | mk
abbrev aE := ASt → MS → (D → MS → Prop) → (XD → MS → Prop) → Prop
abbrev aT := ASt → MS → (Bool → MS → Prop) → (XD → MS → Prop) → Prop
abbrev aA := ASt → MS → (List D → MS → Prop) → (XD → MS → Prop) → Prop
structure AEnds where
  nx : ASt → MS → Prop
  rt : D → MS → Prop
  bk : ASt → MS → Prop := fun _ _ => False
  ct : ASt → MS → Prop := fun _ _ => False
  ex : XD → ASt → MS → Prop := fun _ _ _ => False
abbrev aS := AEnds → ASt → MS → Prop
abbrev aG := D → ASt → MS → (ASt → MS → Prop) → Prop
abbrev aGs := List D → ASt → MS → (ASt → MS → Prop) → Prop

/-- a wish about errors; the error that is handled -/
structure WXA where
  w : WX
  ex : XI
section
variable (K : PySem.W.Frag) {ex : XI} (B : Bs ex) (w : W) (s : ASt) (σ : L2.St)
def PostV (Q : D → MS → Prop) (R : VK) : Prop := ∀ w' ms' H' v d, Le K w w' → Lk K B w' ms' s σ H' → Rep K w' v d → Q d ms' → R v H'
def PostB (Q : Bool → MS → Prop) (R : Bool → Hp → Prop) : Prop := ∀ w' ms' H' b, Le K w w' → Lk K B w' ms' s σ H' → Q b ms' → R b H'
def PostL (Q : List D → MS → Prop) (R : List V → Hp → Prop) : Prop := ∀ w' ms' H' v d, Le K w w' → Lk K B w' ms' s σ H' → RepL K w' v d → Q d ms' → R v H'
def PostX (E : XD → MS → Prop) (Wx : WXA) : Prop := ∀ w' ms' H' cl ad x, Le K w w' → Lk K B w' ms' s σ H' → RepX K w' cl ad x → E x ms' → Wx.w cl ad σ H'
end
section
variable {K : PySem.W.Frag} {ex : XI} {B : Bs ex} {w w' : W} {s : ASt} {σ : L2.St} {Wx : WXA}
theorem PostV.le {Q : D → MS → Prop} {R : VK} (h : PostV K B w s σ Q R) (e : Le K w w') : PostV K B w' s σ Q R := fun w2 ms H v d e2 L r q => h w2 ms H v d (e.trans e2) L r q
theorem PostB.le {Q : Bool → MS → Prop} {R : Bool → Hp → Prop} (h : PostB K B w s σ Q R) (e : Le K w w') : PostB K B w' s σ Q R := fun w2 ms H b e2 L q => h w2 ms H b (e.trans e2) L q
theorem PostL.le {Q : List D → MS → Prop} {R : List V → Hp → Prop} (h : PostL K B w s σ Q R) (e : Le K w w') : PostL K B w' s σ Q R := fun w2 ms H v d e2 L r q => h w2 ms H v d (e.trans e2) L r q
theorem PostX.le {E : XD → MS → Prop} (h : PostX K B w s σ E Wx) (e : Le K w w') : PostX K B w' s σ E Wx := fun w2 ms H c a x e2 L r q => h w2 ms H c a x (e.trans e2) L r q
end
def cE (K : PySem.W.Frag) (Wx : WXA) (a : aE) : TE := fun σ H R => ∃ B : Bs Wx.ex, ∃ w ms s Q E, Lk K B w ms s σ H ∧ a s ms Q E ∧ PostV K B w s σ Q R ∧ PostX K B w s σ E Wx
def cT (K : PySem.W.Frag) (Wx : WXA) (a : aT) : TT := fun σ H R => ∃ B : Bs Wx.ex, ∃ w ms s Q E, Lk K B w ms s σ H ∧ a s ms Q E ∧ PostB K B w s σ Q R ∧ PostX K B w s σ E Wx
def cA (K : PySem.W.Frag) (Wx : WXA) (a : aA) : TA := fun σ H R => ∃ B : Bs Wx.ex, ∃ w ms s Q E, Lk K B w ms s σ H ∧ a s ms Q E ∧ PostL K B w s σ Q R ∧ PostX K B w s σ E Wx
/-- the ends of a block -/
structure EndsR (K : PySem.W.Frag) {ex : XI} (B : Bs ex) (w : W) (Wx : WXA) (A : AEnds) (De : Ends) : Prop where
  nx : ∀ w' ms' H' s' σ', Le K w w' → Lk K B w' ms' s' σ' H' → A.nx s' ms' → De.nx σ' H'
  bk : ∀ w' ms' H' s' σ', Le K w w' → Lk K B w' ms' s' σ' H' → A.bk s' ms' → De.bk σ' H'
  ct : ∀ w' ms' H' s' σ', Le K w w' → Lk K B w' ms' s' σ' H' → A.ct s' ms' → De.ct σ' H'
  rt : ∀ w' ms' H' s' σ' v d, Le K w w' → Lk K B w' ms' s' σ' H' → Rep K w' v d → A.rt d ms' → De.rt v H'
  ex : ∀ w' ms' H' s' σ' cl ad x, Le K w w' → Lk K B w' ms' s' σ' H' → RepX K w' cl ad x → A.ex x s' ms' → Wx.w cl ad σ' H'
theorem EndsR.le {K : PySem.W.Frag} {ex : XI} {B : Bs ex} {w w' : W} {Wx : WXA} {A : AEnds} {De : Ends} (h : EndsR K B w Wx A De) (e : Le K w w') : EndsR K B w' Wx A De :=
  ⟨fun w2 ms H s σ e2 => h.nx w2 ms H s σ (e.trans e2), fun w2 ms H s σ e2 => h.bk w2 ms H s σ (e.trans e2), fun w2 ms H s σ e2 => h.ct w2 ms H s σ (e.trans e2), fun w2 ms H s σ v d e2 => h.rt w2 ms H s σ v d (e.trans e2), fun w2 ms H s σ c a x e2 => h.ex w2 ms H s σ c a x (e.trans e2)⟩
theorem EndsR.px {K : PySem.W.Frag} {ex : XI} {B : Bs ex} {w : W} {s : ASt} {σ : L2.St} {Wx : WXA} {A : AEnds} {De : Ends} (h : EndsR K B w Wx A De) : PostX K B w s σ (fun x ms => A.ex x s ms) Wx := fun w' ms' H' cl ad x le L r q => h.ex w' ms' H' s σ cl ad x le L r q
def cS (K : PySem.W.Frag) (Wx : WXA) (a : aS) : TS := fun De σ H => ∃ B : Bs Wx.ex, ∃ w ms s A, Lk K B w ms s σ H ∧ a A s ms ∧ EndsR K B w Wx A De
/-- but for the slots vs -/
def OnlyAt {α : Type} (vs : List Nat) (σ σ' : List α) : Prop := σ'.length = σ.length ∧ ∀ j, j ∉ vs → σ'[j]? = σ[j]?
def cG (K : PySem.W.Frag) (Wx : WXA) (vs : List Nat) (g : aG) : TG := fun v σ H R => ∃ B : Bs Wx.ex, ∃ w ms s d Q, Lk K B w ms s σ H ∧ Rep K w v d ∧ g d s ms Q ∧ ∀ w' ms' H' s' σ', Le K w w' → Lk K B w' ms' s' σ' H' → OnlyAt vs σ σ' → OnlyAt vs s s' → Q s' ms' → R σ' H'
def cGs (K : PySem.W.Frag) (Wx : WXA) (vs : List Nat) (g : aGs) : TGs := fun v σ H R => ∃ B : Bs Wx.ex, ∃ w ms s d Q, Lk K B w ms s σ H ∧ RepL K w v d ∧ g d s ms Q ∧ ∀ w' ms' H' s' σ', Le K w w' → Lk K B w' ms' s' σ' H' → OnlyAt vs σ σ' → OnlyAt vs s s' → Q s' ms' → R σ' H'

abbrev AE (X : Cx) (Wx : WXA) (e : Expr) (a : aE) : Prop := PE X e (cE X.K Wx a)
abbrev AT (X : Cx) (Wx : WXA) (e : Expr) (a : aT) : Prop := PT X e (cT X.K Wx a)
abbrev AW (X : Cx) (Wx : WXA) (e : Expr) (a : aT) : Prop := PW X e (cT X.K Wx a)
abbrev AA (X : Cx) (Wx : WXA) (e : List Expr) (a : aA) : Prop := PA X e (cA X.K Wx a)
abbrev AS (X : Cx) (Wx : WXA) (e : Stmt) (a : aS) : Prop := PS X e (cS X.K Wx a)
abbrev ASs (X : Cx) (Wx : WXA) (e : List Stmt) (a : aS) : Prop := PSs X e (cS X.K Wx a)
abbrev AG (X : Cx) (Wx : WXA) (vs : List Nat) (e : Expr) (a : aG) : Prop := PG X e (cG X.K Wx vs a)
abbrev AGs (X : Cx) (Wx : WXA) (vs : List Nat) (e : List Expr) (a : aGs) : Prop := PGs X e (cGs X.K Wx vs a)

section
variable {X : Cx}
theorem PE.imp {e : Expr} {t t' : TE} (h : PE X e t) (k : ∀ σ H R, t' σ H R → t σ H R) : PE X e t' := ⟨fun pins s σ H Q I q => h.run pins s σ H Q I (k _ _ _ q)⟩
theorem PT.imp {e : Expr} {t t' : TT} (h : PT X e t) (k : ∀ σ H R, t' σ H R → t σ H R) : PT X e t' := ⟨fun pins s σ H Q I q => h.run pins s σ H Q I (k _ _ _ q)⟩
theorem PW.imp {e : Expr} {t t' : TT} (h : PW X e t) (k : ∀ σ H R, t' σ H R → t σ H R) : PW X e t' := ⟨fun whole pins s σ H Q I q => h.run whole pins s σ H Q I (k _ _ _ q)⟩
theorem PA.imp {e : List Expr} {t t' : TA} (h : PA X e t) (k : ∀ σ H R, t' σ H R → t σ H R) : PA X e t' := ⟨fun pos pins s σ H Q I q => h.run pos pins s σ H Q I (k _ _ _ q)⟩
theorem PS.imp {e : Stmt} {t t' : TS} (h : PS X e t) (k : ∀ De σ H, t' De σ H → t De σ H) : PS X e t' := ⟨fun pins s σ H De I q => h.run pins s σ H De I (k _ _ _ q)⟩
theorem PSs.imp {e : List Stmt} {t t' : TS} (h : PSs X e t) (k : ∀ De σ H, t' De σ H → t De σ H) : PSs X e t' := ⟨fun pins s σ H De I q => h.run pins s σ H De I (k _ _ _ q)⟩
theorem PG.imp {e : Expr} {t t' : TG} (h : PG X e t) (k : ∀ v σ H R, t' v σ H R → t v σ H R) : PG X e t' := ⟨fun pins s σ H v u Q I r q => h.run pins s σ H v u Q I r (k _ _ _ _ q)⟩
theorem PGs.imp {e : List Expr} {t t' : TGs} (h : PGs X e t) (k : ∀ v σ H R, t' v σ H R → t v σ H R) : PGs X e t' := ⟨fun pins s σ H v u Q I r q => h.run pins s σ H v u Q I r (k _ _ _ _ q)⟩
end

/-! ### operators by data -/
def rC (K : PySem.W.Frag) (f : D → D → (D → Prop) → Prop) : R2 := fun x y H R => ∃ ex : XI, ∃ B : Bs ex, ∃ w ms s σ dx dy Qd, Lk K B w ms s σ H ∧ Rep K w x dx ∧ Rep K w y dy ∧ f dx dy Qd ∧ ∀ w' H' z d, Le K w w' → Lk K B w' ms s σ H' → Rep K w' z d → Qd d → R z H'
def rC1 (K : PySem.W.Frag) (f : D → (D → Prop) → Prop) : V → Hp → VK → Prop := fun x H R => ∃ ex : XI, ∃ B : Bs ex, ∃ w ms s σ dx Qd, Lk K B w ms s σ H ∧ Rep K w x dx ∧ f dx Qd ∧ ∀ w' H' z d, Le K w w' → Lk K B w' ms s σ H' → Rep K w' z d → Qd d → R z H'
def rCL (K : PySem.W.Frag) (f : List D → (D → Prop) → Prop) : List V → Hp → VK → Prop := fun xs H R => ∃ ex : XI, ∃ B : Bs ex, ∃ w ms s σ ds Qd, Lk K B w ms s σ H ∧ RepL K w xs ds ∧ f ds Qd ∧ ∀ w' H' z d, Le K w w' → Lk K B w' ms s σ H' → Rep K w' z d → Qd d → R z H'
def rCM (K : PySem.W.Frag) (f : D → List D → (D → Prop) → Prop) : V → List V → Hp → VK → Prop := fun x xs H R => ∃ ex : XI, ∃ B : Bs ex, ∃ w ms s σ dx ds Qd, Lk K B w ms s σ H ∧ Rep K w x dx ∧ RepL K w xs ds ∧ f dx ds Qd ∧ ∀ w' H' z d, Le K w w' → Lk K B w' ms s σ H' → Rep K w' z d → Qd d → R z H'
abbrev OpA (X : Cx) (g : Value → Value → Sem Value) (f : D → D → (D → Prop) → Prop) : Prop := OpR X g (rC X.K f)
abbrev UnA (X : Cx) (g : Value → Sem Value) (f : D → (D → Prop) → Prop) : Prop := UnR X g (rC1 X.K f)
abbrev CallA (X : Cx) (g : Value) (f : List D → (D → Prop) → Prop) : Prop := CallR X g (rCL X.K f)
abbrev IxA (X : Cx) (f : D → D → (D → Prop) → Prop) : Prop := IxR X (rC X.K f)

/-! ### expressions -/
def aVar (i : Nat) : aE := fun s ms Q _ => match s[i]? with
  | some (some (.fr d)) => Q d ms
  | _ => False
def aC (d : D) : aE := fun _ ms Q _ => Q d ms
def aBin (f : D → D → (D → Prop) → Prop) (ra rb : aE) : aE := fun s ms Q E => ra s ms (fun x ms1 => rb s ms1 (fun y ms2 => f x y fun z => Q z ms2) E) E
def aUn (f : D → (D → Prop) → Prop) (ra : aE) : aE := fun s ms Q E => ra s ms (fun x ms1 => f x fun z => Q z ms1) E
/-- a bool -/
def isB (d : D) (k : Bool → Prop) : Prop := match d with
  | .bl b => k b
  | _ => False
/-- a branch -/
def Br (b : Bool) (p q : MS → Prop) (ms : MS) (t : Tag p q := .mk) : Prop := match b with
  | true => p ms
  | false => q ms
def aAndV (ra rb : aE) : aE := fun s ms Q E => ra s ms (fun x ms1 => isB x fun c => Br c (fun ms => rb s ms Q E) (Q (.bl false)) ms1) E
def aOrV (ra rb : aE) : aE := fun s ms Q E => ra s ms (fun x ms1 => isB x fun c => Br c (Q (.bl true)) (fun ms => rb s ms Q E) ms1) E
def aNotV (ra : aE) : aE := fun s ms Q E => ra s ms (fun x ms1 => isB x fun c => Q (.bl (!c)) ms1) E
def aB (ra : aE) : aT := fun s ms Q E => ra s ms (fun x ms1 => isB x fun c => Q c ms1) E
def aAnd (ra rb : aT) : aT := fun s ms Q E => ra s ms (fun c ms1 => Br c (fun ms => rb s ms Q E) (Q false) ms1) E
def aOr (ra rb : aT) : aT := fun s ms Q E => ra s ms (fun c ms1 => Br c (Q true) (fun ms => rb s ms Q E) ms1) E
def aNot (ra : aT) : aT := fun s ms Q E => ra s ms (fun c ms1 => Q (!c) ms1) E
def aIf (rc : aT) (ra rb : aE) : aE := fun s ms Q E => rc s ms (fun c ms1 => Br c (fun ms => ra s ms Q E) (fun ms => rb s ms Q E) ms1) E
def aChain (f g : D → D → (D → Prop) → Prop) (ra rb rc : aE) : aE := fun s ms Q E => ra s ms (fun x ms1 => rb s ms1 (fun y ms2 => f x y fun z => isB z fun c => Br c (fun ms => rc s ms (fun u ms3 => g y u fun z => Q z ms3) E) (Q (.bl false)) ms2) E) E
def aNil : aA := fun _ ms Q _ => Q [] ms
def aCons (ra : aE) (rr : aA) : aA := fun s ms Q E => ra s ms (fun x ms1 => rr s ms1 (fun xs ms2 => Q (x :: xs) ms2) E) E
def aTup (rr : aA) : aE := fun s ms Q E => rr s ms (fun xs ms1 => xs.length ≤ sizeLine ∧ Q (.tup xs) ms1) E
def aLst (rr : aA) : aE := fun s ms Q E => rr s ms (fun xs ms1 => xs.length ≤ sizeLine ∧ Q (.lst xs) ms1) E
def aCB (f : List D → (D → Prop) → Prop) (rr : aA) : aE := fun s ms Q E => rr s ms (fun xs ms1 => f xs fun z => Q z ms1) E

section
variable {X : Cx} {Wx : WXA} {a b c e : Expr} {es rest : List Expr} {pos : Pos} {ra rb rc : aE} {qa qb : aT} {rr : aA} {f g : D → D → (D → Prop) → Prop}
theorem ae_var {i : Nat} (h : PE X e (tVar i)) : AE X Wx e (aVar i) := PE.imp h fun σ H R ⟨B, w, ms, s, Q, E, L, h, hq, hx⟩ => by
  unfold aVar at h
  split at h
  · rename_i d e
    obtain ⟨v, e1, r⟩ := L.sl i _ e
    exact ⟨v, e1, hq w ms H v d (Le.refl _ _) L r h⟩
  · exact h.elim
theorem ae_c {v : V} {d : D} (h : PE X e (tC v)) (r : ∀ w, Rep X.K w v d) : AE X Wx e (aC d) := PE.imp h fun σ H R ⟨B, w, ms, s, Q, E, L, h, hq, hx⟩ => hq w ms H v d (Le.refl _ _) L (r w) h
theorem ae_int {i j pos} : AE X Wx (.Constant (.int i) j pos) (aC (.int i)) := ae_c pe_int fun _ => .int _
theorem ae_bl {i j pos} : AE X Wx (.Constant (.bool i) j pos) (aC (.bl i)) := ae_c pe_bl fun _ => .bl _
theorem ae_str {i j pos} : AE X Wx (.Constant (.str i) j pos) (aC (.str i)) := ae_c pe_str fun _ => .str _
theorem ae_non {j pos} : AE X Wx (.Constant .none j pos) (aC .non) := ae_c pe_non fun _ => .non
/-- two in a row -/
theorem two {σ : L2.St} {H : Hp} {B : Bs Wx.ex} {w : W} {ms : MS} {s : ASt} {E : XD → MS → Prop} {P : D → D → MS → Prop} {R : V → V → Hp → Prop} (L : Lk X.K B w ms s σ H)
    (h : ra s ms (fun x ms1 => rb s ms1 (P x) E) E) (hx : PostX X.K B w s σ E Wx) (k : ∀ w2 ms2 H2 v v2 d d2, Le X.K w w2 → Lk X.K B w2 ms2 s σ H2 → Rep X.K w2 v d → Rep X.K w2 v2 d2 → P d d2 ms2 → R v v2 H2) :
    cE X.K Wx ra σ H fun x H1 => cE X.K Wx rb σ H1 fun y H2 => R x y H2 :=
  ⟨B, w, ms, s, _, E, L, h, fun w1 ms1 H1 v d e1 L1 r1 h1 => ⟨B, w1, ms1, s, _, E, L1, h1, fun w2 ms2 H2 v2 d2 e2 L2 r2 h2 => k w2 ms2 H2 v v2 d d2 (e1.trans e2) L2 (r1.mono e2) r2 h2, hx.le e1⟩, hx⟩
theorem ae_bin {op : Operator} (ho : OpA X (binaryOp op) f) (ha : AE X Wx a ra) (hb : AE X Wx b rb) : AE X Wx (.BinOp a op b pos) (aBin f ra rb) :=
  PE.imp (pe_op ho ha hb) fun σ H R ⟨B, w, ms, s, Q, E, L, h, hq, hx⟩ => two (X := X) L h hx fun w2 ms2 H2 v v2 d d2 e2 L2 r1 r2 h2 =>
    ⟨_, B, w2, ms2, s, σ, d, d2, _, L2, r1, r2, h2, fun w3 H3 z dz e3 L3 r3 q3 => hq w3 ms2 H3 z dz (e2.trans e3) L3 r3 q3⟩
theorem ae_un {op : UnaryOp} {f : D → (D → Prop) → Prop} (ho : UnA X (unaryOp op) f) (ha : AE X Wx a ra) : AE X Wx (.UnaryOp op a pos) (aUn f ra) :=
  PE.imp (pe_un ho ha) fun σ H R ⟨B, w, ms, s, Q, E, L, h, hq, hx⟩ => ⟨B, w, ms, s, _, E, L, h, fun w1 ms1 H1 v d e1 L1 r1 h1 =>
    ⟨_, B, w1, ms1, s, σ, d, _, L1, r1, h1, fun w3 H3 z dz e3 L3 r3 q3 => hq w3 ms1 H3 z dz (e1.trans e3) L3 r3 q3⟩, hx⟩
theorem ae_cmp {op : CmpOp} (ho : OpA X (compareOp op) f) (ha : AE X Wx a ra) (hb : AE X Wx b rb) (hm : behindInMarks op b = false) : AE X Wx (.Compare a [op] [b] pos) (aBin f ra rb) :=
  PE.imp (pe_cmpR ho ha hb hm) fun σ H R ⟨B, w, ms, s, Q, E, L, h, hq, hx⟩ => two (X := X) L h hx fun w2 ms2 H2 v v2 d d2 e2 L2 r1 r2 h2 =>
    ⟨_, B, w2, ms2, s, σ, d, d2, _, L2, r1, r2, h2, fun w3 H3 z dz e3 L3 r3 q3 => hq w3 ms2 H3 z dz (e2.trans e3) L3 r3 q3⟩
theorem isB_rep {w : W} {v : V} {d : D} {p : Bool → Prop} (r : Rep X.K w v d) (h : isB d p) : ∃ c, v = .bl c ∧ d = .bl c ∧ p c := by
  cases r <;> first | exact ⟨_, rfl, rfl, h⟩ | exact h.elim
theorem at_val {t : aE} (h : AE X Wx e t) (he : ∀ whole, isTrue e X.env whole = (do let v ← whole; standAt e.pos; holding [v] (truthy v)) := by intro _; rfl) : AT X Wx e (aB t) :=
  PT.imp (pt_val h he) fun σ H R ⟨B, w, ms, s, Q, E, L, h, hq, hx⟩ => ⟨B, w, ms, s, _, E, L, h, fun w1 ms1 H1 v d e1 L1 r1 h1 => by
    obtain ⟨c, rfl, rfl, q⟩ := isB_rep (X := X) r1 h1
    exact ⟨c, rfl, hq w1 ms1 H1 c e1 L1 q⟩, hx⟩
theorem at_cmp {op : CmpOp} (ho : OpA X (compareOp op) f) (ha : AE X Wx a ra) (hb : AE X Wx b rb) (hm : behindInMarks op b = false) : AT X Wx (.Compare a [op] [b] pos) (aB (aBin f ra rb)) :=
  PT.imp (pt_cmpR ho ha hb hm) fun σ H R ⟨B, w, ms, s, Q, E, L, h, hq, hx⟩ => two (X := X) L h hx fun w2 ms2 H2 v v2 d d2 e2 L2 r1 r2 h2 =>
    ⟨_, B, w2, ms2, s, σ, d, d2, _, L2, r1, r2, h2, fun w3 H3 z dz e3 L3 r3 q3 => by
      obtain ⟨c, rfl, rfl, q⟩ := isB_rep (X := X) r3 q3
      exact ⟨c, rfl, hq w3 ms2 H3 c (e2.trans e3) L3 q⟩⟩
theorem chain_ok {w : W} {B : Bs Wx.ex} {ms : MS} {s : ASt} {σ : L2.St} {H : Hp} {E : XD → MS → Prop} {P : D → MS → Prop} {R : VK} (L : Lk X.K B w ms s σ H) (h : aChain f g ra rb rc s ms P E) (hx : PostX X.K B w s σ E Wx)
    (hq : ∀ w' ms' H' v d, Le X.K w w' → Lk X.K B w' ms' s σ H' → Rep X.K w' v d → P d ms' → R v H') : tChain (rC X.K f) (rC X.K g) (cE X.K Wx ra) (cE X.K Wx rb) (cE X.K Wx rc) σ H R :=
  two (X := X) L h hx fun w2 ms2 H2 v v2 d d2 e2 L2 r1 r2 h2 => ⟨_, B, w2, ms2, s, σ, d, d2, _, L2, r1, r2, h2, fun w3 H3 z dz e3 L3 r3 q3 => by
    obtain ⟨k, rfl, rfl, q⟩ := isB_rep (X := X) r3 q3
    refine ⟨k, rfl, ?_⟩
    cases k with
    | false => exact hq w3 ms2 H3 _ _ (e2.trans e3) L3 r3 q
    | true =>
      rw [if_pos rfl]
      exact ⟨B, w3, ms2, s, _, E, L3, q, fun w4 ms4 H4 v4 d4 e4 L4 r4 h4 => ⟨_, B, w4, ms4, s, σ, d2, d4, _, L4, (r2.mono e3).mono e4, r4, h4, fun w5 H5 z5 d5 e5 L5 r5 q5 => hq w5 ms4 H5 z5 d5 (((e2.trans e3).trans e4).trans e5) L5 r5 q5⟩, hx.le (e2.trans e3)⟩⟩
theorem ae_chain {op op' : CmpOp} (ho : OpA X (compareOp op) f) (ho' : OpA X (compareOp op') g) (ha : AE X Wx a ra) (hb : AE X Wx b rb) (hc : AE X Wx c rc)
    (hm : lastMarks [op, op'] [b, c] = false := by with_unfolding_all rfl) : AE X Wx (.Compare a [op, op'] [b, c] pos) (aChain f g ra rb rc) :=
  PE.imp (pe_chain ho ho' ha hb hc hm) fun σ H R ⟨B, w, ms, s, Q, E, L, h, hq, hx⟩ => chain_ok (X := X) L h hx hq
theorem at_chain {op op' : CmpOp} (ho : OpA X (compareOp op) f) (ho' : OpA X (compareOp op') g) (ha : AE X Wx a ra) (hb : AE X Wx b rb) (hc : AE X Wx c rc)
    (hm : lastMarks [op, op'] [b, c] = false := by with_unfolding_all rfl) : AT X Wx (.Compare a [op, op'] [b, c] pos) (aB (aChain f g ra rb rc)) :=
  PT.imp (pt_chain ho ho' ha hb hc hm) fun σ H R ⟨B, w, ms, s, Q, E, L, h, hq, hx⟩ => chain_ok (X := X) L h hx fun w3 ms3 H3 v d e3 L3 r3 q3 => by
      obtain ⟨c, rfl, rfl, q⟩ := isB_rep (X := X) r3 q3
      exact ⟨c, rfl, hq w3 ms3 H3 c e3 L3 q⟩
theorem aw_and1 (ha : AT X Wx a qa) : AW X Wx (.BoolOp .And [a] pos) qa := pw_and1 ha
theorem aw_or1 (ha : AT X Wx a qa) : AW X Wx (.BoolOp .Or [a] pos) qa := pw_or1 ha
theorem aw_and (ha : AT X Wx a qa) (hb : AW X Wx (.BoolOp .And (b :: rest) pos) qb) : AW X Wx (.BoolOp .And (a :: b :: rest) pos) (aAnd qa qb) :=
  PW.imp (pw_and ha hb) fun σ H R ⟨B, w, ms, s, Q, E, L, h, hq, hx⟩ => ⟨B, w, ms, s, _, E, L, h, fun w1 ms1 H1 c e1 L1 h1 => by
    cases c with
    | true => rw [if_pos rfl]; exact ⟨B, w1, ms1, s, Q, E, L1, h1, hq.le e1, hx.le e1⟩
    | false => rw [if_neg (by decide)]; exact hq w1 ms1 H1 false e1 L1 h1, hx⟩
theorem aw_or (ha : AT X Wx a qa) (hb : AW X Wx (.BoolOp .Or (b :: rest) pos) qb) : AW X Wx (.BoolOp .Or (a :: b :: rest) pos) (aOr qa qb) :=
  PW.imp (pw_or ha hb) fun σ H R ⟨B, w, ms, s, Q, E, L, h, hq, hx⟩ => ⟨B, w, ms, s, _, E, L, h, fun w1 ms1 H1 c e1 L1 h1 => by
    cases c with
    | true => rw [if_pos rfl]; exact hq w1 ms1 H1 true e1 L1 h1
    | false => rw [if_neg (by decide)]; exact ⟨B, w1, ms1, s, Q, E, L1, h1, hq.le e1, hx.le e1⟩, hx⟩
theorem at_bool (h : AW X Wx e qa) : AT X Wx e qa := h.pt
theorem at_not (ha : AT X Wx a qa) : AT X Wx (.UnaryOp .Not a pos) (aNot qa) :=
  PT.imp (pt_not ha) fun σ H R ⟨B, w, ms, s, Q, E, L, h, hq, hx⟩ => ⟨B, w, ms, s, _, E, L, h, fun w1 ms1 H1 c e1 L1 h1 => hq w1 ms1 H1 (!c) e1 L1 h1, hx⟩
theorem ae_one {op} (h : AE X Wx a ra) : AE X Wx (.BoolOp op [a] pos) ra := pe_one h
theorem ae_and (ha : AE X Wx a ra) (hb : AE X Wx (.BoolOp .And (b :: rest) pos) rb) : AE X Wx (.BoolOp .And (a :: b :: rest) pos) (aAndV ra rb) :=
  PE.imp (pe_and ha hb) fun σ H R ⟨B, w, ms, s, Q, E, L, h, hq, hx⟩ => ⟨B, w, ms, s, _, E, L, h, fun w1 ms1 H1 v d e1 L1 r1 h1 => by
    obtain ⟨c, rfl, rfl, q⟩ := isB_rep (X := X) r1 h1
    refine ⟨c, rfl, ?_⟩
    cases c with
    | true => rw [if_pos rfl]; exact ⟨B, w1, ms1, s, Q, E, L1, q, hq.le e1, hx.le e1⟩
    | false => rw [if_neg (by decide)]; exact hq w1 ms1 H1 _ _ e1 L1 r1 q, hx⟩
theorem ae_or (ha : AE X Wx a ra) (hb : AE X Wx (.BoolOp .Or (b :: rest) pos) rb) : AE X Wx (.BoolOp .Or (a :: b :: rest) pos) (aOrV ra rb) :=
  PE.imp (pe_or ha hb) fun σ H R ⟨B, w, ms, s, Q, E, L, h, hq, hx⟩ => ⟨B, w, ms, s, _, E, L, h, fun w1 ms1 H1 v d e1 L1 r1 h1 => by
    obtain ⟨c, rfl, rfl, q⟩ := isB_rep (X := X) r1 h1
    refine ⟨c, rfl, ?_⟩
    cases c with
    | true => rw [if_pos rfl]; exact hq w1 ms1 H1 _ _ e1 L1 r1 q
    | false => rw [if_neg (by decide)]; exact ⟨B, w1, ms1, s, Q, E, L1, q, hq.le e1, hx.le e1⟩, hx⟩
theorem ae_not (ha : AE X Wx a ra) : AE X Wx (.UnaryOp .Not a pos) (aNotV ra) :=
  PE.imp (pe_not ha) fun σ H R ⟨B, w, ms, s, Q, E, L, h, hq, hx⟩ => ⟨B, w, ms, s, _, E, L, h, fun w1 ms1 H1 v d e1 L1 r1 h1 => by
    obtain ⟨c, rfl, rfl, q⟩ := isB_rep (X := X) r1 h1
    exact ⟨c, rfl, hq w1 ms1 H1 _ _ e1 L1 (.bl _) q⟩, hx⟩
theorem ae_if (hc : AT X Wx c qa) (ha : AE X Wx a ra) (hb : AE X Wx b rb) : AE X Wx (.IfExp c a b pos) (aIf qa ra rb) :=
  PE.imp (pe_ifExp hc ha hb) fun σ H R ⟨B, w, ms, s, Q, E, L, h, hq, hx⟩ => ⟨B, w, ms, s, _, E, L, h, fun w1 ms1 H1 c e1 L1 h1 => by
    cases c with
    | true => rw [if_pos rfl]; exact ⟨B, w1, ms1, s, Q, E, L1, h1, hq.le e1, hx.le e1⟩
    | false => rw [if_neg (by decide)]; exact ⟨B, w1, ms1, s, Q, E, L1, h1, hq.le e1, hx.le e1⟩, hx⟩
theorem aa_nil : AA X Wx [] aNil := PA.imp pa_nil fun σ H R ⟨B, w, ms, s, Q, E, L, h, hq, hx⟩ => hq w ms H [] [] (Le.refl _ _) L .nil h
theorem aa_cons (ha : AE X Wx e ra) (hr : AA X Wx es rr) (hs : starEach (e :: es) X.env = (false, eval e X.env) :: starEach es X.env := by rfl) : AA X Wx (e :: es) (aCons ra rr) :=
  PA.imp (pa_cons ha hr hs) fun σ H R ⟨B, w, ms, s, Q, E, L, h, hq, hx⟩ => ⟨B, w, ms, s, _, E, L, h, fun w1 ms1 H1 v d e1 L1 r1 h1 =>
    ⟨B, w1, ms1, s, _, E, L1, h1, fun w2 ms2 H2 vs ds e2 L2 r2 h2 => hq w2 ms2 H2 _ _ (e1.trans e2) L2 (.cons (r1.mono e2) r2) h2, hx.le e1⟩, hx⟩
theorem ae_tup {x1} (h : AA X Wx es rr) : AE X Wx (.Tuple es x1 pos) (aTup rr) :=
  PE.imp (pe_tup h) fun σ H R ⟨B, w, ms, s, Q, E, L, h, hq, hx⟩ => ⟨B, w, ms, s, _, E, L, h, fun w1 ms1 H1 vs ds e1 L1 r1 h1 => ⟨r1.length ▸ h1.1, fun p hp => by
    have f := L1.fresh hp
    exact hq _ ms1 _ _ _ (e1.trans (Le.new f.1)) (L1.new hp) (.tup upd_same (r1.mono (Le.new f.1))) h1.2⟩, hx⟩
theorem ae_lst (h : AA X Wx es rr) : AE X Wx (.List es pos) (aLst rr) :=
  PE.imp (pe_lst h) fun σ H R ⟨B, w, ms, s, Q, E, L, h, hq, hx⟩ => ⟨B, w, ms, s, _, E, L, h, fun w1 ms1 H1 vs ds e1 L1 r1 h1 => ⟨r1.length ▸ h1.1, fun p hp => by
    have f := L1.fresh hp
    exact hq _ ms1 _ _ _ (e1.trans (Le.new f.1)) (L1.new hp) (.lst upd_same (r1.mono (Le.new f.1))) h1.2⟩, hx⟩
theorem ae_ix (ho : IxA X f) (ha : AE X Wx a ra) (hb : AE X Wx b rb) (hs : PlainIx b) : AE X Wx (.Subscript a b pos) (aBin f ra rb) :=
  PE.imp (pe_ix ho ha hb hs) fun σ H R ⟨B, w, ms, s, Q, E, L, h, hq, hx⟩ => two (X := X) L h hx fun w2 ms2 H2 v v2 d d2 e2 L2 r1 r2 h2 =>
    ⟨_, B, w2, ms2, s, σ, d, d2, _, L2, r1, r2, h2, fun w3 H3 z dz e3 L3 r3 q3 => hq w3 ms2 H3 z dz (e2.trans e3) L3 r3 q3⟩
/-- a call of a builtin -/
theorem cb_ok {f : List D → (D → Prop) → Prop} {σ : L2.St} {H : Hp} {R : VK} (h : cE X.K Wx (aCB f rr) σ H R) : tCB (rCL X.K f) (cA X.K Wx rr) σ H R := by
  obtain ⟨B, w, ms, s, Q, E, L, h, hq, hx⟩ := h
  exact ⟨B, w, ms, s, _, E, L, h, fun w1 ms1 H1 vs ds e1 L1 r1 h1 => ⟨_, B, w1, ms1, s, σ, ds, _, L1, r1, h1, fun w3 H3 z dz e3 L3 r3 q3 => hq w3 ms1 H3 z dz (e1.trans e3) L3 r3 q3⟩, hx⟩
end
end LA

set_option Elab.async false
set_option linter.all false
set_option maxRecDepth 100000
set_option maxHeartbeats 4000000
/-! LA3: calls, promises by data, statements. -/
namespace LA
open PySem PySem.Spec PyProof.Rows L2

/-! ### promises -/
abbrev ASp := List D → MS → (D → MS → Prop) → (XD → MS → Prop) → Prop
/-- behind a call -/
structure Aft (K : PySem.W.Frag) (w : W) (H : Hp) (w' : W) (ms' : MS) (H' : Hp) : Prop where
  s0 : St0 K w' ms' H'
  keep : ∀ a o, a ∉ w.as → H a = some o → H' a = some o
  pre : ∀ a ∈ w'.as, a ∈ w.as ∨ H a = none
  bas : ∀ a ∈ w.as, a ∈ w'.as
  fz : ∀ a o, w'.F a = some o → (∃ u, w.F a = some u) ∨ a ∈ w.as ∨ H a = none
theorem Lk.after {K : PySem.W.Frag} {ex : XI} {B : Bs ex} {w w' : W} {ms ms' : MS} {s : ASt} {σ : L2.St} {H H' : Hp} (L : Lk K B w ms s σ H) (e : Le K w w') (A : Aft K w H w' ms' H') : Lk K B w' ms' s σ H' := by
  have hn : ∀ a, a ∉ B.as → H a = none → B.H a = none := fun a na n => by
    cases q : B.H a with
    | none => rfl
    | some o => have := L.keep a o na q; rw [n] at this; cases this
  refine ⟨A.s0, fun a o na h => A.keep a o (fun z => ?_) (L.keep a o na h), fun a ha => ?_, fun a ha => A.bas a (L.bas a ha), fun a o h => ?_, L.len, fun i av h => ?_, L.dj, L.bf, L.sf⟩
  · rcases L.pre a z with q | q
    · exact na q
    · rw [q] at h; cases h
  · rcases A.pre a ha with q | q
    · exact L.pre a q
    · by_cases z : a ∈ B.as
      · exact .inl z
      · exact .inr (hn a z q)
  · rcases A.fz a o h with ⟨u, q⟩ | q | q
    · exact L.fz a u q
    · rcases L.pre a q with z | z
      · exact .inr (.inl z)
      · exact .inr (.inr z)
    · by_cases z : a ∈ B.as
      · exact .inr (.inl z)
      · exact .inr (.inr (hn a z q))
  · have := L.sl i av h
    cases av with
    | fr d => obtain ⟨v, e1, r⟩ := this; exact ⟨v, e1, r.mono e⟩
    | ex x => obtain ⟨a, c, d, e0, e1, r⟩ := this; exact ⟨a, c, d, e0, e1, r.mono e⟩
    | ow m =>
      obtain ⟨p, e1, r, n1, n2, n3⟩ := this
      obtain ⟨o, ho⟩ := r.there
      refine ⟨p, e1, r.mono e fun o q => A.keep p o n2 q, ?_, fun z => ?_, n3⟩
      · cases q : w'.F p with
        | none => rfl
        | some u =>
          rcases A.fz p u q with ⟨u', z⟩ | z | z
          · rw [n1] at z; cases z
          · exact absurd z n2
          · rw [ho] at z; cases z
      · rcases A.pre p z with q | q
        · exact n2 q
        · rw [ho] at q; cases q
def spA (K : PySem.W.Frag) (S : ASp) : Sp := fun vs H Q E => ∃ w ms ds Qa Ea, St0 K w ms H ∧ RepL K w vs ds ∧ S ds ms Qa Ea ∧
  (∀ w' ms' H' v d, Le K w w' → Aft K w H w' ms' H' → Rep K w' v d → Qa d ms' → Q v H') ∧ (∀ w' ms' H' cl ad x, Le K w w' → Aft K w H w' ms' H' → RepX K w' cl ad x → Ea x ms' → E cl ad H')
/-- the entry -/
def base0 (w : W) (H : Hp) : Bs none := ⟨H, w.as, w.F, none⟩
def startA (N : List Str) (ds : List D) : ASt := ds.map (fun d => some (.fr d)) ++ List.replicate (N.length - ds.length) none
theorem Lk.entry {K : PySem.W.Frag} {w : W} {ms : MS} {H : Hp} {N : List Str} {vs : List V} {ds : List D} (h0 : St0 K w ms H) (r : RepL K w vs ds) : Lk K (base0 w H) w ms (startA N ds) (start N vs) H := by
  have hl := r.length
  refine ⟨h0, fun _ _ _ h => h, fun a h => .inl h, fun a h => h, fun a o h => .inl ⟨o, h⟩, by simp [startA, L2.start, hl], fun i av h => ?_, fun i j p mi mj h _ _ _ => ?_, fun a u q => ⟨u, h0.fh a u q⟩, fun _ _ h => nomatch h⟩
  · unfold startA at h
    by_cases hi : i < ds.length
    · rw [List.getElem?_append_left (by simpa using hi), List.getElem?_map] at h
      cases q : ds[i]? with
      | none => rw [q] at h; cases h
      | some d =>
        rw [q] at h; cases h
        obtain ⟨v, e1, rv⟩ := r.get q
        exact ⟨v, by unfold L2.start; rw [List.getElem?_append_left (by rw [List.length_map, hl]; exact hi), List.getElem?_map, e1]; rfl, rv⟩
    · rw [List.getElem?_append_right (by simpa using Nat.le_of_not_lt hi), List.getElem?_replicate] at h
      split at h <;> cases h
  · unfold startA at h
    by_cases hi : i < ds.length
    · rw [List.getElem?_append_left (by simpa using hi), List.getElem?_map] at h
      cases q : ds[i]? with
      | none => rw [q] at h; cases h
      | some d => rw [q] at h; cases h
    · rw [List.getElem?_append_right (by simpa using Nat.le_of_not_lt hi), List.getElem?_replicate] at h
      split at h <;> cases h
/-- what a body has reached, for the caller -/
theorem Lk.aft {K : PySem.W.Frag} {w w' : W} {ms' : MS} {H H' : Hp} {s : ASt} {σ : L2.St} (L : Lk K (base0 w H) w' ms' s σ H') : Aft K w H w' ms' H' := ⟨L.s0, L.keep, L.pre, L.bas, L.fz⟩
/-- a body keeps a promise -/
theorem body_ok {K : PySem.W.Frag} {N : List Str} {S : ASp} {a : aS} (hb : ∀ ds ms Q E, S ds ms Q E → a ⟨fun _ ms => Q .non ms, Q, fun _ _ => False, fun _ _ => False, fun x _ ms => E x ms⟩ (startA N ds) ms)
    {vs : List V} {H : Hp} {Q : VK} {E : XK} (h : spA K S vs H Q E) : cS K ⟨fun cl ad _ H => E cl ad H, none⟩ a { nx := fun _ H' => Q .non H', rt := Q } (start N vs) H := by
  obtain ⟨w, ms, ds, Qa, Ea, h0, r, hS, hq, he⟩ := h
  exact ⟨base0 w H, w, ms, startA N ds, _, Lk.entry h0 r, hb ds ms Qa Ea hS,
    ⟨fun w' ms' H' s' σ' le L q => hq w' ms' H' .non .non le L.aft .non q, fun _ _ _ _ _ _ _ q => q.elim, fun _ _ _ _ _ _ _ q => q.elim, fun w' ms' H' s' σ' v d le L r q => hq w' ms' H' v d le L.aft r q, fun w' ms' H' s' σ' cl ad x le L r q => he w' ms' H' cl ad x le L.aft r q⟩⟩
section
variable {P : Program} {w : World} {K : PySem.W.Frag} {mg : Str → Option Value} {base : Heap}
abbrev BodyA (P : Program) (w : World) (K : PySem.W.Frag) (mg : Str → Option Value) (base : Heap) (N : List Str) (q : Str) (st : Stmt) (f : Addr) (k : Nat) (S : ASp) : Prop :=
  ∀ (cdv : Value) (A : Around) (outer : List Env) (s : Shared) (H : Hp) (E : XK), Room k (A.deeper (envOfC q (defScope st) s.heap.objs.size f cdv)) →
    ∃ a, ASs (HX.cxR P w K mg base N q (defScope st) f cdv A outer s H E) ⟨fun cl ad _ H => E cl ad H, none⟩ (defBody st) a ∧ ∀ ds ms Q E', S ds ms Q E' → a ⟨fun _ ms => Q .non ms, Q, fun _ _ => False, fun _ _ => False, fun x _ ms => E' x ms⟩ (startA N ds) ms
theorem len_of {S : ASp} {ps : List Str} (len : ∀ ds ms Q E, S ds ms Q E → ds.length = ps.length) : ∀ vs H Q E, spA K S vs H Q E → vs.length = ps.length := fun vs H Q E ⟨w, ms, ds, Qa, Ea, h0, r, hS, _⟩ => r.length.trans (len ds ms Qa Ea hS)
/-- a def of the text -/
theorem gfn_of {x : Str} {st : Stmt} {N ps : List Str} {k : Nat} {S : ASp} (D : HX.DefAt K x x st (He.ga K x)) (gm : mg x = some (.ref (He.ga K x))) (Sc : FnScope N ps (defScope st)) (len : ∀ ds ms Q E, S ds ms Q E → ds.length = ps.length)
    (hb : ∀ (kV doc pm : Value) (an : Option Addr) (cdv ct : Value) (us : List Value), us.length = ps.length → bindArgs (PySem.W.fnOf x x (defArgs st) (defBody st) (defScope st) .none kV doc pm an cdv ct) ⟨us, []⟩ = pure (ps.zip us))
    (h : BodyA P w K mg base N x st (He.ga K x) k S) : HX.GFn P w K mg base x (k + 1) ps (spA K S) :=
  HX.gfn_of D gm Sc (len_of len) hb fun cdv A outer s H vs Q E hr hs => by
    obtain ⟨a, ha, hb⟩ := h cdv A outer s H E hr
    exact ⟨_, ha, body_ok hb hs⟩
/-- a method -/
theorem fn_of {x q : Str} {st : Stmt} {f : Addr} {N ps : List Str} {k : Nat} {S : ASp} (D : HX.DefAt K x q st f) (Sc : FnScope N ps (defScope st)) (len : ∀ ds ms Q E, S ds ms Q E → ds.length = ps.length)
    (hb : ∀ (kV doc pm : Value) (an : Option Addr) (cdv ct : Value) (us : List Value), us.length = ps.length → bindArgs (PySem.W.fnOf x q (defArgs st) (defBody st) (defScope st) .none kV doc pm an cdv ct) ⟨us, []⟩ = pure (ps.zip us))
    (h : BodyA P w K mg base N q st f k S) : ∃ fd, FnOk P w K mg base (L2N.CX P w) (k + 1) f fd ps (spA K S) ∧ Binds K fd ps [] :=
  HX.fn_of D Sc (len_of len) hb fun cdv A outer s H vs Q E hr hs => by
    obtain ⟨a, ha, hb⟩ := h cdv A outer s H E hr
    exact ⟨_, ha, body_ok hb hs⟩
theorem fnok_of {x q : Str} {st : Stmt} {f : Addr} {fd : FuncData} {N ps : List Str} {k : Nat} {S : ASp} (F : HX.FdAt K x q st f fd) (Sc : FnScope N ps (defScope st)) (len : ∀ ds ms Q E, S ds ms Q E → ds.length = ps.length)
    (h : BodyA P w K mg base N q st f k S) : FnOk P w K mg base (L2N.CX P w) (k + 1) f fd ps (spA K S) :=
  HX.fnok_of F Sc (len_of len) fun cdv A outer s H vs Q E hr hs => by
    obtain ⟨a, ha, hb⟩ := h cdv A outer s H E hr
    exact ⟨_, ha, body_ok hb hs⟩
end

/-! ### calls -/
/-- a call, to be answered -/
structure DoCall (S : ASp) (ds : List D) (ms : MS) (Q : D → MS → Prop) (E : XD → MS → Prop) (t : Tag Q E := .mk) : Prop where
  h : S ds ms Q E
def aCall (S : ASp) (rr : aA) : aE := fun s ms Q E => rr s ms (fun ds ms1 => DoCall S ds ms1 Q E) E
/-- an instance of the class c: its fields -/
def isIns (c : Str) (x : D) (ms : MS) (k : List (Str × D) → Prop) : Prop := match x with
  | .ins c' fs => c' = c ∧ k fs
  | .ptr i => match ms[i]? with
    | some (.ins c' fs) => c' = c ∧ k fs
    | _ => False
  | _ => False
/-- an instance of one of the classes -/
def isInC (cs : List Str) (x : D) (ms : MS) (k : List (Str × D) → Prop) : Prop := match x with
  | .ins c' fs => c' ∈ cs ∧ k fs
  | .ptr i => match ms[i]? with
    | some (.ins c' fs) => c' ∈ cs ∧ k fs
    | _ => False
  | _ => False
/-- a field's value -/
def gotF (o : Option D) (k : D → Prop) (t : Tag k k := .mk) : Prop := match o with
  | some d => k d
  | none => False
def aFld (cs : List Str) (f : Str) (ra : aE) : aE := fun s ms Q E => ra s ms (fun x ms1 => isInC cs x ms1 fun fs => gotF (fs.lookup f) fun d => Q d ms1) E
def aMeth (c m : Str) (S : ASp) (ra : aE) (rr : aA) : aE := fun s ms Q E => ra s ms (fun x ms1 => isIns c x ms1 fun fs => fs.lookup m = none ∧ rr s ms1 (fun ds ms2 => DoCall S (x :: ds) ms2 Q E) E) E
def aProp (c : Str) (S : ASp) (ra : aE) : aE := fun s ms Q E => ra s ms (fun x ms1 => isIns c x ms1 fun _ => DoCall S [x] ms1 Q fun _ _ => False) E
/-- e(..) by __call__ -/
def aInst (c : Str) (S : ASp) (ra : aE) (rr : aA) : aE := fun s ms Q E => ra s ms (fun x ms1 => isIns c x ms1 fun _ => rr s ms1 (fun ds ms2 => isIns c x ms2 fun _ => DoCall S (x :: ds) ms2 Q E) E) E
section
variable {X : Cx} {Wx : WXA} {e o : Expr} {es : List Expr} {p pos apos : Pos} {ra : aE} {rr : aA} {k : Nat} {x c m f : Str} {ps : List Str} {S : ASp}
theorem isIns_rep {w : W} {ms : MS} {H : Hp} {v : V} {d : D} {kk : List (Str × D) → Prop} (h0 : St0 X.K w ms H) (r : Rep X.K w v d) (h : isIns c d ms kk) : ∃ a dx fs ds, v = .ref a ∧ H a = some (.ins (He.ga X.K c) dx fs) ∧ RepF X.K w fs ds ∧ kk ds := by
  cases r with
  | ins h1 r1 =>
    obtain ⟨rfl, h⟩ := h
    exact ⟨_, _, _, _, rfl, h0.fh _ _ h1, r1, h⟩
  | @ptr a i h1 =>
    unfold isIns at h
    dsimp only at h
    split at h
    · rename_i c' fs q
      obtain ⟨rfl, h⟩ := h
      obtain ⟨b, hb, rm⟩ := h0.ce _ _ q
      rw [h1] at hb; cases hb
      cases rm with
      | ins h2 r2 => exact ⟨_, _, _, _, rfl, h2, r2, h⟩
    · exact h.elim
  | _ => exact False.elim h
theorem isInC_rep {cs : List Str} {w : W} {ms : MS} {H : Hp} {v : V} {d : D} {kk : List (Str × D) → Prop} (h0 : St0 X.K w ms H) (r : Rep X.K w v d) (h : isInC cs d ms kk) : ∃ c a dx fs ds, c ∈ cs ∧ v = .ref a ∧ H a = some (.ins (He.ga X.K c) dx fs) ∧ RepF X.K w fs ds ∧ kk ds := by
  cases r with
  | ins h1 r1 =>
    obtain ⟨hc, h⟩ := h
    exact ⟨_, _, _, _, _, hc, rfl, h0.fh _ _ h1, r1, h⟩
  | @ptr a i h1 =>
    unfold isInC at h
    dsimp only at h
    split at h
    · rename_i c' fs q
      obtain ⟨hc, h⟩ := h
      obtain ⟨b, hb, rm⟩ := h0.ce _ _ q
      rw [h1] at hb; cases hb
      cases rm with
      | ins h2 r2 => exact ⟨_, _, _, _, _, hc, rfl, h2, r2, h⟩
    · exact h.elim
  | _ => exact False.elim h
/-- the callee's promise, from the caller's state -/
theorem spA_of {ex : XI} {B : Bs ex} {w : W} {ms : MS} {s : ASt} {σ : L2.St} {H : Hp} {Q : D → MS → Prop} {E : XD → MS → Prop} {R : VK} {vs : List V} {ds : List D} (L : Lk X.K B w ms s σ H) (r : RepL X.K w vs ds) (h : S ds ms Q E) (hq : PostV X.K B w s σ Q R) (hx : PostX X.K B w s σ E Wx) :
    spA X.K S vs H R (WE Wx.w σ) :=
  ⟨w, ms, ds, Q, E, L.s0, r, h, fun w' ms' H' v d le A rv q => hq w' ms' H' v d le (L.after le A) rv q, fun w' ms' H' cl ad x le A rx q => hx w' ms' H' cl ad x le (L.after le A) rx q⟩
theorem ae_call (tk : L2N.Takes X Wx.w) (G : HX.GFn X.prog X.w X.K X.mg X.base x k ps (spA X.K S)) (hr : Room k X.A) (hg : Gl X x) (ha : AA X Wx (e :: es) rr) (hdb : (x == ("__debug__" : Str)) = false := by decide)
    (he : starEach (e :: es) X.env = (false, eval e X.env) :: starEach es X.env := by rfl) (hpl : (backTo pos (starEach es X.env)).any (·.1) = false := by rfl) : AE X Wx (.Call (.Name x p) (e :: es) [] pos) (aCall S rr) :=
  PE.imp (HX.pe_g G hr (fun σ => L2N.passAt tk σ) hg ha hdb he hpl) fun σ H R ⟨B, w, ms, s, Q, E, L, h, hq, hx⟩ => ⟨B, w, ms, s, _, E, L, h, fun w1 ms1 H1 vs ds e1 L1 r1 h1 => spA_of (X := X) L1 r1 h1.h (hq.le e1) (hx.le e1), hx⟩
theorem ae_fld {cs : List Str} (hc : ∀ c ∈ cs, Cls X.K (He.ga X.K c) ∧ NoAttr X.K (He.ga X.K c) f) (he : AE X Wx e ra) (hb : attributeBase e f X.env (eval e X.env) = eval e X.env) : AE X Wx (.Attribute e f pos) (aFld cs f ra) :=
  PE.imp (pe_fld he hb) fun σ H R ⟨B, w, ms, s, Q, E, L, h, hq, hx⟩ => ⟨B, w, ms, s, _, E, L, h, fun w1 ms1 H1 v d e1 L1 r1 h1 => by
    obtain ⟨c, a, dx, fs, ds, hcs, rfl, hH, rf, q⟩ := isInC_rep (X := X) L1.s0 r1 h1
    unfold gotF at q
    split at q
    · rename_i y hy
      obtain ⟨u, hu, ru⟩ := rf.lookup hy
      exact ⟨a, _, dx, fs, u, rfl, hH, (hc c hcs).1, (hc c hcs).2, hu, hq _ _ _ _ _ e1 L1 ru q⟩
    · exact q.elim, hx⟩
theorem ae_meth {pl : Sem Bool} (tk : L2N.Takes X Wx.w) (G : HX.GMe X.prog X.w X.K X.mg X.base c m k ps (spA X.K S)) (he : AE X Wx o ra) (hr : Room k X.A) (ha : AA X Wx (e :: es) rr)
    (hst : starEach (e :: es) X.env = (false, eval e X.env) :: starEach es X.env := by rfl) (hpl : (backTo pos (starEach es X.env)).any (·.1) = false := by rfl)
    (ht : eval (.Call (.Attribute o m apos) (e :: es) [] pos) X.env = (do
      let r ← eval o X.env
      standAt apos.atName
      let (g, one) ← holding [r] (getMethod r m pl)
      callWith pos g one (backTo pos (starEach (e :: es) X.env)) (backToKw pos (keywordEach [] X.env))) := by rfl) : AE X Wx (.Call (.Attribute o m apos) (e :: es) [] pos) (aMeth c m S ra rr) :=
  PE.imp (HX.pe_gm G he hr (fun σ => L2N.passAt tk σ) ha hst hpl ht) fun σ H R ⟨B, w, ms, s, Q, E, L, h, hq, hx⟩ => ⟨B, w, ms, s, _, E, L, h, fun w1 ms1 H1 v d e1 L1 r1 h1 => by
    obtain ⟨a, dx, fs, ds, rfl, hH, rf, hl, q⟩ := isIns_rep (X := X) L1.s0 r1 h1
    exact ⟨a, dx, fs, rfl, hH, rf.lookup_none hl, B, w1, ms1, s, _, E, L1, q, fun w2 ms2 H2 vs es e2 L2 r2 h2 => spA_of (X := X) L2 (.cons (r1.mono e2) r2) h2.h (hq.le (e1.trans e2)) (hx.le (e1.trans e2)), hx.le e1⟩, hx⟩
theorem ae_meth0 {pl : Sem Bool} (tk : L2N.Takes X Wx.w) (G : HX.GMe X.prog X.w X.K X.mg X.base c m k ps (spA X.K S)) (he : AE X Wx o ra) (hr : Room k X.A)
    (ht : eval (.Call (.Attribute o m apos) [] [] pos) X.env = (do
      let r ← eval o X.env
      standAt apos.atName
      let (g, one) ← holding [r] (getMethod r m pl)
      callWith pos g one (backTo pos (starEach [] X.env)) (backToKw pos (keywordEach [] X.env))) := by rfl) : AE X Wx (.Call (.Attribute o m apos) [] [] pos) (aMeth c m S ra aNil) :=
  PE.imp (HX.pe_gm0 G he hr (fun σ => L2N.passAt tk σ) ht) fun σ H R ⟨B, w, ms, s, Q, E, L, h, hq, hx⟩ => ⟨B, w, ms, s, _, E, L, h, fun w1 ms1 H1 v d e1 L1 r1 h1 => by
    obtain ⟨a, dx, fs, ds, rfl, hH, rf, hl, q⟩ := isIns_rep (X := X) L1.s0 r1 h1
    exact ⟨a, dx, fs, rfl, hH, rf.lookup_none hl, spA_of (X := X) L1 (.cons r1 .nil) q.h (hq.le e1) (hx.le e1)⟩, hx⟩
theorem ae_prop (G : HX.GPr X.prog X.w X.K X.mg X.base c f k (spA X.K S)) (he : AE X Wx e ra) (hr : Room (k + 1) X.A) (hab : attributeBase e f X.env (eval e X.env) = eval e X.env) : AE X Wx (.Attribute e f pos) (aProp c S ra) :=
  PE.imp (HX.pe_gp G he hr hab) fun σ H R ⟨B, w, ms, s, Q, E, L, h, hq, hx⟩ => ⟨B, w, ms, s, _, E, L, h, fun w1 ms1 H1 v d e1 L1 r1 h1 => by
    obtain ⟨a, dx, fs, ds, rfl, hH, rf, q⟩ := isIns_rep (X := X) L1.s0 r1 h1
    refine ⟨a, dx, fs, rfl, hH, w1, ms1, _, Q, _, L1.s0, .cons r1 .nil, q.h, fun w' ms' H' v d le A rv q => hq w' ms' H' v d (e1.trans le) (L1.after le A) rv q, fun _ _ _ _ _ _ _ _ _ z => z.elim⟩, hx⟩
theorem ae_inst (tk : L2N.Takes X Wx.w) (G : HX.GMe X.prog X.w X.K X.mg X.base c "__call__" k ps (spA X.K S)) (gn : PySem.W.fnIn X.K (He.ma X.K (He.ga X.K c) "__call__") = true) (he : AE X Wx o ra) (hr : Room k X.A) (ha : AA X Wx (e :: es) rr)
    (hst : starEach (e :: es) X.env = (false, eval e X.env) :: starEach es X.env := by rfl) (hpl : (backTo pos (starEach es X.env)).any (·.1) = false := by rfl)
    (ht : eval (.Call o (e :: es) [] pos) X.env = (do callWith pos (← eval o X.env) [] (backTo pos (starEach (e :: es) X.env)) (backToKw pos (keywordEach [] X.env))) := by rfl) : AE X Wx (.Call o (e :: es) [] pos) (aInst c S ra rr) :=
  PE.imp (HX.pe_gi G gn he hr (fun σ => L2N.passAt tk σ) ha hst hpl ht) fun σ H R ⟨B, w, ms, s, Q, E, L, h, hq, hx⟩ => ⟨B, w, ms, s, _, E, L, h, fun w1 ms1 H1 v d e1 L1 r1 h1 => by
    obtain ⟨a, _, _, _, rfl, _, _, h1⟩ := isIns_rep (X := X) L1.s0 r1 h1
    refine ⟨a, rfl, B, w1, ms1, s, _, E, L1, h1, fun w2 ms2 H2 vs2 es2 e2 L2 r2 h2 => ?_, hx.le e1⟩
    obtain ⟨a', dx', fs', ds', e, hH, rf, q⟩ := isIns_rep (X := X) L2.s0 (r1.mono e2) h2
    cases e
    exact ⟨⟨dx', fs', hH⟩, spA_of (X := X) L2 (.cons (r1.mono e2) r2) q.h (hq.le (e1.trans e2)) (hx.le (e1.trans e2))⟩, hx⟩
end
end LA

set_option Elab.async false
set_option linter.all false
set_option maxRecDepth 100000
set_option maxHeartbeats 4000000
/-! LA4: builtins, instances made, statements, loops. -/
namespace LA
open PySem PySem.Spec PyProof.Rows L2

section
variable {X : Cx} {Wx : WXA} {e o : Expr} {es : List Expr} {p pos apos : Pos} {ra : aE} {rr : aA} {k : Nat} {x c m f : Str} {ps : List Str} {id T : String} {fn : List D → (D → Prop) → Prop}
theorem ae_callB (hc : CallA X (.builtin id) fn) (hg : Gl X x) (hm : X.mg x = none) (hv : bootBuiltins x = some (.builtin id)) (ha : AA X Wx (e :: es) rr) (hn : x ≠ "__name__" := by decide) (hdb : (x == ("__debug__" : Str)) = false := by decide)
    (he : starEach (e :: es) X.env = (false, eval e X.env) :: starEach es X.env := by rfl) (hpl : (backTo pos (starEach es X.env)).any (·.1) = false := by rfl) : AE X Wx (.Call (.Name x p) (e :: es) [] pos) (aCB fn rr) :=
  PE.imp (pe_callB hc hg hm hv ha hn hdb he hpl) fun σ H R h => cb_ok (X := X) h
theorem ae_callTy (hc : CallA X (.type T) fn) (hg : Gl X x) (hm : X.mg x = none) (hv : bootBuiltins x = some (.type T)) (ha : AA X Wx (e :: es) rr) (hn : x ≠ "__name__" := by decide) (hdb : (x == ("__debug__" : Str)) = false := by decide)
    (he : starEach (e :: es) X.env = (false, eval e X.env) :: starEach es X.env := by rfl) (hpl : (backTo pos (starEach es X.env)).any (·.1) = false := by rfl) : AE X Wx (.Call (.Name x p) (e :: es) [] pos) (aCB fn rr) :=
  PE.imp (pe_callTy hc hg hm hv ha hn hdb he hpl) fun σ H R h => cb_ok (X := X) h
end

/-! ### instances made -/
abbrev ISp := List D → MS → (List (Str × D) → MS → Prop) → (XD → MS → Prop) → Prop
/-- the heap but for one place -/
def but (H : Hp) (x : Addr) : Hp := fun a => if a = x then none else H a
theorem but_ne {H : Hp} {x a : Addr} (h : a ≠ x) : but H x a = H a := by unfold but; rw [if_neg h]
theorem but_same {H : Hp} {x : Addr} : but H x x = none := by unfold but; rw [if_pos rfl]
/-- behind a call that wrote at x -/
structure AftX (K : PySem.W.Frag) (w : W) (H : Hp) (x : Addr) (w' : W) (ms' : MS) (H' : Hp) : Prop where
  s0 : St0 K w' ms' H'
  keep : ∀ a o, a ∉ w.as → a ≠ x → H a = some o → H' a = some o
  pre : ∀ a ∈ w'.as, a ∈ w.as ∨ but H x a = none
  bas : ∀ a ∈ w.as, a ∈ w'.as
  fz : ∀ a o, w'.F a = some o → (∃ u, w.F a = some u) ∨ a ∈ w.as ∨ but H x a = none
  fx : w'.F x = none
  nx : x ∉ w'.as
def spI (K : PySem.W.Frag) (c : Str) (S : ISp) : Sp := fun vs H Q E => ∃ x dx vr w ms ds Qa Ea, vs = .ref x :: vr ∧ H x = some (.ins (He.ga K c) dx []) ∧ w.F x = none ∧ x ∉ w.as ∧ St0 K w ms H ∧ RepL K w vr ds ∧ S ds ms Qa Ea ∧
  (∀ w' ms' H' dx' fs gs, Le K w w' → AftX K w H x w' ms' H' → H' x = some (.ins (He.ga K c) dx' fs) → RepF K w' fs gs → Qa gs ms' → Q .non H') ∧
  (∀ w' ms' H' cl ad y, Le K w w' → AftX K w H x w' ms' H' → RepX K w' cl ad y → Ea y ms' → E cl ad H')
/-- the body's end, by what the new object has become -/
def selfIs (s : ASt) (c : Str) (k : List (Str × D) → Prop) (t : Tag k k := .mk) : Prop := match s[0]? with
  | some (some (AV.ow (MO.ins c' fs))) => c' = c ∧ k fs
  | _ => False
theorem selfIs_of {s : ASt} {c : Str} {k : List (Str × D) → Prop} (h : selfIs s c k) : ∃ fs, s[0]? = some (some (AV.ow (MO.ins c fs))) ∧ k fs := by
  unfold selfIs at h
  split at h
  · rename_i c' fs q
    obtain ⟨rfl, h⟩ := h
    exact ⟨fs, q, h⟩
  · exact h.elim
def startI (N : List Str) (c : Str) (ds : List D) : ASt := some (.ow (.ins c [])) :: (ds.map (fun d => some (.fr d)) ++ List.replicate (N.length - (ds.length + 1)) none)
theorem Lk.entryI {K : PySem.W.Frag} {w : W} {ms : MS} {H : Hp} {N : List Str} {vs : List V} {ds : List D} {x dx : Addr} {c : Str} (h0 : St0 K w ms H) (r : RepL K w vs ds) (hx : H x = some (.ins (He.ga K c) dx [])) (f1 : w.F x = none) (f2 : x ∉ w.as) :
    Lk K (⟨but H x, w.as, w.F, some x⟩ : Bs none) w ms (startI N c ds) (L2.start N (.ref x :: vs)) H := by
  have hl := r.length
  have inv : ∀ (i : Nat) av, (startI N c ds)[i]? = some (some av) → (i = 0 ∧ av = .ow (.ins c [])) ∨ ∃ j d, i = j + 1 ∧ ds[j]? = some d ∧ av = .fr d := fun i av h => by
    cases i with
    | zero => left; exact ⟨rfl, by simpa [startI] using h.symm⟩
    | succ i =>
      right
      have h : (ds.map (fun d => some (AV.fr d)) ++ List.replicate (N.length - (ds.length + 1)) none)[i]? = some (some av) := h
      by_cases hi : i < ds.length
      · rw [List.getElem?_append_left (by simpa using hi), List.getElem?_map] at h
        cases q : ds[i]? with
        | none => rw [q] at h; cases h
        | some d => rw [q] at h; cases h; exact ⟨i, d, rfl, q, rfl⟩
      · rw [List.getElem?_append_right (by simpa using Nat.le_of_not_lt hi), List.getElem?_replicate] at h
        split at h <;> cases h
  refine ⟨h0, fun a o na h => ?_, fun a h => .inl h, fun a h => h, fun a o h => .inl ⟨o, h⟩, by simp [startI, L2.start, hl], fun i av h => ?_, fun i j p mi mj h1 h2 _ _ => ?_, fun a u q => ⟨u, by show but H x a = some u; rw [but_ne (fun z => by rw [z] at q; have q : w.F x = some u := q; rw [f1] at q; cases q)]; exact h0.fh a u q⟩, fun y m hs _ => by cases hs; rfl⟩
  · by_cases q : a = x
    · subst q; have h : but H a a = some o := h; rw [but_same] at h; cases h
    · have h : but H x a = some o := h; rw [but_ne q] at h; exact h
  · rcases inv i av h with ⟨rfl, rfl⟩ | ⟨j, d, rfl, q, rfl⟩
    · exact ⟨x, rfl, .ins hx .nil, f1, f2, but_same⟩
    · obtain ⟨v, e1, rv⟩ := r.get q
      refine ⟨v, ?_, rv⟩
      show ((V.ref x :: vs).map some ++ _)[j + 1]? = _
      rw [List.map_cons, List.cons_append, List.getElem?_cons_succ, List.getElem?_append_left (by rw [List.length_map]; exact (List.getElem?_eq_some_iff.mp e1).1), List.getElem?_map, e1]; rfl
  · rcases inv i _ h1 with ⟨rfl, _⟩ | ⟨_, _, _, _, e⟩
    · rcases inv j _ h2 with ⟨rfl, _⟩ | ⟨_, _, _, _, e⟩
      · rfl
      · cases e
    · cases e
theorem Lk.aftX {K : PySem.W.Frag} {w w' : W} {ms' : MS} {H H' : Hp} {s : ASt} {σ : L2.St} {x : Addr} {c : Str} {gs : List (Str × D)} (L : Lk K (⟨but H x, w.as, w.F, some x⟩ : Bs none) w' ms' s σ H') (h : s[0]? = some (some (.ow (.ins c gs)))) :
    AftX K w H x w' ms' H' ∧ ∃ dx fs, H' x = some (.ins (He.ga K c) dx fs) ∧ RepF K w' fs gs := by
  obtain ⟨p, e1, r, n1, n2, n3⟩ := L.sl 0 _ h
  have e2 := L.sf x _ rfl h
  have : p = x := by rw [e1] at e2; simpa using e2
  subst this
  refine ⟨⟨L.s0, fun a o na ne h => L.keep a o na (by show but H p a = some o; rw [but_ne ne]; exact h), L.pre, L.bas, L.fz, n1, n2⟩, ?_⟩
  cases r with
  | ins h r => exact ⟨_, _, h, r⟩
/-- an __init__'s body keeps its promise -/
theorem bodyI_ok {K : PySem.W.Frag} {N : List Str} {c : Str} {S : ISp} {a : aS}
    (hb : ∀ ds ms Q E, S ds ms Q E → a ⟨fun s ms => selfIs s c fun gs => Q gs ms, fun _ _ => False, fun _ _ => False, fun _ _ => False, fun x s ms => selfIs s c fun _ => E x ms⟩ (startI N c ds) ms)
    {vs : List V} {H : Hp} {Q : VK} {E : XK} (h : spI K c S vs H Q E) : cS K ⟨fun cl ad _ H => E cl ad H, none⟩ a { nx := fun _ H' => Q .non H', rt := Q } (L2.start N vs) H := by
  obtain ⟨x, dx, vr, w, ms, ds, Qa, Ea, rfl, hx, f1, f2, h0, r, hS, hq, he⟩ := h
  refine ⟨⟨but H x, w.as, w.F, some x⟩, w, ms, startI N c ds, _, Lk.entryI h0 r hx f1 f2, hb ds ms Qa Ea hS, ⟨fun w' ms' H' s' σ' le L q => ?_, fun _ _ _ _ _ _ _ q => q.elim, fun _ _ _ _ _ _ _ q => q.elim, fun _ _ _ _ _ _ _ _ _ _ q => q.elim, fun w' ms' H' s' σ' cl ad y le L rx q => ?_⟩⟩
  · obtain ⟨gs, h1, q⟩ := selfIs_of q
    obtain ⟨A, dx', fs, h2, r2⟩ := L.aftX h1
    exact hq w' ms' H' dx' fs gs le A h2 r2 q
  · obtain ⟨gs, h1, q⟩ := selfIs_of q
    exact he w' ms' H' cl ad y le (L.aftX h1).1 rx q
section
variable {P : Program} {w : World} {K : PySem.W.Frag} {mg : Str → Option Value} {base : Heap}
/-- a class, by its __init__ -/
theorem gmk_of {c q : Str} {st : Stmt} {N ps : List Str} {k : Nat} {S : ISp} (M : Mk K (He.ga K c) (He.ma K (He.ga K c) "__init__")) (gm : mg c = some (.ref (He.ga K c))) (D : HX.DefAt K "__init__" q st (He.ma K (He.ga K c) "__init__")) (Sc : FnScope N ps (defScope st))
    (len : ∀ ds ms Q E, S ds ms Q E → ds.length + 1 = ps.length)
    (hb : ∀ (kV doc pm : Value) (an : Option Addr) (cdv ct : Value) (us : List Value), us.length = ps.length → bindArgs (PySem.W.fnOf "__init__" q (defArgs st) (defBody st) (defScope st) .none kV doc pm an cdv ct) ⟨us, []⟩ = pure (ps.zip us))
    (h : ∀ (cdv : Value) (A : Around) (outer : List Env) (s : Shared) (H : Hp) (E : XK), Room k (A.deeper (envOfC q (defScope st) s.heap.objs.size (He.ma K (He.ga K c) "__init__") cdv)) →
      ∃ a, ASs (HX.cxR P w K mg base N q (defScope st) (He.ma K (He.ga K c) "__init__") cdv A outer s H E) ⟨fun cl ad _ H => E cl ad H, none⟩ (defBody st) a ∧
        ∀ ds ms Q E', S ds ms Q E' → a ⟨fun s ms => selfIs s c fun gs => Q gs ms, fun _ _ => False, fun _ _ => False, fun _ _ => False, fun x s ms => selfIs s c fun _ => E' x ms⟩ (startI N c ds) ms) :
    HX.GMk P w K mg base c (k + 1) ps (spI K c S) :=
  ⟨M, gm, HX.fn_of D Sc (fun vs H Q E ⟨x, dx, vr, w, ms, ds, Qa, Ea, e, _, _, _, _, r, hS, _⟩ => by rw [e]; show vr.length + 1 = _; rw [r.length]; exact len ds ms Qa Ea hS) hb fun cdv A outer s H vs Q E hr hs => by
    obtain ⟨a, ha, hb⟩ := h cdv A outer s H E hr
    exact ⟨_, ha, bodyI_ok hb hs⟩⟩
end
structure DoMake (S : ISp) (ds : List D) (ms : MS) (Q : List (Str × D) → MS → Prop) (E : XD → MS → Prop) (t : Tag Q E := .mk) : Prop where
  h : S ds ms Q E
def aMake (c : Str) (S : ISp) (rr : aA) : aE := fun s ms Q E => rr s ms (fun ds ms1 => DoMake S ds ms1 (fun gs ms2 => Q (.ins c gs) ms2) E) E
/-- .. an object that changes -/
def aMakeP (c : Str) (S : ISp) (rr : aA) : aE := fun s ms Q E => rr s ms (fun ds ms1 => DoMake S ds ms1 (fun gs ms2 => Q (.ptr ms2.length) (ms2 ++ [.ins c gs])) E) E
section
variable {X : Cx} {Wx : WXA} {e : Expr} {es : List Expr} {p pos : Pos} {rr : aA} {k : Nat} {c : Str} {ps : List Str} {S : ISp}
theorem Lk.made {K : PySem.W.Frag} {ex : XI} {B : Bs ex} {w w' : W} {ms ms' : MS} {s : ASt} {σ : L2.St} {H H' : Hp} {x dx C : Addr} (L : Lk K B w ms s σ H) (hx : H x = none) (hd : H dx = none) (e : Le K w w') (A : AftX K w (upd (upd H dx (.own x)) x (.ins C dx [])) x w' ms' H') : Aft K w H w' ms' H' := by
  have hk : ∀ a o, H a = some o → upd (upd H dx (.own x)) x (.ins C dx []) a = some o := fun a o q => by rw [upd_ne (ne_of_none q hx), upd_ne (ne_of_none q hd)]; exact q
  have hn : ∀ a, but (upd (upd H dx (.own x)) x (.ins C dx [])) x a = none → H a = none := fun a q => by
    cases z : H a with
    | none => rfl
    | some o => rw [but_ne (ne_of_none z hx), hk a o z] at q; cases q
  exact ⟨A.s0, fun a o na h => A.keep a o na (ne_of_none h hx) (hk a o h), fun a ha => (A.pre a ha).imp id (hn a), A.bas, fun a o h => (A.fz a o h).imp id fun q => q.imp id (hn a)⟩
theorem mk_pre {ex : XI} {B : Bs ex} {w : W} {ms : MS} {s : ASt} {σ : L2.St} {H : Hp} {x dx : Addr} (L : Lk X.K B w ms s σ H) (hx : H x = none) (hd : H dx = none) : St0 X.K w ms (upd (upd H dx (.own x)) x (.ins (He.ga X.K c) dx [])) := by
  have hk : ∀ a o, H a = some o → upd (upd H dx (.own x)) x (.ins (He.ga X.K c) dx []) a = some o := fun a o q => by rw [upd_ne (ne_of_none q hx), upd_ne (ne_of_none q hd)]; exact q
  exact ⟨fun a o q => hk a o (L.s0.fh a o q), L.s0.nd, L.s0.na, fun k m q => let ⟨a, h1, r⟩ := L.s0.ce k m q; ⟨a, h1, r.mono (Le.refl _ _) (hk a)⟩, L.s0.ln⟩
theorem ae_make (tk : L2N.Takes X Wx.w) (G : HX.GMk X.prog X.w X.K X.mg X.base c k ps (spI X.K c S)) (hr : Room (k + 1) X.A) (hg : Gl X c) (ha : AA X Wx (e :: es) rr) (hdb : (c == ("__debug__" : Str)) = false := by decide)
    (he : starEach (e :: es) X.env = (false, eval e X.env) :: starEach es X.env := by rfl) (hpl : (backTo pos (starEach es X.env)).any (·.1) = false := by rfl) : AE X Wx (.Call (.Name c p) (e :: es) [] pos) (aMake c S rr) :=
  PE.imp (HX.pe_gk G hr (fun σ => L2N.passAt tk σ) hg ha hdb he hpl) fun σ H R ⟨B, w, ms, s, Q, E, L, h, hq, hx⟩ => ⟨B, w, ms, s, _, E, L, h, fun w1 ms1 H1 vs ds e1 L1 r1 h1 => fun x dx hx' hd' hne => by
    obtain ⟨f1, f2, f3⟩ := L1.fresh hx'
    refine ⟨x, dx, vs, w1, ms1, ds, _, E, rfl, upd_same, f1, f2, mk_pre (X := X) L1 hx' hd', r1, h1.h, fun w' ms' H' dx' fs gs le A h2 r2 q => ⟨rfl, ?_⟩, fun w' ms' H' cl ad y le A rx q => hx _ _ _ _ _ _ (e1.trans le) (L1.after le (L1.made hx' hd' le A)) rx q⟩
    have L3 := L1.after le (L1.made hx' hd' le A)
    have le2 : Le X.K w' { w' with F := upd w'.F x (.ins (He.ga X.K c) dx' fs) } := Le.new A.fx
    refine hq { w' with F := upd w'.F x (.ins (He.ga X.K c) dx' fs) } ms' H' (.ref x) (.ins c gs) ((e1.trans le).trans le2) ?_ (.ins upd_same (r2.mono le2)) q
    refine ⟨⟨fun a o h => ?_, L3.s0.nd, fun a ha => ?_, fun k m h => ?_, L3.s0.ln⟩, L3.keep, L3.pre, L3.bas, fun a o h => ?_, L3.len, fun i av h => ?_, L3.dj, L3.bf, L3.sf⟩
    · by_cases z : a = x
      · subst z; have h : upd w'.F a _ a = some o := h; rw [upd_same] at h; cases h; exact h2
      · have h : upd w'.F x _ a = some o := h; rw [upd_ne z] at h; exact L3.s0.fh a o h
    · show upd w'.F x _ a = none
      rw [upd_ne (show a ≠ x from fun z => A.nx (z ▸ ha))]; exact L3.s0.na a ha
    · obtain ⟨a, ha, r⟩ := L3.s0.ce k m h
      exact ⟨a, ha, r.mono le2 fun _ q => q⟩
    · by_cases z : a = x
      · subst z; exact .inr (.inr f3)
      · have h : upd w'.F x _ a = some o := h; rw [upd_ne z] at h; exact L3.fz a o h
    · have := L3.sl i av h
      cases av with
      | fr d => obtain ⟨v, a, b⟩ := this; exact ⟨v, a, b.mono le2⟩
      | ex x => obtain ⟨a, c, d, e0, e1, r⟩ := this; exact ⟨a, c, d, e0, e1, r.mono le2⟩
      | ow m =>
        obtain ⟨u, a, r, m1, m2, m3⟩ := this
        have hu : u ≠ x := fun z => by
          subst z
          have z2 : σ[i]? = some (some (.ref u)) := a
          obtain ⟨u', a', r', _⟩ := L1.sl i _ h
          rw [a] at a'
          have : u = u' := by simpa using a'
          subst this
          obtain ⟨o, ho⟩ := r'.there
          rw [hx'] at ho; cases ho
        exact ⟨u, a, r.mono le2 fun _ q => q, by show upd w'.F x _ u = none; rw [upd_ne hu]; exact m1, m2, m3⟩, hx⟩
end
end LA

set_option Elab.async false
set_option linter.all false
set_option maxRecDepth 100000
set_option maxHeartbeats 4000000
/-! LA5: statements, loops, comprehensions. -/
namespace LA
open PySem PySem.Spec PyProof.Rows L2

def aSeq (t u : aS) : aS := fun A s ms => t { A with nx := u A } s ms
def aNext : aS := fun A s ms => A.nx s ms
def aBreak : aS := fun A s ms => A.bk s ms
def aCont : aS := fun A s ms => A.ct s ms
def aDrop (ra : aE) : aS := fun A s ms => ra s ms (fun _ ms1 => A.nx s ms1) fun x ms => A.ex x s ms
def aRet (ra : aE) : aS := fun A s ms => ra s ms A.rt fun x ms => A.ex x s ms
def aRetN : aS := fun A _ ms => A.rt .non ms
def aIfS (c : aT) (t u : aS) : aS := fun A s ms => c s ms (fun b ms1 => Br b (t A s) (u A s) ms1) fun x ms => A.ex x s ms
def aNever : aS := fun _ _ _ => False
def aAsg (ra : aE) (g : aG) : aS := fun A s ms => ra s ms (fun x ms1 => g x s ms1 A.nx) fun x ms => A.ex x s ms
def aName (i : Nat) : aG := fun d s ms Q => Q (s.set i (some (.fr d))) ms
def aGNil : aGs := fun ds s ms Q => ds = [] ∧ Q s ms
def aGCons (g : aG) (r : aGs) : aGs := fun ds s ms Q => match ds with
  | d :: ds => g d s ms fun s1 ms1 => r ds s1 ms1 Q
  | [] => False
def aGTup (n : Nat) (r : aGs) : aG := fun d s ms Q => match d with
  | .tup ds => ds.length = n ∧ r ds s ms Q
  | _ => False
/-- the ways behind an if joined -/
def aCut (t u : aS) : aS := fun A s ms => ∃ M : ASt → MS → Prop, t { A with nx := M } s ms ∧ ∀ s' ms', M s' ms' → u A s' ms'
/-- an own object changes no more from here on -/
def aFz (i : Nat) (t : aS) : aS := fun A s ms => match s[i]? with
  | some (some (.ow m)) => match m.d with
    | some d => t A (s.set i (some (.fr d))) ms
    | none => False
  | some (some (.fr _)) => t A s ms
  | _ => False
section
variable {X : Cx} {Wx : WXA} {st : Stmt} {rest sa sb : List Stmt} {e c : Expr} {es : List Expr} {pos : Pos} {ra : aE} {rc : aT} {t u : aS} {rr : aA}
theorem ass_nil : ASs X Wx [] aNext := PSs.imp pss_nil fun De σ H ⟨B, w, ms, s, A, L, h, en⟩ => en.nx w ms H s σ (Le.refl _ _) L h
theorem ass_cons (h1 : AS X Wx st t) (h2 : ASs X Wx rest u) : ASs X Wx (st :: rest) (aSeq t u) :=
  PSs.imp (pss_cons h1 h2) fun De σ H ⟨B, w, ms, s, A, L, h, en⟩ => ⟨B, w, ms, s, _, L, h, ⟨fun w' ms' H' s' σ' le L' q => ⟨B, w', ms', s', A, L', q, en.le le⟩, en.bk, en.ct, en.rt, en.ex⟩⟩
theorem ass_one (h1 : AS X Wx st t) : ASs X Wx [st] t := pss_one h1
theorem ass_cut (h1 : AS X Wx st t) (h2 : ASs X Wx rest u) : ASs X Wx (st :: rest) (aCut t u) :=
  PSs.imp (pss_cons h1 h2) fun De σ H ⟨B, w, ms, s, A, L, ⟨M, h, k⟩, en⟩ => ⟨B, w, ms, s, _, L, h, ⟨fun w' ms' H' s' σ' le L' q => ⟨B, w', ms', s', A, L', k _ _ q, en.le le⟩, en.bk, en.ct, en.rt, en.ex⟩⟩
theorem ass_never {sts : List Stmt} : ASs X Wx sts aNever := PSs.imp pss_never fun De σ H ⟨B, w, ms, s, A, L, h, en⟩ => h.elim
theorem as_pass : AS X Wx (.Pass pos) aNext := PS.imp ps_pass fun De σ H ⟨B, w, ms, s, A, L, h, en⟩ => en.nx w ms H s σ (Le.refl _ _) L h
theorem as_break : AS X Wx (.Break pos) aBreak := PS.imp ps_break fun De σ H ⟨B, w, ms, s, A, L, h, en⟩ => en.bk w ms H s σ (Le.refl _ _) L h
theorem as_cont : AS X Wx (.Continue pos) aCont := PS.imp ps_continue fun De σ H ⟨B, w, ms, s, A, L, h, en⟩ => en.ct w ms H s σ (Le.refl _ _) L h
theorem as_expr (he : AE X Wx e ra) (hs : swapsWith e none pos.line X.env = pure false := by rfl) : AS X Wx (.Expr e pos) (aDrop ra) :=
  PS.imp (ps_expr he hs) fun De σ H ⟨B, w, ms, s, A, L, h, en⟩ => ⟨B, w, ms, s, _, _, L, h, fun w' ms' H' v d le L' r q => en.nx w' ms' H' s σ le L' q, en.px⟩
theorem as_ret (he : AE X Wx e ra) : AS X Wx (.Return (some e) pos) (aRet ra) :=
  PS.imp (ps_ret he) fun De σ H ⟨B, w, ms, s, A, L, h, en⟩ => ⟨B, w, ms, s, _, _, L, h, fun w' ms' H' v d le L' r q => en.rt w' ms' H' s σ v d le L' r q, en.px⟩
theorem as_retN : AS X Wx (.Return none pos) aRetN := PS.imp ps_retN fun De σ H ⟨B, w, ms, s, A, L, h, en⟩ => en.rt w ms H s σ .non .non (Le.refl _ _) L .non h
theorem as_if (hc : AT X Wx c rc) (ha : ASs X Wx sa t) (hb : ASs X Wx sb u) : AS X Wx (.If c sa sb pos) (aIfS rc t u) :=
  PS.imp (ps_if hc ha hb) fun De σ H ⟨B, w, ms, s, A, L, h, en⟩ => ⟨B, w, ms, s, _, _, L, h, fun w' ms' H' b le L' q => by
    cases b with
    | true => rw [if_pos rfl]; exact ⟨B, w', ms', s, A, L', q, en.le le⟩
    | false => rw [if_neg (by decide)]; exact ⟨B, w', ms', s, A, L', q, en.le le⟩, en.px⟩
theorem OnlyAt.app {α : Type} {vs ws : List Nat} {a b c : List α} (h : OnlyAt vs a b) (k : OnlyAt ws b c) : OnlyAt (vs ++ ws) a c := ⟨k.1.trans h.1, fun j hj => by
  simp only [List.mem_append, not_or] at hj
  rw [k.2 j hj.2, h.2 j hj.1]⟩
theorem ag_name {i : Nat} (h : PG X e (gName i)) : AG X Wx [i] e (aName i) :=
  PG.imp h fun v σ H R ⟨B, w, ms, s, d, Q, L, r, q, k⟩ => k w ms H _ _ (Le.refl _ _) (L.set r) ⟨by simp, fun j hj => List.getElem?_set_ne (fun z => hj (by simp [z]))⟩ ⟨by simp, fun j hj => List.getElem?_set_ne (fun z => hj (by simp [z]))⟩ q
theorem ags_nil : AGs X Wx [] [] aGNil := PGs.imp pgs_nil fun v σ H R ⟨B, w, ms, s, d, Q, L, r, ⟨e, q⟩, k⟩ => by
  subst e; cases r; exact ⟨rfl, k w ms H _ _ (Le.refl _ _) L ⟨rfl, fun _ _ => rfl⟩ ⟨rfl, fun _ _ => rfl⟩ q⟩
theorem ags_cons {g : aG} {r : aGs} {vs ws : List Nat} (h1 : AG X Wx vs e g) (h2 : AGs X Wx ws es r) (hs : (assignEach (e :: es) X.env).map (·.2) = assign e X.env :: (assignEach es X.env).map (·.2) := by rfl) : AGs X Wx (vs ++ ws) (e :: es) (aGCons g r) :=
  PGs.imp (pgs_cons h1 h2 hs) fun v σ H R ⟨B, w, ms, s, d, Q, L, rv, q, k⟩ => by
    cases rv with
    | nil => exact False.elim q
    | cons rh rt => exact ⟨_, _, rfl, B, w, ms, s, _, _, L, rh, q, fun w' ms' H' s' σ' le L' oa ol q' => ⟨B, w', ms', s', _, Q, L', rt.mono le, q', fun w2 ms2 H2 s2 σ2 le2 L2 oa2 ol2 q2 => k w2 ms2 H2 s2 σ2 (le.trans le2) L2 (oa.app oa2) (ol.app ol2) q2⟩⟩
theorem SqT.up {K : PySem.W.Frag} {w : W} {ms : MS} {H : Hp} {a : Addr} {vs : List V} (h0 : St0 K w ms H) (h : w.F a = some (.tup vs)) : SqT K H a vs := .inl (.inl (h0.fh _ _ h))
theorem SqL.up {K : PySem.W.Frag} {w : W} {ms : MS} {H : Hp} {a : Addr} {vs : List V} (h0 : St0 K w ms H) (h : w.F a = some (.lst vs)) : SqL K H a vs := SqL.of (h0.fh _ _ h)
theorem ag_tup {k n : Nat} {r : aGs} {vs : List Nat} (hc : X.calm = true) (h : AGs X Wx vs es r) (hn : (assignEach es X.env).length = n := by rfl) (hst : (assignEach es X.env).findIdx? (·.1) = none := by rfl) : AG X Wx vs (.Tuple es k pos) (aGTup n r) :=
  PG.imp (pg_tup hc h hn hst) fun v σ H R ⟨B, w, ms, s, d, Q, L, rv, q, kk⟩ => by
    cases rv with
    | tup hs rl => exact ⟨_, _, rfl, SqT.up L.s0 hs, rl.length.trans q.1, B, w, ms, s, _, Q, L, rl, q.2, kk⟩
    | _ => exact False.elim q
theorem as_asg {tg : Expr} {g : aG} {vs : List Nat} (he : AE X Wx e ra) (hg : AG X Wx vs tg g) (hs : swapsWithSole [tg] e pos.line X.env = pure false := by rfl) (hw : swappedStores [tg] e X.env = pure none := by rfl)
    (h1 : (assignEach [tg] X.env).map (·.2) = [assign tg X.env] := by rfl) : AS X Wx (.Assign [tg] e pos) (aAsg ra g) :=
  PS.imp (ps_asg he hg hs hw h1) fun De σ H ⟨B, w, ms, s, A, L, h, en⟩ => ⟨B, w, ms, s, _, _, L, h, fun w' ms' H' v d le L' r q => ⟨B, w', ms', s, d, _, L', r, q, fun w2 ms2 H2 s2 σ2 le2 L2 _ _ q2 => en.nx w2 ms2 H2 s2 σ2 (le.trans le2) L2 q2⟩, en.px⟩
theorem as_set {i : Nat} {y : Str} {pos' : Pos} (hN : X.N.Nodup) (hi : X.N[i]? = some y) (hx : Loc X.env.scope y) (he : AE X Wx e ra) (hs : swapsWith e (some (.Name y pos')) pos.line X.env = pure false := by rfl) (hf : X.fn y = true ∨ X.env.scope.names.lookup y = some .local := by first | exact .inl rfl | exact .inr rfl | assumption) :
    AS X Wx (.Assign [.Name y pos'] e pos) (aAsg ra (aName i)) :=
  PS.imp (ps_set hN hi hx he hs hf) fun De σ H ⟨B, w, ms, s, A, L, h, en⟩ => ⟨B, w, ms, s, _, _, L, h, fun w' ms' H' v d le L' r q => en.nx w' ms' H' _ _ le (L'.set r) q, en.px⟩
theorem as_fz {i : Nat} (h : AS X Wx st t) : AS X Wx st (aFz i t) :=
  PS.imp h fun De σ H ⟨B, w, ms, s, A, L, h, en⟩ => by
    unfold aFz at h
    split at h
    · rename_i m e
      split at h
      · rename_i d hd
        obtain ⟨w', le, L'⟩ := L.freeze e hd
        exact ⟨B, w', ms, _, A, L', h, en.le le⟩
      · exact h.elim
    · exact ⟨B, w, ms, s, A, L, h, en⟩
    · exact h.elim

end

/-! ### new objects -/
abbrev aF := ASt → MS → (MO → MS → Prop) → (XD → MS → Prop) → Prop
def PostF (K : PySem.W.Frag) {ex : XI} (B : Bs ex) (w : W) (s : ASt) (σ : L2.St) (Q : MO → MS → Prop) (R : VK) : Prop := ∀ w' ms' H' p o m, Le K w w' → Lk K B w' ms' s σ H' → H' p = none → RepM K w' (upd H' p o) p m → Q m ms' → R (.ref p) (upd H' p o)
def cF (K : PySem.W.Frag) (Wx : WXA) (a : aF) : TE := fun σ H R => ∃ B : Bs Wx.ex, ∃ w ms s Q E, Lk K B w ms s σ H ∧ a s ms Q E ∧ PostF K B w s σ Q R ∧ PostX K B w s σ E Wx
abbrev FE (X : Cx) (Wx : WXA) (e : Expr) (a : aF) : Prop := PE X e (cF X.K Wx a)
/-- .. that change no more -/
def aNew (f : aF) : aE := fun s ms Q E => f s ms (fun m ms1 => match m.d with
  | some d => Q d ms1
  | none => False) E
/-- .. of one's own -/
def aOwn (i : Nat) (f : aF) : aS := fun A s ms => f s ms (fun m ms1 => A.nx (s.set i (some (.ow m))) ms1) fun x ms => A.ex x s ms
def fLst (rr : aA) : aF := fun s ms Q E => rr s ms (fun xs ms1 => xs.length ≤ sizeLine ∧ Q (.lst xs) ms1) E
def fDK : aF := fun _ ms Q _ => Q (.dk []) ms
def fDT : aF := fun _ ms Q _ => Q (.dt []) ms
section
variable {X : Cx} {Wx : WXA} {e : Expr} {es : List Expr} {pos : Pos} {rr : aA} {f : aF}
theorem Rep.ofM {K : PySem.W.Frag} {w : W} {H : Hp} {p : Addr} {o : HO} {m : MO} {d : D} (hp : w.F p = none) (h : H p = some o) (r : RepM K w H p m) (hd : m.d = some d) : Rep K { w with F := upd w.F p o } (.ref p) d := by
  have le : Le K w { w with F := upd w.F p o } := Le.new hp
  have hF : ({ w with F := upd w.F p o } : W).F p = some o := upd_same
  cases r with
  | lst h' r => cases hd; rw [h'] at h; cases h; exact .lst hF (r.mono le)
  | dk h' r => cases hd; rw [h'] at h; cases h; exact .dk (.inl hF) (r.mono le)
  | dt h' r => cases hd; rw [h'] at h; cases h; exact .dt (.inl hF) (r.mono le)
  | ins h' r => cases hd; rw [h'] at h; cases h; exact .ins hF (r.mono le)
  | rng h l => cases hd
theorem ae_new (h : FE X Wx e f) : AE X Wx e (aNew f) :=
  PE.imp h fun σ H R ⟨B, w, ms, s, Q, E, L, h, hq, hx⟩ => ⟨B, w, ms, s, _, E, L, h, fun w1 ms1 H1 p o m e1 L1 hp r1 h1 => by
    dsimp only at h1
    split at h1
    · rename_i d hd
      have f := L1.fresh hp
      exact hq _ ms1 _ _ _ (e1.trans (Le.new f.1)) (L1.new hp) (Rep.ofM f.1 upd_same r1 hd) h1
    · exact h1.elim, hx⟩
theorem as_own {i : Nat} {y : Str} {pos' : Pos} (i0 : 0 < i) (hN : X.N.Nodup) (hi : X.N[i]? = some y) (hx : Loc X.env.scope y) (he : FE X Wx e f) (hs : swapsWith e (some (.Name y pos')) pos.line X.env = pure false := by rfl) (hf : X.fn y = true ∨ X.env.scope.names.lookup y = some .local := by first | exact .inl rfl | exact .inr rfl | assumption) :
    AS X Wx (.Assign [.Name y pos'] e pos) (aOwn i f) :=
  PS.imp (ps_set hN hi hx he hs hf) fun De σ H ⟨B, w, ms, s, A, L, h, en⟩ => ⟨B, w, ms, s, _, _, L, h, fun w' ms' H' p o m le L' hp r q => en.nx w' ms' _ _ _ le (L'.newOwn i0 hp r) q, en.px⟩
theorem fe_lst (h : AA X Wx es rr) : FE X Wx (.List es pos) (fLst rr) :=
  PE.imp (pe_lst h) fun σ H R ⟨B, w, ms, s, Q, E, L, h, hq, hx⟩ => ⟨B, w, ms, s, _, E, L, h, fun w1 ms1 H1 vs ds e1 L1 r1 h1 => ⟨r1.length ▸ h1.1, fun p hp => hq w1 ms1 H1 p _ _ e1 L1 hp (.lst upd_same r1) h1.2⟩, hx⟩
theorem fe_dk : FE X Wx (.Dict [] [] pos) fDK := PE.imp pe_dnewK fun σ H R ⟨B, w, ms, s, Q, E, L, h, hq, hx⟩ p hp => hq w ms H p _ _ (Le.refl _ _) L hp (.dk upd_same .nil) h
theorem fe_dt : FE X Wx (.Dict [] [] pos) fDT := PE.imp pe_dnewT fun σ H R ⟨B, w, ms, s, Q, E, L, h, hq, hx⟩ p hp => hq w ms H p _ _ (Le.refl _ _) L hp (.dt upd_same .nil) h
end

/-! ### what is walked -/
abbrev aI := ASt → MS → (List D → MS → Prop) → (XD → MS → Prop) → Prop
structure WalkA (K : PySem.W.Frag) (w : W) (J : It) (ds : List D) : Prop where
  goes : ∀ {ex : XI} (B : Bs ex) w1 ms s σ H i, Le K w w1 → Lk K B w1 ms s σ H → i < ds.length → J.go i H
  stops : ∀ {ex : XI} (B : Bs ex) w1 ms s σ H, Le K w w1 → Lk K B w1 ms s σ H → J.stop ds.length H
  yields : ∀ {ex : XI} (B : Bs ex) w1 ms s σ H i d x H', Le K w w1 → Lk K B w1 ms s σ H → ds[i]? = some d → J.yld i H x H' → ∃ w2, Le K w1 w2 ∧ Lk K B w2 ms s σ H' ∧ Rep K w2 x d
def cI (K : PySem.W.Frag) (Wx : WXA) (a : aI) : TI := fun σ H R => ∃ B : Bs Wx.ex, ∃ w ms s Q E, Lk K B w ms s σ H ∧ a s ms Q E ∧ (∀ w' ms' H' J ds, Le K w w' → Lk K B w' ms' s σ H' → WalkA K w' J ds → Q ds ms' → R J H') ∧ PostX K B w s σ E Wx
abbrev AI (X : Cx) (Wx : WXA) (tg e : Expr) (a : aI) : Prop := PI X tg e (cI X.K Wx a)
theorem PI.imp {X : Cx} {tg e : Expr} {t t' : TI} (h : PI X tg e t) (k : ∀ σ H R, t' σ H R → t σ H R) : PI X tg e t' := ⟨fun pins s σ H R I q => h.run pins s σ H R I (k _ _ _ q)⟩
/-- the items of a list, a tuple -/
def aItems (ra : aE) : aI := fun s ms Q E => ra s ms (fun x ms1 => match x with
  | .lst ds => Q ds ms1
  | .tup ds => Q ds ms1
  | _ => False) E
def aForL (g : aG) (tb : aS) : List D → aS
  | [] => fun A s ms => A.nx s ms
  | d :: r => fun A s ms => g d s ms fun s1 ms1 => tb { A with nx := aForL g tb r A, ct := aForL g tb r A, bk := A.nx } s1 ms1
structure ForL (g : aG) (tb : aS) (ds : List D) (A : AEnds) (s : ASt) (ms : MS) (t : Tag A A := .mk) : Prop where
  h : aForL g tb ds A s ms
def aFor (ri : aI) (g : aG) (tb : aS) : aS := fun A s ms => ri s ms (fun ds ms1 => ForL g tb ds A s ms1) fun x ms => A.ex x s ms
def aWh (c : aT) (tb : aS) : Nat → aS
  | 0 => fun _ _ _ => False
  | n + 1 => fun A s ms => c s ms (fun b ms1 => Br b (tb { A with nx := aWh c tb n A, ct := aWh c tb n A, bk := A.nx } s) (A.nx s) ms1) fun x ms => A.ex x s ms
structure While (c : aT) (tb : aS) (A : AEnds) (s : ASt) (ms : MS) (t : Tag A A := .mk) : Prop where
  h : ∃ n, aWh c tb n A s ms
def aWhile (c : aT) (tb : aS) : aS := fun A s ms => While c tb A s ms
section
variable {X : Cx} {Wx : WXA} {e tg : Expr} {body : List Stmt} {pos : Pos} {ra : aE} {ri : aI} {g : aG} {vs : List Nat} {tb : aS} {c : aT}
/-- what may be walked of data -/
def iAny (K : PySem.W.Frag) (tl : TE) : TI := fun σ H R => tl σ H fun x H1 => ∃ a, x = .ref a ∧ ((∃ xs, SqL K H1 a xs) ∧ R (Itl K a) H1 ∨ (∃ xs, SqT K H1 a xs) ∧ R (Itt K a) H1)
theorem pi_any {tl : TE} (hl : PE X e tl) : PI X tg e (iAny X.K tl) := by
  refine ⟨fun pins s σ H R I h => ?_⟩
  refine thn (hl.run pins s σ H _ I h) fun v s1 ⟨x, H1, I1, r1, q1⟩ => ?_
  obtain ⟨a, ex, q1⟩ := q1
  subst ex
  cases r1
  rcases q1 with ⟨⟨xs, hq⟩, q⟩ | ⟨⟨xs, hq⟩, q⟩
  · obtain ⟨its, rv, p, hz⟩ := I1.list hq
    refine wpAny_pyIter_list p.isList ?_
    refine ⟨s1.heap.objs.size, [s1.heap.objs.size], _, _, H1, rfl, I1.kept (t' := s1.toks) fun b o e => Heap.get?_push_of_some _ e, turn_list a _, ⟨_, Heap.get?_push_size _ rfl, rfl, rfl⟩, fun b hb => ?_, q⟩
    have e : b = s1.heap.objs.size := by simpa using hb
    subst e
    exact I1.fpOk (Nat.le_refl _) (I1.hok.fresh (Nat.le_refl _))
  · obtain ⟨its, rv, p, hz⟩ := I1.tuple hq
    refine wpAny_pyIter_tuple (show s1.heap.IsTuple a its.toArray from p) ?_
    refine ⟨s1.heap.objs.size, [s1.heap.objs.size], _, _, H1, rfl, I1.kept (t' := s1.toks) fun b o e => Heap.get?_push_of_some _ e, turn_tuple a _, ⟨_, Heap.get?_push_size _ rfl, rfl, rfl⟩, fun b hb => ?_, q⟩
    have e : b = s1.heap.objs.size := by simpa using hb
    subst e
    exact I1.fpOk (Nat.le_refl _) (I1.hok.fresh (Nat.le_refl _))
theorem walk_l {K : PySem.W.Frag} {w : W} {a : Addr} {vs : List V} {ds : List D} (h : w.F a = some (.lst vs)) (r : RepL K w vs ds) : WalkA K w (Itl K a) ds := by
  have hl := r.length
  have hS : ∀ {ex : XI} {B : Bs ex} {w1 ms s σ H}, Le K w w1 → Lk K B w1 ms s σ H → SqL K H a vs := fun le L => SqL.of (L.s0.fh _ _ (le.l _ _ h))
  refine ⟨fun B w1 ms s σ H i le L hi => ⟨vs, vs[i]'(by omega), hS le L, by simp [hl, hi]⟩, fun B w1 ms s σ H le L => ⟨vs, hS le L, by omega⟩, fun B w1 ms s σ H i d x H' le L hd y => ?_⟩
  obtain ⟨rfl, y⟩ := y
  have := y vs (hS le L)
  obtain ⟨u, hu, ru⟩ := r.get hd
  rw [hu] at this; cases this
  exact ⟨w1, Le.refl _ _, L, ru.mono le⟩
theorem walk_t {K : PySem.W.Frag} {w : W} {a : Addr} {vs : List V} {ds : List D} (h : w.F a = some (.tup vs)) (r : RepL K w vs ds) : WalkA K w (Itt K a) ds := by
  have hl := r.length
  have hS : ∀ {ex : XI} {B : Bs ex} {w1 ms s σ H}, Le K w w1 → Lk K B w1 ms s σ H → SqT K H a vs := fun le L => SqT.up L.s0 (le.t _ _ h)
  refine ⟨fun B w1 ms s σ H i le L hi => ⟨vs, vs[i]'(by omega), hS le L, by simp [hl, hi]⟩, fun B w1 ms s σ H le L => ⟨vs, hS le L, by omega⟩, fun B w1 ms s σ H i d x H' le L hd y => ?_⟩
  obtain ⟨rfl, y⟩ := y
  have := y vs (hS le L)
  obtain ⟨u, hu, ru⟩ := r.get hd
  rw [hu] at this; cases this
  exact ⟨w1, Le.refl _ _, L, ru.mono le⟩
theorem ai_items (h : AE X Wx e ra) : AI X Wx tg e (aItems ra) :=
  PI.imp (pi_any h) fun σ H R ⟨B, w, ms, s, Q, E, L, h, hq, hx⟩ => ⟨B, w, ms, s, _, E, L, h, fun w1 ms1 H1 v d e1 L1 r1 h1 => by
    cases r1 with
    | lst hf rl => exact ⟨_, rfl, .inl ⟨⟨_, SqL.up L1.s0 hf⟩, hq w1 ms1 H1 _ _ e1 L1 (walk_l hf rl) h1⟩⟩
    | tup hf rl => exact ⟨_, rfl, .inr ⟨⟨_, SqT.up L1.s0 hf⟩, hq w1 ms1 H1 _ _ e1 L1 (walk_t hf rl) h1⟩⟩
    | _ => exact False.elim h1, hx⟩
theorem as_for (hp : PassesOwn (model X.prog X.w) X.A X.env X.xe) (hc : X.calm = true) (hi : AI X Wx tg e ri) (hg : AG X Wx vs tg g) (hb : ASs X Wx body tb) (hs : ∀ x, foldedSetIterable e X.env x = pure x := by intro _; rfl) : AS X Wx (.For tg e body [] pos) (aFor ri g tb) :=
  PS.imp (ps_for hp hc hi hg hb hs) fun De σ H ⟨B, w, ms, s, A, L, h, en⟩ => ⟨B, w, ms, s, _, _, L, h, fun w1 ms1 H1 J ds e1 L1 wk h1 => by
    refine ⟨fun i m σ H => m + i = ds.length ∧ ∃ w2 ms2 s2, Le X.K w1 w2 ∧ Lk X.K B w2 ms2 s2 σ H ∧ aForL g tb (ds.drop i) A s2 ms2, ⟨ds.length, rfl, w1, ms1, s, Le.refl _ _, L1, h1.h⟩, ?_⟩
    rintro i m σ2 H2 ⟨hm, w2, ms2, s2, e2, L2, h2⟩
    by_cases hi : i < ds.length
    · refine .inr ⟨wk.goes B w2 ms2 s2 σ2 H2 i e2 L2 hi, fun σ H => m - 1 + (i + 1) = ds.length ∧ ∃ w2 ms2 s2, Le X.K w1 w2 ∧ Lk X.K B w2 ms2 s2 σ H ∧ aForL g tb (ds.drop (i + 1)) A s2 ms2, fun σ' H' n => ⟨m - 1, by omega, n⟩, fun x H' y => ?_⟩
      obtain ⟨w3, e3, L3, rx⟩ := wk.yields B w2 ms2 s2 σ2 H2 i ds[i] x H' e2 L2 (List.getElem?_eq_getElem hi) y
      rw [List.drop_eq_getElem_cons hi] at h2
      refine ⟨B, w3, ms2, s2, _, _, L3, rx, h2, fun w4 ms4 H4 s4 σ4 e4 L4 _ _ h4 => ?_⟩
      have e14 := ((e2.trans e3).trans e4)
      exact ⟨B, w4, ms4, s4, _, L4, h4, ⟨fun w5 ms5 H5 s5 σ5 e5 L5 q => ⟨by omega, w5, ms5, s5, e14.trans e5, L5, q⟩, fun w5 ms5 H5 s5 σ5 e5 L5 q => en.nx _ _ _ _ _ ((e1.trans e14).trans e5) L5 q, fun w5 ms5 H5 s5 σ5 e5 L5 q => ⟨by omega, w5, ms5, s5, e14.trans e5, L5, q⟩,
        fun w5 ms5 H5 s5 σ5 v d e5 L5 r q => en.rt _ _ _ _ _ _ _ ((e1.trans e14).trans e5) L5 r q, fun w5 ms5 H5 s5 σ5 cl ad x e5 L5 r q => en.ex _ _ _ _ _ _ _ _ ((e1.trans e14).trans e5) L5 r q⟩⟩
    · have hi : i = ds.length := by omega
      subst hi
      rw [List.drop_length] at h2
      exact .inl ⟨wk.stops B w2 ms2 s2 σ2 H2 e2 L2, en.nx w2 ms2 H2 s2 σ2 (e1.trans e2) L2 h2⟩, en.px⟩
theorem as_while (hp : PassesOwn (model X.prog X.w) X.A X.env X.xe) (hc : AT X Wx e c) (hb : ASs X Wx body tb) : AS X Wx (.While e body [] pos) (aWhile c tb) :=
  PS.imp (ps_while hp hc hb) fun De σ H ⟨B, w, ms, s, A, L, ⟨⟨n, h⟩⟩, en⟩ => by
    refine ⟨fun m σ H => ∃ w2 ms2 s2, Le X.K w w2 ∧ Lk X.K B w2 ms2 s2 σ H ∧ aWh c tb m A s2 ms2, ⟨n, w, ms, s, Le.refl _ _, L, h⟩, ?_⟩
    rintro m σ2 H2 ⟨w2, ms2, s2, e2, L2, h2⟩
    cases m with
    | zero => exact h2.elim
    | succ m =>
      refine ⟨B, w2, ms2, s2, _, _, L2, h2, fun w3 ms3 H3 b e3 L3 h3 => ?_, (en.le e2).px⟩
      cases b with
      | true =>
        rw [if_pos rfl]
        exact ⟨_, fun σ' H' n => ⟨m, Nat.lt_succ_self m, n⟩, B, w3, ms3, s2, _, L3, h3, ⟨fun w5 ms5 H5 s5 σ5 e5 L5 q => ⟨w5, ms5, s5, (e2.trans e3).trans e5, L5, q⟩, fun w5 ms5 H5 s5 σ5 e5 L5 q => en.nx _ _ _ _ _ ((e2.trans e3).trans e5) L5 q, fun w5 ms5 H5 s5 σ5 e5 L5 q => ⟨w5, ms5, s5, (e2.trans e3).trans e5, L5, q⟩,
          fun w5 ms5 H5 s5 σ5 v d e5 L5 r q => en.rt _ _ _ _ _ _ _ ((e2.trans e3).trans e5) L5 r q, fun w5 ms5 H5 s5 σ5 cl ad x e5 L5 r q => en.ex _ _ _ _ _ _ _ _ ((e2.trans e3).trans e5) L5 r q⟩⟩
      | false => rw [if_neg (by decide)]; exact en.nx w3 ms3 H3 s2 σ2 (e2.trans e3) L3 h3
end

/-! ### comprehensions -/
def wipeA (s : ASt) : List Nat → ASt
  | [] => s
  | v :: vs => (wipeA s vs).set v none
theorem wipeA_length (s : ASt) : ∀ vs, (wipeA s vs).length = s.length
  | [] => rfl
  | v :: vs => by unfold wipeA; rw [List.length_set, wipeA_length s vs]
theorem wipeA_some {s : ASt} {i : Nat} {x : AV} : ∀ {vs : List Nat}, (wipeA s vs)[i]? = some (some x) → s[i]? = some (some x) ∧ i ∉ vs
  | [], h => ⟨h, by simp⟩
  | v :: vs, h => by
    unfold wipeA at h
    by_cases hi : v = i
    · subst hi
      by_cases hv : v < (wipeA s vs).length
      · rw [List.getElem?_set_self hv] at h; cases h
      · rw [List.getElem?_eq_none (by simpa using hv)] at h; cases h
    · rw [List.getElem?_set_ne hi] at h
      obtain ⟨h1, h2⟩ := wipeA_some h
      exact ⟨h1, by simp only [List.mem_cons, not_or]; exact ⟨fun e => hi e.symm, h2⟩⟩
theorem wipe_only {σ σ' : L2.St} {vs ws : List Nat} (h : OnlyAt ws σ σ') (hs : ∀ j ∈ ws, j ∈ vs) : wipe σ' vs = wipe σ vs := by
  have at_ : ∀ (τ : L2.St) (vs : List Nat) (j : Nat), (wipe τ vs)[j]? = if j ∈ vs then (if j < τ.length then some none else none) else τ[j]? := by
    intro τ vs j
    induction vs with
    | nil => simp [wipe]
    | cons v vs ih =>
      unfold wipe
      by_cases e : v = j
      · subst e
        by_cases hv : v < τ.length
        · rw [List.getElem?_set_self (by rw [wipe_length]; exact hv)]; simp [hv]
        · rw [List.getElem?_eq_none (by rw [List.length_set, wipe_length]; omega)]; simp [hv]
      · rw [List.getElem?_set_ne e, ih]
        have : j ≠ v := fun z => e z.symm
        simp [this]
  refine List.ext_getElem? fun j => ?_
  rw [at_, at_, h.1]
  by_cases hj : j ∈ vs
  · rw [if_pos hj, if_pos hj]
  · rw [if_neg hj, if_neg hj]; exact h.2 j fun z => hj (hs j z)
theorem wipeA_only {σ σ' : ASt} {vs ws : List Nat} (h : OnlyAt ws σ σ') (hs : ∀ j ∈ ws, j ∈ vs) : wipeA σ' vs = wipeA σ vs := by
  have at_ : ∀ (τ : ASt) (vs : List Nat) (j : Nat), (wipeA τ vs)[j]? = if j ∈ vs then (if j < τ.length then some none else none) else τ[j]? := by
    intro τ vs j
    induction vs with
    | nil => simp [wipeA]
    | cons v vs ih =>
      unfold wipeA
      by_cases e : v = j
      · subst e
        by_cases hv : v < τ.length
        · rw [List.getElem?_set_self (by rw [wipeA_length]; exact hv)]; simp [hv]
        · rw [List.getElem?_eq_none (by rw [List.length_set, wipeA_length]; omega)]; simp [hv]
      · rw [List.getElem?_set_ne e, ih]
        have : j ≠ v := fun z => e z.symm
        simp [this]
  refine List.ext_getElem? fun j => ?_
  rw [at_, at_, h.1]
  by_cases hj : j ∈ vs
  · rw [if_pos hj, if_pos hj]
  · rw [if_neg hj, if_neg hj]; exact h.2 j fun z => hj (hs j z)
theorem wipe_wipe (σ : L2.St) (vs : List Nat) : wipe (wipe σ vs) vs = wipe σ vs := wipe_only (ws := vs) ⟨by rw [wipe_length], fun j hj => wipe_out hj⟩ fun _ h => h
theorem wipeA_out {σ : ASt} {i : Nat} : ∀ {vs : List Nat}, i ∉ vs → (wipeA σ vs)[i]? = σ[i]?
  | [], _ => rfl
  | v :: vs, h => by
    simp only [List.mem_cons, not_or] at h
    unfold wipeA
    rw [List.getElem?_set_ne (fun z => h.1 z.symm)]
    exact wipeA_out h.2
theorem wipeA_wipeA (σ : ASt) (vs : List Nat) : wipeA (wipeA σ vs) vs = wipeA σ vs := wipeA_only (ws := vs) ⟨by rw [wipeA_length], fun j hj => wipeA_out hj⟩ fun _ h => h
section
variable {K : PySem.W.Frag} {ex : XI} {B : Bs ex} {w : W} {ms : MS} {s : ASt} {σ : L2.St} {H : Hp} {vs : List Nat}
theorem Lk.wipe (L : Lk K B w ms s σ H) : Lk K B w ms (wipeA s vs) (L2.wipe σ vs) H := by
  have look : ∀ {i : Nat} {av : AV}, (wipeA s vs)[i]? = some (some av) → s[i]? = some (some av) ∧ (L2.wipe σ vs)[i]? = σ[i]? := fun {i av} h => by
    obtain ⟨h1, h2⟩ := wipeA_some h
    exact ⟨h1, wipe_out h2⟩
  refine ⟨L.s0, L.keep, L.pre, L.bas, L.fz, by rw [wipeA_length, wipe_length, L.len], fun i av h => ?_, fun i j p mi mj h1 h2 h3 h4 => ?_, L.bf, fun x m hs h => ?_⟩
  · obtain ⟨h1, h2⟩ := look h
    have := L.sl i av h1
    cases av with
    | fr d => obtain ⟨v, e, r⟩ := this; exact ⟨v, h2.trans e, r⟩
    | ex x => obtain ⟨a, c, d, e0, e, r⟩ := this; exact ⟨a, c, d, e0, h2.trans e, r⟩
    | ow m => obtain ⟨p, e, r⟩ := this; exact ⟨p, h2.trans e, r⟩
  · obtain ⟨a1, a2⟩ := look h1
    obtain ⟨b1, b2⟩ := look h2
    exact L.dj i j p mi mj a1 b1 (a2.symm.trans h3) (b2.symm.trans h4)
  · obtain ⟨a1, a2⟩ := look h
    exact a2.trans (L.sf x m hs a1)
/-- back from a block whose own slots bore nothing -/
theorem Lk.unwipe (L : Lk K B w ms (wipeA s vs) (L2.wipe σ vs) H) (hs : wipeA s vs = s) : Lk K B w ms s σ H := by
  have look : ∀ {i : Nat} {av : AV}, s[i]? = some (some av) → (L2.wipe σ vs)[i]? = σ[i]? := fun {i av} h => by
    rw [← hs] at h
    exact wipe_out (wipeA_some h).2
  rw [hs] at L
  refine ⟨L.s0, L.keep, L.pre, L.bas, L.fz, by rw [L.len, wipe_length], fun i av h => ?_, fun i j p mi mj h1 h2 h3 h4 => ?_, L.bf, fun x m hb h => ?_⟩
  · have := L.sl i av h
    cases av with
    | fr d => obtain ⟨v, e, r⟩ := this; exact ⟨v, (look h).symm.trans e, r⟩
    | ex x => obtain ⟨a, c, d, e0, e, r⟩ := this; exact ⟨a, c, d, e0, (look h).symm.trans e, r⟩
    | ow m => obtain ⟨p, e, r⟩ := this; exact ⟨p, (look h).symm.trans e, r⟩
  · exact L.dj i j p mi mj h1 h2 ((look h1).trans h3) ((look h2).trans h4)
  · exact (look h).symm.trans (L.sf x m hb h)
/-- the base, with an object that is being made at D -/
def Bs.at {ex : XI} (B : Bs ex) (D : Addr) (o : HO) : Bs ex := { B with H := upd B.H D o }
theorem Lk.side (L : Lk K B w ms s σ H) {D : Addr} {o : HO} (hD : H D = none) : Lk K (B.at D o) w ms s σ (upd H D o) := by
  obtain ⟨f1, f2, f3⟩ := L.fresh hD
  have kp : ∀ a u, H a = some u → upd H D o a = some u := fun a u e => by rw [upd_ne (ne_of_none e hD)]; exact e
  have nb : ∀ a, a ∈ w.as → (B.at D o).H a = B.H a := fun a ha => upd_ne (show a ≠ D from fun z => f2 (z ▸ ha))
  refine ⟨⟨fun a u e => kp _ _ (L.s0.fh a u e), L.s0.nd, L.s0.na, fun k m e => let ⟨a, h1, r⟩ := L.s0.ce k m e; ⟨a, h1, r.mono (Le.refl _ _) (kp a)⟩, L.s0.ln⟩, fun a u na e => ?_, fun a ha => (L.pre a ha).imp id fun q => by rw [nb a ha]; exact q, L.bas,
    fun a u e => (L.fz a u e).imp id fun q => q.imp id fun z => by show upd B.H D o a = none; rw [upd_ne (show a ≠ D from fun y => by rw [y, f1] at e; cases e)]; exact z, L.len, fun i av e => ?_, L.dj, fun a u e => ?_, L.sf⟩
  · have e : upd B.H D o a = some u := e
    by_cases q : a = D
    · subst q; rw [upd_same] at e; rw [upd_same]; exact e
    · rw [upd_ne q] at e; exact kp _ _ (L.keep a u na e)
  · have := L.sl i av e
    cases av with
    | fr d => exact this
    | ex x => exact this
    | ow m =>
      obtain ⟨p, e1, r, n1, n2, n3⟩ := this
      refine ⟨p, e1, r.mono (Le.refl _ _) (kp p), n1, n2, ?_⟩
      obtain ⟨u, hu⟩ := r.there
      show upd B.H D o p = none
      rw [upd_ne (ne_of_none hu hD)]; exact n3
  · obtain ⟨u', q⟩ := L.bf a u e
    exact ⟨u', by show upd B.H D o a = some u'; rw [upd_ne (ne_of_none q f3)]; exact q⟩
theorem at_at {D : Addr} {o u : HO} : (B.at D o).at D u = B.at D u := by unfold Bs.at; rw [upd_upd]
theorem but_upd {H : Hp} {D : Addr} {o u : HO} (h : H D = some o) : upd (but H D) D u = upd H D u := by
  funext a; unfold upd but; split <;> rfl
theorem but_back {H : Hp} {D : Addr} {o : HO} (h : H D = some o) : upd (but H D) D o = H := by
  funext a; unfold upd but; split
  · rename_i e; rw [e, h]
  · rfl
/-- without the object at D -/
theorem Lk.drop {o : HO} {D : Addr} (L : Lk K (B.at D o) w ms s σ H) (hB : B.H D = none) (hb : D ∉ B.as) (hF : B.F D = none) : Lk K B w ms s σ (but H D) ∧ H D = some o ∧ w.F D = none ∧ D ∉ w.as := by
  have nD : (B.at D o).H D = some o := upd_same
  have hD : H D = some o := L.keep D o hb nD
  have f2 : D ∉ w.as := fun h => by
    rcases L.pre D h with q | q
    · exact hb q
    · rw [nD] at q; cases q
  have f1 : w.F D = none := by
    cases q : w.F D with
    | none => rfl
    | some x =>
      rcases L.fz D x q with ⟨y, z⟩ | z | z
      · have z : B.F D = some y := z
        rw [hF] at z; cases z
      · exact absurd z hb
      · rw [nD] at z; cases z
  have bh : ∀ a, a ≠ D → (B.at D o).H a = B.H a := fun a h => upd_ne h
  have kp : ∀ a u, a ≠ D → H a = some u → but H D a = some u := fun a u n e => by rw [but_ne n]; exact e
  refine ⟨⟨⟨fun a u e => kp _ _ (fun z => by rw [z, f1] at e; cases e) (L.s0.fh a u e), L.s0.nd, L.s0.na, fun k m e => ?_, L.s0.ln⟩, fun a u na e => ?_, fun a ha => ?_, L.bas, fun a u e => ?_, L.len, fun i av e => ?_, L.dj, fun a u e => ?_, L.sf⟩, hD, f1, f2⟩
  · obtain ⟨a, h1, r⟩ := L.s0.ce k m e
    have ha : a ≠ D := fun z => f2 (z ▸ List.mem_of_getElem? h1)
    exact ⟨a, h1, r.mono (Le.refl _ _) fun u q => kp a u ha q⟩
  · have n : a ≠ D := fun z => by rw [z, hB] at e; cases e
    exact kp a u n (L.keep a u na (by rw [bh a n]; exact e))
  · have n : a ≠ D := fun z => f2 (z ▸ ha)
    exact (L.pre a ha).imp id fun q => by rw [← bh a n]; exact q
  · have n : a ≠ D := fun z => by rw [z, f1] at e; cases e
    exact (L.fz a u e).imp id fun q => q.imp id fun z => by rw [← bh a n]; exact z
  · have := L.sl i av e
    cases av with
    | fr d => exact this
    | ex x => exact this
    | ow m =>
      obtain ⟨p, e1, r, n1, n2, n3⟩ := this
      have n : p ≠ D := fun z => by rw [z, nD] at n3; cases n3
      exact ⟨p, e1, r.mono (Le.refl _ _) fun u q => kp p u n q, n1, n2, by rw [← bh p n]; exact n3⟩
  · obtain ⟨u', q⟩ := L.bf a u e
    have n : a ≠ D := fun z => by
      have e : B.F a = some u := e
      rw [z, hF] at e; cases e
    exact ⟨u', by rw [← bh a n]; exact q⟩
theorem Lk.sideUpd {o u : HO} {D : Addr} (L : Lk K (B.at D o) w ms s σ H) (hB : B.H D = none) (hb : D ∉ B.as) (hF : B.F D = none) : Lk K (B.at D u) w ms s σ (upd H D u) := by
  obtain ⟨L1, hD, _, _⟩ := L.drop hB hb hF
  have := L1.side (o := u) (show but H D D = none from but_same)
  rw [but_upd hD] at this
  exact this
end
/-- the items, one after another -/
def aLcL (g : aG) (tt : aT) (te : aE) (s : ASt) : List D → List D → MS → (List D → MS → Prop) → Prop
  | [], acc, ms, Q => Q acc ms
  | d :: r, acc, ms, Q => g d s ms fun s2 ms2 => tt s2 ms2 (fun b ms3 => Br b (fun ms3 => te s2 ms3 (fun y ms4 => acc.length < sizeLine ∧ aLcL g tt te s r (acc ++ [y]) ms4 Q) fun _ _ => False) (fun ms3 => aLcL g tt te s r acc ms3 Q) ms3) fun _ _ => False
structure LcL (g : aG) (tt : aT) (te : aE) (s : ASt) (ds acc : List D) (ms : MS) (Q : List D → MS → Prop) (t : Tag Q Q := .mk) : Prop where
  h : aLcL g tt te s ds acc ms Q
def fLc (ri : aI) (g : aG) (tt : aT) (te : aE) (vs : List Nat) : aF := fun s ms Q E => wipeA s vs = s ∧ ri s ms (fun ds ms1 => LcL g tt te s ds [] ms1 fun acc ms2 => Q (.lst acc) ms2) E
def aYes : aT := fun _ ms Q _ => Q true ms
abbrev WXA.blk (Wx : WXA) : WXA := ⟨fun _ _ _ _ => False, Wx.ex⟩
abbrev ATs (X : Cx) (Wx : WXA) (es : List Expr) (t : aT) : Prop := PTs X es (cT X.K Wx t)
theorem PTs.imp {X : Cx} {es : List Expr} {t t' : TT} (h : PTs X es t) (k : ∀ σ H R, t' σ H R → t σ H R) : PTs X es t' := ⟨fun pins s σ H Q I q => h.run pins s σ H Q I (k _ _ _ q)⟩
section
variable {X : Cx} {Wx : WXA} {e elt tg iter : Expr} {ifs : List Expr} {scope : Scope} {own : List (Str × Nat)} {pos : Pos} {ra te : aE} {ri : aI} {g : aG} {gs : List Nat} {tt : aT}
theorem ats_nil : ATs X Wx [] aYes := PTs.imp pts_nil fun σ H R ⟨B, w, ms, s, Q, E, L, h, hq, hx⟩ => hq w ms H true (Le.refl _ _) L h
theorem ats_one (h : AT X Wx e tt) : ATs X Wx [e] tt := pts_one h
theorem lc_ok {σ : L2.St} {H : Hp} {R : VK} {vs : List Nat} (hgs : ∀ j ∈ gs, j ∈ vs) (h : cF X.K Wx (fLc ri g tt te vs) σ H R) : tLc (cI X.K Wx ri) (cG X.K Wx.blk gs g) (cT X.K Wx.blk tt) (cE X.K Wx.blk te) vs σ H R := by
  obtain ⟨B, w, ms, s, Q, E, L, ⟨hs, h⟩, hq, hx⟩ := h
  refine ⟨B, w, ms, s, _, E, L, h, fun w1 ms1 H1 J ds e1 L1 wk h1 D hD => ?_, hx⟩
  replace h1 := h1.h
  obtain ⟨d1, d2, d3⟩ := L1.fresh hD
  have d4 : D ∉ B.as := fun z => d2 (L1.bas D z)
  have d5 : B.F D = none := by
    cases q : B.F D with
    | none => rfl
    | some u => obtain ⟨o, z⟩ := L1.bf D u q; rw [d3] at z; cases z
  refine ⟨fun i m H => m + i = ds.length ∧ ∃ w2 ms2 acc ad, Le X.K w1 w2 ∧ Lk X.K (B.at D (.lst acc)) w2 ms2 (wipeA s vs) (wipe σ vs) H ∧ RepL X.K w2 acc ad ∧ aLcL g tt te s (ds.drop i) ad ms2 fun acc ms2 => Q (.lst acc) ms2, ⟨ds.length, rfl, w1, ms1, [], [], Le.refl _ _, (L1.side hD).wipe, .nil, h1⟩, ?_⟩
  rintro i m H2 ⟨hm, w2, ms2, acc, ad, e2, L2', racc, h2⟩
  by_cases hi : i < ds.length
  · refine .inr ⟨wk.goes _ w2 ms2 _ _ H2 i e2 L2' hi, fun H => m - 1 + (i + 1) = ds.length ∧ ∃ w2 ms2 acc ad, Le X.K w1 w2 ∧ Lk X.K (B.at D (.lst acc)) w2 ms2 (wipeA s vs) (wipe σ vs) H ∧ RepL X.K w2 acc ad ∧ aLcL g tt te s (ds.drop (i + 1)) ad ms2 fun acc ms2 => Q (.lst acc) ms2,
      fun H' n => ⟨m - 1, by omega, n⟩, fun x H' y => ?_⟩
    obtain ⟨w3, e3, L3, rx⟩ := wk.yields _ w2 ms2 _ _ H2 i ds[i] x H' e2 L2' (List.getElem?_eq_getElem hi) y
    rw [List.drop_eq_getElem_cons hi] at h2
    refine ⟨_, w3, ms2, _, _, _, L3, rx, by rw [hs]; exact h2, fun w4 ms4 H4 s4 σ4 e4 L4 oa ol h4 => ⟨(wipe_only oa hgs).trans (wipe_wipe σ vs), ?_⟩⟩
    have e14 := (e2.trans e3).trans e4
    have back : ∀ {w5 : W} {ms5 : MS} {H5 : Hp} {o : HO}, Lk X.K (B.at D o) w5 ms5 s4 σ4 H5 → Lk X.K (B.at D o) w5 ms5 (wipeA s vs) (wipe σ vs) H5 := fun L => by
      have := L.wipe (vs := vs)
      rw [wipe_only oa hgs, wipe_wipe, wipeA_only ol hgs, wipeA_wipeA] at this
      exact this
    refine ⟨_, w4, ms4, s4, _, _, L4, h4, fun w5 ms5 H5 b e5 L5 h5 => ?_, fun _ _ _ _ _ _ _ _ _ z => z.elim⟩
    cases b with
    | false => rw [if_neg (by decide)]; exact ⟨by omega, w5, ms5, acc, ad, e14.trans e5, back L5, racc.mono (((e3.trans e4).trans e5)), h5⟩
    | true =>
      rw [if_pos rfl]
      refine ⟨_, w5, ms5, s4, _, _, L5, h5, fun w6 ms6 H6 v d e6 L6 r6 h6 => ?_, fun _ _ _ _ _ _ _ _ _ z => z.elim⟩
      have ra6 := racc.mono (((e3.trans e4).trans e5).trans e6)
      obtain ⟨_, hD6, _, _⟩ := L6.drop d3 d4 d5
      exact ⟨acc, hD6, by rw [racc.length]; exact h6.1, by omega, w6, ms6, acc ++ [v], ad ++ [d], (e14.trans e5).trans e6, back (L6.sideUpd d3 d4 d5), ra6.append (.cons r6 .nil), h6.2⟩
  · have hi : i = ds.length := by omega
    subst hi
    rw [List.drop_length] at h2
    obtain ⟨L5, hD5, f5, _⟩ := (L2'.unwipe hs).drop d3 d4 d5
    refine .inl ⟨wk.stops _ w2 ms2 _ _ H2 e2 L2', ?_⟩
    have := hq w2 ms2 (but H2 D) D (.lst acc) (.lst ad) (e1.trans e2) L5 but_same (.lst upd_same racc) h2
    rw [but_back hD5] at this
    exact this
theorem fe_lc (hc : X.calm = true) (hN : X.N.Nodup) (hi : AI X Wx tg iter ri) (ok : BlkOk X.N X.env.scope scope own) (hgs : ∀ j ∈ gs, j ∈ own.map (·.2))
    (hg : ∀ (s : Shared) (H : Hp) (C : Addr) (cl : List (Str × Addr)) (fp : List Addr), AG (X.blk s H scope (compEnvC scope cl C X.env) fp) Wx.blk gs tg g) (ht : ∀ (s : Shared) (H : Hp) (C : Addr) (cl : List (Str × Addr)) (fp : List Addr), ATs (X.blk s H scope (compEnvC scope cl C X.env) fp) Wx.blk ifs tt)
    (he : ∀ (s : Shared) (H : Hp) (C : Addr) (cl : List (Str × Addr)) (fp : List Addr), AE (X.blk s H scope (compEnvC scope cl C X.env) fp) Wx.blk elt te) (hs : ∀ x, foldedSetIterable iter X.env x = pure x := by intro _; rfl) :
    FE X Wx (.ListComp elt [⟨tg, iter, ifs, 0⟩] scope pos) (fLc ri g tt te (own.map (·.2))) :=
  PE.imp (pe_lc hc hN hi ok hg ht he hs) fun σ H R h => lc_ok (X := X) hgs h
/-- x = [..] on one line -/
theorem as_setLc {i : Nat} {y : Str} {py spos : Pos} (hc : X.calm = true) (hN : X.N.Nodup) (hy : X.N[i]? = some y) (hyl : X.env.scope.names.lookup y = some .local)
    (hsw : swapsWith (.ListComp elt [⟨tg, iter, ifs, 0⟩] scope pos) (some (.Name y py)) spos.line X.env = pure true) (hi : AI X Wx tg iter ri) (ok : BlkOk X.N X.env.scope scope own) (hgs : ∀ j ∈ gs, j ∈ own.map (·.2))
    (hg : ∀ (s : Shared) (H : Hp) (C : Addr) (cl : List (Str × Addr)) (fp : List Addr), AG (X.blk s H scope (compEnvC scope cl C X.env) fp) Wx.blk gs tg g) (ht : ∀ (s : Shared) (H : Hp) (C : Addr) (cl : List (Str × Addr)) (fp : List Addr), ATs (X.blk s H scope (compEnvC scope cl C X.env) fp) Wx.blk ifs tt)
    (he : ∀ (s : Shared) (H : Hp) (C : Addr) (cl : List (Str × Addr)) (fp : List Addr), AE (X.blk s H scope (compEnvC scope cl C X.env) fp) Wx.blk elt te) (hs : ∀ x, foldedSetIterable iter X.env x = pure x := by intro _; rfl) :
    AS X Wx (.Assign [.Name y py] (.ListComp elt [⟨tg, iter, ifs, 0⟩] scope pos) spos) (aAsg (aNew (fLc ri g tt te (own.map (·.2)))) (aName i)) :=
  PS.imp (ps_setLc hc hN hy hyl hsw hi ok hg ht he hs) fun De σ H ⟨B, w, ms, s, A, L, h, en⟩ => by
    refine lc_ok (X := X) (Wx := Wx) (ri := ri) (g := g) (tt := tt) (te := te) hgs ⟨B, w, ms, s, fun m ms1 => match m.d with
      | some d => A.nx (s.set i (some (.fr d))) ms1
      | none => False, _, L, h, fun w' ms' H' p o m le L' hp r q => ?_, en.px⟩
    dsimp only at q
    split at q
    · rename_i d hd
      have f := L'.fresh hp
      exact en.nx _ ms' _ _ _ (le.trans (Le.new f.1)) ((L'.new hp).set (Rep.ofM f.1 upd_same r hd)) q
    · exact q.elim
theorem as_ownLc {i : Nat} {y : Str} {py spos : Pos} (i0 : 0 < i) (hc : X.calm = true) (hN : X.N.Nodup) (hy : X.N[i]? = some y) (hyl : X.env.scope.names.lookup y = some .local)
    (hsw : swapsWith (.ListComp elt [⟨tg, iter, ifs, 0⟩] scope pos) (some (.Name y py)) spos.line X.env = pure true) (hi : AI X Wx tg iter ri) (ok : BlkOk X.N X.env.scope scope own) (hgs : ∀ j ∈ gs, j ∈ own.map (·.2))
    (hg : ∀ (s : Shared) (H : Hp) (C : Addr) (cl : List (Str × Addr)) (fp : List Addr), AG (X.blk s H scope (compEnvC scope cl C X.env) fp) Wx.blk gs tg g) (ht : ∀ (s : Shared) (H : Hp) (C : Addr) (cl : List (Str × Addr)) (fp : List Addr), ATs (X.blk s H scope (compEnvC scope cl C X.env) fp) Wx.blk ifs tt)
    (he : ∀ (s : Shared) (H : Hp) (C : Addr) (cl : List (Str × Addr)) (fp : List Addr), AE (X.blk s H scope (compEnvC scope cl C X.env) fp) Wx.blk elt te) (hs : ∀ x, foldedSetIterable iter X.env x = pure x := by intro _; rfl) :
    AS X Wx (.Assign [.Name y py] (.ListComp elt [⟨tg, iter, ifs, 0⟩] scope pos) spos) (aOwn i (fLc ri g tt te (own.map (·.2)))) :=
  PS.imp (ps_setLc hc hN hy hyl hsw hi ok hg ht he hs) fun De σ H ⟨B, w, ms, s, A, L, h, en⟩ =>
    lc_ok (X := X) (Wx := Wx) hgs ⟨B, w, ms, s, _, _, L, h, fun w' ms' H' p o m le L' hp r q => en.nx _ ms' _ _ _ le (L'.newOwn i0 hp r) q, en.px⟩
end
end LA

set_option Elab.async false
set_option linter.all false
set_option maxRecDepth 100000
set_option maxHeartbeats 4000000
/-! LA6: operators by data. -/
namespace LA
open PySem PySem.Spec PyProof.Rows L2

theorem str_eq (a b : String) : (Str.ofString a = Str.ofString b) = (a = b) := by
  refine propext ⟨fun h => ?_, fun h => by rw [h]⟩
  rw [Str.ofString_eq_toList, Str.ofString_eq_toList] at h
  have h1 : (a.toList.map Char.toNat).toArray = (b.toList.map Char.toNat).toArray := Str.mk.inj h
  have h2 : a.toList.map Char.toNat = b.toList.map Char.toNat := by simpa using h1
  have inj : ∀ (l l' : List Char), l.map Char.toNat = l'.map Char.toNat → l = l' := by
    intro l
    induction l with
    | nil => intro l' e; cases l' with
      | nil => rfl
      | cons c r => cases e
    | cons c r ih =>
      intro l' e
      cases l' with
      | nil => cases e
      | cons d q =>
        simp only [List.map_cons, List.cons.injEq] at e
        have : c = d := by
          have h := e.1
          exact Char.ext (UInt32.toNat_inj.mp h)
        rw [this, ih q e.2]
  exact String.toList_inj.mp (inj _ _ h2)

/-! ### arithmetic -/
/-- * of ints -/
def MulOk (i j : Int) : Prop := CMul i j ∨ CMulW i j
/-- // of ints -/
def DivOk (i j : Int) : Prop := CDivW i j
def fAdd (x y : D) (Q : D → Prop) : Prop := match x, y with
  | .int i, .int j => Q (.int (i + j))
  | .str i, .str j => i.length + j.length ≤ sizeLine ∧ Q (.str (i ++ j))
  | .tup xs, .tup ys => xs.length + ys.length ≤ sizeLine ∧ Q (.tup (xs ++ ys))
  | .lst xs, .lst ys => xs.length + ys.length ≤ sizeLine ∧ Q (.lst (xs ++ ys))
  | _, _ => False
def fSub (x y : D) (Q : D → Prop) : Prop := match x, y with
  | .int i, .int j => Q (.int (i - j))
  | _, _ => False
def fMul (x y : D) (Q : D → Prop) : Prop := match x, y with
  | .int i, .int j => MulOk i j ∧ Q (.int (i * j))
  | .lst xs, .int k => -(2 ^ 63) ≤ k ∧ k < 2 ^ 63 ∧ xs.length * k.toNat ≤ sizeLine ∧ Q (.lst (List.replicate k.toNat xs).flatten)
  | _, _ => False
def fMod (x y : D) (Q : D → Prop) : Prop := match x, y with
  | .int i, .int j => 0 < j ∧ Q (.int (i % j))
  | _, _ => False
def fDiv (x y : D) (Q : D → Prop) : Prop := match x, y with
  | .int i, .int j => DivOk i j ∧ Q (.int (i / j))
  | _, _ => False
def fPow (x y : D) (Q : D → Prop) : Prop := match x, y with
  | .int i, .int j => CPow i j ∧ Q (.int (i ^ j.toNat))
  | _, _ => False
def fNeg (x : D) (Q : D → Prop) : Prop := match x with
  | .int i => Q (.int (-i))
  | _ => False
/-- closing an operator's answer, nothing new in the heap -/
theorem same_ {K : PySem.W.Frag} {ex : XI} {B : Bs ex} {w : W} {ms : MS} {s : ASt} {σ : L2.St} {H : Hp} {Qd : D → Prop} {R : VK} {v : V} {d : D} (L : Lk K B w ms s σ H) (k : ∀ w' H' z d, Le K w w' → Lk K B w' ms s σ H' → Rep K w' z d → Qd d → R z H') (r : Rep K w v d) (q : Qd d) : R v H :=
  k w H v d (Le.refl _ _) L r q
/-- a new frozen object -/
theorem new_ {K : PySem.W.Frag} {ex : XI} {B : Bs ex} {w : W} {ms : MS} {s : ASt} {σ : L2.St} {H : Hp} {Qd : D → Prop} {R : VK} {p : Addr} {o : HO} {d : D} (L : Lk K B w ms s σ H) (k : ∀ w' H' z d, Le K w w' → Lk K B w' ms s σ H' → Rep K w' z d → Qd d → R z H') (hp : H p = none)
    (r : ∀ w', Le K w w' → w'.F p = some o → Rep K w' (.ref p) d) (q : Qd d) : R (.ref p) (upd H p o) :=
  k { w with F := upd w.F p o } _ _ d (Le.new (L.fresh hp).1) (L.new hp) (r _ (Le.new (L.fresh hp).1) upd_same) q
section
variable {X : Cx}
theorem oa_add : OpA X (binaryOp .Add) fAdd := by
  rintro pins s σ H x y v u R I rx ry ⟨xi, B, w, ms, st, σ', dx, dy, Qd, L, r1, r2, h, k⟩
  cases r1 with
  | int i => cases r2 with
    | int j => exact op_add pins s σ H _ _ v u R I rx ry ⟨i, j, rfl, rfl, same_ L k (.int _) h⟩
    | _ => exact False.elim h
  | str i => cases r2 with
    | str j => exact op_add_str pins s σ H _ _ v u R I rx ry ⟨i, j, rfl, rfl, h.1, same_ L k (.str _) h.2⟩
    | _ => exact False.elim h
  | tup h1 q1 => cases r2 with
    | tup h2 q2 =>
      have e1 := q1.length
      have e2 := q2.length
      refine op_catA pins s σ H _ _ v u R I rx ry ⟨_, _, _, _, rfl, rfl, SqT.up L.s0 h1, SqT.up L.s0 h2, by rw [e1, e2]; exact h.1, fun e => ?_, fun _ e => ?_, fun _ _ p hp => ?_⟩
      · subst e; cases q1; exact same_ L k (.tup h2 q2) h.2
      · subst e; cases q2; exact same_ L k (.tup h1 q1) (by have := h.2; rw [List.append_nil] at this; exact this)
      · exact new_ L k hp (fun w' le hf => .tup hf ((q1.mono le).append (q2.mono le))) h.2
    | _ => exact False.elim h
  | lst h1 q1 => cases r2 with
    | lst h2 q2 =>
      refine op_cat pins s σ H _ _ v u R I rx ry ⟨_, _, _, _, rfl, rfl, L.s0.fh _ _ h1, L.s0.fh _ _ h2, by rw [q1.length, q2.length]; exact h.1, fun p hp => ?_⟩
      exact new_ L k hp (fun w' le hf => .lst hf ((q1.mono le).append (q2.mono le))) h.2
    | _ => exact False.elim h
  | _ => exact False.elim h
theorem oa_sub : OpA X (binaryOp .Sub) fSub := by
  rintro pins s σ H x y v u R I rx ry ⟨xi, B, w, ms, st, σ', dx, dy, Qd, L, r1, r2, h, k⟩
  cases r1 with
  | int i => cases r2 with
    | int j => exact op_sub pins s σ H _ _ v u R I rx ry ⟨i, j, rfl, rfl, same_ L k (.int _) h⟩
    | _ => exact False.elim h
  | _ => exact False.elim h
theorem RepL.rep {K : PySem.W.Frag} {w : W} {vs : List V} {ds : List D} (r : RepL K w vs ds) : ∀ n, RepL K w (List.replicate n vs).flatten (List.replicate n ds).flatten
  | 0 => .nil
  | n + 1 => by simp only [List.replicate_succ, List.flatten_cons]; exact r.append (RepL.rep r n)
theorem oa_mul : OpA X (binaryOp .Mult) fMul := by
  rintro pins s σ H x y v u R I rx ry ⟨xi, B, w, ms, st, σ', dx, dy, Qd, L, r1, r2, h, k⟩
  cases r1 with
  | int i => cases r2 with
    | int j =>
      rcases h.1 with c | c
      · exact op_mul pins s σ H _ _ v u R I rx ry ⟨i, j, rfl, rfl, c, same_ L k (.int _) h.2⟩
      · exact op_mulW pins s σ H _ _ v u R I rx ry ⟨i, j, rfl, rfl, c, same_ L k (.int _) h.2⟩
    | _ => exact False.elim h
  | lst h1 q1 => cases r2 with
    | int j => exact op_rep pins s σ H _ _ v u R I rx ry ⟨_, j, _, rfl, rfl, L.s0.fh _ _ h1, h.1, h.2.1, by rw [q1.length]; exact h.2.2.1, fun p hp => new_ L k hp (fun w' le hf => .lst hf ((q1.mono le).rep _)) h.2.2.2⟩
    | _ => exact False.elim h
  | _ => exact False.elim h
theorem oa_mod : OpA X (binaryOp .Mod) fMod := by
  rintro pins s σ H x y v u R I rx ry ⟨xi, B, w, ms, st, σ', dx, dy, Qd, L, r1, r2, h, k⟩
  cases r1 with
  | int i => cases r2 with
    | int j =>
      refine op_modN pins s σ H _ _ v u R I rx ry ⟨i, j, rfl, rfl, by have := h.1; omega, same_ L k (.int _) ?_⟩
      rw [HX.fm_eq h.1]; exact h.2
    | _ => exact False.elim h
  | _ => exact False.elim h
theorem oa_div : OpA X (binaryOp .FloorDiv) fDiv := by
  rintro pins s σ H x y v u R I rx ry ⟨xi, B, w, ms, st, σ', dx, dy, Qd, L, r1, r2, h, k⟩
  cases r1 with
  | int i => cases r2 with
    | int j => exact op_fdivW pins s σ H _ _ v u R I rx ry ⟨i, j, rfl, rfl, h.1, same_ L k (.int _) h.2⟩
    | _ => exact False.elim h
  | _ => exact False.elim h
theorem oa_pow : OpA X (binaryOp .Pow) fPow := by
  rintro pins s σ H x y v u R I rx ry ⟨xi, B, w, ms, st, σ', dx, dy, Qd, L, r1, r2, h, k⟩
  cases r1 with
  | int i => cases r2 with
    | int j => exact op_pow pins s σ H _ _ v u R I rx ry ⟨i, j, rfl, rfl, h.1, same_ L k (.int _) h.2⟩
    | _ => exact False.elim h
  | _ => exact False.elim h
theorem ua_neg : UnA X (unaryOp .USub) fNeg := by
  rintro pins s σ H x v R I rx ⟨xi, B, w, ms, st, σ', dx, Qd, L, r1, h, k⟩
  cases r1 with
  | int i => exact un_neg pins s σ H _ v R I rx ⟨i, rfl, same_ L k (.int _) h⟩
  | _ => exact False.elim h
end

/-! ### comparisons -/
/-- data as the library has them -/
inductive PyOf : D → PyData → Prop
  | non : PyOf .non .none
  | bl (b : Bool) : PyOf (.bl b) (.bool b)
  | int (i : Int) : PyOf (.int i) (.int i)
  | str (x : Str) : PyOf (.str x) (.str x)
  | lnil : PyOf (.lst []) (.list [])
  | lcons {d : D} {ds : List D} {p : PyData} {ps : List PyData} : PyOf d p → PyOf (.lst ds) (.list ps) → PyOf (.lst (d :: ds)) (.list (p :: ps))
  | tnil : PyOf (.tup []) (.tuple [])
  | tcons {d : D} {ds : List D} {p : PyData} {ps : List PyData} : PyOf d p → PyOf (.tup ds) (.tuple ps) → PyOf (.tup (d :: ds)) (.tuple (p :: ps))
theorem dp_of {K : PySem.W.Frag} {w : W} {ms : MS} {H : Hp} (h0 : St0 K w ms H) {d : D} {p : PyData} (h : PyOf d p) : (∀ v, Rep K w v d → Dp K H v p) ∧ (∀ ds, (d = .lst ds ∨ d = .tup ds) → ∀ ps, (p = .list ps ∨ p = .tuple ps) → ∀ vs, RepL K w vs ds → DpAll K H vs ps) := by
  induction h with
  | non => exact ⟨fun v r => by cases r; exact .non, fun ds e => by rcases e with e | e <;> cases e⟩
  | bl b => exact ⟨fun v r => by cases r; exact .bl _, fun ds e => by rcases e with e | e <;> cases e⟩
  | int b => exact ⟨fun v r => by cases r; exact .int _, fun ds e => by rcases e with e | e <;> cases e⟩
  | str b => exact ⟨fun v r => by cases r; exact .str _, fun ds e => by rcases e with e | e <;> cases e⟩
  | lnil => exact ⟨fun v r => by cases r with | lst hf q => cases q; exact .lst (SqL.up h0 hf) .nil, fun ds e ps e' vs q => by rcases e with e | e <;> cases e <;> rcases e' with e' | e' <;> cases e' <;> cases q <;> exact .nil⟩
  | tnil => exact ⟨fun v r => by cases r with | tup hf q => cases q; exact .tup (SqT.up h0 hf) .nil, fun ds e ps e' vs q => by rcases e with e | e <;> cases e <;> rcases e' with e' | e' <;> cases e' <;> cases q <;> exact .nil⟩
  | lcons h1 h2 ih1 ih2 =>
    refine ⟨fun v r => ?_, fun ds e ps e' vs q => ?_⟩
    · cases r with
      | lst hf q => cases q with | cons a b => exact .lst (SqL.up h0 hf) (.cons (ih1.1 _ a) (ih2.2 _ (.inl rfl) _ (.inl rfl) _ b))
    · rcases e with e | e <;> cases e
      rcases e' with e' | e' <;> cases e'
      cases q with | cons a b => exact .cons (ih1.1 _ a) (ih2.2 _ (.inl rfl) _ (.inl rfl) _ b)
  | tcons h1 h2 ih1 ih2 =>
    refine ⟨fun v r => ?_, fun ds e ps e' vs q => ?_⟩
    · cases r with
      | tup hf q => cases q with | cons a b => exact .tup (SqT.up h0 hf) (.cons (ih1.1 _ a) (ih2.2 _ (.inr rfl) _ (.inr rfl) _ b))
    · rcases e with e | e <;> cases e
      rcases e' with e' | e' <;> cases e'
      cases q with | cons a b => exact .cons (ih1.1 _ a) (ih2.2 _ (.inr rfl) _ (.inr rfl) _ b)
/-- data of any depth compared -/
def EqDeep (x y : D) (k : Bool → Prop) : Prop := ∃ d e, PyOf x d ∧ PyOf y e ∧ SeqAt.shaped d = true ∧ SeqAt.shaped e = true ∧ k (PyData.eqv d e)
def fEq (x y : D) (Q : D → Prop) : Prop := match x, y with
  | .int i, .int j => Q (.bl (decide (i = j)))
  | .str i, .str j => Q (.bl (decide (i = j)))
  | .bl i, .bl j => Q (.bl (decide (i = j)))
  | .int _, .str _ => Q (.bl false)
  | .str _, .int _ => Q (.bl false)
  | .non, .str _ => Q (.bl false)
  | .str _, .non => Q (.bl false)
  | x, y => EqDeep x y fun b => Q (.bl b)
def fNe (x y : D) (Q : D → Prop) : Prop := match x, y with
  | .int i, .int j => Q (.bl (!decide (i = j)))
  | .str i, .str j => Q (.bl (!decide (i = j)))
  | .bl i, .bl j => Q (.bl (!decide (i = j)))
  | .int _, .str _ => Q (.bl true)
  | .str _, .int _ => Q (.bl true)
  | .non, .str _ => Q (.bl true)
  | .str _, .non => Q (.bl true)
  | x, y => EqDeep x y fun b => Q (.bl (!b))
section
variable {X : Cx}
theorem dV_int {i j : Int} : decide (V.int i = V.int j) = decide (i = j) := HX.dec_i
theorem dV_str {i j : Str} : decide (V.str i = V.str j) = decide (i = j) := by simp
theorem dV_bl {i j : Bool} : decide (V.bl i = V.bl j) = decide (i = j) := by simp
theorem oa_eq (hu : X.A.units + 64 < cLine) : OpA X (compareOp .Eq) fEq := by
  rintro pins s σ H x y v u R I rx ry ⟨xi, B, w, ms, st, σ', dx, dy, Qd, L, r1, r2, h, k⟩
  unfold fEq at h
  split at h
  · cases r1; cases r2; exact op_eq pins s σ H _ _ v u R I rx ry ⟨rfl, by rw [dV_int]; exact same_ L k (.bl _) h⟩
  · cases r1; cases r2; exact op_eq pins s σ H _ _ v u R I rx ry ⟨rfl, by rw [dV_str]; exact same_ L k (.bl _) h⟩
  · cases r1; cases r2; exact op_eq pins s σ H _ _ v u R I rx ry ⟨rfl, by rw [dV_bl]; exact same_ L k (.bl _) h⟩
  · cases r1; cases r2; exact op_eq pins s σ H _ _ v u R I rx ry ⟨rfl, by rw [decide_eq_false (by intro e; cases e)]; exact same_ L k (.bl _) h⟩
  · cases r1; cases r2; exact op_eq pins s σ H _ _ v u R I rx ry ⟨rfl, by rw [decide_eq_false (by intro e; cases e)]; exact same_ L k (.bl _) h⟩
  · cases r1; cases r2; exact op_eq pins s σ H _ _ v u R I rx ry ⟨rfl, by rw [decide_eq_false (by intro e; cases e)]; exact same_ L k (.bl _) h⟩
  · cases r1; cases r2; exact op_eq pins s σ H _ _ v u R I rx ry ⟨rfl, by rw [decide_eq_false (by intro e; cases e)]; exact same_ L k (.bl _) h⟩
  · obtain ⟨d, e, h1, h2, s1, s2, q⟩ := h
    exact op_eqD hu pins s σ H _ _ v u R I rx ry ⟨d, e, (dp_of L.s0 h1).1 _ r1, (dp_of L.s0 h2).1 _ r2, s1, s2, same_ L k (.bl _) q⟩
theorem oa_ne (hu : X.A.units + 64 < cLine) : OpA X (compareOp .NotEq) fNe := by
  rintro pins s σ H x y v u R I rx ry ⟨xi, B, w, ms, st, σ', dx, dy, Qd, L, r1, r2, h, k⟩
  unfold fNe at h
  split at h
  · cases r1; cases r2; exact op_ne pins s σ H _ _ v u R I rx ry ⟨rfl, by rw [dV_int]; exact same_ L k (.bl _) h⟩
  · cases r1; cases r2; exact op_ne pins s σ H _ _ v u R I rx ry ⟨rfl, by rw [dV_str]; exact same_ L k (.bl _) h⟩
  · cases r1; cases r2; exact op_ne pins s σ H _ _ v u R I rx ry ⟨rfl, by rw [dV_bl]; exact same_ L k (.bl _) h⟩
  · cases r1; cases r2; exact op_ne pins s σ H _ _ v u R I rx ry ⟨rfl, by rw [decide_eq_false (by intro e; cases e)]; exact same_ L k (.bl _) h⟩
  · cases r1; cases r2; exact op_ne pins s σ H _ _ v u R I rx ry ⟨rfl, by rw [decide_eq_false (by intro e; cases e)]; exact same_ L k (.bl _) h⟩
  · cases r1; cases r2; exact op_ne pins s σ H _ _ v u R I rx ry ⟨rfl, by rw [decide_eq_false (by intro e; cases e)]; exact same_ L k (.bl _) h⟩
  · cases r1; cases r2; exact op_ne pins s σ H _ _ v u R I rx ry ⟨rfl, by rw [decide_eq_false (by intro e; cases e)]; exact same_ L k (.bl _) h⟩
  · obtain ⟨d, e, h1, h2, s1, s2, q⟩ := h
    exact op_neD hu pins s σ H _ _ v u R I rx ry ⟨d, e, (dp_of L.s0 h1).1 _ r1, (dp_of L.s0 h2).1 _ r2, s1, s2, same_ L k (.bl _) q⟩
end
def fLt (x y : D) (Q : D → Prop) : Prop := match x, y with
  | .int i, .int j => Q (.bl (decide (i < j)))
  | _, _ => False
def fLe (x y : D) (Q : D → Prop) : Prop := match x, y with
  | .int i, .int j => Q (.bl (decide (i ≤ j)))
  | _, _ => False
def fGt (x y : D) (Q : D → Prop) : Prop := match x, y with
  | .int i, .int j => Q (.bl (decide (j < i)))
  | _, _ => False
def fGe (x y : D) (Q : D → Prop) : Prop := match x, y with
  | .int i, .int j => Q (.bl (decide (j ≤ i)))
  | _, _ => False
def isNon : D → Bool
  | .non => true
  | _ => false
def fIs (x y : D) (Q : D → Prop) : Prop := match y with
  | .non => Q (.bl (isNon x))
  | _ => False
def fIsNot (x y : D) (Q : D → Prop) : Prop := match y with
  | .non => Q (.bl (!isNon x))
  | _ => False
section
variable {X : Cx}
theorem oa_lt : OpA X (compareOp .Lt) fLt := by
  rintro pins s σ H x y v u R I rx ry ⟨xi, B, w, ms, st, σ', dx, dy, Qd, L, r1, r2, h, k⟩
  unfold fLt at h
  split at h
  · cases r1; cases r2; exact op_lt pins s σ H _ _ v u R I rx ry ⟨_, _, rfl, rfl, same_ L k (.bl _) h⟩
  · exact h.elim
theorem oa_le : OpA X (compareOp .LtE) fLe := by
  rintro pins s σ H x y v u R I rx ry ⟨xi, B, w, ms, st, σ', dx, dy, Qd, L, r1, r2, h, k⟩
  unfold fLe at h
  split at h
  · cases r1; cases r2; exact op_le pins s σ H _ _ v u R I rx ry ⟨_, _, rfl, rfl, same_ L k (.bl _) h⟩
  · exact h.elim
theorem oa_gt : OpA X (compareOp .Gt) fGt := by
  rintro pins s σ H x y v u R I rx ry ⟨xi, B, w, ms, st, σ', dx, dy, Qd, L, r1, r2, h, k⟩
  unfold fGt at h
  split at h
  · cases r1; cases r2; exact op_gt pins s σ H _ _ v u R I rx ry ⟨_, _, rfl, rfl, same_ L k (.bl _) h⟩
  · exact h.elim
theorem oa_ge : OpA X (compareOp .GtE) fGe := by
  rintro pins s σ H x y v u R I rx ry ⟨xi, B, w, ms, st, σ', dx, dy, Qd, L, r1, r2, h, k⟩
  unfold fGe at h
  split at h
  · cases r1; cases r2; exact op_ge pins s σ H _ _ v u R I rx ry ⟨_, _, rfl, rfl, same_ L k (.bl _) h⟩
  · exact h.elim
theorem isNon_rep {K : PySem.W.Frag} {w : W} {v : V} {d : D} (r : Rep K w v d) : decide (v = .non) = isNon d := by
  cases r <;> first | rfl | exact decide_eq_false (by intro e; cases e)
theorem oa_is : OpA X (compareOp .Is) fIs := by
  rintro pins s σ H x y v u R I rx ry ⟨xi, B, w, ms, st, σ', dx, dy, Qd, L, r1, r2, h, k⟩
  unfold fIs at h
  split at h
  · cases r2; exact op_isN pins s σ H _ _ v u R I rx ry ⟨rfl, by rw [isNon_rep r1]; exact same_ L k (.bl _) h⟩
  · exact h.elim
theorem oa_isnot : OpA X (compareOp .IsNot) fIsNot := by
  rintro pins s σ H x y v u R I rx ry ⟨xi, B, w, ms, st, σ', dx, dy, Qd, L, r1, r2, h, k⟩
  unfold fIsNot at h
  split at h
  · cases r2; exact op_notN pins s σ H _ _ v u R I rx ry ⟨rfl, by rw [isNon_rep r1]; exact same_ L k (.bl _) h⟩
  · exact h.elim
end

/-! ### in; items; slices -/
def flatD : D → Bool
  | .non => true
  | .bl _ => true
  | .int _ => true
  | .str _ => true
  | _ => false
def eqFlat : D → D → Bool
  | .non, .non => true
  | .bl a, .bl b => decide (a = b)
  | .bl a, .int b => decide ((if a then 1 else 0) = b)
  | .int a, .bl b => decide (a = (if b then 1 else 0))
  | .int a, .int b => decide (a = b)
  | .str a, .str b => decide (a = b)
  | _, _ => false
def inFlat (x : D) (xs : List D) : Bool := xs.any fun y => eqFlat y x
theorem flat_rep {K : PySem.W.Frag} {w : W} {v : V} {d : D} (r : Rep K w v d) (h : flatD d = true) : flatV v = true := by
  cases r <;> first | rfl | exact (Bool.false_ne_true h).elim
theorem flats_rep {K : PySem.W.Frag} {w : W} : ∀ {vs : List V} {ds : List D}, RepL K w vs ds → ds.all flatD = true → vs.all flatV = true
  | _, _, .nil, _ => rfl
  | _, _, .cons a b, h => by
    rw [List.all_cons, Bool.and_eq_true] at h ⊢
    exact ⟨flat_rep a h.1, flats_rep b h.2⟩
theorem eqFlat_rep {K : PySem.W.Frag} {w : W} {v u : V} {d e : D} (r : Rep K w v d) (q : Rep K w u e) (h : flatD d = true) (k : flatD e = true) : eqV v u = eqFlat d e := by
  cases r <;> first
    | exact (Bool.false_ne_true h).elim
    | (cases q <;> first | exact (Bool.false_ne_true k).elim | rfl | simp [eqV, eqFlat])
theorem inFlat_rep {K : PySem.W.Frag} {w : W} {u : V} {e : D} (q : Rep K w u e) (k : flatD e = true) : ∀ {vs : List V} {ds : List D}, RepL K w vs ds → ds.all flatD = true → inV u vs = inFlat e ds
  | _, _, .nil, _ => rfl
  | _, _, .cons a b, h => by
    rw [List.all_cons, Bool.and_eq_true] at h
    have := inFlat_rep q k b h.2
    unfold inV inFlat at this ⊢
    rw [List.any_cons, List.any_cons, eqFlat_rep a q h.1 k, this]
/-- one text within another -/
def subStr (x z : Str) : Bool := !(Builtin.Str.occurrences z x 0 z.length 1).isEmpty
def fIn (x y : D) (Q : D → Prop) : Prop := match y with
  | .lst ys => flatD x = true ∧ ys.all flatD = true ∧ Q (.bl (inFlat x ys))
  | .tup ys => (flatD x = true ∧ ys.all flatD = true ∧ Q (.bl (inFlat x ys)))
  | .str z => match x with
    | .str a => Q (.bl (subStr a z))
    | _ => False
  | _ => False
def fNotIn (x y : D) (Q : D → Prop) : Prop := match y with
  | .lst ys => flatD x = true ∧ ys.all flatD = true ∧ Q (.bl (!inFlat x ys))
  | .tup ys => (flatD x = true ∧ ys.all flatD = true ∧ Q (.bl (!inFlat x ys)))
  | .str z => match x with
    | .str a => Q (.bl (!subStr a z))
    | _ => False
  | _ => False
section
variable {X : Cx}
theorem oa_in : OpA X (compareOp .In) fIn := by
  rintro pins s σ H x y v u R I rx ry ⟨xi, B, w, ms, st, σ', dx, dy, Qd, L, r1, r2, h, k⟩
  cases r2 with
  | lst hf q => exact op_in_seq pins s σ H _ _ v u R I rx ry ⟨_, _, rfl, .inl (SqL.up L.s0 hf), flat_rep r1 h.1, flats_rep q h.2.1, by rw [if_neg (by decide), inFlat_rep r1 h.1 q h.2.1]; exact same_ L k (.bl _) h.2.2⟩
  | tup hf q => exact op_in_seq pins s σ H _ _ v u R I rx ry ⟨_, _, rfl, .inr (SqT.up L.s0 hf), flat_rep r1 h.1, flats_rep q h.2.1, by rw [if_neg (by decide), inFlat_rep r1 h.1 q h.2.1]; exact same_ L k (.bl _) h.2.2⟩
  | str z => cases r1 with
    | str a => exact op_in_str pins s σ H _ _ v u R I rx ry ⟨a, z, rfl, rfl, same_ L k (.bl _) h⟩
    | _ => exact False.elim h
  | _ => exact False.elim h
theorem oa_notin : OpA X (compareOp .NotIn) fNotIn := by
  rintro pins s σ H x y v u R I rx ry ⟨xi, B, w, ms, st, σ', dx, dy, Qd, L, r1, r2, h, k⟩
  cases r2 with
  | lst hf q => exact op_notIn_seq pins s σ H _ _ v u R I rx ry ⟨_, _, rfl, .inl (SqL.up L.s0 hf), flat_rep r1 h.1, flats_rep q h.2.1, by rw [if_pos rfl, inFlat_rep r1 h.1 q h.2.1]; exact same_ L k (.bl _) h.2.2⟩
  | tup hf q => exact op_notIn_seq pins s σ H _ _ v u R I rx ry ⟨_, _, rfl, .inr (SqT.up L.s0 hf), flat_rep r1 h.1, flats_rep q h.2.1, by rw [if_pos rfl, inFlat_rep r1 h.1 q h.2.1]; exact same_ L k (.bl _) h.2.2⟩
  | str z => cases r1 with
    | str a => exact op_notIn_str pins s σ H _ _ v u R I rx ry ⟨a, z, rfl, rfl, same_ L k (.bl _) h⟩
    | _ => exact False.elim h
  | _ => exact False.elim h
end
/-- an item by its index -/
def gotI {α : Type} (o : Option α) (k : α → Prop) (t : Tag k k := .mk) : Prop := match o with
  | some d => k d
  | none => False
def fIx (x y : D) (Q : D → Prop) : Prop := match x, y with
  | .lst xs, .int i => gotI (atI xs i) Q
  | .tup xs, .int i => gotI (atI xs i) Q
  | .str z, .int i => z.length ≤ sizeLine ∧ gotI (atI z.cps.toList i) fun c => Q (.str ⟨#[c]⟩)
  | _, _ => False
theorem RepL.at {K : PySem.W.Frag} {w : W} {vs : List V} {ds : List D} (r : RepL K w vs ds) {i : Int} {d : D} (h : atI ds i = some d) : ∃ v, atI vs i = some v ∧ Rep K w v d := by
  unfold atI at h ⊢
  rw [r.length]
  cases e : ixN ds.length i with
  | none => rw [e] at h; cases h
  | some j =>
    rw [e] at h
    obtain ⟨v, h1, h2⟩ := r.get (i := j) (x := d) h
    exact ⟨v, h1, h2⟩
theorem gotI_of {α : Type} {o : Option α} {k : α → Prop} (h : gotI o k) : ∃ d, o = some d ∧ k d := by
  unfold gotI at h
  split at h
  · exact ⟨_, rfl, h⟩
  · exact h.elim
theorem ia_any {X : Cx} : IxA X fIx := by
  rintro b hb pins s σ H x y v u R I rx ry ⟨xi, B, w, ms, st, σ', dx, dy, Qd, L, r1, r2, h, k⟩ hs
  cases r1 with
  | lst hf q => cases r2 with
    | int i =>
      obtain ⟨d, h1, h2⟩ := gotI_of h
      obtain ⟨z, e, rz⟩ := q.at h1
      exact ix_list b hb pins s σ H _ _ v u R I rx ry ⟨_, _, i, z, rfl, rfl, SqL.up L.s0 hf, e, same_ L k rz h2⟩ hs
    | _ => exact False.elim h
  | tup hf q => cases r2 with
    | int i =>
      obtain ⟨d, h1, h2⟩ := gotI_of h
      obtain ⟨z, e, rz⟩ := q.at h1
      exact ix_tup b hb pins s σ H _ _ v u R I rx ry ⟨_, _, i, z, rfl, rfl, SqT.up L.s0 hf, e, same_ L k rz h2⟩ hs
    | _ => exact False.elim h
  | str z => cases r2 with
    | int i =>
      obtain ⟨c, h1, h2⟩ := gotI_of h.2
      exact ix_str b hb pins s σ H _ _ v u R I rx ry ⟨z, i, c, rfl, rfl, h.1, h1, same_ L k (.str _) h2⟩ hs
    | _ => exact False.elim h
  | _ => exact False.elim h
/-- slices -/
def cutD (xs : List D) (lo hi : Option Int) : List D := (xs.drop (HT.sIx xs.length 0 lo)).take (HT.sIx xs.length xs.length hi - HT.sIx xs.length 0 lo)
theorem RepL.cut {K : PySem.W.Frag} {w : W} {vs : List V} {ds : List D} (r : RepL K w vs ds) (lo hi : Option Int) : RepL K w (cutV vs lo hi) (cutD ds lo hi) := by
  unfold cutV cutD
  rw [r.length]
  exact (r.drop _).take _
/-- a part of a slice -/
def pInt (d : D) (k : Option Int → Prop) : Prop := match d with
  | .int i => k (some i)
  | _ => False
abbrev aO := ASt → MS → (Option Int → MS → Prop) → (XD → MS → Prop) → Prop
def aNoPart : aO := fun _ ms Q _ => Q none ms
def aPart (ra : aE) : aO := fun s ms Q E => ra s ms (fun x ms1 => pInt x fun i => Q i ms1) E
def fCut (x : D) (lo hi : Option Int) (Q : D → Prop) : Prop := match x with
  | .lst xs => Q (.lst (cutD xs lo hi))
  | .tup xs => Q (.tup (cutD xs lo hi))
  | _ => False
def aSl (ra : aE) (rl rh : aO) : aE := fun s ms Q E => ra s ms (fun x ms1 => rl s ms1 (fun lo ms2 => rh s ms2 (fun hi ms3 => fCut x lo hi fun z => Q z ms3) E) E) E
def cO (K : PySem.W.Frag) (Wx : WXA) (a : aO) : TO := fun σ H R => ∃ B : Bs Wx.ex, ∃ w ms s Q E, Lk K B w ms s σ H ∧ a s ms Q E ∧ (∀ w' ms' H' o, Le K w w' → Lk K B w' ms' s σ H' → Q o ms' → R o H') ∧ PostX K B w s σ E Wx
theorem PO.imp {X : Cx} {e : Option Expr} {t t' : TO} (h : PO X e t) (k : ∀ σ H R, t' σ H R → t σ H R) : PO X e t' := ⟨fun pins s σ H Q I q => h.run pins s σ H Q I (k _ _ _ q)⟩
abbrev AO (X : Cx) (Wx : WXA) (e : Option Expr) (a : aO) : Prop := PO X e (cO X.K Wx a)
section
variable {X : Cx} {Wx : WXA} {e : Expr} {lo hi : Option Expr} {ra : aE} {rl rh : aO} {pos p2 : Pos}
theorem ao_none : AO X Wx none aNoPart := PO.imp po_none fun σ H R ⟨B, w, ms, s, Q, E, L, h, hq, hx⟩ => hq w ms H none (Le.refl _ _) L h
theorem ao_some (h : AE X Wx e ra) : AO X Wx (some e) (aPart ra) := PO.imp (po_some h) fun σ H R ⟨B, w, ms, s, Q, E, L, h, hq, hx⟩ => ⟨B, w, ms, s, _, E, L, h, fun w1 ms1 H1 v d e1 L1 r1 h1 => by
  cases r1 with
  | int i => exact ⟨i, rfl, hq w1 ms1 H1 _ e1 L1 h1⟩
  | _ => exact False.elim h1, hx⟩
def rCut (K : PySem.W.Frag) : V → Option Int → Option Int → Hp → VK → Prop := fun x lo hi H R => ∃ ex : XI, ∃ B : Bs ex, ∃ w ms s σ dx Qd, Lk K B w ms s σ H ∧ Rep K w x dx ∧ fCut dx lo hi Qd ∧ ∀ w' H' z d, Le K w w' → Lk K B w' ms s σ H' → Rep K w' z d → Qd d → R z H'
theorem sl_any : SlR X (rCut X.K) := by
  rintro pins s σ H x v vl vu lo hi sl R I rx hs pl pu ⟨xi, B, w, ms, st, σ', dx, Qd, L, r1, h, k⟩
  cases r1 with
  | lst hf q => exact sl_list pins s σ H _ v vl vu lo hi sl R I rx hs pl pu ⟨_, _, rfl, SqL.up L.s0 hf, fun p hp => new_ L k hp (fun w' le hf => .lst hf ((q.cut lo hi).mono le)) h⟩
  | tup hf q =>
    refine sl_tupA pins s σ H _ v vl vu lo hi sl R I rx hs pl pu ⟨_, _, rfl, SqT.up L.s0 hf, fun e => ?_, fun _ p hp => new_ L k hp (fun w' le hf => .tup hf ((q.cut lo hi).mono le)) h⟩
    refine same_ L k (.tup hf q) ?_
    rename_i ds
    have hh : Qd (.tup (cutD ds lo hi)) := h
    rw [q.length] at e
    have : cutD ds lo hi = ds := by
      unfold cutD
      rw [e.1, e.2]
      simp
    rw [this] at hh
    exact hh
  | _ => exact False.elim h
theorem ae_slice (he : AE X Wx e ra) (hl : AO X Wx lo rl) (hh : AO X Wx hi rh) : AE X Wx (.Subscript e (.Slice lo hi none p2) pos) (aSl ra rl rh) :=
  PE.imp (pe_slice sl_any he hl hh) fun σ H R ⟨B, w, ms, s, Q, E, L, h, hq, hx⟩ => ⟨B, w, ms, s, _, E, L, h, fun w1 ms1 H1 v d e1 L1 r1 h1 => ⟨B, w1, ms1, s, _, E, L1, h1, fun w2 ms2 H2 lo e2 L2 h2 => ⟨B, w2, ms2, s, _, E, L2, h2, fun w3 ms3 H3 hi e3 L3 h3 =>
    ⟨_, B, w3, ms3, s, σ, d, _, L3, r1.mono (e2.trans e3), h3, fun w4 H4 z dz e4 L4 r4 q4 => hq w4 ms3 H4 z dz ((e1.trans (e2.trans e3)).trans e4) L4 r4 q4⟩, hx.le (e1.trans e2)⟩, hx.le e1⟩, hx⟩
end
end LA

set_option Elab.async false
set_option linter.all false
set_option maxRecDepth 100000
set_option maxHeartbeats 4000000
/-! LA7: builtins by data; what own objects suffer; dicts. -/
namespace LA
open PySem PySem.Spec PyProof.Rows L2

/-- one argument, two -/
def on1 (ds : List D) (k : D → Prop) : Prop := match ds with
  | [x] => k x
  | _ => False
def on2 (ds : List D) (k : D → D → Prop) : Prop := match ds with
  | [x, y] => k x y
  | _ => False
theorem on1_of {ds : List D} {k : D → Prop} (h : on1 ds k) : ∃ x, ds = [x] ∧ k x := by
  unfold on1 at h
  split at h
  · exact ⟨_, rfl, h⟩
  · exact h.elim
theorem on2_of {ds : List D} {k : D → D → Prop} (h : on2 ds k) : ∃ x y, ds = [x, y] ∧ k x y := by
  unfold on2 at h
  split at h
  · exact ⟨_, _, rfl, h⟩
  · exact h.elim
theorem RepL.one {K : PySem.W.Frag} {w : W} {vs : List V} {d : D} (r : RepL K w vs [d]) : ∃ v, vs = [v] ∧ Rep K w v d := by
  cases r with | cons a b => cases b; exact ⟨_, rfl, a⟩
theorem RepL.two {K : PySem.W.Frag} {w : W} {vs : List V} {d e : D} (r : RepL K w vs [d, e]) : ∃ v u, vs = [v, u] ∧ Rep K w v d ∧ Rep K w u e := by
  cases r with | cons a b => cases b with | cons c b => cases b; exact ⟨_, _, rfl, a, c⟩
def fLen (ds : List D) (Q : D → Prop) : Prop := on1 ds fun x => match x with
  | .lst xs => Q (.int xs.length)
  | .tup xs => Q (.int xs.length)
  | .str z => z.length ≤ sizeLine ∧ Q (.int z.length)
  | .dk kvs => Q (.int kvs.length)
  | _ => False
def fInt (ds : List D) (Q : D → Prop) : Prop := on1 ds fun x => match x with
  | .int i => Q (.int i)
  | .bl k => Q (.int (if k then 1 else 0))
  | _ => False
def fAbs (ds : List D) (Q : D → Prop) : Prop := on1 ds fun x => match x with
  | .int i => Q (.int (if i < 0 then -i else i))
  | _ => False
def fStr (ds : List D) (Q : D → Prop) : Prop := on1 ds fun x => match x with
  | .int i => i.natAbs.log2 < 1920 ∧ Q (.str (toString i))
  | .str z => Q (.str z)
  | _ => False
/-- data that is a list of ints (of truth values, of texts) -/
def intsD : List D → Option (List Int)
  | [] => some []
  | .int i :: r => (intsD r).map (i :: ·)
  | _ => none
def blsD : List D → Option (List Bool)
  | [] => some []
  | .bl i :: r => (blsD r).map (i :: ·)
  | _ => none
theorem intsD_of : ∀ {ds : List D} {ns : List Int}, intsD ds = some ns → ds = ns.map D.int
  | [], ns, h => by simp [intsD] at h; subst h; rfl
  | .int i :: r, ns, h => by
    simp only [intsD] at h
    cases q : intsD r with
    | none => rw [q] at h; cases h
    | some ms => rw [q] at h; cases h; rw [intsD_of q]; rfl
  | .non :: r, ns, h => by simp [intsD] at h
  | .bl _ :: r, ns, h => by simp [intsD] at h
  | .str _ :: r, ns, h => by simp [intsD] at h
  | .ty _ :: r, ns, h => by simp [intsD] at h
  | .cls _ :: r, ns, h => by simp [intsD] at h
  | .tup _ :: r, ns, h => by simp [intsD] at h
  | .lst _ :: r, ns, h => by simp [intsD] at h
  | .dk _ :: r, ns, h => by simp [intsD] at h
  | .dt _ :: r, ns, h => by simp [intsD] at h
  | .ins _ _ :: r, ns, h => by simp [intsD] at h
  | .ptr _ :: r, ns, h => by simp [intsD] at h
  | .exn _ _ :: r, ns, h => by simp [intsD] at h
theorem intsD_map : ∀ (ns : List Int), intsD (ns.map D.int) = some ns
  | [] => rfl
  | i :: r => by simp [intsD, intsD_map r]
theorem blsD_of : ∀ {ds : List D} {ns : List Bool}, blsD ds = some ns → ds = ns.map D.bl
  | [], ns, h => by simp [blsD] at h; subst h; rfl
  | .bl i :: r, ns, h => by
    simp only [blsD] at h
    cases q : blsD r with
    | none => rw [q] at h; cases h
    | some ms => rw [q] at h; cases h; rw [blsD_of q]; rfl
  | .non :: r, ns, h => by simp [blsD] at h
  | .int _ :: r, ns, h => by simp [blsD] at h
  | .str _ :: r, ns, h => by simp [blsD] at h
  | .ty _ :: r, ns, h => by simp [blsD] at h
  | .cls _ :: r, ns, h => by simp [blsD] at h
  | .tup _ :: r, ns, h => by simp [blsD] at h
  | .lst _ :: r, ns, h => by simp [blsD] at h
  | .dk _ :: r, ns, h => by simp [blsD] at h
  | .dt _ :: r, ns, h => by simp [blsD] at h
  | .ins _ _ :: r, ns, h => by simp [blsD] at h
  | .ptr _ :: r, ns, h => by simp [blsD] at h
  | .exn _ _ :: r, ns, h => by simp [blsD] at h
theorem blsD_map : ∀ (ns : List Bool), blsD (ns.map D.bl) = some ns
  | [] => rfl
  | i :: r => by simp [blsD, blsD_map r]
/-- a list -/
def isL (x : D) (k : List D → Prop) : Prop := match x with
  | .lst xs => k xs
  | _ => False
def fSum (ds : List D) (Q : D → Prop) : Prop := on1 ds fun x => isL x fun xs => gotI (intsD xs) fun ns => Q (.int ns.sum)
def fMax (ds : List D) (Q : D → Prop) : Prop := on1 ds fun x => isL x fun xs => gotI (intsD xs) fun ns => 0 < ns.length ∧ ∀ m, m ∈ ns → (∀ y, y ∈ ns → y ≤ m) → Q (.int m)
def fMin (ds : List D) (Q : D → Prop) : Prop := on1 ds fun x => isL x fun xs => gotI (intsD xs) fun ns => 0 < ns.length ∧ ∀ m, m ∈ ns → (∀ y, y ∈ ns → m ≤ y) → Q (.int m)
def fMax2 (ds : List D) (Q : D → Prop) : Prop := on2 ds fun x y => match x, y with
  | .int i, .int j => Q (.int (if j > i then j else i))
  | _, _ => False
def fMin2 (ds : List D) (Q : D → Prop) : Prop := on2 ds fun x y => match x, y with
  | .int i, .int j => Q (.int (if j < i then j else i))
  | _, _ => False
def fAll (ds : List D) (Q : D → Prop) : Prop := on1 ds fun x => isL x fun xs => gotI (blsD xs) fun bs => Q (.bl (bs.all id))
def fAny (ds : List D) (Q : D → Prop) : Prop := on1 ds fun x => isL x fun xs => gotI (blsD xs) fun bs => Q (.bl (bs.any id))
def fList (ds : List D) (Q : D → Prop) : Prop := on1 ds fun x => match x with
  | .lst xs => Q (.lst xs)
  | .tup xs => Q (.lst xs)
  | _ => False
def fTuple (ds : List D) (Q : D → Prop) : Prop := on1 ds fun x => match x with
  | .lst xs => Q (.tup xs)
  | .tup xs => Q (.tup xs)
  | _ => False
section
variable {X : Cx}
theorem ca_len : CallA X (.builtin "len") fLen := by
  rintro pins s σ H vs us R I rx ⟨xi, B, w, ms, st, σ', ds, Qd, L, r, h, k⟩
  obtain ⟨x, rfl, hh⟩ := on1_of h
  clear h
  obtain ⟨v, rfl, rr⟩ := r.one
  clear r
  have h := hh
  have r := rr
  cases r with
  | lst hf q => exact call_len_seq pins s σ H _ us R I rx ⟨_, _, rfl, .inl (SqL.up L.s0 hf), same_ L k (.int _) (by rw [q.length]; exact h)⟩
  | tup hf q => exact call_len_seq pins s σ H _ us R I rx ⟨_, _, rfl, .inr (SqT.up L.s0 hf), same_ L k (.int _) (by rw [q.length]; exact h)⟩
  | str z => exact call_len_str pins s σ H _ us R I rx ⟨z, rfl, h.1, same_ L k (.int _) h.2⟩
  | dk hf q =>
    obtain ⟨u, rfl, ru⟩ := vals1 rx
    cases ru
    exact d_len I (hf.elim (fun z => .inl (L.s0.fh _ _ z)) fun ⟨o, z⟩ => .inr ⟨o, L.s0.fh _ _ z⟩) fun t s' I' => ⟨.int _, H, I', ⟨t, rfl⟩, same_ L k (.int _) (by rw [q.length]; exact h)⟩
  | _ => exact False.elim h
theorem ca_int : CallA X (.type "int") fInt := by
  rintro pins s σ H vs us R I rx ⟨xi, B, w, ms, st, σ', ds, Qd, L, r, h, k⟩
  obtain ⟨x, rfl, hh⟩ := on1_of h
  clear h
  obtain ⟨v, rfl, rr⟩ := r.one
  clear r
  have h := hh
  have r := rr
  cases r with
  | int i => exact call_int1 pins s σ H _ us R I rx (.inl ⟨i, rfl, same_ L k (.int _) h⟩)
  | bl b => exact call_int1 pins s σ H _ us R I rx (.inr ⟨b, rfl, same_ L k (.int _) h⟩)
  | _ => exact False.elim h
theorem ca_abs : CallA X (.builtin "abs") fAbs := by
  rintro pins s σ H vs us R I rx ⟨xi, B, w, ms, st, σ', ds, Qd, L, r, h, k⟩
  obtain ⟨x, rfl, hh⟩ := on1_of h
  clear h
  obtain ⟨v, rfl, rr⟩ := r.one
  clear r
  have h := hh
  have r := rr
  cases r with
  | int i => exact call_abs pins s σ H _ us R I rx ⟨i, rfl, same_ L k (.int _) h⟩
  | _ => exact False.elim h
theorem ca_str : CallA X (.type "str") fStr := by
  rintro pins s σ H vs us R I rx ⟨xi, B, w, ms, st, σ', ds, Qd, L, r, h, k⟩
  obtain ⟨x, rfl, hh⟩ := on1_of h
  clear h
  obtain ⟨v, rfl, rr⟩ := r.one
  clear r
  have h := hh
  have r := rr
  cases r with
  | int i => exact call_str_int pins s σ H _ us R I rx ⟨i, rfl, h.1, same_ L k (.str _) h.2⟩
  | str z => exact SkE.call_str_str pins s σ H _ us R I rx ⟨z, rfl, same_ L k (.str _) h⟩
  | _ => exact False.elim h
theorem lst_case {K : PySem.W.Frag} {w : W} {v : V} {x : D} {F : List D → Prop} (r : Rep K w v x) (h : isL x F) : ∃ a vs xs, v = .ref a ∧ x = .lst xs ∧ w.F a = some (.lst vs) ∧ RepL K w vs xs ∧ F xs := by
  cases r with
  | lst hf q => exact ⟨_, _, _, rfl, rfl, hf, q, h⟩
  | _ => exact False.elim h
theorem ca_sum (hc : X.calm = true) : CallA X (.builtin "sum") fSum := by
  rintro pins s σ H vs us R I rx ⟨xi, B, w, ms, st, σ', ds, Qd, L, r, h, k⟩
  obtain ⟨x, rfl, hh⟩ := on1_of h
  clear h
  obtain ⟨v, rfl, rr⟩ := r.one
  clear r
  have h := hh
  have r := rr
  obtain ⟨a, vs, xs, rfl, rfl, hf, q, h⟩ := lst_case r h
  obtain ⟨ns, e, g⟩ := gotI_of h
  obtain rfl := intsD_of e
  exact cr_sum hc pins s σ H _ us R I rx ⟨a, ns, rfl, by rw [← q.of_ints]; exact SqL.up L.s0 hf, same_ L k (.int _) g⟩
theorem ca_max (hc : X.calm = true) : CallA X (.builtin "max") fMax := by
  rintro pins s σ H vs us R I rx ⟨xi, B, w, ms, st, σ', ds, Qd, L, r, h, k⟩
  obtain ⟨x, rfl, hh⟩ := on1_of h
  clear h
  obtain ⟨v, rfl, rr⟩ := r.one
  clear r
  have h := hh
  have r := rr
  obtain ⟨a, vs, xs, rfl, rfl, hf, q, h⟩ := lst_case r h
  obtain ⟨ns, e, g⟩ := gotI_of h
  obtain rfl := intsD_of e
  exact cr_max hc pins s σ H _ us R I rx ⟨a, ns, rfl, by rw [← q.of_ints]; exact SqL.up L.s0 hf, g.1, fun m h1 h2 => same_ L k (.int _) (g.2 m h1 h2)⟩
theorem ca_min (hc : X.calm = true) : CallA X (.builtin "min") fMin := by
  rintro pins s σ H vs us R I rx ⟨xi, B, w, ms, st, σ', ds, Qd, L, r, h, k⟩
  obtain ⟨x, rfl, hh⟩ := on1_of h
  clear h
  obtain ⟨v, rfl, rr⟩ := r.one
  clear r
  have h := hh
  have r := rr
  obtain ⟨a, vs, xs, rfl, rfl, hf, q, h⟩ := lst_case r h
  obtain ⟨ns, e, g⟩ := gotI_of h
  obtain rfl := intsD_of e
  exact cr_min hc pins s σ H _ us R I rx ⟨a, ns, rfl, by rw [← q.of_ints]; exact SqL.up L.s0 hf, g.1, fun m h1 h2 => same_ L k (.int _) (g.2 m h1 h2)⟩
theorem ca_max2 (hc : X.calm = true) : CallA X (.builtin "max") fMax2 := by
  rintro pins s σ H vs us R I rx ⟨xi, B, w, ms, st, σ', ds, Qd, L, r, h, k⟩
  obtain ⟨x, y, rfl, hh⟩ := on2_of h
  clear h
  have h := hh
  obtain ⟨v, u, rfl, r1, r2⟩ := r.two
  cases r1 with
  | int i => cases r2 with
    | int j => exact call_max2 hc pins s σ H _ us R I rx ⟨i, j, rfl, same_ L k (.int _) h⟩
    | _ => exact False.elim h
  | _ => exact False.elim h
theorem ca_min2 (hc : X.calm = true) : CallA X (.builtin "min") fMin2 := by
  rintro pins s σ H vs us R I rx ⟨xi, B, w, ms, st, σ', ds, Qd, L, r, h, k⟩
  obtain ⟨x, y, rfl, hh⟩ := on2_of h
  clear h
  have h := hh
  obtain ⟨v, u, rfl, r1, r2⟩ := r.two
  cases r1 with
  | int i => cases r2 with
    | int j => exact call_min2 hc pins s σ H _ us R I rx ⟨i, j, rfl, same_ L k (.int _) h⟩
    | _ => exact False.elim h
  | _ => exact False.elim h
theorem ca_all (hc : X.calm = true) : CallA X (.builtin "all") fAll := by
  rintro pins s σ H vs us R I rx ⟨xi, B, w, ms, st, σ', ds, Qd, L, r, h, k⟩
  obtain ⟨x, rfl, hh⟩ := on1_of h
  clear h
  obtain ⟨v, rfl, rr⟩ := r.one
  clear r
  have h := hh
  have r := rr
  obtain ⟨a, vs, xs, rfl, rfl, hf, q, h⟩ := lst_case r h
  obtain ⟨ns, e, g⟩ := gotI_of h
  obtain rfl := blsD_of e
  exact cr_all hc pins s σ H _ us R I rx ⟨a, ns, rfl, by rw [← q.of_bls]; exact SqL.up L.s0 hf, same_ L k (.bl _) g⟩
theorem ca_any (hc : X.calm = true) : CallA X (.builtin "any") fAny := by
  rintro pins s σ H vs us R I rx ⟨xi, B, w, ms, st, σ', ds, Qd, L, r, h, k⟩
  obtain ⟨x, rfl, hh⟩ := on1_of h
  clear h
  obtain ⟨v, rfl, rr⟩ := r.one
  clear r
  have h := hh
  have r := rr
  obtain ⟨a, vs, xs, rfl, rfl, hf, q, h⟩ := lst_case r h
  obtain ⟨ns, e, g⟩ := gotI_of h
  obtain rfl := blsD_of e
  exact cr_any hc pins s σ H _ us R I rx ⟨a, ns, rfl, by rw [← q.of_bls]; exact SqL.up L.s0 hf, same_ L k (.bl _) g⟩
theorem ca_list : CallA X (.type "list") fList := by
  rintro pins s σ H vs us R I rx ⟨xi, B, w, ms, st, σ', ds, Qd, L, r, h, k⟩
  obtain ⟨x, rfl, hh⟩ := on1_of h
  clear h
  obtain ⟨v, rfl, rr⟩ := r.one
  clear r
  have h := hh
  have r := rr
  cases r with
  | lst hf q => exact call_list_of pins s σ H _ us R I rx ⟨_, _, rfl, .inl (SqL.up L.s0 hf), fun p hp => new_ L k hp (fun w' le hf => .lst hf (q.mono le)) h⟩
  | tup hf q => exact call_list_of pins s σ H _ us R I rx ⟨_, _, rfl, .inr (SqT.up L.s0 hf), fun p hp => new_ L k hp (fun w' le hf => .lst hf (q.mono le)) h⟩
  | _ => exact False.elim h
theorem ca_tuple : CallA X (.type "tuple") fTuple := by
  rintro pins s σ H vs us R I rx ⟨xi, B, w, ms, st, σ', ds, Qd, L, r, h, k⟩
  obtain ⟨x, rfl, hh⟩ := on1_of h
  clear h
  obtain ⟨v, rfl, rr⟩ := r.one
  clear r
  have h := hh
  have r := rr
  cases r with
  | lst hf q => exact call_tuple_of pins s σ H _ us R I rx ⟨_, _, rfl, .inl ⟨SqL.up L.s0 hf, fun p hp => new_ L k hp (fun w' le hf => .tup hf (q.mono le)) h⟩⟩
  | tup hf q => exact call_tuple_of pins s σ H _ us R I rx ⟨_, _, rfl, .inr ⟨SqT.up L.s0 hf, same_ L k (.tup hf q) h⟩⟩
  | _ => exact False.elim h
end

/-! ### isinstance -/
/-- is a datum of this built-in type? -/
def isTy (n : String) : D → Option Bool
  | .non => kitB "NoneType" n
  | .bl _ => kitB "bool" n
  | .int _ => kitB "int" n
  | .str _ => kitB "str" n
  | .tup _ => kitB "tuple" n
  | .lst _ => kitB "list" n
  | .dk _ => kitB "dict" n
  | _ => none
theorem kt_NoneType_int : kitB "NoneType" "int" = some false := by decide +kernel
theorem kt_NoneType_bool : kitB "NoneType" "bool" = some false := by decide +kernel
theorem kt_NoneType_str : kitB "NoneType" "str" = some false := by decide +kernel
theorem kt_NoneType_tuple : kitB "NoneType" "tuple" = some false := by decide +kernel
theorem kt_NoneType_list : kitB "NoneType" "list" = some false := by decide +kernel
theorem kt_NoneType_dict : kitB "NoneType" "dict" = some false := by decide +kernel
theorem kt_bool_int : kitB "bool" "int" = some true := by decide +kernel
theorem kt_bool_bool : kitB "bool" "bool" = some true := by decide +kernel
theorem kt_bool_str : kitB "bool" "str" = some false := by decide +kernel
theorem kt_bool_tuple : kitB "bool" "tuple" = some false := by decide +kernel
theorem kt_bool_list : kitB "bool" "list" = some false := by decide +kernel
theorem kt_bool_dict : kitB "bool" "dict" = some false := by decide +kernel
theorem kt_int_int : kitB "int" "int" = some true := by decide +kernel
theorem kt_int_bool : kitB "int" "bool" = some false := by decide +kernel
theorem kt_int_str : kitB "int" "str" = some false := by decide +kernel
theorem kt_int_tuple : kitB "int" "tuple" = some false := by decide +kernel
theorem kt_int_list : kitB "int" "list" = some false := by decide +kernel
theorem kt_int_dict : kitB "int" "dict" = some false := by decide +kernel
theorem kt_str_int : kitB "str" "int" = some false := by decide +kernel
theorem kt_str_bool : kitB "str" "bool" = some false := by decide +kernel
theorem kt_str_str : kitB "str" "str" = some true := by decide +kernel
theorem kt_str_tuple : kitB "str" "tuple" = some false := by decide +kernel
theorem kt_str_list : kitB "str" "list" = some false := by decide +kernel
theorem kt_str_dict : kitB "str" "dict" = some false := by decide +kernel
theorem kt_tuple_int : kitB "tuple" "int" = some false := by decide +kernel
theorem kt_tuple_bool : kitB "tuple" "bool" = some false := by decide +kernel
theorem kt_tuple_str : kitB "tuple" "str" = some false := by decide +kernel
theorem kt_tuple_tuple : kitB "tuple" "tuple" = some true := by decide +kernel
theorem kt_tuple_list : kitB "tuple" "list" = some false := by decide +kernel
theorem kt_tuple_dict : kitB "tuple" "dict" = some false := by decide +kernel
theorem kt_list_int : kitB "list" "int" = some false := by decide +kernel
theorem kt_list_bool : kitB "list" "bool" = some false := by decide +kernel
theorem kt_list_str : kitB "list" "str" = some false := by decide +kernel
theorem kt_list_tuple : kitB "list" "tuple" = some false := by decide +kernel
theorem kt_list_list : kitB "list" "list" = some true := by decide +kernel
theorem kt_list_dict : kitB "list" "dict" = some false := by decide +kernel
theorem kt_dict_int : kitB "dict" "int" = some false := by decide +kernel
theorem kt_dict_bool : kitB "dict" "bool" = some false := by decide +kernel
theorem kt_dict_str : kitB "dict" "str" = some false := by decide +kernel
theorem kt_dict_tuple : kitB "dict" "tuple" = some false := by decide +kernel
theorem kt_dict_list : kitB "dict" "list" = some false := by decide +kernel
theorem kt_dict_dict : kitB "dict" "dict" = some true := by decide +kernel
def fIsTy (ds : List D) (Q : D → Prop) : Prop := on2 ds fun x c => match c with
  | .ty n => gotI (isTy n x) fun b => Q (.bl b)
  | _ => False
/-- .. of this own class? -/
def isOwn (c : Str) : D → Option Bool
  | .non => some false
  | .bl _ => some false
  | .int _ => some false
  | .str _ => some false
  | .tup _ => some false
  | .lst _ => some false
  | .ins c' _ => if c' = c then some true else none
  | _ => none
def fIsOwn (c : Str) (ds : List D) (Q : D → Prop) : Prop := on2 ds fun x y => match y with
  | .cls c' => c' = c ∧ gotI (isOwn c x) fun b => Q (.bl b)
  | _ => False
/-- what a class must say of itself -/
structure OwnK (K : PySem.W.Frag) (c : Str) : Prop where
  inK : HX.InK K c
  self : PySem.W.kitOne K (.ref (He.ga K c)) (.ref (He.ga K c)) = some true
  non : PySem.W.kitOne K (.type "NoneType") (.ref (He.ga K c)) = some false
  bl : PySem.W.kitOne K (.type "bool") (.ref (He.ga K c)) = some false
  int : PySem.W.kitOne K (.type "int") (.ref (He.ga K c)) = some false
  str : PySem.W.kitOne K (.type "str") (.ref (He.ga K c)) = some false
  tup : PySem.W.kitOne K (.type "tuple") (.ref (He.ga K c)) = some false
  lst : PySem.W.kitOne K (.type "list") (.ref (He.ga K c)) = some false
def ownB (K : PySem.W.Frag) (c : Str) : Bool := HX.inB K c && (decide (PySem.W.kitOne K (.ref (He.ga K c)) (.ref (He.ga K c)) = some true) && (decide (PySem.W.kitOne K (.type "NoneType") (.ref (He.ga K c)) = some false) &&
  (decide (PySem.W.kitOne K (.type "bool") (.ref (He.ga K c)) = some false) && (decide (PySem.W.kitOne K (.type "int") (.ref (He.ga K c)) = some false) && (decide (PySem.W.kitOne K (.type "str") (.ref (He.ga K c)) = some false) &&
  (decide (PySem.W.kitOne K (.type "tuple") (.ref (He.ga K c)) = some false) && decide (PySem.W.kitOne K (.type "list") (.ref (He.ga K c)) = some false)))))))
theorem own_ok {K : PySem.W.Frag} {c : Str} (h : ownB K c = true) : OwnK K c := by
  obtain ⟨h1, h⟩ := He.ba h
  obtain ⟨h2, h⟩ := He.ba h
  obtain ⟨h3, h⟩ := He.ba h
  obtain ⟨h4, h⟩ := He.ba h
  obtain ⟨h5, h⟩ := He.ba h
  obtain ⟨h6, h⟩ := He.ba h
  obtain ⟨h7, h8⟩ := He.ba h
  exact ⟨HX.in_ok h1, of_decide_eq_true h2, of_decide_eq_true h3, of_decide_eq_true h4, of_decide_eq_true h5, of_decide_eq_true h6, of_decide_eq_true h7, of_decide_eq_true h8⟩
section
variable {X : Cx}
theorem ty_tup {K : PySem.W.Frag} {w : W} {ms : MS} {H : Hp} {a : Addr} {vs : List V} (h0 : St0 K w ms H) (h : w.F a = some (.tup vs)) : TyX K H (.ref a) (.type "tuple") := HX.ty_T (SqT.up h0 h)
theorem ty_dk {K : PySem.W.Frag} {w : W} {ms : MS} {H : Hp} {a : Addr} {vs : List (Key × V)} (h0 : St0 K w ms H) (h : Rd w.F a (.dK vs)) : TyX K H (.ref a) (.type "dict") := by
  rcases h with h | ⟨o, h⟩
  · exact .base (.dK (h0.fh _ _ h))
  · exact .fDict (h0.fh _ _ h)
theorem ca_isTy : CallA X (.builtin "isinstance") fIsTy := by
  rintro pins s σ H vs us R I rx ⟨xi, B, w, ms, st, σ', ds, Qd, L, r, h, k⟩
  obtain ⟨x, c, rfl, hh⟩ := on2_of h
  clear h
  obtain ⟨v, u, rfl, r1, r2⟩ := r.two
  cases r2 with
  | ty n =>
    obtain ⟨b, hb, h⟩ := gotI_of hh
    have go : ∀ {t : String}, TyX X.K H v (.type t) → kitB t n = some b → wpAny (model X.prog X.w) X.A (call (.builtin "isinstance") us) (EP X pins σ R) X.xe s := fun {t} ht hk =>
      call_isi pins s σ H _ us R I rx ⟨v, .ty n, _, _, b, rfl, .ty n, ht, kit_ty hk, same_ L k (.bl _) h⟩
    cases r1 with
    | non => exact go (.base .non) hb
    | bl i => exact go (.base (.bl i)) hb
    | int i => exact go (.base (.int i)) hb
    | str i => exact go (.base (.str i)) hb
    | tup hf q => exact go (ty_tup L.s0 hf) hb
    | lst hf q => exact go (.base (.lst (L.s0.fh _ _ hf))) hb
    | dk hf q => exact go (ty_dk L.s0 hf) hb
    | _ => cases hb
  | _ => exact False.elim hh
theorem ca_isOwn {c : Str} (T : OwnK X.K c) : CallA X (.builtin "isinstance") (fIsOwn c) := by
  rintro pins s σ H vs us R I rx ⟨xi, B, w, ms, st, σ', ds, Qd, L, r, h, k⟩
  obtain ⟨x, y, rfl, hh⟩ := on2_of h
  clear h
  obtain ⟨v, u, rfl, r1, r2⟩ := r.two
  cases r2 with
  | cls c' =>
    obtain ⟨rfl, g⟩ := hh
    obtain ⟨b, hb, h⟩ := gotI_of g
    have go : ∀ {t : Value}, TyX X.K H v t → PySem.W.kitOne X.K t (.ref (He.ga X.K c')) = some b → wpAny (model X.prog X.w) X.A (call (.builtin "isinstance") us) (EP X pins σ R) X.xe s := fun {t} ht hk =>
      call_isi pins s σ H _ us R I rx ⟨v, .ref _, _, _, b, rfl, .own _, ht, hk, same_ L k (.bl _) h⟩
    cases r1 with
    | non => cases hb; exact go (.base .non) T.non
    | bl i => cases hb; exact go (.base (.bl i)) T.bl
    | int i => cases hb; exact go (.base (.int i)) T.int
    | str i => cases hb; exact go (.base (.str i)) T.str
    | tup hf q => cases hb; exact go (ty_tup L.s0 hf) T.tup
    | lst hf q => cases hb; exact go (.base (.lst (L.s0.fh _ _ hf))) T.lst
    | @ins a dx c vs ds hf q =>
      have hb : (if c = c' then some true else none) = some b := hb
      by_cases e : c = c'
      · subst e
        rw [if_pos rfl] at hb
        cases hb
        exact go (T.inK.ty (L.s0.fh _ _ hf)) T.self
      · rw [if_neg e] at hb
        cases hb
    | _ => cases hb
  | _ => exact False.elim hh
end

/-! ### what own objects suffer -/
/-- the own object in a slot -/
def ownAt (i : Nat) (s : ASt) (k : MO → Prop) : Prop := match s[i]? with
  | some (some (AV.ow m)) => k m
  | _ => False
theorem ownAt_of {i : Nat} {s : ASt} {k : MO → Prop} (h : ownAt i s k) : ∃ m, s[i]? = some (some (.ow m)) ∧ k m := by
  unfold ownAt at h
  split at h
  · exact ⟨_, by assumption, h⟩
  · exact h.elim
def moL (m : MO) (k : List D → Prop) : Prop := match m with
  | .lst xs => k xs
  | _ => False
theorem moL_of {m : MO} {k : List D → Prop} (h : moL m k) : ∃ xs, m = .lst xs ∧ k xs := by
  unfold moL at h
  split at h
  · exact ⟨_, rfl, h⟩
  · exact h.elim
def moK (m : MO) (k : List (Key × D) → Prop) : Prop := match m with
  | .dk xs => k xs
  | _ => False
theorem moK_of {m : MO} {k : List (Key × D) → Prop} (h : moK m k) : ∃ xs, m = .dk xs ∧ k xs := by
  unfold moK at h
  split at h
  · exact ⟨_, rfl, h⟩
  · exact h.elim
def moT (m : MO) (k : List (List Key × D) → Prop) : Prop := match m with
  | .dt xs => k xs
  | _ => False
theorem moT_of {m : MO} {k : List (List Key × D) → Prop} (h : moT m k) : ∃ xs, m = .dt xs ∧ k xs := by
  unfold moT at h
  split at h
  · exact ⟨_, rfl, h⟩
  · exact h.elim
def aApp (i : Nat) (ra : aE) : aS := fun A s ms => ownAt i s fun m => moL m fun _ => ra s ms (fun y ms1 => ownAt i s fun m => moL m fun xs => xs.length < sizeLine ∧ A.nx (s.set i (some (.ow (.lst (xs ++ [y]))))) ms1) fun x ms => A.ex x s ms
def aExt (i : Nat) (ra : aE) : aS := fun A s ms => ownAt i s fun m => moL m fun _ => ra s ms (fun y ms1 => isL y fun zs => ownAt i s fun m => moL m fun xs => xs.length + zs.length ≤ sizeLine ∧ A.nx (s.set i (some (.ow (.lst (xs ++ zs))))) ms1) fun x ms => A.ex x s ms
/-- y = x.pop() -/
def aPop (j i : Nat) : aS := fun A s ms => ownAt i s fun m => moL m fun xs => gotI xs.getLast? fun y => A.nx ((s.set i (some (.ow (.lst xs.dropLast)))).set j (some (.fr y))) ms
/-- len(x) of an own list -/
def aLenO (i : Nat) : aE := fun s ms Q _ => ownAt i s fun m => moL m fun xs => Q (.int xs.length) ms
/-- a key -/
def isKey (d : D) (k : Key → Prop) : Prop := match d with
  | .int i => k (.inl i)
  | .str x => k (.inr x)
  | _ => False
theorem isKey_rep {K : PySem.W.Frag} {w : W} {v : V} {d : D} {k : Key → Prop} (r : Rep K w v d) (h : isKey d k) : ∃ x, v = kV x ∧ k x := by
  cases r <;> first | exact ⟨_, rfl, h⟩ | exact False.elim h
/-- d[k] = v -/
def aPutO (i : Nat) (rk rv : aE) : aS := fun A s ms => ownAt i s fun m => moK m fun _ => rv s ms (fun y ms1 => rk s ms1 (fun x ms2 => isKey x fun k => ownAt i s fun m => moK m fun kvs => kvs.length < sizeLine ∧ A.nx (s.set i (some (.ow (.dk (putDK kvs k y))))) ms2) fun x ms => A.ex x s ms) fun x ms => A.ex x s ms
/-- d[k], d.get(k, e), k in d of a dict -/
def fGet (x y : D) (Q : D → Prop) : Prop := match x with
  | .dk kvs => isKey y fun k => gotI (valD kvs k) Q
  | _ => False
def fHas (x y : D) (Q : D → Prop) : Prop := match y with
  | .dk kvs => isKey x fun k => Q (.bl (valD kvs k).isSome)
  | _ => False
def fHasNot (x y : D) (Q : D → Prop) : Prop := match y with
  | .dk kvs => isKey x fun k => Q (.bl (!(valD kvs k).isSome))
  | _ => False
def isDK (x : D) (k : List (Key × D) → Prop) : Prop := match x with
  | .dk kvs => k kvs
  | _ => False
def aGetD (rd rk re : aE) : aE := fun s ms Q E => rd s ms (fun x ms1 => isDK x fun kvs => rk s ms1 (fun y ms2 => re s ms2 (fun z ms3 => isKey y fun k => Q ((valD kvs k).getD z) ms3) E) E) E
/-- .. of an own dict -/
def aGetO (i : Nat) (rk re : aE) : aE := fun s ms Q E => rk s ms (fun y ms2 => re s ms2 (fun z ms3 => isKey y fun k => ownAt i s fun m => moK m fun kvs => Q ((valD kvs k).getD z) ms3) E) E
section
variable {X : Cx} {Wx : WXA} {e o f : Expr} {ra rd rk re : aE} {pos p2 apos cpos : Pos}
theorem as_app {i : Nat} (h : ∀ {te : TE}, PE X e te → PE X o (tBM X.K "list" rAppend (tVar i) (tCons te tNil))) (he : AE X Wx e ra) (hs : swapsWith o none pos.line X.env = pure false := by rfl) : AS X Wx (.Expr o pos) (aApp i ra) :=
  PS.imp (ps_expr (h he) hs) fun De σ H ⟨B, w, ms, s, A, L, h, en⟩ => by
    obtain ⟨m, e0, h⟩ := ownAt_of h
    obtain ⟨xs0, rfl, h⟩ := moL_of h
    obtain ⟨p, e1, r0, n⟩ := L.sl i _ e0
    cases r0 with
    | lst hp r0 =>
      refine ⟨_, e1, .inl ⟨rfl, _, SqL.of hp⟩, B, w, ms, s, _, _, L, h, fun w1 ms1 H1 v d le L1 r1 h1 => ?_, en.px⟩
      obtain ⟨m, e2, h1⟩ := ownAt_of h1
      obtain ⟨xs, rfl, h1⟩ := moL_of h1
      obtain ⟨p', e3, r2, n2⟩ := L1.sl i _ e2
      have : p' = p := by rw [e1] at e3; simpa using e3.symm
      subst this
      cases r2 with
      | lst hp2 r2 =>
        refine ⟨p', _, v, rfl, rfl, hp2, by rw [r2.length]; exact h1.1, ?_⟩
        exact en.nx w1 ms1 _ _ _ le (L1.updOwn e2 e1 (.lst upd_same (r2.append (.cons r1 .nil)))) h1.2
theorem as_ext {i : Nat} (h : ∀ {te : TE}, PE X e te → PE X o (tBM X.K "list" rExtend (tVar i) (tCons te tNil))) (he : AE X Wx e ra) (hs : swapsWith o none pos.line X.env = pure false := by rfl) : AS X Wx (.Expr o pos) (aExt i ra) :=
  PS.imp (ps_expr (h he) hs) fun De σ H ⟨B, w, ms, s, A, L, h, en⟩ => by
    obtain ⟨m, e0, h⟩ := ownAt_of h
    obtain ⟨xs0, rfl, h⟩ := moL_of h
    obtain ⟨p, e1, r0, n⟩ := L.sl i _ e0
    cases r0 with
    | lst hp r0 =>
      refine ⟨_, e1, .inl ⟨rfl, _, SqL.of hp⟩, B, w, ms, s, _, _, L, h, fun w1 ms1 H1 v d le L1 r1 h1 => ?_, en.px⟩
      obtain ⟨b, vz, zs, rfl, rfl, hb, rz, h1⟩ := lst_case r1 h1
      obtain ⟨m, e2, h1⟩ := ownAt_of h1
      obtain ⟨xs, rfl, h1⟩ := moL_of h1
      obtain ⟨p', e3, r2, n2⟩ := L1.sl i _ e2
      have : p' = p := by rw [e1] at e3; simpa using e3.symm
      subst this
      cases r2 with
      | lst hp2 r2 =>
        refine ⟨p', b, _, _, rfl, rfl, hp2, L1.s0.fh _ _ hb, by rw [r2.length, rz.length]; exact h1.1, ?_⟩
        exact en.nx w1 ms1 _ _ _ le (L1.updOwn e2 e1 (.lst upd_same (r2.append rz))) h1.2
theorem as_pop {i j : Nat} {y : Str} {py : Pos} (hij : i ≠ j) (hN : X.N.Nodup) (hi : X.N[j]? = some y) (hx : Loc X.env.scope y) (he : PE X o (tBM0 X.K "list" rPop (tVar i))) (hs : swapsWith o (some (.Name y py)) pos.line X.env = pure false := by rfl) (hf : X.fn y = true ∨ X.env.scope.names.lookup y = some .local := by first | exact .inl rfl | exact .inr rfl | assumption) :
    AS X Wx (.Assign [.Name y py] o pos) (aPop j i) :=
  PS.imp (ps_set hN hi hx he hs hf) fun De σ H ⟨B, w, ms, s, A, L, h, en⟩ => by
    obtain ⟨m, e0, h⟩ := ownAt_of h
    obtain ⟨xs, rfl, h⟩ := moL_of h
    obtain ⟨d, hd, h⟩ := gotI_of h
    obtain ⟨p, e1, r0, n⟩ := L.sl i _ e0
    cases r0 with
    | @lst vs _ hp r0 =>
      rw [List.getLast?_eq_getElem?] at hd
      obtain ⟨v, hv, rv⟩ := r0.get hd
      refine ⟨_, e1, .inl ⟨rfl, _, SqL.of hp⟩, p, vs, v, rfl, rfl, hp, by rw [r0.length]; exact hv, ?_⟩
      have rd : RepL X.K w vs.dropLast xs.dropLast := by
        rw [List.dropLast_eq_take, List.dropLast_eq_take, r0.length]; exact r0.take _
      exact en.nx w ms _ _ _ (Le.refl _ _) ((L.updOwn e0 e1 (.lst upd_same rd)).set rv) h
theorem ae_lenO {i : Nat} (h : PE X e (tCB (HX.rLenSq X.K) (tCons (tVar i) tNil))) : AE X Wx e (aLenO i) :=
  PE.imp h fun σ H R ⟨B, w, ms, s, Q, E, L, h, hq, hx⟩ => by
    obtain ⟨m, e0, h⟩ := ownAt_of h
    obtain ⟨xs, rfl, h⟩ := moL_of h
    obtain ⟨p, e1, r0, n⟩ := L.sl i _ e0
    cases r0 with
    | lst hp r0 => exact ⟨_, e1, p, _, rfl, .inl (SqL.of hp), by rw [r0.length]; exact hq w ms H _ _ (Le.refl _ _) L (.int _) h⟩
theorem dget_k {w : W} {ms : MS} {H : Hp} {a : Addr} {vs : List (Key × V)} {k : Key} (h0 : St0 X.K w ms H) (h : Rd w.F a (.dK vs)) : DGet H a (kV k) (valV vs k) := .inl ⟨vs, k, h.elim (fun q => .inl (h0.fh _ _ q)) fun ⟨o, q⟩ => .inr ⟨o, h0.fh _ _ q⟩, rfl, rfl⟩
theorem ae_dget (hu : X.A.units + 1 < cLine) (ho : AE X Wx o rd) (hi : AE X Wx e rk) (hs : NoSl e) : AE X Wx (.Subscript o e pos) (aBin fGet rd rk) :=
  PE.imp (pe_dget hu ho hi hs) fun σ H R ⟨B, w, ms, s, Q, E, L, h, hq, hx⟩ => two (X := X) L h hx fun w2 ms2 H2 v v2 d d2 e2 L2 r1 r2 h2 => by
    cases r1 with
    | @dk a vs ds hd q =>
      have h3 : isKey d2 (fun k => gotI (valD ds k) fun z => Q z ms2) := h2
      obtain ⟨x, rfl, g⟩ := isKey_rep r2 h3
      obtain ⟨y, hy, g⟩ := gotI_of g
      obtain ⟨u, hu, ru⟩ := (q.val x).1 y hy
      exact ⟨_, u, rfl, by rw [← hu]; exact dget_k (X := X) L2.s0 hd, hq w2 ms2 H2 _ _ e2 L2 ru g⟩
    | _ => exact False.elim h2
theorem has_rep {w : W} {vs : List (Key × V)} {ds : List (Key × D)} (q : RepK X.K w vs ds) (x : Key) : (valV vs x).isSome = (valD ds x).isSome := by
  cases z : valD ds x with
  | none => rw [(q.val x).2 z]; rfl
  | some y => obtain ⟨u, hu, _⟩ := (q.val x).1 y z; rw [hu]; rfl
theorem din_ok {σ : L2.St} {H : Hp} {R : VK} (h : cE X.K Wx (aBin fHas rk rd) σ H R) : tDIn (cE X.K Wx rk) (cE X.K Wx rd) σ H R := by
  obtain ⟨B, w, ms, s, Q, E, L, h, hq, hx⟩ := h
  refine two (X := X) L h hx fun w2 ms2 H2 v v2 d d2 e2 L2 r1 r2 h2 => ?_
  cases r2 with
  | @dk a vs ds hd q =>
    have h3 : isKey d (fun k => Q (.bl (valD ds k).isSome) ms2) := h2
    obtain ⟨x, rfl, g⟩ := isKey_rep r1 h3
    exact ⟨_, _, rfl, dget_k (X := X) (k := x) L2.s0 hd, hq w2 ms2 H2 _ _ e2 L2 (.bl _) (by rw [has_rep (X := X) q x]; exact g)⟩
  | _ => exact False.elim h2
theorem dnotin_ok {σ : L2.St} {H : Hp} {R : VK} (h : cE X.K Wx (aBin fHasNot rk rd) σ H R) : tDNotIn (cE X.K Wx rk) (cE X.K Wx rd) σ H R := by
  obtain ⟨B, w, ms, s, Q, E, L, h, hq, hx⟩ := h
  refine two (X := X) L h hx fun w2 ms2 H2 v v2 d d2 e2 L2 r1 r2 h2 => ?_
  cases r2 with
  | @dk a vs ds hd q =>
    have h3 : isKey d (fun k => Q (.bl (!(valD ds k).isSome)) ms2) := h2
    obtain ⟨x, rfl, g⟩ := isKey_rep r1 h3
    exact ⟨_, _, rfl, dget_k (X := X) (k := x) L2.s0 hd, hq w2 ms2 H2 _ _ e2 L2 (.bl _) (by rw [has_rep (X := X) q x]; exact g)⟩
  | _ => exact False.elim h2
theorem ae_din (hu : X.A.units + 1 < cLine) (hi : AE X Wx e rk) (ho : AE X Wx o rd) (hm : behindInMarks .In o = false) : AE X Wx (.Compare e [.In] [o] pos) (aBin fHas rk rd) := PE.imp (pe_cmp (pc_din hu hi ho) hm) fun σ H R h => din_ok (X := X) h
theorem ae_dnotin (hu : X.A.units + 1 < cLine) (hi : AE X Wx e rk) (ho : AE X Wx o rd) (hm : behindInMarks .NotIn o = false) : AE X Wx (.Compare e [.NotIn] [o] pos) (aBin fHasNot rk rd) := PE.imp (pe_cmp (pc_dnotin hu hi ho) hm) fun σ H R h => dnotin_ok (X := X) h
theorem tb_of {t : TE} {a : aE} (k : ∀ σ H R, cE X.K Wx a σ H R → t σ H R) : ∀ σ H R, cT X.K Wx (aB a) σ H R → tB t σ H R := fun σ H R ⟨B, w, ms, s, Q, E, L, h, hq, hx⟩ => k σ H _ ⟨B, w, ms, s, _, E, L, h, fun w1 ms1 H1 v d e1 L1 r1 h1 => by
    obtain ⟨c, rfl, rfl, q⟩ := isB_rep (X := X) r1 h1
    exact ⟨c, rfl, hq w1 ms1 H1 c e1 L1 q⟩, hx⟩
theorem at_din (hu : X.A.units + 1 < cLine) (hi : AE X Wx e rk) (ho : AE X Wx o rd) (hm : behindInMarks .In o = false) : AT X Wx (.Compare e [.In] [o] pos) (aB (aBin fHas rk rd)) := PT.imp (pt_cmp (pc_din hu hi ho) hm) (tb_of fun σ H R h => din_ok (X := X) h)
theorem at_dnotin (hu : X.A.units + 1 < cLine) (hi : AE X Wx e rk) (ho : AE X Wx o rd) (hm : behindInMarks .NotIn o = false) : AT X Wx (.Compare e [.NotIn] [o] pos) (aB (aBin fHasNot rk rd)) := PT.imp (pt_cmp (pc_dnotin hu hi ho) hm) (tb_of fun σ H R h => dnotin_ok (X := X) h)
theorem isD_k {w : W} {ms : MS} {H : Hp} {a : Addr} {vs : List (Key × V)} (h0 : St0 X.K w ms H) (h : Rd w.F a (.dK vs)) : IsD H a := .inl ⟨vs, h.elim (fun q => .inl (h0.fh _ _ q)) fun ⟨o, q⟩ => .inr ⟨o, h0.fh _ _ q⟩⟩
/-- d.get(k, e) -/
theorem ae_get (hu : X.A.units + 1 < cLine) (ho : AE X Wx o rd) (hk : AE X Wx e rk) (he : AE X Wx f re) (m : M2 X o "get" apos e f cpos) : AE X Wx (.Call (.Attribute o "get" apos) [e, f] [] cpos) (aGetD rd rk re) :=
  PE.imp (pe_dget2 hu ho hk he m) fun σ H R ⟨B, w, ms, s, Q, E, L, h, hq, hx⟩ => ⟨B, w, ms, s, _, E, L, h, fun w1 ms1 H1 v d e1 L1 r1 h1 => by
    cases r1 with
    | @dk a vs ds hd q =>
      have h1 : rk s ms1 (fun y ms2 => re s ms2 (fun z ms3 => isKey y fun k => Q ((valD ds k).getD z) ms3) E) E := h1
      refine ⟨a, rfl, isD_k (X := X) L1.s0 hd, B, w1, ms1, s, _, E, L1, h1, fun w2 ms2 H2 v2 d2 e2 L2 r2 h2 => ⟨B, w2, ms2, s, _, E, L2, h2, fun w3 ms3 H3 v3 d3 e3 L3 r3 h3 => ?_, hx.le (e1.trans e2)⟩, hx.le e1⟩
      obtain ⟨x, rfl, g⟩ := isKey_rep (r2.mono e3) h3
      refine ⟨_, dget_k (X := X) (k := x) L3.s0 ((e2.trans e3).k _ _ hd), hq w3 ms3 H3 _ _ ((e1.trans e2).trans e3) L3 ?_ g⟩
      have q3 := q.mono (e2.trans e3)
      cases z : valD ds x with
      | none => rw [(q3.val x).2 z]; exact r3
      | some y => obtain ⟨u, hu, ru⟩ := (q3.val x).1 y z; rw [hu]; exact ru
    | _ => exact False.elim h1, hx⟩
/-- d[k] = v, d an own dict -/
theorem as_putO {i : Nat} {value : Expr} {tpos : Pos} {rv : aE} (hu : X.A.units + 1 < cLine) (ho : PE X o (tVar i)) (hk : AE X Wx e rk) (hv : AE X Wx value rv) (hs : swapsWith value (some (.Subscript o e tpos)) pos.line X.env = pure false := by rfl) : AS X Wx (.Assign [.Subscript o e tpos] value pos) (aPutO i rk rv) :=
  PS.imp (ps_dput hu ho hk hv hs) fun De σ H ⟨B, w, ms, s, A, L, h, en⟩ => by
    obtain ⟨m, e0, h⟩ := ownAt_of h
    obtain ⟨xs0, rfl, h⟩ := moK_of h
    obtain ⟨p, e1, r0, n⟩ := L.sl i _ e0
    refine ⟨B, w, ms, s, _, _, L, h, fun w1 ms1 H1 y dy le1 L1 r1 h1 => ⟨_, e1, B, w1, ms1, s, _, _, L1, h1, fun w2 ms2 H2 x dx le2 L2 r2 h2 => ?_, (en.le le1).px⟩, en.px⟩
    obtain ⟨k, rfl, h2⟩ := isKey_rep r2 h2
    obtain ⟨m, e2, h2⟩ := ownAt_of h2
    obtain ⟨xs, rfl, h2⟩ := moK_of h2
    obtain ⟨p', e3, q, n2⟩ := L2.sl i _ e2
    have : p' = p := by rw [e1] at e3; simpa using e3.symm
    subst this
    cases q with
    | dk hp q =>
      refine ⟨p', _, rfl, DPut.k (k := k) hp (by rw [q.length]; exact h2.1), ?_⟩
      exact en.nx w2 ms2 _ _ _ (le1.trans le2) (L2.updOwn e2 e1 (.dk upd_same (q.put (r1.mono le2)))) h2.2
end
end LA

set_option Elab.async false
set_option linter.all false
set_option maxRecDepth 100000
set_option maxHeartbeats 4000000
/-! LA8: constants, own ==, fields stored, errors, try, more walks. -/
namespace LA
open PySem PySem.Spec PyProof.Rows L2

theorem fc_nil {P : Str → Prop} : ∀ c ∈ ([] : List Str), P c := fun _ h => nomatch h
theorem fc_cons {P : Str → Prop} {c : Str} {cs : List Str} (h : P c) (r : ∀ c ∈ cs, P c) : ∀ x ∈ c :: cs, P x := fun x hx => by
  rcases List.mem_cons.mp hx with e | e
  · rw [e]; exact h
  · exact r x e
/-! ### the module's constants -/
/-- a tuple of texts of the module -/
def StrTup (K : PySem.W.Frag) (mg : Str → Option Value) (x : Str) (zs : List Str) : Prop := mg x = some (.ref (He.ga K x)) ∧ ∃ (o : Obj) (its : Array Value) (n : Nat), K.lookup (He.ga K x) = some o ∧ o.cls = .type "tuple" ∧ o.data = .seq its n ∧ its.size ≤ sizeLine ∧ Vals (zs.map V.str) its.toList
def strsB : List Str → List Value → Bool
  | [], [] => true
  | z :: zs, .str y _ :: r => decide (y = z) && strsB zs r
  | _, _ => false
theorem strsB_ok : ∀ {zs : List Str} {us : List Value}, strsB zs us = true → Vals (zs.map V.str) us
  | [], [], _ => .nil
  | z :: zs, .str y t :: r, h => by
    obtain ⟨h1, h2⟩ := He.ba (show (decide (y = z) && strsB zs r) = true from h)
    have := of_decide_eq_true h1
    subst this
    exact .cons ⟨t, rfl⟩ (strsB_ok h2)
  | [], _ :: _, h => by simp [strsB] at h
  | z :: zs, [], h => by simp [strsB] at h
  | z :: zs, .none :: r, h => by simp [strsB] at h
  | z :: zs, .bool _ :: r, h => by simp [strsB] at h
  | z :: zs, .int _ _ :: r, h => by simp [strsB] at h
  | z :: zs, .bytes _ _ :: r, h => by simp [strsB] at h
  | z :: zs, .float _ _ :: r, h => by simp [strsB] at h
  | z :: zs, .ref _ :: r, h => by simp [strsB] at h
  | z :: zs, .type _ :: r, h => by simp [strsB] at h
  | z :: zs, .builtin _ :: r, h => by simp [strsB] at h
  | z :: zs, .notImplemented :: r, h => by simp [strsB] at h
  | z :: zs, .ellipsis :: r, h => by simp [strsB] at h
def strTupB (K : PySem.W.Frag) (x : Str) (zs : List Str) : Bool := (He.Fa.glo x).ok K && (match K.lookup (He.ga K x) with
  | some ⟨.type "tuple", _, .seq its _, _⟩ => decide (its.size ≤ 1000) && strsB zs its.toList
  | _ => false)
theorem strTup_ok {K : PySem.W.Frag} {h : Heap} {mg : Str → Option Value} (X : K.In h) (G : h.Ns mainGlobals mg) {x : Str} {zs : List Str} (c : strTupB K x zs = true) : StrTup K mg x zs := by
  obtain ⟨h1, h2⟩ := He.ba c
  refine ⟨He.glo_ok X G h1, ?_⟩
  split at h2
  · rename_i dd its n sl e
    obtain ⟨h3, h4⟩ := He.ba h2
    exact ⟨_, its, n, e, rfl, rfl, Nat.le_trans (of_decide_eq_true h3) (by decide), strsB_ok h4⟩
  · cases h2
section
variable {X : Cx} {Wx : WXA} {x : Str} {pos : Pos}
/-- x in a tuple of texts of the module -/
theorem ae_inC {zs : List Str} {a : Expr} {ra : aE} {p : Pos} (hg : Gl X x) (h : StrTup X.K X.mg x zs) (ha : AE X Wx a ra) (hm : behindInMarks .In (.Name x p) = false) (hdb : (x == ("__debug__" : Str)) = false := by decide) : AE X Wx (.Compare a [.In] [.Name x p] pos) (aBin fIn ra (aC (.tup (zs.map D.str)))) :=
  PE.imp (pe_cmpR op_in_seq ha (pe_glob (v := .ref (He.ga X.K x)) hg h.1 rfl hdb) hm) fun σ H R ⟨B, w, ms, s, Q, E, L, h', hq, hx⟩ => ⟨B, w, ms, s, _, E, L, h', fun w1 ms1 H1 v d e1 L1 r1 h1 => by
    have h1 : fIn d (.tup (zs.map D.str)) fun z => Q z ms1 := h1
    exact ⟨_, _, rfl, .inr (.inr h.2), flat_rep r1 h1.1, flats_rep (K := X.K) (w := w1) (RepL.strs zs) h1.2.1, by rw [if_neg (by decide), inFlat_rep r1 h1.1 (RepL.strs zs) h1.2.1]; exact hq w1 ms1 H1 _ _ e1 L1 (.bl _) h1.2.2⟩, hx⟩
theorem at_inC {zs : List Str} {a : Expr} {ra : aE} {p : Pos} (hg : Gl X x) (h : StrTup X.K X.mg x zs) (ha : AE X Wx a ra) (hm : behindInMarks .In (.Name x p) = false) (hdb : (x == ("__debug__" : Str)) = false := by decide) : AT X Wx (.Compare a [.In] [.Name x p] pos) (aB (aBin fIn ra (aC (.tup (zs.map D.str))))) :=
  PT.imp (pt_cmpR op_in_seq ha (pe_glob (v := .ref (He.ga X.K x)) hg h.1 rfl hdb) hm) fun σ H R ⟨B, w, ms, s, Q, E, L, h', hq, hx⟩ => ⟨B, w, ms, s, _, E, L, h', fun w1 ms1 H1 v d e1 L1 r1 h1 => by
    have h1 : fIn d (.tup (zs.map D.str)) fun z => isB z fun c => Q c ms1 := h1
    exact ⟨_, _, rfl, .inr (.inr h.2), flat_rep r1 h1.1, flats_rep (K := X.K) (w := w1) (RepL.strs zs) h1.2.1, by rw [if_neg (by decide), inFlat_rep r1 h1.1 (RepL.strs zs) h1.2.1]; exact ⟨_, rfl, hq w1 ms1 H1 _ e1 L1 h1.2.2⟩⟩, hx⟩
theorem ae_gint {i : Int} (hg : Gl X x) (h : ∃ t, X.mg x = some (.int i t)) (hdb : (x == ("__debug__" : Str)) = false := by decide) : AE X Wx (.Name x pos) (aC (.int i)) := by
  obtain ⟨t, h⟩ := h
  exact ae_c (pe_glob (v := .int i) hg h ⟨t, rfl⟩ hdb) fun w => .int i
theorem ae_gstr {z : Str} (hg : Gl X x) (h : ∃ t, X.mg x = some (.str z t)) (hdb : (x == ("__debug__" : Str)) = false := by decide) : AE X Wx (.Name x pos) (aC (.str z)) := by
  obtain ⟨t, h⟩ := h
  exact ae_c (pe_glob (v := .str z) hg h ⟨t, rfl⟩ hdb) fun w => .str z
end

/-! ### own == -/
/-- what may stand to the right -/
def othD (c : Str) (y : D) (ms : MS) (k : Prop) : Prop := match y with
  | .int _ => k
  | .tup _ => k
  | .ins c' _ => c' = c ∧ k
  | .ptr i => match ms[i]? with
    | some (.ins c' _) => c' = c ∧ k
    | _ => False
  | _ => False
def NotFirst (K : PySem.W.Frag) (c : Str) : Prop := PySem.W.notFirst K (He.ga K c) (.type "int") = true ∧ PySem.W.notFirst K (He.ga K c) (.type "tuple") = true
def notFirstB (K : PySem.W.Frag) (c : Str) : Bool := PySem.W.notFirst K (He.ga K c) (.type "int") && PySem.W.notFirst K (He.ga K c) (.type "tuple")
theorem notFirst_ok {K : PySem.W.Frag} {c : Str} (h : notFirstB K c = true) : NotFirst K c := Bool.and_eq_true_iff.mp h
theorem oth_rep {K : PySem.W.Frag} {c : Str} {w : W} {ms : MS} {H : Hp} {v : V} {d : D} {k : Prop} (nf : NotFirst K c) (h0 : St0 K w ms H) (r : Rep K w v d) (h : othD c d ms k) : HX.Oth K (He.ga K c) H v ∧ k := by
  cases r with
  | int i => exact ⟨.int nf.1, h⟩
  | tup hs r1 => exact ⟨.tup (SqT.up h0 hs) nf.2, h⟩
  | ins h1 r1 =>
    obtain ⟨rfl, h⟩ := h
    exact ⟨.ins (h0.fh _ _ h1) (by simp [PySem.W.notFirst]), h⟩
  | @ptr a i h1 =>
    unfold othD at h
    dsimp only at h
    split at h
    · rename_i c' fs q
      obtain ⟨rfl, h⟩ := h
      obtain ⟨b, hb, rm⟩ := h0.ce _ _ q
      rw [h1] at hb; cases hb
      cases rm with
      | ins h2 r2 => exact ⟨.ins h2 (by simp [PySem.W.notFirst]), h⟩
    · exact h.elim
  | _ => exact False.elim h
def aEqO (c : Str) (S : ASp) (ra rb : aE) : aE := fun s ms Q E => ra s ms (fun x ms1 => rb s ms1 (fun y ms2 => isIns c x ms2 fun _ => othD c y ms2 (DoCall S [x, y] ms2 Q fun _ _ => False)) E) E
section
variable {X : Cx} {Wx : WXA} {a b : Expr} {ra rb : aE} {pos : Pos} {k : Nat} {c : Str} {ps : List Str} {S : ASp}
theorem eqO_ok (nf : NotFirst X.K c) {σ : L2.St} {H : Hp} {R : VK} (h : cE X.K Wx (aEqO c S ra rb) σ H R) : tOp (HX.rEqO c (spA X.K S) (fun _ => E0) X.K) (cE X.K Wx ra) (cE X.K Wx rb) σ H R := by
  obtain ⟨B, w, ms, s, Q, E, L, h, hq, hx⟩ := h
  refine two (X := X) L h hx fun w2 ms2 H2 v v2 d d2 e2 L2 r1 r2 h2 => ?_
  obtain ⟨p, dx, fs, ds, rfl, hH, rf, h2⟩ := isIns_rep (X := X) L2.s0 r1 h2
  obtain ⟨o, h2⟩ := oth_rep nf L2.s0 r2 h2
  exact ⟨p, dx, fs, rfl, hH, o, w2, ms2, _, Q, _, L2.s0, .cons r1 (.cons r2 .nil), h2.h, fun w' ms' H' v d le A rv q => hq w' ms' H' v d (e2.trans le) (L2.after le A) rv q, fun _ _ _ _ _ _ _ _ _ z => z.elim⟩
theorem ae_eqO (G : HX.GMe X.prog X.w X.K X.mg X.base c "__eq__" k ps (spA X.K S)) (nf : NotFirst X.K c) (hr : Room k X.A) (ha : AE X Wx a ra) (hb : AE X Wx b rb) : AE X Wx (.Compare a [.Eq] [b] pos) (aEqO c S ra rb) :=
  PE.imp (pe_cmpR (HX.op_eqO G hr) ha hb (nomark _)) fun σ H R h => eqO_ok (X := X) nf h
theorem at_eqO (G : HX.GMe X.prog X.w X.K X.mg X.base c "__eq__" k ps (spA X.K S)) (nf : NotFirst X.K c) (hr : Room k X.A) (ha : AE X Wx a ra) (hb : AE X Wx b rb) : AT X Wx (.Compare a [.Eq] [b] pos) (aB (aEqO c S ra rb)) :=
  PT.imp (pt_cmpR (HX.op_eqO G hr) ha hb (nomark _)) fun σ H R ⟨B, w, ms, s, Q, E, L, h, hq, hx⟩ => eqO_ok (X := X) nf (Wx := Wx) (S := S) ⟨B, w, ms, s, _, E, L, h, fun w1 ms1 H1 v d e1 L1 r1 h1 => by
    obtain ⟨c, rfl, rfl, q⟩ := isB_rep (X := X) r1 h1
    exact ⟨c, rfl, hq w1 ms1 H1 c e1 L1 q⟩, hx⟩
end

/-! ### fields stored -/
def moI (c : Str) (m : MO) (k : List (Str × D) → Prop) : Prop := match m with
  | .ins c' fs => c' = c ∧ k fs
  | _ => False
theorem moI_of {c : Str} {m : MO} {k : List (Str × D) → Prop} (h : moI c m k) : ∃ fs, m = .ins c fs ∧ k fs := by
  unfold moI at h
  split at h
  · obtain ⟨rfl, h⟩ := h; exact ⟨_, rfl, h⟩
  · exact h.elim
/-- self.f = e in an __init__ -/
def aFldO (c f : Str) (rv : aE) : aS := fun A s ms => ownAt 0 s fun m => moI c m fun _ => rv s ms (fun y ms1 => ownAt 0 s fun m => moI c m fun fs => fs.length < 900 ∧ A.nx (s.set 0 (some (.ow (.ins c (putD f y fs))))) ms1) fun x ms => A.ex x s ms
/-- o.f = e, o an object that changes -/
def aFldP (c f : Str) (ra rv : aE) : aS := fun A s ms => rv s ms (fun y ms1 => ra s ms1 (fun x ms2 => match x with
  | .ptr k => match ms2[k]? with
    | some (.ins c' fs) => c' = c ∧ fs.length < 900 ∧ A.nx s (ms2.set k (.ins c (putD f y fs)))
    | _ => False
  | _ => False) fun x ms => A.ex x s ms) fun x ms => A.ex x s ms
theorem nodup_at {l : List Addr} {i j : Nat} {x : Addr} (h : l.Nodup) (a : l[i]? = some x) (b : l[j]? = some x) : i = j := by
  obtain ⟨h1, e1⟩ := List.getElem?_eq_some_iff.mp a
  obtain ⟨h2, e2⟩ := List.getElem?_eq_some_iff.mp b
  exact (List.getElem_inj h).mp (e1.trans e2.symm)
theorem Lk.updCell {K : PySem.W.Frag} {ex : XI} {B : Bs ex} {w : W} {ms : MS} {s : ASt} {σ : L2.St} {H : Hp} {k : Nat} {a : Addr} {o : HO} {m : MO} (L : Lk K B w ms s σ H) (hk : k < ms.length) (ha : w.as[k]? = some a) (r : RepM K w (upd H a o) a m) : Lk K B w (ms.set k m) s σ (upd H a o) := by
  have am : a ∈ w.as := List.mem_of_getElem? ha
  refine ⟨⟨fun b u e => ?_, L.s0.nd, L.s0.na, fun j mj e => ?_, by simp [L.s0.ln]⟩, fun b u nb e => ?_, L.pre, L.bas, L.fz, L.len, fun i av e => ?_, L.dj, L.bf, L.sf⟩
  · rw [upd_ne (show b ≠ a from fun z => by rw [z, L.s0.na a am] at e; cases e)]; exact L.s0.fh b u e
  · by_cases h : k = j
    · subst h
      rw [List.getElem?_set_self hk] at e
      cases e
      exact ⟨a, ha, r⟩
    · rw [List.getElem?_set_ne h] at e
      obtain ⟨b, hb, rb⟩ := L.s0.ce j mj e
      refine ⟨b, hb, rb.mono (Le.refl _ _) fun u q => ?_⟩
      rw [upd_ne (show b ≠ a from fun z => h (nodup_at L.s0.nd ha (z ▸ hb)))]; exact q
  · rw [upd_ne (show b ≠ a from fun z => ?_)]
    · exact L.keep b u nb e
    · subst z
      rcases L.pre b am with q | q
      · exact nb q
      · rw [q] at e; cases e
  · have := L.sl i av e
    cases av with
    | fr d => exact this
    | ex x => exact this
    | ow mm =>
      obtain ⟨p, e1, r1, n1, n2, n3⟩ := this
      exact ⟨p, e1, r1.mono (Le.refl _ _) fun u q => by rw [upd_ne (show p ≠ a from fun z => n2 (z ▸ am))]; exact q, n1, n2, n3⟩
section
variable {X : Cx} {Wx : WXA} {o value : Expr} {ra rv : aE} {pos pos' : Pos} {c f : Str}
theorem as_fldO (T : Cls X.K (He.ga X.K c) ∧ NoAttr X.K (He.ga X.K c) f) (ho : PE X o (tVar 0)) (hv : AE X Wx value rv) (hs : swapsWith value (some (.Attribute o f pos')) pos.line X.env = pure false) : AS X Wx (.Assign [.Attribute o f pos'] value pos) (aFldO c f rv) :=
  PS.imp (ps_fld ho hv hs) fun De σ H ⟨B, w, ms, s, A, L, h, en⟩ => by
    obtain ⟨m, e0, h'⟩ := ownAt_of h
    obtain ⟨fs0, em, g⟩ := moI_of h'
    obtain ⟨p, e1, r0, n⟩ := L.sl 0 _ e0
    refine ⟨B, w, ms, s, _, _, L, g, fun w1 ms1 H1 y dy le1 L1 r1 h1 => ⟨_, e1, ?_⟩, en.px⟩
    obtain ⟨m, e2, h3⟩ := ownAt_of h1
    obtain ⟨fs, em2, h2⟩ := moI_of h3
    subst em2
    obtain ⟨p', e3, q, n2⟩ := L1.sl 0 _ e2
    have : p' = p := by rw [e1] at e3; simpa using e3.symm
    subst this
    cases q with
    | ins hp q =>
      refine ⟨p', _, _, _, rfl, hp, T.1, T.2, by rw [q.length]; have := h2.1; omega, ?_⟩
      exact en.nx w1 ms1 _ _ _ le1 (L1.updOwn e2 e1 (.ins upd_same (q.put r1))) h2.2
theorem as_fldP (T : Cls X.K (He.ga X.K c) ∧ NoAttr X.K (He.ga X.K c) f) (ho : AE X Wx o ra) (hv : AE X Wx value rv) (hs : swapsWith value (some (.Attribute o f pos')) pos.line X.env = pure false) : AS X Wx (.Assign [.Attribute o f pos'] value pos) (aFldP c f ra rv) :=
  PS.imp (ps_fld ho hv hs) fun De σ H ⟨B, w, ms, s, A, L, h, en⟩ => ⟨B, w, ms, s, _, _, L, h, fun w1 ms1 H1 y dy le1 L1 r1 h1 => ⟨B, w1, ms1, s, _, _, L1, h1, fun w2 ms2 H2 x dx le2 L2 r2 h2 => by
    cases r2 with
    | @ptr a k hk =>
      dsimp only at h2
      split at h2
      · rename_i c' fs e
        obtain ⟨rfl, hl, h2⟩ := h2
        obtain ⟨b, hb, rb⟩ := L2.s0.ce _ _ e
        rw [hk] at hb; cases hb
        cases rb with
        | ins hp q =>
          refine ⟨a, _, _, _, rfl, hp, T.1, T.2, by rw [q.length]; omega, ?_⟩
          exact en.nx w2 _ _ _ _ (le1.trans le2) (L2.updCell (List.getElem?_eq_some_iff.mp e).1 hk (.ins upd_same (q.put (r1.mono le2)))) h2
      · exact h2.elim
    | _ => exact False.elim h2, (en.le le1).px⟩, en.px⟩
end

/-! ### errors -/
def aRaise0 (c : Str) : aS := fun A s ms => A.ex (c, []) s ms
/-- c(e1, ..): the fields, the last first -/
def aRaise (c : Str) (fns : List Str) (rr : aA) : aS := fun A s ms => rr s ms (fun ds ms1 => ds.length = fns.length ∧ A.ex (c, (fns.zip ds).reverse) s ms1) fun x ms => A.ex x s ms
/-- an __init__ that stores its arguments -/
def spX (K : PySem.W.Frag) (c : Str) (fns : List Str) : Sp := fun vs H Q _ => ∃ a ws, vs = .ref a :: ws ∧ ws.length = fns.length ∧ H a = some (exo a (He.ga K c) none) ∧
  ∀ H2 dx, H dx = none → dx ≠ a → H2 a = some (exo a (He.ga K c) (some dx)) → H2 dx = some (exd dx ((fns.zip ws).reverse)) → (∀ b, b ≠ a → b ≠ dx → H2 b = H b) → Q .non H2
structure GEx (P : Program) (w : World) (K : PySem.W.Frag) (mg : Str → Option Value) (base : Heap) (c : Str) (k : Nat) (fns : List Str) : Prop where
  T : OexC K (He.ga K c)
  iC : PySem.W.findIn K (.ref (He.ga K c)) "__init__" = some (some (.ref (He.ma K (He.ga K c) "__init__")))
  tI : PySem.W.typeIn K (.ref (He.ma K (He.ga K c) "__init__")) = some (.type "function")
  gm : mg c = some (.ref (He.ga K c))
  fn : ∃ fd ps, FnOk P w K mg base (L2N.CX P w) k (He.ma K (He.ga K c) "__init__") fd ps (spX K c fns) ∧ Binds K fd ps []
section
variable {X : Cx} {Wx : WXA} {e : Expr} {es : List Expr} {rr : aA} {p pos pos' : Pos} {c : Str} {fns : List Str} {k : Nat}
theorem as_raise0 (hc : X.calm = true) (tk : L2N.Takes X Wx.w) (T : HX.ExK X.K X.mg c) (hg : Gl X c) (hdb : (c == ("__debug__" : Str)) = false := by decide) : AS X Wx (.Raise (some (.Call (.Name c p) [] [] pos)) none pos') (aRaise0 c) :=
  PS.imp (HX.ps_raise0 hc tk T hg hdb) fun De σ H ⟨B, w, ms, s, A, L, h, en⟩ => en.ex w ms H s σ _ _ _ (Le.refl _ _) L ⟨rfl, .inl ⟨rfl, rfl⟩⟩ h
theorem RepF.zip {K : PySem.W.Frag} {w : W} : ∀ {fns : List Str} {vs : List V} {ds : List D}, RepL K w vs ds → RepF K w (fns.zip vs) (fns.zip ds)
  | [], _, _, _ => by simp only [List.zip_nil_left]; exact .nil
  | f :: fns, _, _, .nil => by simp only [List.zip_nil_right]; exact .nil
  | f :: fns, _, _, .cons h r => by simp only [List.zip_cons_cons]; exact .cons h (RepF.zip r)
theorem RepF.app {K : PySem.W.Frag} {w : W} : ∀ {vs us : List (Str × V)} {ds es : List (Str × D)}, RepF K w vs ds → RepF K w us es → RepF K w (vs ++ us) (ds ++ es)
  | _, _, _, _, .nil, s => s
  | _, _, _, _, .cons h r, s => .cons h (RepF.app r s)
theorem RepF.rev {K : PySem.W.Frag} {w : W} : ∀ {vs : List (Str × V)} {ds : List (Str × D)}, RepF K w vs ds → RepF K w vs.reverse ds.reverse
  | _, _, .nil => .nil
  | _, _, .cons h r => by simp only [List.reverse_cons]; exact RepF.app (RepF.rev r) (.cons h .nil)
/-- c(e1, ..): an own error with an own __init__, its context none -/
theorem pmk_oexN {x : Str} {C fI : Addr} {kk0 : Nat} {fd : FuncData} {ps0 : List Str} {sp : Sp} {ta : TA} {e0 : Expr} {es0 : List Expr} {p0 pos0 : Pos} (T : OexC X.K C) (iC : PySem.W.findIn X.K (.ref C) "__init__" = some (some (.ref fI))) (tI : PySem.W.typeIn X.K (.ref fI) = some (.type "function"))
    (Fn : FnOk X.prog X.w X.K X.mg X.base (L2N.CX X.prog X.w) kk0 fI fd ps0 sp) (hr : Room (kk0 + 1) X.A) (hb : Binds X.K fd ps0 []) (hg : Gl X x) (hm : X.mg x = some (.ref C)) (ha : PA X (e0 :: es0) ta)
    (hdb : (x == ("__debug__" : Str)) = false := by decide) (he : starEach (e0 :: es0) X.env = (false, eval e0 X.env) :: starEach es0 X.env := by rfl) (hpl : (backTo pos0 (starEach es0 X.env)).any (·.1) = false := by rfl) :
    L2N.PMk X (.Call (.Name x p0) (e0 :: es0) [] pos0) (tMkO C sp [] ta) := by
  intro pins s σ H Q I h
  obtain ⟨nm, qn, N, bs, bm, sn, sub, ab, col, dd, k0, k1, k2, k3, k5, hC, hbm⟩ := T.cls
  refine wpAny_Call_Name_kw (ld_glob I hg hm ?_ hdb)
  refine PySem.W.callWith_K (h₀ := X.base) I.ok.mod.kin T.kC (thn (ha.run pos0 pins s σ H _ I h) fun us sA ⟨vs, HA, IA, rA, hz, qA⟩ => ⟨IA.kIn, ?_⟩) he hpl
  show wpAny _ _ (call (.ref C) us) _ _ _
  obtain ⟨hp, g, dr, tk, os⟩ := sA
  generalize ex : hp.objs.size + 1 = x1
  have le1 : hp.objs.size ≤ x1 := by omega
  have free1 : HA x1 = none := IA.hok.fresh le1
  have qB := qA x1 free1
  rw [List.append_nil] at qB
  generalize eh : (hp.push (PySem.W.kdv_tup us)).push (PySem.HandSPX.excO C hp.objs.size) = hB
  have keepB : ∀ b o, hp.get? b = some o → hB.get? b = some o := fun b o z => by rw [← eh]; exact Heap.get?_push_of_some _ (Heap.get?_push_of_some _ z)
  have atB : hB.get? x1 = some (PySem.HandSPX.excO C hp.objs.size) := by rw [← eh, ← ex]; heap_get
  have IB : Inv X pins σ (upd HA x1 (exo x1 C none)) ⟨hB, g, dr, tk, os⟩ := IA.laid (t' := tk) (a := x1) (o := exo x1 C none) (h' := hB) keepB le1 (exo_ok atB)
  have rB : Vals (V.ref x1 :: vs) (Value.ref x1 :: us) := .cons rfl rA
  have lenB : (Value.ref x1 :: us ++ []).length = ps0.length := by rw [List.append_nil, ← rB.length]; exact Fn.len _ _ _ _ qB
  have bind := hb ⟨hB, g, dr, tk, os⟩ (Value.ref x1 :: us) IB.kIn lenB
  rw [List.append_nil] at bind
  have few : us.length ≤ sizeLine := by rw [← Paired.length rA, sizeLine_eq]; omega
  refine wpAny_call (PySem.HandSPX.call_own F.excBase_ValueError (fun Y => PySem.HandSPX.refsVE_contains Y bm hbm) (IA.kIn _ _ hC) (PySem.W.looks_findIn IA.kIn iC) (fun self => PySem.W.bind_fn IA.kIn self tI) few ?_)
  rw [eh, ex]
  refine codeAny_mono (Fn.run _ X.stack _ _ ⟨Value.ref x1 :: us, []⟩ (Value.ref x1 :: us) _ _ (fun _ _ _ => False) (hr.make C us []) (IB.env0.make C us []) bind rB qB) fun r s' hq' => ?_
  match r, hq' with
  | .error er, hq' => exact HX.passLN (X := X) pins σ _ _ er s' IB hq'
  | .ok .next, hq' => exact False.elim hq'
  | .ok .brk, hq' => exact False.elim hq'
  | .ok .cont, hq' => exact False.elim hq'
  | .ok (.ret u), hq' =>
    obtain ⟨v, HC, osC, bareC, unC, hokC, rv, ev, d, fs, ea, ed, hd1, q2⟩ := hq'
    subst ev
    obtain ⟨hC2, gC, dC, tC2, oC⟩ := s'
    obtain ⟨t0, G, J, kG, ge, hoe, na⟩ := mk_end0 (d2 := dC) (t2 := tC2) IA le1 keepB unC hokC osC bareC ea ed hd1
    exact ⟨rv, ⟨x1, _, _, ⟨G, gC, dC, tC2, oC⟩, _, .ref C, some d, rfl, J, kG, ge, hoe, ⟨rfl, rfl, fun w z => by cases z; rfl⟩, rfl, rfl, na, rfl, bareC, raises_own T.exC T.tyC, q2⟩⟩
theorem as_raise (hc : X.calm = true) (tk : L2N.Takes X Wx.w) (G : GEx X.prog X.w X.K X.mg X.base c k fns) (hr : Room (k + 1) X.A) (ha : AA X Wx (e :: es) rr) (hfn : fns.length ≤ 900 := by decide) (hg : Gl X c := by rfl) (hdb : (c == ("__debug__" : Str)) = false := by decide)
    (he : starEach (e :: es) X.env = (false, eval e X.env) :: starEach es X.env := by rfl) (hpl : (backTo pos (starEach es X.env)).any (·.1) = false := by rfl) : AS X Wx (.Raise (some (.Call (.Name c p) (e :: es) [] pos)) none pos') (aRaise c fns rr) := by
  obtain ⟨fd, ps, F, b⟩ := G.fn
  refine PS.imp (L2N.ps_raise hc tk (pmk_oexN G.T G.iC G.tI F hr b hg G.gm ha hdb he hpl)) fun De σ H ⟨B, w, ms, s, A, L, h, en⟩ => ?_
  refine ⟨B, w, ms, s, _, _, L, h, fun w1 ms1 H1 vs ds e1 L1 r1 h1 => ⟨by rw [r1.length, h1.1]; omega, fun a hn => ?_⟩, en.px⟩
  have hl : vs.length = fns.length := r1.length.trans h1.1
  refine ⟨a, vs, by rw [List.append_nil], hl, upd_same, fun H2 dx hdx hne ha hd hk => ⟨rfl, dx, _, ha, hd, ?_, ?_⟩⟩
  · rw [upd_ne hne] at hdx; exact hdx
  · rw [upd_ne hne] at hdx
    have e : upd (del H2 a) dx (.xd ((fns.zip vs).reverse)) = upd H1 dx (.xd ((fns.zip vs).reverse)) := by
      funext b
      by_cases h1 : b = dx
      · rw [h1, upd_same, upd_same]
      · rw [upd_ne h1, upd_ne h1]
        by_cases h2 : b = a
        · rw [h2, del_same, hn]
        · rw [del_ne h2, hk b h2 h1, upd_ne h2]
    rw [e]
    have f := L1.fresh hdx
    refine en.ex _ ms1 _ s σ _ _ (c, (fns.zip ds).reverse) (e1.trans (Le.new f.1)) (L1.new hdx) ⟨rfl, .inr ⟨dx, _, rfl, upd_same, ?_⟩⟩ h1.2
    exact (RepF.zip (r1.mono (Le.new f.1))).rev
end
end LA

set_option Elab.async false
set_option linter.all false
set_option maxRecDepth 100000
set_option maxHeartbeats 4000000
/-! LA9: enumerate, range, texts walked; try. -/
namespace PySem
open Sem (wp)
open Builtin Builtin.Str
set_option maxHeartbeats 1000000 in
theorem LAmeets_enum1 {v : Value} {o : Obj} {H : Heap → Prop} (B : Begins v o H) :
    Meets (Builtin.«enumerate.__new__» ⟨[.type "enumerate", v], []⟩) (fun _ R s => H s.heap ∧
      R (.ok (.ret (.ref (s.heap.push o).objs.size))) { s with heap := (s.heap.push o).push { cls := .type "enumerate", data := .fields #[.none, .bool false, .ref s.heap.objs.size, rawInt 0, .none, .none] } }) :=
  .of_wp fun prog w A R s h => by
    obtain ⟨hp, g, d, tk, os⟩ := s; obtain ⟨h1, h⟩ := h
    have hsub := sub_enumerate
    have q1 : ∀ {A' : Around} {E : Value → Shared → Prop} {Q : Value → Shared → Prop}, Q (.ref hp.objs.size) ⟨hp.push o, g, d, tk, os⟩ → wpAny (model prog w) A' (pyIter v) Q E ⟨hp, g, d, tk, os⟩ :=
      fun q => B.iter prog w _ _ ⟨hp, g, d, tk, os⟩ _ h1 q
    wp_walk using q1
    refine wpAny_stack_any fun st => wpAny_pure ?_
    split
    · rename_i c _ _ _ _ _
      cases (c == Value.type "enumerate")
      · wp_walk using q1
        exact ⟨_, rfl, h⟩
      · wp_walk using q1
        exact ⟨_, rfl, h⟩
    · wp_walk using q1
      exact ⟨_, rfl, h⟩
end PySem
namespace LA
open PySem PySem.Spec PyProof.Rows L2
/-! ### enumerate(a tuple), enumerate(a text) -/
def IteT (K : PySem.W.Frag) (a : Addr) : It :=
  ⟨fun i H => ∃ (xs : List V) (x : V), SqT K H a xs ∧ xs[i]? = some x, fun i H v H' => ∃ T x, v = .ref T ∧ H T = none ∧ H' = upd H T (.tup [.int (i : Nat), x]) ∧ ∀ xs, SqT K H a xs → xs[i]? = some x, fun i H => ∃ xs : List V, SqT K H a xs ∧ xs.length = i⟩
theorem turn_enumT {P : Program} {w : World} {K : PySem.W.Frag} {elts : List Expr} {kk : Nat} {tpos : Pos} (a e it : Addr) :
    Turn P w K (.Tuple elts kk tpos) (IteT K a) [e, it] e (fun i h => (∃ old, IsEnum h e it ((i : Nat) : Int) old) ∧ h.IsTupleIter it a i ∧ e ≠ it) where
  mem := by simp
  obj := fun i h st b hb => by
    obtain ⟨⟨old, he⟩, ⟨o, ho, hc, hd⟩, _⟩ := st
    have e' : b = e ∨ b = it := by simpa using hb
    rcases e' with z | z
    · rw [z]; exact ⟨_, he, fun v q => nomatch q⟩
    · rw [z]; exact ⟨o, ho, fun v q => by rw [hd] at q; cases q⟩
  keep := fun i h h' st k => let ⟨⟨old, he⟩, hi, hne⟩ := st; ⟨⟨old, k e (by simp) _ he⟩, hi.at fun o q => k it (by simp) o q, hne⟩
  item := by
    intro X hP hw hK hc i pins s σ H E I hf st hg
    subst hP hw hK
    obtain ⟨⟨old, he⟩, hit, hne⟩ := st
    obtain ⟨xs, x, hq, hx⟩ := hg
    obtain ⟨its, rv, p, hz⟩ := I.tuple hq
    obtain ⟨u, hu, ru⟩ := rv.get hx
    have hel : e < s.heap.objs.size := Heap.lt_size he
    have hil : it < s.heap.objs.size := by obtain ⟨_, q, _⟩ := hit; exact Heap.lt_size q
    have hai : a ≠ it := fun z => by
      subst z
      obtain ⟨o, q1, c1, _⟩ := hit
      obtain ⟨o', q2, c2, _⟩ := p
      rw [q1] at q2; cases q2; rw [c1] at c2; exact absurd c2 (by decide)
    have hea : a ≠ e := fun z => by
      subst z
      obtain ⟨o', q2, c2, _⟩ := p
      rw [he] at q2; cases q2; exact absurd (Value.type.inj (show Value.type "enumerate" = Value.type "tuple" from c2)) (by decide)
    have hlt : i < its.toArray.size := by
      have := (List.getElem?_eq_some_iff.mp hu).1
      simpa using this
    refine wpAny_pyNext_enum_itemD (Draws.tuple (A := X.A.in1) (I.ok.hd hc) it a hai its.toArray) he ⟨hit, show s.heap.IsTuple a its.toArray from p⟩ hlt hne (by simp; exact ⟨hne, fun z => hea z.symm⟩) fun u' h' tk hP ho hst' hT hsz hk => ?_
    have eu : u' = u := by
      have q : its.toArray[i]? = some u := by simpa using hu
      rw [q] at hP; exact (Option.some.inj hP).symm
    subst eu
    refine ⟨_, rfl, wpAny_letOwnedTupleGo_enum (s := { s with heap := h', toks := tk + 1 }) ho fun h'' he' sb => ?_⟩
    have hT2 : h''.get? s.heap.objs.size = some { cls := .type "tuple", data := .seq #[.int i tk, u'] } := (sb.2 _ (Nat.ne_of_gt hel)).trans hT
    have new : ObjOk X.prog X.w (upd H s.heap.objs.size (.tup [.int (i : Nat), x])) h'' s.heap.objs.size (.tup [.int (i : Nat), x]) :=
      ⟨by show 2 ≤ sizeLine; decide, [.int i tk, u'], .cons ⟨_, rfl⟩ (.cons ru .nil), ⟨_, hT2, rfl, _, rfl⟩⟩
    have I1 : Inv X pins σ (upd H s.heap.objs.size (.tup [.int (i : Nat), x])) { s with heap := h'', toks := tk + 1 } :=
      I.turnedNew (ch := [e, it]) (fun b ob hb q => (sb.2 b (fun z => hb (by simp [z]))).trans (hk b ob (fun z => hb (by simp [z])) (fun z => hb (by simp [z])) q)) hf (Nat.le_refl _) new
    refine ⟨.ref s.heap.objs.size, _, I1, rfl, ⟨_, x, rfl, I.hok.fresh (Nat.le_refl _), rfl, fun ys hy => by rw [I.tuple_inj hy hq]; exact hx⟩, ⟨⟨u', ?_⟩, hst'.1.at fun o q => (sb.2 it (Ne.symm hne)).trans q, hne⟩, fun b hb => ?_⟩
    · have e1 : ((i + 1 : Nat) : Int) = (i : Int) + 1 := by omega
      rw [e1]; exact he'
    · have hb' : b < s.heap.objs.size := by
        have e' : b = e ∨ b = it := by simpa using hb
        rcases e' with z | z
        · rw [z]; exact hel
        · rw [z]; exact hil
      rw [upd_ne (Nat.ne_of_lt hb')]
      exact (hf b hb).1
  done := by
    intro X hP hw hK hc i pins s σ H E I hf st hg
    subst hP hw hK
    obtain ⟨⟨old, he⟩, hit, hne⟩ := st
    obtain ⟨xs, hq, hx⟩ := hg
    obtain ⟨its, rv, p, hz⟩ := I.tuple hq
    obtain ⟨f0, f1, f2, f3, f4, f5⟩ := hf it (by simp)
    have hl := rv.length
    have hai : a ≠ it := fun z => by
      subst z
      obtain ⟨o, q1, c1, _⟩ := hit
      obtain ⟨o', q2, c2, _⟩ := p
      rw [q1] at q2; cases q2; rw [c1] at c2; exact absurd c2 (by decide)
    have hs : its.toArray.size = i := by simp; omega
    subst hs
    exact wpAny_pyNext_enum_endD (Draws.tuple (A := X.A.in1) (I.ok.hd hc) it a hai its.toArray) he ⟨hit, show s.heap.IsTuple a its.toArray from p⟩ fun h' eb => ⟨rfl, I.turned (t' := s.toks) (fun b o hb q => eb b o hb q) f0 f1 f3 f4 f5⟩
  self := fun A i s Q E st h => let ⟨⟨_, he⟩, _⟩ := st; wpAny_pyIter_enum he h
/-- enumerate over a text -/
def IteS (z : Str) : It :=
  ⟨fun i _ => i < z.cps.size, fun i H v H' => ∃ T c, v = .ref T ∧ H T = none ∧ H' = upd H T (.tup [.int (i : Nat), .str ⟨#[c]⟩]) ∧ z.cps[i]? = some c, fun i _ => i = z.cps.size⟩
theorem turn_enumS {P : Program} {w : World} {K : PySem.W.Frag} {elts : List Expr} {kk : Nat} {tpos : Pos} (z : Str) (t : Tok) (e it : Addr) :
    Turn P w K (.Tuple elts kk tpos) (IteS z) [e, it] e (fun i h => (∃ old, IsEnum h e it ((i : Nat) : Int) old) ∧ h.IsStrIter it (strIterType z) z t i ∧ e ≠ it) where
  mem := by simp
  obj := fun i h st b hb => by
    obtain ⟨⟨old, he⟩, ⟨o, ho, hc, hd⟩, _⟩ := st
    have e' : b = e ∨ b = it := by simpa using hb
    rcases e' with z | z
    · rw [z]; exact ⟨_, he, fun v q => nomatch q⟩
    · rw [z]; exact ⟨o, ho, fun v q => by rw [hd] at q; cases q⟩
  keep := fun i h h' st k => by
    obtain ⟨⟨old, he⟩, ⟨o, ho, hr⟩, hne⟩ := st
    exact ⟨⟨old, k e (by simp) _ he⟩, ⟨o, k it (by simp) o ho, hr⟩, hne⟩
  item := by
    intro X hP hw hK hc i pins s σ H E I hf st hg
    subst hP hw hK
    obtain ⟨⟨old, he⟩, hit, hne⟩ := st
    have hel : e < s.heap.objs.size := Heap.lt_size he
    have hil : it < s.heap.objs.size := by obtain ⟨_, q, _⟩ := hit; exact Heap.lt_size q
    refine wpAny_pyNext_enum_itemD (Draws.text (A := X.A.in1) (I.ok.hd hc) it z t) he hit hg hne (by simp; exact hne) fun u' h' tk hP ho hst' hT hsz hk => ?_
    obtain ⟨c, tk2, hcp, rfl⟩ := hP
    refine ⟨_, rfl, wpAny_letOwnedTupleGo_enum (s := { s with heap := h', toks := tk + 1 }) ho fun h'' he' sb => ?_⟩
    have hT2 : h''.get? s.heap.objs.size = some { cls := .type "tuple", data := .seq #[.int i tk, .str ⟨#[c]⟩ tk2] } := (sb.2 _ (Nat.ne_of_gt hel)).trans hT
    have new : ObjOk X.prog X.w (upd H s.heap.objs.size (.tup [.int (i : Nat), .str ⟨#[c]⟩])) h'' s.heap.objs.size (.tup [.int (i : Nat), .str ⟨#[c]⟩]) :=
      ⟨by show 2 ≤ sizeLine; decide, [.int i tk, .str ⟨#[c]⟩ tk2], .cons ⟨_, rfl⟩ (.cons ⟨_, rfl⟩ .nil), ⟨_, hT2, rfl, _, rfl⟩⟩
    have I1 : Inv X pins σ (upd H s.heap.objs.size (.tup [.int (i : Nat), .str ⟨#[c]⟩])) { s with heap := h'', toks := tk + 1 } :=
      I.turnedNew (ch := [e, it]) (fun b ob hb q => (sb.2 b (fun z => hb (by simp [z]))).trans (hk b ob (fun z => hb (by simp [z])) (fun z => hb (by simp [z])) q)) hf (Nat.le_refl _) new
    refine ⟨.ref s.heap.objs.size, _, I1, rfl, ⟨_, c, rfl, I.hok.fresh (Nat.le_refl _), rfl, hcp⟩, ⟨⟨.str ⟨#[c]⟩ tk2, ?_⟩, ?_, hne⟩, fun b hb => ?_⟩
    · have e1 : ((i + 1 : Nat) : Int) = (i : Int) + 1 := by omega
      rw [e1]; exact he'
    · obtain ⟨o, ho, hr⟩ := hst'
      exact ⟨o, (sb.2 it (Ne.symm hne)).trans ho, hr⟩
    · have hb' : b < s.heap.objs.size := by
        have e' : b = e ∨ b = it := by simpa using hb
        rcases e' with z | z
        · rw [z]; exact hel
        · rw [z]; exact hil
      rw [upd_ne (Nat.ne_of_lt hb')]
      exact (hf b hb).1
  done := by
    intro X hP hw hK hc i pins s σ H E I hf st hg
    subst hP hw hK
    obtain ⟨⟨old, he⟩, hit, hne⟩ := st
    obtain ⟨f0, f1, f2, f3, f4, f5⟩ := hf it (by simp)
    have hs : i = z.cps.size := hg
    subst hs
    exact wpAny_pyNext_enum_endD (Draws.text (A := X.A.in1) (I.ok.hd hc) it z t) he hit fun h' eb => ⟨rfl, I.turned (t' := s.toks) (fun b o hb q => eb b o hb q) f0 f1 f3 f4 f5⟩
  self := fun A i s Q E st h => let ⟨⟨_, he⟩, _⟩ := st; wpAny_pyIter_enum he h
/-- enumerate(a list, a tuple, a text) -/
def iEnumX (K : PySem.W.Frag) (ta : TA) : TI := fun σ H R => ta σ H fun vs H1 => (∃ a, vs = [.ref a] ∧ ((∃ xs, SqL K H1 a xs) ∧ R (Ite K a) H1 ∨ (∃ xs, SqT K H1 a xs) ∧ R (IteT K a) H1)) ∨ ∃ z, vs = [.str z] ∧ R (IteS z) H1
theorem call_enum_tuple {prog : Program} {w : World} {A : Around} {E : Value → Shared → Prop} {s : Shared} {l : Addr} {items : Array Value} {Q : Value → Shared → Prop} (hL : s.heap.IsTuple l items)
    (h : ∀ h', IsEnum h' (s.heap.objs.size + 1) s.heap.objs.size 0 .none → h'.IsTupleIter s.heap.objs.size l 0 → h'.objs.size = s.heap.objs.size + 2 →
      (∀ b o, s.heap.get? b = some o → h'.get? b = some o) → Q (.ref (s.heap.objs.size + 1)) { s with heap := h' }) :
    wpAny (model prog w) A (call (.type "enumerate") [.ref l]) Q E s := by
  refine callType_new PySem.F.called_enumerate (by decide) (PySem.F.typeCall_enumerate_1 _) (PySem.F.newCall_enumerate_1 _) (fun obj => PySem.F.args_object_init_2 obj _) PySem.F.entry_enumerate_new
    (LAmeets_enum1 (begins_tuple l items)) ⟨hL, ?_⟩
  have hz : (s.heap.push { cls := .type "tuple_iterator", data := .fields #[.ref l, .int 0 0] }).objs.size = s.heap.objs.size + 1 := Heap.size_push ..
  show _ ∧ _
  rw [hz]
  have he : IsEnum ((s.heap.push { cls := .type "tuple_iterator", data := .fields #[.ref l, .int 0 0] }).push
      { cls := .type "enumerate", data := .fields #[.none, .bool false, .ref s.heap.objs.size, rawInt 0, .none, .none] }) (s.heap.objs.size + 1) s.heap.objs.size 0 .none := by
    have := Heap.get?_push_size (s.heap.push { cls := .type "tuple_iterator", data := .fields #[.ref l, .int 0 0] })
      (o := { cls := .type "enumerate", data := .fields #[.none, .bool false, .ref s.heap.objs.size, rawInt 0, .none, .none] }) rfl
    rw [hz] at this; exact this
  refine ⟨⟨_, he, rfl⟩, h _ he ⟨_, Heap.get?_push_of_some _ (Heap.get?_push_size _ rfl), rfl, rfl⟩ (by rw [Heap.size_push, hz]) fun b o x => Heap.get?_push_of_some _ (Heap.get?_push_of_some _ x)⟩
theorem pi_enumX {X : Cx} {e : Expr} {ta : TA} {p pos tpos : Pos} {elts : List Expr} {kk : Nat} (hg : Gl X "enumerate") (hm : X.mg "enumerate" = none) (ha : PA X [e] ta) (hs : starEach [e] X.env = [(false, eval e X.env)] := by rfl) :
    PI X (.Tuple elts kk tpos) (.Call (.Name "enumerate" p) [e] [] pos) (iEnumX X.K ta) := by
  refine ⟨fun pins s σ H R I h => ?_⟩
  refine Call_ (ld_blt I hg hm boot_enumerate (PyProof.Rows.callWith_type1 (thn (ha.run pos pins s σ H _ I h) fun us s1 ⟨vs, H1, I1, r1, q1⟩ => ?_) hs rfl))
  have hle : ∀ b, b ∈ [s1.heap.objs.size + 1, s1.heap.objs.size] → s1.heap.objs.size ≤ b := fun b hb => by
    have e' : b = s1.heap.objs.size + 1 ∨ b = s1.heap.objs.size := by simpa using hb
    rcases e' with z | z
    · rw [z]; exact Nat.le_add_right _ _
    · rw [z]; exact Nat.le_refl _
  rcases q1 with ⟨a, ex, q1⟩ | ⟨z, ex, q⟩
  · subst ex
    cases r1 with
    | cons r rr =>
      cases rr
      cases r
      rcases q1 with ⟨⟨xs, hq⟩, q⟩ | ⟨⟨xs, hq⟩, q⟩
      · obtain ⟨its, rv, p', hz⟩ := I1.list hq
        refine call_enumerate_list p'.isList fun h' he hit hsz hk => wpAny_pyIter_enum he ?_
        have I2 : Inv X pins σ H1 { s1 with heap := h' } := I1.kept (t' := s1.toks) hk
        exact ⟨s1.heap.objs.size + 1, [s1.heap.objs.size + 1, s1.heap.objs.size], _, _, H1, rfl, I2, turn_enum a (s1.heap.objs.size + 1) s1.heap.objs.size, ⟨⟨.none, he⟩, hit, Nat.succ_ne_self _⟩, fun b hb => I1.fpOk (hle b hb) (I1.hok.fresh (hle b hb)), q⟩
      · obtain ⟨its, rv, p', hz⟩ := I1.tuple hq
        refine call_enum_tuple (show s1.heap.IsTuple a its.toArray from p') fun h' he hit hsz hk => wpAny_pyIter_enum he ?_
        have I2 : Inv X pins σ H1 { s1 with heap := h' } := I1.kept (t' := s1.toks) hk
        exact ⟨s1.heap.objs.size + 1, [s1.heap.objs.size + 1, s1.heap.objs.size], _, _, H1, rfl, I2, turn_enumT a (s1.heap.objs.size + 1) s1.heap.objs.size, ⟨⟨.none, he⟩, hit, Nat.succ_ne_self _⟩, fun b hb => I1.fpOk (hle b hb) (I1.hok.fresh (hle b hb)), q⟩
  · subst ex
    cases r1 with
    | cons r rr =>
      cases rr
      obtain ⟨t, rfl⟩ := r
      refine call_enumerate_str fun h' he hit hsz hk => wpAny_pyIter_enum he ?_
      have I2 : Inv X pins σ H1 { s1 with heap := h' } := I1.kept (t' := s1.toks) hk
      exact ⟨s1.heap.objs.size + 1, [s1.heap.objs.size + 1, s1.heap.objs.size], _, _, H1, rfl, I2, turn_enumS z t (s1.heap.objs.size + 1) s1.heap.objs.size, ⟨⟨.none, he⟩, hit, Nat.succ_ne_self _⟩, fun b hb => I1.fpOk (hle b hb) (I1.hok.fresh (hle b hb)), q⟩

/-! ### walks by data -/
/-- a text's signs -/
def signs (z : Str) : List D := z.cps.toList.map fun c => .str ⟨#[c]⟩
/-- with their places -/
def enumD (i : Nat) : List D → List D
  | [] => []
  | d :: ds => .tup [.int (i : Nat), d] :: enumD (i + 1) ds
theorem enumD_length : ∀ (ds : List D) (i : Nat), (enumD i ds).length = ds.length
  | [], _ => rfl
  | _ :: ds, i => by simp [enumD, enumD_length ds (i + 1)]
theorem enumD_at : ∀ (ds : List D) (i j : Nat), (enumD i ds)[j]? = ds[j]?.map fun d => .tup [.int ((i + j : Nat) : Int), d]
  | [], _, _ => by simp [enumD]
  | d :: ds, i, 0 => by simp [enumD]
  | d :: ds, i, j + 1 => by
    simp only [enumD, List.getElem?_cons_succ]
    rw [enumD_at ds (i + 1) j]
    have : i + 1 + j = i + (j + 1) := by omega
    rw [this]
/-- 0, 1, .. below n -/
def rangeD (lo : Int) (n : Nat) : List D := (List.range n).map fun i => .int (lo + (i : Nat))
def aSigns (ra : aE) : aI := fun s ms Q E => ra s ms (fun x ms1 => match x with
  | .str z => Q (signs z) ms1
  | _ => False) E
def aEnum (ra : aE) : aI := fun s ms Q E => ra s ms (fun x ms1 => match x with
  | .lst ds => Q (enumD 0 ds) ms1
  | .tup ds => Q (enumD 0 ds) ms1
  | .str z => Q (enumD 0 (signs z)) ms1
  | _ => False) E
def aRange1 (ra : aE) : aI := fun s ms Q E => ra s ms (fun x ms1 => match x with
  | .int j => -(2 ^ 62) ≤ j ∧ j < 2 ^ 62 ∧ Q (rangeD 0 j.toNat) ms1
  | _ => False) E
def aRange2 (ra rb : aE) : aI := fun s ms Q E => ra s ms (fun x ms1 => rb s ms1 (fun y ms2 => match x, y with
  | .int i, .int j => -(2 ^ 62) ≤ i ∧ i < 2 ^ 62 ∧ -(2 ^ 62) ≤ j ∧ j < 2 ^ 62 ∧ Q (rangeD i (j - i).toNat) ms2
  | _, _ => False) E) E
section
variable {X : Cx} {Wx : WXA} {tg e e2 : Expr} {ra rb : aE} {p pos tpos : Pos} {elts : List Expr} {kk : Nat}
theorem walk_s {K : PySem.W.Frag} {w : W} {z : Str} : WalkA K w (Its z) (signs z) := by
  have hl : (signs z).length = z.cps.size := by simp [signs]
  refine ⟨fun B w1 ms s σ H i le L hi => by rw [hl] at hi; exact hi, fun B w1 ms s σ H le L => by rw [hl]; exact Nat.le_refl _, fun B w1 ms s σ H i d x H' le L hd y => ?_⟩
  obtain ⟨rfl, c, hc, rfl⟩ := y
  refine ⟨w1, Le.refl _ _, L, ?_⟩
  have : d = .str ⟨#[c]⟩ := by
    unfold signs at hd
    rw [List.getElem?_map] at hd
    have e : z.cps.toList[i]? = some c := by simpa using hc
    rw [e] at hd; exact (Option.some.inj hd).symm
  subst this
  exact .str _
theorem ai_str (h : AE X Wx e ra) : AI X Wx tg e (aSigns ra) :=
  PI.imp (pi_str h) fun σ H R ⟨B, w, ms, s, Q, E, L, h, hq, hx⟩ => ⟨B, w, ms, s, _, E, L, h, fun w1 ms1 H1 v d e1 L1 r1 h1 => by
    cases r1 with
    | str z => exact ⟨z, rfl, hq w1 ms1 H1 _ _ e1 L1 walk_s h1⟩
    | _ => exact False.elim h1, hx⟩
theorem newPair {K : PySem.W.Frag} {ex : XI} {B : Bs ex} {w1 : W} {ms : MS} {s : ASt} {σ : L2.St} {H : Hp} {T : Addr} {i : Nat} {x : V} {d : D} (L : Lk K B w1 ms s σ H) (hT : H T = none) (r : Rep K w1 x d) :
    ∃ w2, Le K w1 w2 ∧ Lk K B w2 ms s σ (upd H T (.tup [.int (i : Nat), x])) ∧ Rep K w2 (.ref T) (.tup [.int (i : Nat), d]) :=
  let f := L.fresh hT
  ⟨_, Le.new f.1, L.new hT, .tup upd_same (.cons (.int _) (.cons (r.mono (Le.new f.1)) .nil))⟩
theorem walk_enL {K : PySem.W.Frag} {w : W} {a : Addr} {vs : List V} {ds : List D} (h : w.F a = some (.lst vs)) (r : RepL K w vs ds) : WalkA K w (Ite K a) (enumD 0 ds) := by
  have hl := r.length
  have hS : ∀ {ex : XI} {B : Bs ex} {w1 ms s σ H}, Le K w w1 → Lk K B w1 ms s σ H → SqL K H a vs := fun le L => SqL.of (L.s0.fh _ _ (le.l _ _ h))
  refine ⟨fun B w1 ms s σ H i le L hi => ?_, fun B w1 ms s σ H le L => ⟨vs, hS le L, by rw [enumD_length]; omega⟩, fun B w1 ms s σ H i d x H' le L hd y => ?_⟩
  · rw [enumD_length] at hi
    exact ⟨vs, vs[i]'(by omega), hS le L, by simp [hl, hi]⟩
  · obtain ⟨T, u, rfl, hT, rfl, hu⟩ := y
    rw [enumD_at] at hd
    cases e : ds[i]? with
    | none => rw [e] at hd; cases hd
    | some d0 =>
      rw [e] at hd
      obtain ⟨v, hv, rv⟩ := r.get e
      have := hu vs (hS le L)
      rw [hv] at this; cases this
      have hd := Option.some.inj hd
      subst hd
      have := newPair (i := i) L hT (rv.mono le)
      simpa using this
theorem walk_enT {K : PySem.W.Frag} {w : W} {a : Addr} {vs : List V} {ds : List D} (h : w.F a = some (.tup vs)) (r : RepL K w vs ds) : WalkA K w (IteT K a) (enumD 0 ds) := by
  have hl := r.length
  have hS : ∀ {ex : XI} {B : Bs ex} {w1 ms s σ H}, Le K w w1 → Lk K B w1 ms s σ H → SqT K H a vs := fun le L => SqT.up L.s0 (le.t _ _ h)
  refine ⟨fun B w1 ms s σ H i le L hi => ?_, fun B w1 ms s σ H le L => ⟨vs, hS le L, by rw [enumD_length]; omega⟩, fun B w1 ms s σ H i d x H' le L hd y => ?_⟩
  · rw [enumD_length] at hi
    exact ⟨vs, vs[i]'(by omega), hS le L, by simp [hl, hi]⟩
  · obtain ⟨T, u, rfl, hT, rfl, hu⟩ := y
    rw [enumD_at] at hd
    cases e : ds[i]? with
    | none => rw [e] at hd; cases hd
    | some d0 =>
      rw [e] at hd
      obtain ⟨v, hv, rv⟩ := r.get e
      have := hu vs (hS le L)
      rw [hv] at this; cases this
      have hd := Option.some.inj hd
      subst hd
      have := newPair (i := i) L hT (rv.mono le)
      simpa using this
theorem walk_enS {K : PySem.W.Frag} {w : W} {z : Str} : WalkA K w (IteS z) (enumD 0 (signs z)) := by
  have hl : (enumD 0 (signs z)).length = z.cps.size := by rw [enumD_length]; simp [signs]
  refine ⟨fun B w1 ms s σ H i le L hi => by rw [hl] at hi; exact hi, fun B w1 ms s σ H le L => hl, fun B w1 ms s σ H i d x H' le L hd y => ?_⟩
  obtain ⟨T, c, rfl, hT, rfl, hc⟩ := y
  rw [enumD_at] at hd
  have e : (signs z)[i]? = some (.str ⟨#[c]⟩) := by
    unfold signs
    rw [List.getElem?_map]
    have e : z.cps.toList[i]? = some c := by simpa using hc
    rw [e]; rfl
  rw [e] at hd
  have hd := Option.some.inj hd
  subst hd
  have := newPair (i := i) L hT (.str ⟨#[c]⟩)
  simpa using this
theorem ai_enum (hg : Gl X "enumerate") (hm : X.mg "enumerate" = none) (h : AE X Wx e ra) (hs : starEach [e] X.env = (false, eval e X.env) :: starEach [] X.env := by rfl) : AI X Wx (.Tuple elts kk tpos) (.Call (.Name "enumerate" p) [e] [] pos) (aEnum ra) :=
  PI.imp (pi_enumX hg hm (pa_cons h pa_nil hs) hs) fun σ H R ⟨B, w, ms, s, Q, E, L, h, hq, hx⟩ => ⟨B, w, ms, s, _, E, L, h, fun w1 ms1 H1 v d e1 L1 r1 h1 => by
    cases r1 with
    | lst hf rl => exact .inl ⟨_, rfl, .inl ⟨⟨_, SqL.up L1.s0 hf⟩, hq w1 ms1 H1 _ _ e1 L1 (walk_enL hf rl) h1⟩⟩
    | tup hf rl => exact .inl ⟨_, rfl, .inr ⟨⟨_, SqT.up L1.s0 hf⟩, hq w1 ms1 H1 _ _ e1 L1 (walk_enT hf rl) h1⟩⟩
    | str z => exact .inr ⟨z, rfl, hq w1 ms1 H1 _ _ e1 L1 walk_enS h1⟩
    | _ => exact False.elim h1, hx⟩
theorem walk_r {K : PySem.W.Frag} {w : W} {lo : Int} {n : Nat} : WalkA K w (Itr lo n) (rangeD lo n) := by
  have hl : (rangeD lo n).length = n := by simp [rangeD]
  refine ⟨fun B w1 ms s σ H i le L hi => by rw [hl] at hi; exact hi, fun B w1 ms s σ H le L => by rw [hl]; exact Nat.le_refl _, fun B w1 ms s σ H i d x H' le L hd y => ?_⟩
  obtain ⟨rfl, rfl⟩ := y
  refine ⟨w1, Le.refl _ _, L, ?_⟩
  have hi : i < n := by have := (List.getElem?_eq_some_iff.mp hd).1; rw [hl] at this; exact this
  have : d = .int (lo + (i : Nat)) := by
    unfold rangeD at hd
    rw [List.getElem?_map, List.getElem?_range hi] at hd
    exact (Option.some.inj hd).symm
  subst this
  exact .int _
theorem ai_range1 (hg : Gl X "range") (hm : X.mg "range" = none) (h : AE X Wx e ra) (hs : starEach [e] X.env = (false, eval e X.env) :: starEach [] X.env := by rfl) : AI X Wx tg (.Call (.Name "range" p) [e] [] pos) (aRange1 ra) :=
  PI.imp (pi_range1 hg hm (pa_cons h pa_nil hs) hs) fun σ H R ⟨B, w, ms, s, Q, E, L, h, hq, hx⟩ => ⟨B, w, ms, s, _, E, L, h, fun w1 ms1 H1 v d e1 L1 r1 h1 => by
    cases r1 with
    | int j => exact ⟨j, rfl, h1.1, h1.2.1, hq w1 ms1 H1 _ _ e1 L1 walk_r h1.2.2⟩
    | _ => exact False.elim h1, hx⟩
theorem ai_range2 (hg : Gl X "range") (hm : X.mg "range" = none) (ha : AE X Wx e ra) (hb : AE X Wx e2 rb) (hs : starEach [e, e2] X.env = (false, eval e X.env) :: starEach [e2] X.env := by rfl) (hs2 : starEach [e2] X.env = (false, eval e2 X.env) :: starEach [] X.env := by rfl) : AI X Wx tg (.Call (.Name "range" p) [e, e2] [] pos) (aRange2 ra rb) :=
  PI.imp (pi_range2 hg hm (pa_cons ha (pa_cons hb pa_nil hs2) hs) (hs.trans (congrArg _ hs2)) hs2) fun σ H R ⟨B, w, ms, s, Q, E, L, h, hq, hx⟩ => two (X := X) (P := fun x y ms2 => match x, y with
  | .int i, .int j => -(2 ^ 62) ≤ i ∧ i < 2 ^ 62 ∧ -(2 ^ 62) ≤ j ∧ j < 2 ^ 62 ∧ Q (rangeD i (j - i).toNat) ms2
  | _, _ => False) L h hx fun w2 ms2 H2 v v2 d d2 e2 L2 r1 r2 h2 => by
    cases r1 with
    | int i => cases r2 with
      | int j => exact ⟨i, j, rfl, ⟨h2.1, h2.2.1, h2.2.2.1, h2.2.2.2.1⟩, hq w2 ms2 H2 _ _ e2 L2 walk_r h2.2.2.2.2⟩
      | _ => exact False.elim h2
    | _ => exact False.elim h2
end
end LA

set_option Elab.async false
set_option linter.all false
set_option maxRecDepth 100000
set_option maxHeartbeats 4000000
/-! LA10: try. -/
namespace LA
open PySem PySem.Spec PyProof.Rows L2

/-- the slots without the error that was handled -/
def clr (s : ASt) : ASt := s.map fun o => match o with
  | some (.ex _) => none
  | o => o
theorem clr_some {s : ASt} {i : Nat} {av : AV} (h : (clr s)[i]? = some (some av)) : s[i]? = some (some av) ∧ ∀ x, av ≠ .ex x := by
  unfold clr at h
  rw [List.getElem?_map] at h
  cases e : s[i]? with
  | none => rw [e] at h; cases h
  | some o =>
    rw [e] at h
    cases o with
    | none => cases h
    | some v =>
      cases v with
      | fr d => cases h; exact ⟨rfl, fun _ z => nomatch z⟩
      | ow m => cases h; exact ⟨rfl, fun _ z => nomatch z⟩
      | ex x => cases h
/-- another base with the same heap -/
def Bs.as' {ex ex' : XI} (B : Bs ex) : Bs ex' := ⟨B.H, B.as, B.F, B.self⟩
theorem Lk.rebase {K : PySem.W.Frag} {ex ex' : XI} {B : Bs ex} {w : W} {ms : MS} {s : ASt} {σ : L2.St} {H : Hp} (L : Lk K B w ms s σ H) : Lk K (B.as' : Bs ex') w ms (clr s) σ H :=
  ⟨L.s0, L.keep, L.pre, L.bas, L.fz, by unfold clr; rw [List.length_map]; exact L.len, fun i av h => by
    obtain ⟨h1, h2⟩ := clr_some h
    have := L.sl i av h1
    cases av with
    | fr d => exact this
    | ow m => exact this
    | ex x => exact absurd rfl (h2 x),
   fun i j p mi mj h1 h2 => L.dj i j p mi mj (clr_some h1).1 (clr_some h2).1, L.bf, fun x m hx h => L.sf x m hx (clr_some h).1⟩
theorem Lk.unset {K : PySem.W.Frag} {ex : XI} {B : Bs ex} {w : W} {ms : MS} {s : ASt} {σ : L2.St} {H : Hp} (L : Lk K B w ms s σ H) (i : Nat) (o : Option V) : Lk K B w ms (s.set i none) (σ.set i o) H := by
  have ne : ∀ {j : Nat} {av : AV}, (s.set i none)[j]? = some (some av) → i ≠ j := fun {j av} e z => by
    subst z
    have hl : i < s.length := by have := (List.getElem?_eq_some_iff.mp e).1; simpa using this
    rw [List.getElem?_set_self hl] at e; cases e
  refine ⟨L.s0, L.keep, L.pre, L.bas, L.fz, by simp [L.len], fun j av h => ?_, fun j k p mi mj h1 h2 h3 h4 => ?_, L.bf, fun x m hx h => ?_⟩
  · have n := ne h
    rw [List.getElem?_set_ne n] at h
    have := L.sl j av h
    cases av with
    | fr d => obtain ⟨v, a, b⟩ := this; exact ⟨v, by rw [List.getElem?_set_ne n]; exact a, b⟩
    | ow m => obtain ⟨p, a, b⟩ := this; exact ⟨p, by rw [List.getElem?_set_ne n]; exact a, b⟩
    | ex x => obtain ⟨a, c, d, e0, e1, r⟩ := this; exact ⟨a, c, d, e0, by rw [List.getElem?_set_ne n]; exact e1, r⟩
  · have n1 := ne h1
    have n2 := ne h2
    rw [List.getElem?_set_ne n1] at h1 h3
    rw [List.getElem?_set_ne n2] at h2 h4
    exact L.dj j k p mi mj h1 h2 h3 h4
  · have n := ne h
    rw [List.getElem?_set_ne n] at h ⊢
    exact L.sf x m hx h
/-- an except clause: its class, which classes it takes, its name's slot, its suite -/
structure ACl where
  c : Str
  tbl : List (Str × Bool)
  sl : Option Nat
  su : aS
/-- the ends behind a suite -/
def suA (A : AEnds) (sl : Option Nat) : AEnds := { nx := fun s ms => A.nx (clr (match sl with | some i => s.set i none | none => s)) ms, rt := A.rt, bk := fun s ms => A.bk (clr (match sl with | some i => s.set i none | none => s)) ms, ct := fun s ms => A.ct (clr (match sl with | some i => s.set i none | none => s)) ms }
def aCls (A : AEnds) (x : XD) (s : ASt) (ms : MS) : List ACl → Prop
  | [] => A.ex x s ms
  | h :: r => gotI (h.tbl.lookup x.1) fun b => Br b (fun ms => h.su (suA A h.sl) (match h.sl with | some i => s.set i (some (.ex x)) | none => s) ms) (fun ms => aCls A x s ms r) ms
def aTry (tb : aS) (hs : List ACl) : aS := fun A s ms => tb { A with ex := fun x s' ms' => aCls A x s' ms' hs } s ms
section
variable {X : Cx} {Wq : WX}
/-- a clause's reading, as the try rule takes it -/
def clOf (K : PySem.W.Frag) (h : ACl) : HX.Cl := (.ref (He.ga K h.c), h.sl, fun a cls d => fun De σ H => ∃ B : Bs (some (a, cls, d)), ∃ w ms s A, Lk K B w ms s σ H ∧ h.su A s ms ∧ EndsR K B w ⟨fun _ _ _ _ => False, some (a, cls, d)⟩ A De)
inductive AHds (X : Cx) : List ExceptHandler → List ACl → Prop
  | nil : AHds X [] []
  | plain {x : Str} {tbl : List (Str × Bool)} {su : aS} {b0 : Stmt} {sts : List Stmt} {np p : Pos} {hds : List ExceptHandler} {l : List ACl} (hg : Gl X x) (hdb : (x == ("__debug__" : Str)) = false) (hm : X.mg x = some (.ref (He.ga X.K x)))
      (ht : ∀ q ∈ tbl, PySem.W.exmOne X.K (.ref (He.ga X.K q.1)) (.ref (He.ga X.K x)) = some q.2)
      (hsu : ∀ (a : Addr) (oe : Obj) (cls : Value) (d : Option Addr) (pn : List (Addr × Obj)), L2N.Zn cls d oe → (∃ vs, oe.data = .fields vs) → ASs (X.suite a ((a, oe) :: pn)) ⟨fun _ _ _ _ => False, some (a, cls, d)⟩ (b0 :: sts) su) (r : AHds X hds l) :
      AHds X (.ExceptHandler (some (.Name x np)) none (b0 :: sts) p :: hds) (⟨x, tbl, none, su⟩ :: l)
  | named {x n : Str} {i : Nat} {tbl : List (Str × Bool)} {su : aS} {b0 : Stmt} {sts : List Stmt} {np p : Pos} {hds : List ExceptHandler} {l : List ACl} (hi : X.N[i]? = some n) (hl : X.env.kindOf n = some .local) (hg : Gl X x) (hdb : (x == ("__debug__" : Str)) = false) (hm : X.mg x = some (.ref (He.ga X.K x)))
      (ht : ∀ q ∈ tbl, PySem.W.exmOne X.K (.ref (He.ga X.K q.1)) (.ref (He.ga X.K x)) = some q.2)
      (hsu : ∀ (a : Addr) (oe : Obj) (cls : Value) (d : Option Addr) (pn : List (Addr × Obj)), L2N.Zn cls d oe → (∃ vs, oe.data = .fields vs) → ASs (X.suite a ((a, oe) :: pn)) ⟨fun _ _ _ _ => False, some (a, cls, d)⟩ (b0 :: sts) su) (r : AHds X hds l) :
      AHds X (.ExceptHandler (some (.Name x np)) (some n) (b0 :: sts) p :: hds) (⟨x, tbl, some i, su⟩ :: l)
theorem AHds.hds {hds : List ExceptHandler} {l : List ACl} (h : AHds X hds l) : HX.HdsA X hds (l.map (clOf X.K)) := by
  induction h with
  | nil => exact .nil
  | plain hg hdb hm ht hsu r ih => exact .plain ⟨hg, hdb, .inl hm⟩ (fun a oe cls d pn hz hf => PSs.imp (hsu a oe cls d pn hz hf) fun De σ H h => h) ih
  | named hi hl hg hdb hm ht hsu r ih => exact .named hi hl ⟨hg, hdb, .inl hm⟩ (fun a oe cls d pn hz hf => PSs.imp (hsu a oe cls d pn hz hf) fun De σ H h => h) ih
theorem lookup_mem {α : Type} {tbl : List (Str × α)} {x : Str} {b : α} (h : tbl.lookup x = some b) : (x, b) ∈ tbl := by
  induction tbl with
  | nil => cases h
  | cons p r ih =>
    obtain ⟨k, v⟩ := p
    rw [List.lookup_cons] at h
    cases e : x == k with
    | true => rw [e] at h; cases h; rw [beq_iff_eq.mp e]; exact List.mem_cons_self
    | false => rw [e] at h; exact List.mem_cons_of_mem _ (ih h)
theorem cls_ok {hds : List ExceptHandler} {l : List ACl} (hh : AHds X hds l) {B : Bs none} {w : W} {A : AEnds} {De : Ends} (en : EndsR X.K B w ⟨Wq, none⟩ A De) :
    ∀ {w' : W} {ms' : MS} {s' : ASt} {σ' : L2.St} {H' : Hp} {cls : Value} {d : Option Addr} {x : XD}, Le X.K w w' → Lk X.K B w' ms' s' σ' H' → RepX X.K w' cls d x → aCls A x s' ms' l → HX.wCls X.K Wq De (l.map (clOf X.K)) cls d σ' H' := by
  have back : ∀ {w' : W} {a : Addr} {cls : Value} {d : Option Addr} {De' : Ends} {sl : Option Nat}, Le X.K w w' → (De' = match sl with | some i => HX.gone i De | none => De) → EndsR X.K (B.as' : Bs (some (a, cls, d))) w' ⟨fun _ _ _ _ => False, some (a, cls, d)⟩ (suA A sl) De' := fun {w' a cls d De' sl} le e => by
    subst e
    have bb : ((B.as' : Bs (some (a, cls, d))).as' : Bs none) = B := rfl
    refine ⟨fun w2 ms2 H2 s2 σ2 le2 L2 q => ?_, fun w2 ms2 H2 s2 σ2 le2 L2 q => ?_, fun w2 ms2 H2 s2 σ2 le2 L2 q => ?_, fun w2 ms2 H2 s2 σ2 v dd le2 L2 r q => ?_, fun _ _ _ _ _ _ _ _ _ _ _ q => q.elim⟩
    · cases sl with
      | none => exact en.nx w2 ms2 H2 _ σ2 (le.trans le2) (L2.rebase (ex' := none)) q
      | some i => exact en.nx w2 ms2 H2 _ _ (le.trans le2) ((L2.unset i none).rebase (ex' := none)) q
    · cases sl with
      | none => exact en.bk w2 ms2 H2 _ σ2 (le.trans le2) (L2.rebase (ex' := none)) q
      | some i => exact en.bk w2 ms2 H2 _ _ (le.trans le2) ((L2.unset i none).rebase (ex' := none)) q
    · cases sl with
      | none => exact en.ct w2 ms2 H2 _ σ2 (le.trans le2) (L2.rebase (ex' := none)) q
      | some i => exact en.ct w2 ms2 H2 _ _ (le.trans le2) ((L2.unset i none).rebase (ex' := none)) q
    · cases sl with
      | none => exact en.rt w2 ms2 H2 _ σ2 v dd (le.trans le2) (L2.rebase (ex' := none)) r q
      | some i => exact en.rt w2 ms2 H2 _ σ2 v dd (le.trans le2) (L2.rebase (ex' := none)) r q
  have noEx : ∀ {w' : W} {ms' : MS} {s' : ASt} {σ' : L2.St} {H' : Hp}, Lk X.K B w' ms' s' σ' H' → clr s' = s' := fun {w' ms' s' σ' H'} L => by
    unfold clr
    refine List.ext_getElem? fun i => ?_
    rw [List.getElem?_map]
    cases e : s'[i]? with
    | none => rfl
    | some o =>
      cases o with
      | none => rfl
      | some v =>
        cases v with
        | fr d => rfl
        | ow m => rfl
        | ex x => obtain ⟨_, _, _, z, _⟩ := L.sl i _ e; cases z
  induction hh with
  | nil => intro w' ms' s' σ' H' cls d x le L rx h; exact en.ex w' ms' H' s' σ' cls d x le L rx h
  | @plain x0 tbl su b0 sts np p hds l hg hdb hm ht hsu r ih =>
    intro w' ms' s' σ' H' cls d x le L rx h
    obtain ⟨b, hb, h⟩ := gotI_of h
    have hex := ht _ (lookup_mem hb)
    refine ⟨b, by rw [rx.1]; exact hex, fun e a _ => ?_, fun e => ?_⟩
    · subst e
      have L1 := L.rebase (ex' := some (a, cls, d))
      rw [noEx L] at L1
      exact ⟨B.as', w', ms', s', _, L1, h, back (sl := none) le rfl⟩
    · subst e; exact ih le L rx h
  | @named x0 n i tbl su b0 sts np p hds l hi hl hg hdb hm ht hsu r ih =>
    intro w' ms' s' σ' H' cls d x le L rx h
    obtain ⟨b, hb, h⟩ := gotI_of h
    have hex := ht _ (lookup_mem hb)
    refine ⟨b, by rw [rx.1]; exact hex, fun e a _ => ?_, fun e => ?_⟩
    · subst e
      have L1 := L.rebase (ex' := some (a, cls, d))
      rw [noEx L] at L1
      refine ⟨B.as', w', ms', s'.set i (some (.ex x)), _, ?_, h, back (sl := some i) le rfl⟩
      have L2 := L1.unset i (some (.ref a))
      refine ⟨L2.s0, L2.keep, L2.pre, L2.bas, L2.fz, by have := L2.len; simpa using this, fun j av h => ?_, fun j k p mi mj h1 h2 h3 h4 => ?_, L2.bf, fun y m hy h => ?_⟩
      · by_cases z : i = j
        · subst z
          have hl : i < s'.length := by have := (List.getElem?_eq_some_iff.mp h).1; simpa using this
          rw [List.getElem?_set_self hl] at h
          cases h
          exact ⟨a, cls, d, rfl, by rw [List.getElem?_set_self (by rw [← L.len]; exact hl)], rx⟩
        · refine L2.sl j av ?_
          rw [List.getElem?_set_ne z] at h ⊢; exact h
      · have ne : ∀ {j m}, (s'.set i (some (.ex x)))[j]? = some (some (AV.ow m)) → (s'.set i none)[j]? = some (some (AV.ow m)) := fun {j m} e => by
          by_cases z : i = j
          · subst z
            have hl : i < s'.length := by have := (List.getElem?_eq_some_iff.mp e).1; simpa using this
            rw [List.getElem?_set_self hl] at e; cases e
          · rw [List.getElem?_set_ne z] at e ⊢; exact e
        exact L2.dj j k p mi mj (ne h1) (ne h2) h3 h4
      · by_cases z : i = 0
        · subst z
          have hl : 0 < s'.length := by have := (List.getElem?_eq_some_iff.mp h).1; simpa using this
          rw [List.getElem?_set_self hl] at h; cases h
        · refine L2.sf y m hy ?_
          rw [List.getElem?_set_ne z] at h ⊢; exact h
    · subst e; exact ih le L rx h
theorem as_try {body : List Stmt} {h0 : ExceptHandler} {hds : List ExceptHandler} {l : List ACl} {pos : Pos} {tb : aS} (hs : X.stack = X.env :: X.outer) (hf : X.env.frame = some X.env.locals) (hN : X.N.Nodup) (tk : L2N.Takes X Wq)
    (hb : ∀ (W' : WX) (pn : List (Addr × Obj)) (xe : Value → Shared → Prop), L2N.Takes (X.tr pn xe) W' → PassesOwn (model X.prog X.w) X.A X.env xe → ASs (X.tr pn xe) ⟨W', none⟩ body tb) (hh : AHds X (h0 :: hds) l) : AS X ⟨Wq, none⟩ (.Try body (h0 :: hds) [] [] pos) (aTry tb l) :=
  PS.imp (HX.ps_tryA (tb := fun W' => cS X.K ⟨W', none⟩ tb) hs hf hN tk hb hh.hds) fun De σ H ⟨B, w, ms, s, A, L, h, en⟩ => ⟨B, w, ms, s, _, L, h, ⟨en.nx, en.bk, en.ct, en.rt, fun w' ms' H' s' σ' cl ad x le L' rx q => cls_ok (X := X) (Wq := Wq) hh en le L' rx q⟩⟩
/-- e.f of the error that is handled -/
def aXf (i : Nat) (f : Str) : aE := fun s ms Q _ => match s[i]? with
  | some (some (.ex x)) => gotF (x.2.lookup f) fun d => Q d ms
  | _ => False
theorem ae_xf {a : Addr} {oe : Obj} {cls : Value} {d : Option Addr} {pn : List (Addr × Obj)} {c f n : Str} {i : Nat} {p pos : Pos} {Wx : WX} (T : XfC X.K (He.ga X.K c)) (hno : PySem.W.findIn X.K (.ref (He.ga X.K c)) f = some none) (hz : L2N.Zn cls d oe) (hf : ∃ vs, oe.data = .fields vs)
    (he : PE (X.suite a ((a, oe) :: pn)) (.Name n p) (tVar i)) : AE (X.suite a ((a, oe) :: pn)) ⟨Wx, some (a, cls, d)⟩ (.Attribute (.Name n p) f pos) (fun s ms Q E => (match s[i]? with
      | some (some (.ex x)) => x.1 = c
      | _ => False) ∧ aXf i f s ms Q E) :=
  PE.imp (pe_xf T hno hz.zc hf he) fun σ H R ⟨B, w, ms, s, Q, E, L, ⟨hc, h⟩, hq, hx⟩ => by
    unfold aXf at h
    split at h
    · rename_i x e
      rw [e] at hc
      unfold gotF at h
      split at h
      · rename_i y hy
        obtain ⟨a', c', d', e0, e1, rx⟩ := L.sl i _ e
        cases e0
        obtain ⟨rc, rd⟩ := rx
        rcases rd with ⟨_, e2⟩ | ⟨ad, fs, rfl, hF, rf⟩
        · rw [e2] at hy; cases hy
        · obtain ⟨v, hv, rv⟩ := rf.lookup hy
          refine ⟨_, e1, rfl, ?_, ad, fs, v, rfl, L.s0.fh _ _ hF, hv, hq w ms H v y (Le.refl _ _) L rv h⟩
          rw [rc, hc]
      · exact h.elim
    · exact h.elim
end
end LA

set_option Elab.async false
set_option linter.all false
set_option maxRecDepth 100000
set_option maxHeartbeats 4000000
/-! LA11: steps of readings; the source of numbers. -/
namespace LA
open PySem PySem.Spec PyProof.Rows L2
theorem br_d {c : Prop} [Decidable c] {p q : MS → Prop} {ms : MS} (h1 : c → p ms) (h2 : ¬c → q ms) : Br (decide c) p q ms := by
  by_cases h : c
  · rw [decide_eq_true h]; exact h1 h
  · rw [decide_eq_false h]; exact h2 h
theorem br_b {c : Bool} {p q : MS → Prop} {ms : MS} (h1 : c = true → p ms) (h2 : c = false → q ms) : Br c p q ms := by
  cases c
  · exact h2 rfl
  · exact h1 rfl
theorem br_t {p q : MS → Prop} {ms : MS} : Br true p q ms = p ms := rfl
theorem br_f {p q : MS → Prop} {ms : MS} : Br false p q ms = q ms := rfl
theorem atI_lit {α : Type} (xs : List α) (n : Nat) : atI xs (no_index (@OfNat.ofNat Int n instOfNat)) = xs[n]? := by
  show (ixN xs.length (n : Int)).bind _ = _
  unfold ixN
  rw [if_pos (by omega)]
  by_cases h : (n : Int) < xs.length
  · rw [if_pos h]; rfl
  · rw [if_neg h]
    rw [List.getElem?_eq_none (by omega)]
    rfl
theorem atI_nat {α : Type} (xs : List α) (n : Nat) : atI xs (n : Int) = xs[n]? := atI_lit xs n
theorem atI_neg {α : Type} (xs : List α) (n : Nat) (h : 0 < n) (k : n ≤ xs.length) : atI xs (-(n : Int)) = xs[xs.length - n]? := by
  unfold atI ixN
  rw [if_neg (by omega), if_pos (by omega)]
  have : (-(n : Int) + xs.length).toNat = xs.length - n := by omega
  show xs[_]? = _
  rw [this]
theorem atI_in {α : Type} {xs : List α} {i : Int} (h0 : 0 ≤ i) (h : i.toNat < xs.length) : atI xs i = some xs[i.toNat] := by
  unfold atI ixN
  rw [if_pos h0, if_pos (by omega)]
  exact List.getElem?_eq_getElem h
theorem cut_from {xs : List D} (n : Nat) : cutD xs (some (no_index (@OfNat.ofNat Int n instOfNat))) none = xs.drop n := by
  unfold cutD
  have e : HT.sIx xs.length 0 (some (@OfNat.ofNat Int n instOfNat)) = min n xs.length := HT.sIx_nat _ _ n
  rw [HT.sIx_none, e]
  by_cases h : n ≤ xs.length
  · rw [Nat.min_eq_left h, List.take_of_length_le (by rw [List.length_drop]; exact Nat.le_refl _)]
  · rw [Nat.min_eq_right (by omega), List.drop_of_length_le (Nat.le_refl _), List.drop_of_length_le (by omega), List.take_nil]
theorem cut_fromI {xs : List D} {i : Int} (h0 : 0 ≤ i) : cutD xs (some i) none = xs.drop i.toNat := by
  have : i = (i.toNat : Int) := by omega
  rw [this]; exact cut_from i.toNat
theorem cut_to {xs : List D} {i : Int} (h0 : 0 ≤ i) : cutD xs none (some i) = xs.take i.toNat := by
  obtain ⟨n, rfl⟩ : ∃ n : Nat, i = n := ⟨i.toNat, by omega⟩
  unfold cutD
  rw [HT.sIx_none, HT.sIx_nat, List.drop_zero, Nat.sub_zero, Int.toNat_natCast]
  by_cases h : n ≤ xs.length
  · rw [Nat.min_eq_left h]
  · rw [Nat.min_eq_right (by omega), List.take_of_length_le (Nat.le_refl _), List.take_of_length_le (by omega)]
/-- the places of what an update of a cell's list leaves -/
theorem aft_rng {K : PySem.W.Frag} {w : W} {ms : MS} {H H' : Hp} {k : Nat} {a : Addr} (h0 : St0 K w ms H) (hk : ms[k]? = some .rng) (ha : w.as[k]? = some a) (ex : HX.ExB a H H') (hR : ∃ ns : List Int, H' a = some (.lst (ns.map V.int)) ∧ 2 ≤ ns.length) : Aft K w H w ms H' := by
  have am : a ∈ w.as := List.mem_of_getElem? ha
  refine ⟨⟨fun b o h => ex b o (fun z => ?_) (h0.fh b o h), h0.nd, h0.na, fun j m hj => ?_, h0.ln⟩, fun b o hb h => ex b o (fun z => hb (z ▸ am)) h, fun b hb => .inl hb, fun b hb => hb, fun b o h => .inl ⟨o, h⟩⟩
  · subst z; rw [h0.na _ am] at h; cases h
  · obtain ⟨b, hb, r⟩ := h0.ce j m hj
    refine ⟨b, hb, ?_⟩
    by_cases z : b = a
    · subst z
      have : j = k := (List.getElem?_inj (by
        have := (List.getElem?_eq_some_iff.mp hb).1; exact this) h0.nd).mp (hb.trans ha.symm)
      subst this
      rw [hk] at hj; cases hj
      obtain ⟨ns, e, l⟩ := hR
      exact .rng e l
    · exact r.mono (Le.refl K w) fun o h => ex b o z h
/-- each wish to a promise is one to another -/
theorem gfn_imp {P : Program} {w : World} {K : PySem.W.Frag} {mg : Str → Option Value} {base : Heap} {x : Str} {k : Nat} {ps : List Str} {sp sp' : Sp} (G : HX.GFn P w K mg base x k ps sp) (h : ∀ vs H Q E, sp' vs H Q E → sp vs H Q E) : HX.GFn P w K mg base x k ps sp' :=
  ⟨G.gm, G.kp, by obtain ⟨fd, F, b⟩ := G.fn; exact ⟨fd, F.imp h, b⟩⟩
theorem gfn_mono {P : Program} {w : World} {K : PySem.W.Frag} {mg : Str → Option Value} {base : Heap} {x : Str} {k j : Nat} {ps : List Str} {sp : Sp} (G : HX.GFn P w K mg base x k ps sp) (h : k ≤ j) : HX.GFn P w K mg base x j ps sp :=
  ⟨G.gm, G.kp, by obtain ⟨fd, F, b⟩ := G.fn; exact ⟨fd, F.mono h, b⟩⟩
/-- the source of numbers: below -/
def S_below : ASp := fun ds ms Q _ => ∃ n : Int, ds = [.ptr 0, .int n] ∧ ms[0]? = some .rng ∧ 0 < n ∧ n < 1073741824 ∧ ∀ r : Int, 0 ≤ r → r < n → Q (.int r) ms
def S_pick : ASp := fun ds ms Q _ => ∃ xs : List D, ds = [.ptr 0, .lst xs] ∧ ms[0]? = some .rng ∧ 0 < xs.length ∧ xs.length < 1000 ∧ ∀ x, x ∈ xs → Q x ms
theorem below_i {n : Int} {ms : MS} {Q : D → MS → Prop} {E : XD → MS → Prop} {t : Tag Q E} (hm : ms[0]? = some .rng) (h0 : 0 < n) (h1 : n < 1073741824) (k : ∀ r : Int, 0 ≤ r → r < n → Q (.int r) ms) : DoCall S_below [.ptr 0, .int n] ms Q E t := ⟨n, rfl, hm, h0, h1, k⟩
theorem pick_i {xs : List D} {ms : MS} {Q : D → MS → Prop} {E : XD → MS → Prop} {t : Tag Q E} (hm : ms[0]? = some .rng) (h0 : 0 < xs.length) (h1 : xs.length < 1000) (k : ∀ x, x ∈ xs → Q x ms) : DoCall S_pick [.ptr 0, .lst xs] ms Q E t := ⟨xs, rfl, hm, h0, h1, k⟩
theorem cut_toL {xs : List D} (n : Nat) : cutD xs none (some (no_index (@OfNat.ofNat Int n instOfNat))) = xs.take n := cut_to (i := (n : Int)) (by omega)
/-- a def of which nothing is wished -/
theorem gfn_none {P : Program} {w : World} {K : PySem.W.Frag} {mg : Str → Option Value} {base : Heap} {x : Str} {st : Stmt} {N ps : List Str} {k : Nat} {S : ASp} (D : HX.DefAt K x x st (He.ga K x)) (gm : mg x = some (.ref (He.ga K x))) (Sc : FnScope N ps (defScope st)) (hb : ∀ (kV doc pm : Value) (an : Option Addr) (cdv ct : Value) (us : List Value), us.length = ps.length → bindArgs (PySem.W.fnOf x x (defArgs st) (defBody st) (defScope st) .none kV doc pm an cdv ct) ⟨us, []⟩ = pure (ps.zip us))
    (h : ∀ ds ms Q E, ¬ S ds ms Q E) : HX.GFn P w K mg base x (k + 1) ps (spA K S) :=
  HX.gfn_of (sp := spA K S) D gm Sc (fun vs H Q E ⟨w, ms, ds, Qa, Ea, h0, r, hS, _⟩ => (h _ _ _ _ hS).elim) hb fun cdv A outer s H vs Q E hr ⟨w, ms, ds, Qa, Ea, h0, r, hS, _⟩ => (h _ _ _ _ hS).elim
end LA

set_option Elab.async false
set_option linter.all false
set_option maxRecDepth 100000
set_option maxHeartbeats 4000000
/-! LA12: steps, one by one. -/
namespace LA
open PySem PySem.Spec PyProof.Rows L2
section
variable {α : Type} {f : D → D → (D → Prop) → Prop} {c c' : Str} {x y d e : D} {xs ys ds : List D} {i j : Int} {n m : Nat} {a b : Bool} {u v : Str} {s : ASt} {ms : MS} {Q : D → MS → Prop} {E : XD → MS → Prop} {q : D → Prop} {A : AEnds} {t tb : aS} {ra rb : aE} {g : aG} {rs : aGs} {kB : Bool → Prop} {kL : List D → Prop} {kF : List (Str × D) → Prop} {kO : Option Int → Prop} {kM : MO → Prop} {kK : List (Key × D) → Prop} {kT : List (List Key × D) → Prop} {kY : Key → Prop} {fs : List (Str × D)} {kvs : List (Key × D)} {kts : List (List Key × D)} {lo hi : Option Int} {N : ASt → MS → Prop} {p : Prop} {k : α → Prop} {w : α}
/-- a slot that holds data -/
def slotF (o : Option (Option AV)) (k : D → Prop) (t : Tag k k := .mk) : Prop := match o with
  | some (some (.fr d)) => k d
  | _ => False
theorem s_var : aVar n s ms Q E = slotF s[n]? (fun d => Q d ms) := by unfold aVar slotF; rfl
theorem s_slotF {k : D → Prop} : slotF (some (some (.fr d))) k = k d := rfl
theorem s_isB : isB (.bl a) kB = kB a := rfl
theorem s_brt {p q : MS → Prop} : Br true p q ms = p ms := rfl
theorem s_brf {p q : MS → Prop} : Br false p q ms = q ms := rfl
theorem s_gc : aGCons g rs (d :: ds) s ms N = g d s ms fun s1 ms1 => rs ds s1 ms1 N := rfl
theorem s_gn : aGNil [] s ms N = N s ms := by simp [aGNil]
theorem s_gt : aGTup n rs (.tup ds) s ms N = (ds.length = n ∧ rs ds s ms N) := rfl
/-- an own slot frozen -/
def slotZ (o : Option (Option AV)) (kd : D → Prop) (k0 : Prop) (t : Tag kd k0 := .mk) : Prop := match o with
  | some (some (.ow m)) => match m.d with
    | some d => kd d
    | none => False
  | some (some (.fr _)) => k0
  | _ => False
theorem s_fz : aFz n t A s ms = slotZ s[n]? (fun d => t A (s.set n (some (.fr d))) ms) (t A s ms) := by unfold aFz slotZ; rfl
theorem s_zl {kd : D → Prop} : slotZ (some (some (.ow (.lst xs)))) kd p = kd (.lst xs) := rfl
theorem s_zk {kd : D → Prop} : slotZ (some (some (.ow (.dk kvs)))) kd p = kd (.dk kvs) := rfl
theorem s_zt {kd : D → Prop} : slotZ (some (some (.ow (.dt kts)))) kd p = kd (.dt kts) := rfl
theorem s_zi {kd : D → Prop} : slotZ (some (some (.ow (.ins c fs)))) kd p = kd (.ins c fs) := rfl
theorem s_zf {kd : D → Prop} : slotZ (some (some (.fr d))) kd p = p := rfl
theorem s_isIns : isIns c (.ins c' fs) ms kF = (c' = c ∧ kF fs) := rfl
theorem s_isInC {cs : List Str} : isInC cs (.ins c fs) ms kF = (c ∈ cs ∧ kF fs) := rfl
def cellI (o : Option MO) (k : Str → List (Str × D) → Prop) (t : Tag k k := .mk) : Prop := match o with
  | some (.ins c' fs) => k c' fs
  | _ => False
theorem s_cellI {k : Str → List (Str × D) → Prop} : cellI (some (.ins c fs)) k = k c fs := rfl
theorem s_isInsP : isIns c (.ptr n) ms kF = cellI ms[n]? fun c' fs => c' = c ∧ kF fs := by unfold isIns cellI; rfl
theorem s_isInCP {cs : List Str} : isInC cs (.ptr n) ms kF = cellI ms[n]? fun c' fs => c' ∈ cs ∧ kF fs := by unfold isInC cellI; rfl
theorem s_gotF {k : D → Prop} : gotF (some d) k = k d := rfl
theorem s_gotI : gotI (some w) k = k w := rfl
theorem s_add : fAdd (.int i) (.int j) q = q (.int (i + j)) := rfl
theorem s_addS : fAdd (.str u) (.str v) q = (u.length + v.length ≤ sizeLine ∧ q (.str (u ++ v))) := rfl
theorem s_addT : fAdd (.tup xs) (.tup ys) q = (xs.length + ys.length ≤ sizeLine ∧ q (.tup (xs ++ ys))) := rfl
theorem s_addL : fAdd (.lst xs) (.lst ys) q = (xs.length + ys.length ≤ sizeLine ∧ q (.lst (xs ++ ys))) := rfl
theorem s_sub : fSub (.int i) (.int j) q = q (.int (i - j)) := rfl
theorem s_mul : fMul (.int i) (.int j) q = (MulOk i j ∧ q (.int (i * j))) := rfl
theorem s_mod : fMod (.int i) (.int j) q = (0 < j ∧ q (.int (i % j))) := rfl
theorem s_div : fDiv (.int i) (.int j) q = (DivOk i j ∧ q (.int (i / j))) := rfl
theorem s_pow : fPow (.int i) (.int j) q = (CPow i j ∧ q (.int (i ^ j.toNat))) := rfl
theorem s_neg : fNeg (.int i) q = q (.int (-i)) := rfl
theorem s_eqI : fEq (.int i) (.int j) q = q (.bl (decide (i = j))) := rfl
theorem s_eqS : fEq (.str u) (.str v) q = q (.bl (decide (u = v))) := rfl
theorem s_eqB : fEq (.bl a) (.bl b) q = q (.bl (decide (a = b))) := rfl
theorem s_eqIS : fEq (.int i) (.str v) q = q (.bl false) := rfl
theorem s_eqSI : fEq (.str v) (.int i) q = q (.bl false) := rfl
theorem s_eqNS : fEq .non (.str v) q = q (.bl false) := rfl
theorem s_eqSN : fEq (.str v) .non q = q (.bl false) := rfl
theorem s_eqTT : fEq (.tup xs) (.tup ys) q = EqDeep (.tup xs) (.tup ys) fun b => q (.bl b) := rfl
theorem s_eqLL : fEq (.lst xs) (.lst ys) q = EqDeep (.lst xs) (.lst ys) fun b => q (.bl b) := rfl
theorem s_neI : fNe (.int i) (.int j) q = q (.bl (!decide (i = j))) := rfl
theorem s_neS : fNe (.str u) (.str v) q = q (.bl (!decide (u = v))) := rfl
theorem s_neB : fNe (.bl a) (.bl b) q = q (.bl (!decide (a = b))) := rfl
theorem s_neTT : fNe (.tup xs) (.tup ys) q = EqDeep (.tup xs) (.tup ys) fun b => q (.bl (!b)) := rfl
theorem s_neLL : fNe (.lst xs) (.lst ys) q = EqDeep (.lst xs) (.lst ys) fun b => q (.bl (!b)) := rfl
theorem s_lt : fLt (.int i) (.int j) q = q (.bl (decide (i < j))) := rfl
theorem s_le : fLe (.int i) (.int j) q = q (.bl (decide (i ≤ j))) := rfl
theorem s_gt' : fGt (.int i) (.int j) q = q (.bl (decide (j < i))) := rfl
theorem s_ge : fGe (.int i) (.int j) q = q (.bl (decide (j ≤ i))) := rfl
theorem s_is : fIs x .non q = q (.bl (isNon x)) := rfl
theorem s_isn : fIsNot x .non q = q (.bl (!isNon x)) := rfl
theorem s_n0 : isNon .non = true := rfl
theorem s_n1 : isNon (.bl a) = false := rfl
theorem s_n2 : isNon (.int i) = false := rfl
theorem s_n3 : isNon (.str u) = false := rfl
theorem s_n4 : isNon (.tup xs) = false := rfl
theorem s_n5 : isNon (.lst xs) = false := rfl
theorem s_n6 : isNon (.ins c fs) = false := rfl
theorem s_n7 : isNon (.ptr n) = false := rfl
theorem s_n8 : isNon (.dk kvs) = false := rfl
theorem s_inL : fIn x (.lst ys) q = (flatD x = true ∧ ys.all flatD = true ∧ q (.bl (inFlat x ys))) := rfl
theorem s_inT : fIn x (.tup ys) q = (flatD x = true ∧ ys.all flatD = true ∧ q (.bl (inFlat x ys))) := rfl
theorem s_inS : fIn (.str u) (.str v) q = q (.bl (subStr u v)) := rfl
theorem s_niL : fNotIn x (.lst ys) q = (flatD x = true ∧ ys.all flatD = true ∧ q (.bl (!inFlat x ys))) := rfl
theorem s_niT : fNotIn x (.tup ys) q = (flatD x = true ∧ ys.all flatD = true ∧ q (.bl (!inFlat x ys))) := rfl
theorem s_niS : fNotIn (.str u) (.str v) q = q (.bl (!subStr u v)) := rfl
theorem s_f0 : flatD .non = true := rfl
theorem s_f1 : flatD (.bl a) = true := rfl
theorem s_f2 : flatD (.int i) = true := rfl
theorem s_f3 : flatD (.str u) = true := rfl
theorem s_if0 : inFlat x [] = false := rfl
theorem s_if1 : inFlat x (y :: ys) = (eqFlat y x || inFlat x ys) := by simp [inFlat]
theorem s_ef1 : eqFlat (.str u) (.str v) = decide (u = v) := rfl
theorem s_ef2 : eqFlat (.int i) (.int j) = decide (i = j) := rfl
theorem s_ixL : fIx (.lst xs) (.int i) q = gotI (atI xs i) q := rfl
theorem s_ixT : fIx (.tup xs) (.int i) q = gotI (atI xs i) q := rfl
theorem s_ixS : fIx (.str u) (.int i) q = (u.length ≤ sizeLine ∧ gotI (atI u.cps.toList i) fun c => q (.str ⟨#[c]⟩)) := rfl
theorem s_pInt : pInt (.int i) kO = kO (some i) := rfl
theorem s_cutL : fCut (.lst xs) lo hi q = q (.lst (cutD xs lo hi)) := rfl
theorem s_cutT : fCut (.tup xs) lo hi q = q (.tup (cutD xs lo hi)) := rfl
theorem s_lenL : fLen [.lst xs] q = q (.int xs.length) := rfl
theorem s_lenT : fLen [.tup xs] q = q (.int xs.length) := rfl
theorem s_lenDK : fLen [.dk kvs] q = q (.int kvs.length) := rfl
theorem s_lenS : fLen [.str u] q = (u.length ≤ sizeLine ∧ q (.int u.length)) := rfl
theorem s_intI : fInt [.int i] q = q (.int i) := rfl
theorem s_intB : fInt [.bl a] q = q (.int (if a then 1 else 0)) := rfl
theorem s_abs : fAbs [.int i] q = q (.int (if i < 0 then -i else i)) := rfl
theorem s_strI : fStr [.int i] q = (i.natAbs.log2 < 1920 ∧ q (.str (toString i))) := rfl
theorem s_strS : fStr [.str u] q = q (.str u) := rfl
theorem s_in0 : intsD [] = some [] := rfl
theorem s_in1 : intsD (.int i :: xs) = (intsD xs).map (i :: ·) := rfl
theorem s_bl0 : blsD [] = some [] := rfl
theorem s_bl1 : blsD (.bl a :: xs) = (blsD xs).map (a :: ·) := rfl
theorem s_isL : isL (.lst xs) kL = kL xs := rfl
theorem s_sum : fSum [.lst xs] q = gotI (intsD xs) fun ns => q (.int ns.sum) := rfl
theorem s_max : fMax [.lst xs] q = gotI (intsD xs) fun ns => 0 < ns.length ∧ ∀ m, m ∈ ns → (∀ y, y ∈ ns → y ≤ m) → q (.int m) := rfl
theorem s_min : fMin [.lst xs] q = gotI (intsD xs) fun ns => 0 < ns.length ∧ ∀ m, m ∈ ns → (∀ y, y ∈ ns → m ≤ y) → q (.int m) := rfl
theorem s_max2 : fMax2 [.int i, .int j] q = q (.int (if j > i then j else i)) := rfl
theorem s_min2 : fMin2 [.int i, .int j] q = q (.int (if j < i then j else i)) := rfl
theorem s_all : fAll [.lst xs] q = gotI (blsD xs) fun bs => q (.bl (bs.all id)) := rfl
theorem s_any : fAny [.lst xs] q = gotI (blsD xs) fun bs => q (.bl (bs.any id)) := rfl
theorem s_liL : fList [.lst xs] q = q (.lst xs) := rfl
theorem s_liT : fList [.tup xs] q = q (.lst xs) := rfl
theorem s_tuL : fTuple [.lst xs] q = q (.tup xs) := rfl
theorem s_tuT : fTuple [.tup xs] q = q (.tup xs) := rfl
theorem s_ty {n : String} : fIsTy [x, .ty n] q = gotI (isTy n x) fun b => q (.bl b) := rfl
theorem s_ty0 {n : String} : isTy n .non = kitB "NoneType" n := rfl
theorem s_ty1 {n : String} : isTy n (.bl a) = kitB "bool" n := rfl
theorem s_ty2 {n : String} : isTy n (.int i) = kitB "int" n := rfl
theorem s_ty3 {n : String} : isTy n (.str u) = kitB "str" n := rfl
theorem s_ty4 {n : String} : isTy n (.tup xs) = kitB "tuple" n := rfl
theorem s_ty5 {n : String} : isTy n (.lst xs) = kitB "list" n := rfl
theorem s_ty6 {n : String} : isTy n (.dk kvs) = kitB "dict" n := rfl
theorem s_own : fIsOwn c [x, .cls c'] q = (c' = c ∧ gotI (isOwn c x) fun b => q (.bl b)) := rfl
theorem s_ow0 : isOwn c .non = some false := rfl
theorem s_ow1 : isOwn c (.bl a) = some false := rfl
theorem s_ow2 : isOwn c (.int i) = some false := rfl
theorem s_ow3 : isOwn c (.str u) = some false := rfl
theorem s_ow4 : isOwn c (.tup xs) = some false := rfl
theorem s_ow5 : isOwn c (.lst xs) = some false := rfl
theorem s_ow6 : isOwn c (.ins c fs) = some true := if_pos rfl
def slotO (o : Option (Option AV)) (k : MO → Prop) (t : Tag k k := .mk) : Prop := match o with
  | some (some (AV.ow m)) => k m
  | _ => False
theorem s_ownAt : ownAt n s kM = slotO s[n]? kM := by unfold ownAt slotO; rfl
theorem s_slotO {m : MO} : slotO (some (some (AV.ow m))) kM = kM m := rfl
theorem s_moL : moL (.lst xs) kL = kL xs := rfl
theorem s_moK : moK (.dk kvs) kK = kK kvs := rfl
theorem s_moT : moT (.dt kts) kT = kT kts := rfl
theorem s_moI : moI c (.ins c' fs) kF = (c' = c ∧ kF fs) := rfl
theorem s_keyI : isKey (.int i) kY = kY (.inl i) := rfl
theorem s_keyS : isKey (.str u) kY = kY (.inr u) := rfl
theorem s_get : fGet (.dk kvs) y q = isKey y fun k => gotI (valD kvs k) q := rfl
theorem s_has : fHas x (.dk kvs) q = isKey x fun k => q (.bl (valD kvs k).isSome) := rfl
theorem s_hasN : fHasNot x (.dk kvs) q = isKey x fun k => q (.bl (!(valD kvs k).isSome)) := rfl
theorem s_isDK : isDK (.dk kvs) kK = kK kvs := rfl
theorem s_oth1 : othD c (.int i) ms p = p := rfl
theorem s_othT : othD c (.tup xs) ms p = p := rfl
theorem s_oth2 : othD c (.ins c' fs) ms p = (c' = c ∧ p) := rfl
theorem s_othP : othD c (.ptr n) ms p = cellI ms[n]? fun c' _ => c' = c ∧ p := by unfold othD cellI; rfl
theorem s_self0 {mm : MO} {s : ASt} : selfIs (some (.ow (.ins c fs)) :: s) c' kF = (c = c' ∧ kF fs) := rfl
/-- the items of a list, a tuple -/
def itemsD (x : D) (k : List D → Prop) : Prop := match x with
  | .lst ds => k ds
  | .tup ds => k ds
  | _ => False
theorem s_items {Q : List D → MS → Prop} : aItems ra s ms Q E = ra s ms (fun x ms1 => itemsD x fun ds => Q ds ms1) E := by unfold aItems itemsD; rfl
theorem s_itL : itemsD (.lst xs) kL = kL xs := rfl
theorem s_itT : itemsD (.tup xs) kL = kL xs := rfl
def signsD (x : D) (k : List D → Prop) : Prop := match x with
  | .str z => k (signs z)
  | _ => False
theorem s_signs {Q : List D → MS → Prop} : aSigns ra s ms Q E = ra s ms (fun x ms1 => signsD x fun ds => Q ds ms1) E := by unfold aSigns signsD; rfl
theorem s_sg : signsD (.str u) kL = kL (signs u) := rfl
def enumK (x : D) (k : List D → Prop) : Prop := match x with
  | .lst ds => k (enumD 0 ds)
  | .tup ds => k (enumD 0 ds)
  | .str z => k (enumD 0 (signs z))
  | _ => False
theorem s_enum {Q : List D → MS → Prop} : aEnum ra s ms Q E = ra s ms (fun x ms1 => enumK x fun ds => Q ds ms1) E := by unfold aEnum enumK; rfl
theorem s_enL : enumK (.lst xs) kL = kL (enumD 0 xs) := rfl
theorem s_enT : enumK (.tup xs) kL = kL (enumD 0 xs) := rfl
theorem s_enS : enumK (.str u) kL = kL (enumD 0 (signs u)) := rfl
def rng1 (x : D) (k : List D → Prop) : Prop := match x with
  | .int j => -(2 ^ 62) ≤ j ∧ j < 2 ^ 62 ∧ k (rangeD 0 j.toNat)
  | _ => False
theorem s_r1 {Q : List D → MS → Prop} : aRange1 ra s ms Q E = ra s ms (fun x ms1 => rng1 x fun ds => Q ds ms1) E := by unfold aRange1 rng1; rfl
theorem s_r1i : rng1 (.int j) kL = (-(2 ^ 62) ≤ j ∧ j < 2 ^ 62 ∧ kL (rangeD 0 j.toNat)) := rfl
def rng2 (x y : D) (k : List D → Prop) : Prop := match x, y with
  | .int i, .int j => -(2 ^ 62) ≤ i ∧ i < 2 ^ 62 ∧ -(2 ^ 62) ≤ j ∧ j < 2 ^ 62 ∧ k (rangeD i (j - i).toNat)
  | _, _ => False
theorem s_r2 {Q : List D → MS → Prop} : aRange2 ra rb s ms Q E = ra s ms (fun x ms1 => rb s ms1 (fun y ms2 => rng2 x y fun ds => Q ds ms2) E) E := by unfold aRange2 rng2; rfl
theorem s_r2i : rng2 (.int i) (.int j) kL = (-(2 ^ 62) ≤ i ∧ i < 2 ^ 62 ∧ -(2 ^ 62) ≤ j ∧ j < 2 ^ 62 ∧ kL (rangeD i (j - i).toNat)) := rfl
theorem forL_eq {ds : List D} : ForL g tb ds A s ms = aForL g tb ds A s ms := propext ⟨fun h => h.h, fun h => ⟨h⟩⟩
theorem s_for0 : ForL g tb [] A s ms = A.nx s ms := forL_eq
theorem s_forS : ForL g tb (d :: ds) A s ms = g d s ms fun s1 ms1 => tb { A with nx := fun s ms => ForL g tb ds A s ms, ct := fun s ms => ForL g tb ds A s ms, bk := A.nx } s1 ms1 := by
  have e : (fun s ms => ForL g tb ds A s ms) = aForL g tb ds A := by funext s ms; exact forL_eq
  rw [forL_eq, e]; rfl
/-- a fresh object as data -/
def moD (m : MO) (k : D → Prop) : Prop := match m.d with
  | some d => k d
  | none => False
theorem s_new {fF : aF} : aNew fF s ms Q E = fF s ms (fun m ms1 => moD m fun d => Q d ms1) E := by unfold aNew moD; rfl
theorem s_moDl {k : D → Prop} : moD (.lst xs) k = k (.lst xs) := rfl
theorem s_moDk {k : D → Prop} : moD (.dk kvs) k = k (.dk kvs) := rfl
theorem s_moDt {k : D → Prop} : moD (.dt kts) k = k (.dt kts) := rfl
theorem s_lk0 {z : Str} : List.lookup z ([] : List (Str × D)) = none := rfl
theorem s_lk1 {z : Str} : List.lookup z ((z, d) :: fs) = some d := by simp [List.lookup]
theorem s_lkE {z z' : String} : List.lookup (Str.ofString z) ((Str.ofString z', d) :: fs) = if z = z' then some d else List.lookup (Str.ofString z) fs := by
  rw [List.lookup_cons]
  by_cases h : z = z'
  · subst h; rw [if_pos rfl, beq_self_eq_true]
  · rw [if_neg h]
    have : (Str.ofString z == Str.ofString z') = false := by
      rw [beq_eq_false_iff_ne]; intro e; rw [str_eq] at e; exact h e
    rw [this]
theorem s_kit {x y : String} (h : kitB x y = some a) : kitB x y = some a := h
end
/-- a loop in which each item does the same -/
theorem forL_inv0 {g : aG} {tb : aS} {A : AEnds} (I : ASt → MS → Prop) : ∀ (ds : List D) (s : ASt) (ms : MS), I s ms → (∀ d ∈ ds, ∀ s ms, I s ms → ∀ N : ASt → MS → Prop, (∀ s ms, I s ms → N s ms) → g d s ms fun s1 ms1 => tb { A with nx := N, ct := N, bk := A.nx } s1 ms1) → (∀ s ms, I s ms → A.nx s ms) → aForL g tb ds A s ms
  | [], s, ms, h, _, k => k s ms h
  | d :: r, s, ms, h, st, k => st d List.mem_cons_self s ms h (aForL g tb r A) fun s' ms' h' => forL_inv0 I r s' ms' h' (fun d hd => st d (List.mem_cons_of_mem _ hd)) k
theorem forL_inv {g : aG} {tb : aS} {A : AEnds} {t : Tag A A} (I : ASt → MS → Prop) (ds : List D) (s : ASt) (ms : MS) (h : I s ms) (st : ∀ d ∈ ds, ∀ s ms, I s ms → ∀ N : ASt → MS → Prop, (∀ s ms, I s ms → N s ms) → g d s ms fun s1 ms1 => tb { A with nx := N, ct := N, bk := A.nx } s1 ms1) (k : ∀ s ms, I s ms → A.nx s ms) : ForL g tb ds A s ms t :=
  ⟨forL_inv0 I ds s ms h st k⟩
/-- .. with what went before -/
theorem forL_pre {g : aG} {tb : aS} {A : AEnds} {all : List D} (I : Nat → ASt → MS → Prop) : ∀ (i : Nat) (ds : List D) (s : ASt) (ms : MS), all.drop i = ds → I i s ms → (∀ i d s ms, all[i]? = some d → I i s ms → ∀ N : ASt → MS → Prop, (∀ s ms, I (i + 1) s ms → N s ms) → g d s ms fun s1 ms1 => tb { A with nx := N, ct := N, bk := A.nx } s1 ms1) → (∀ s ms, I all.length s ms → A.nx s ms) → i ≤ all.length → aForL g tb ds A s ms
  | i, [], s, ms, e, h, st, k, hi => by
    have : all.length ≤ i := List.drop_eq_nil_iff.mp e
    have : i = all.length := by omega
    subst this
    exact k s ms h
  | i, d :: r, s, ms, e, h, st, k, hi => by
    have hd : all[i]? = some d := by
      have := congrArg (fun l => l[0]?) e
      simpa using this
    refine st i d s ms hd h (aForL g tb r A) fun s' ms' h' => forL_pre I (i + 1) r s' ms' ?_ h' st k ?_
    · rw [← List.drop_drop, e]; rfl
    · have := (List.getElem?_eq_some_iff.mp hd).1; omega
theorem forL_at {g : aG} {tb : aS} {A : AEnds} {ds : List D} {s : ASt} {ms : MS} {t : Tag A A} (I : Nat → ASt → MS → Prop) (h : I 0 s ms) (st : ∀ i d s ms, ds[i]? = some d → I i s ms → ∀ N : ASt → MS → Prop, (∀ s ms, I (i + 1) s ms → N s ms) → g d s ms fun s1 ms1 => tb { A with nx := N, ct := N, bk := A.nx } s1 ms1) (k : ∀ s ms, I ds.length s ms → A.nx s ms) : ForL g tb ds A s ms t :=
  ⟨forL_pre I 0 ds s ms rfl h st k (Nat.zero_le _)⟩
/-- a comprehension whose items are told one by one -/
theorem lcL_pre {g : aG} {tt : aT} {te : aE} {s : ASt} {Q : List D → MS → Prop} {all : List D} (I : Nat → List D → MS → Prop) (hl : all.length ≤ sizeLine) : ∀ (i : Nat) (ds acc : List D) (ms : MS), all.drop i = ds → i ≤ all.length → acc.length ≤ i → I i acc ms →
    (∀ i d acc ms, all[i]? = some d → I i acc ms → ∀ N : List D → MS → Prop, (∀ acc' ms', I (i + 1) acc' ms' → acc'.length ≤ acc.length + 1 → N acc' ms') → g d s ms fun s2 ms2 => tt s2 ms2 (fun b ms3 => Br b (fun ms3 => te s2 ms3 (fun y ms4 => N (acc ++ [y]) ms4) fun _ _ => False) (fun ms3 => N acc ms3) ms3) fun _ _ => False) →
    (∀ acc ms, I all.length acc ms → Q acc ms) → (mono : ∀ (d : D) ms (N N' : ASt → MS → Prop), (∀ s ms, N s ms → N' s ms) → g d s ms N → g d s ms N') → (mt : ∀ s ms (N N' : Bool → MS → Prop) E, (∀ b ms, N b ms → N' b ms) → tt s ms N E → tt s ms N' E) → (me : ∀ s ms (N N' : D → MS → Prop) E, (∀ b ms, N b ms → N' b ms) → te s ms N E → te s ms N' E) → aLcL g tt te s ds acc ms Q := by
  intro i ds
  induction ds generalizing i with
  | nil =>
    intro acc ms e hi _ h st k _ _ _
    have : all.length ≤ i := List.drop_eq_nil_iff.mp e
    have : i = all.length := by omega
    subst this
    exact k acc ms h
  | cons d r ih =>
    intro acc ms e hi ha h st k mono mt me
    have hd : all[i]? = some d := by
      have := congrArg (fun l => l[0]?) e
      simpa using this
    have hi2 := (List.getElem?_eq_some_iff.mp hd).1
    have e2 : all.drop (i + 1) = r := by rw [← List.drop_drop, e]; rfl
    refine mono d ms _ _ ?_ (st i d acc ms hd h (fun acc' ms' => acc'.length ≤ i + 1 → aLcL g tt te s r acc' ms' Q) fun acc' ms' h' hl' hl2 => ih (i + 1) acc' ms' e2 (by omega) hl2 h' st k mono mt me)
    intro s2 ms2 q
    refine mt s2 ms2 _ _ _ ?_ q
    intro b ms3 q
    cases b with
    | true => exact me s2 ms3 _ _ _ (fun y ms4 q => ⟨by omega, q (by rw [List.length_append, List.length_singleton]; omega)⟩) q
    | false => exact q (by omega)
/-- what a comprehension may yield, item by item -/
inductive Outs (R : D → List D → Prop) : List D → List D → Prop
  | nil : Outs R [] []
  | cons {d : D} {zs : List D} {ds ys : List D} (h : R d zs) (r : Outs R ds ys) : Outs R (d :: ds) (zs ++ ys)
theorem lcL_gen0 {g : aG} {tt : aT} {te : aE} {s : ASt} {ms : MS} {Q : List D → MS → Prop} (R : D → List D → Prop) (h1 : ∀ d zs, R d zs → zs.length ≤ 1) : ∀ (ds acc : List D), acc.length + ds.length ≤ sizeLine →
    (∀ d ∈ ds, ∀ (acc : List D) (N : List D → MS → Prop), acc.length < sizeLine → (∀ zs, R d zs → N (acc ++ zs) ms) → g d s ms fun s2 ms2 => tt s2 ms2 (fun b ms3 => Br b (fun ms3 => te s2 ms3 (fun y ms4 => acc.length < sizeLine ∧ N (acc ++ [y]) ms4) fun _ _ => False) (fun ms3 => N acc ms3) ms3) fun _ _ => False) →
    (∀ ys, Outs R ds ys → Q (acc ++ ys) ms) → aLcL g tt te s ds acc ms Q
  | [], acc, _, _, k => by have := k [] .nil; rw [List.append_nil] at this; exact this
  | d :: r, acc, hl, st, k => by
    rw [List.length_cons] at hl
    refine st d List.mem_cons_self acc (fun acc' ms' => aLcL g tt te s r acc' ms' Q) (by omega) fun zs hz => ?_
    have := h1 d zs hz
    refine lcL_gen0 R h1 r (acc ++ zs) (by rw [List.length_append]; omega) (fun d hd => st d (List.mem_cons_of_mem _ hd)) fun ys hy => ?_
    rw [List.append_assoc]
    exact k _ (.cons hz hy)
theorem lcL_gen {g : aG} {tt : aT} {te : aE} {s : ASt} {ms : MS} {Q : List D → MS → Prop} {tg : Tag Q Q} (R : D → List D → Prop) (h1 : ∀ d zs, R d zs → zs.length ≤ 1) (ds acc : List D) (hl : acc.length + ds.length ≤ sizeLine)
    (st : ∀ d ∈ ds, ∀ (acc : List D) (N : List D → MS → Prop), acc.length < sizeLine → (∀ zs, R d zs → N (acc ++ zs) ms) → g d s ms fun s2 ms2 => tt s2 ms2 (fun b ms3 => Br b (fun ms3 => te s2 ms3 (fun y ms4 => acc.length < sizeLine ∧ N (acc ++ [y]) ms4) fun _ _ => False) (fun ms3 => N acc ms3) ms3) fun _ _ => False)
    (k : ∀ ys, Outs R ds ys → Q (acc ++ ys) ms) : LcL g tt te s ds acc ms Q tg := ⟨lcL_gen0 R h1 ds acc hl st k⟩
theorem Outs.all {P : D → Prop} {R : D → List D → Prop} (hR : ∀ d zs, R d zs → ∃ y, zs = [y] ∧ P y) {ds ys : List D} (h : Outs R ds ys) : ys.length = ds.length ∧ ∀ y ∈ ys, P y := by
  induction h with
  | nil => exact ⟨rfl, fun _ h => nomatch h⟩
  | cons h r ih =>
    obtain ⟨y, rfl, hp⟩ := hR _ _ h
    refine ⟨by simp [ih.1], fun z hz => ?_⟩
    rcases List.mem_cons.mp hz with rfl | hz
    · exact hp
    · exact ih.2 z hz
/-- each item some datum of the kind P -/
theorem lcL_all {te : aE} {s : ASt} {ms : MS} {i : Nat} {Q : List D → MS → Prop} {tg : Tag Q Q} (P : D → Prop) {ds : List D} (hl : ds.length ≤ sizeLine)
    (st : ∀ d ∈ ds, ∀ (N : D → MS → Prop), (∀ y, P y → N y ms) → te (s.set i (some (.fr d))) ms N fun _ _ => False) (k : ∀ ys, ys.length = ds.length → (∀ y ∈ ys, P y) → Q ys ms) : LcL (aName i) aYes te s ds [] ms Q tg :=
  ⟨lcL_gen0 (fun _ zs => ∃ y, zs = [y] ∧ P y) (fun d zs ⟨y, e, _⟩ => by subst e; exact Nat.le_refl _) ds [] (by simpa using hl) (fun d hd acc N ha kk => st d hd _ fun y hy => ⟨ha, kk [y] ⟨y, rfl, hy⟩⟩) fun ys hy => by
    obtain ⟨h1, h2⟩ := Outs.all (fun d zs h => h) hy
    exact k ys h1 h2⟩
theorem Outs.map {f : D → D} {R : D → List D → Prop} (hR : ∀ d zs, R d zs → zs = [f d]) {ds ys : List D} (h : Outs R ds ys) : ys = ds.map f := by
  induction h with
  | nil => rfl
  | cons h r ih => rw [hR _ _ h, ih]; rfl
/-- each item f of it -/
theorem lcL_map {te : aE} {s : ASt} {ms : MS} {i : Nat} {Q : List D → MS → Prop} {tg : Tag Q Q} (f : D → D) {ds : List D} (hl : ds.length ≤ sizeLine)
    (st : ∀ d ∈ ds, ∀ (N : D → MS → Prop), N (f d) ms → te (s.set i (some (.fr d))) ms N fun _ _ => False) (k : Q (ds.map f) ms) : LcL (aName i) aYes te s ds [] ms Q tg :=
  ⟨lcL_gen0 (fun d zs => zs = [f d]) (fun d zs e => by subst e; exact Nat.le_refl _) ds [] (by simpa using hl) (fun d hd acc N ha kk => st d hd _ ⟨ha, kk [f d] rfl⟩) fun ys hy => by
    rw [Outs.map (fun d zs h => h) hy]; exact k⟩
theorem Outs.iff {f : D → D} {p : D → Bool} {R : D → List D → Prop} (hR : ∀ d zs, R d zs → zs = if p d then [f d] else []) {ds ys : List D} (h : Outs R ds ys) : ys = (ds.filter p).map f := by
  induction h with
  | nil => rfl
  | @cons d zs ds ys h r ih =>
    rw [hR _ _ h, ih, List.filter_cons]
    cases p d <;> rfl
/-- .. of those that are p -/
theorem lcL_if {tt : aT} {te : aE} {s : ASt} {ms : MS} {i : Nat} {Q : List D → MS → Prop} {tg : Tag Q Q} (f : D → D) (p : D → Bool) {ds : List D} (hl : ds.length ≤ sizeLine)
    (sp : ∀ d ∈ ds, ∀ (N : Bool → MS → Prop), N (p d) ms → tt (s.set i (some (.fr d))) ms N fun _ _ => False)
    (st : ∀ d ∈ ds, p d = true → ∀ (N : D → MS → Prop), N (f d) ms → te (s.set i (some (.fr d))) ms N fun _ _ => False) (k : Q ((ds.filter p).map f) ms) : LcL (aName i) tt te s ds [] ms Q tg :=
  ⟨lcL_gen0 (fun d zs => zs = if p d then [f d] else []) (fun d zs e => by subst e; cases p d <;> simp) ds [] (by simpa using hl) (fun d hd acc N ha kk => sp d hd _ (by
    have kk := kk _ rfl
    cases e : p d with
    | true => rw [e] at kk; exact st d hd e _ ⟨ha, kk⟩
    | false => rw [e, if_neg Bool.false_ne_true, List.append_nil] at kk; exact kk)) fun ys hy => by
    rw [Outs.iff (fun d zs h => h) hy]; exact k⟩
end LA

set_option Elab.async false
set_option linter.all false
set_option maxRecDepth 100000
set_option maxHeartbeats 4000000
/-! LA13: comprehensions with two for. -/
namespace LA
open PySem PySem.Spec PyProof.Rows L2
/-- outer items, inner items one after another -/
def aLcO (g : aG) (tt : aT) (ri1 : aI) (g1 : aG) (tt1 : aT) (te : aE) (vs1 : List Nat) (s : ASt) : List D → List D → MS → (List D → MS → Prop) → Prop
  | [], acc, ms, Q => Q acc ms
  | d :: r, acc, ms, Q => g d s ms fun s2 ms2 => tt s2 ms2 (fun b ms3 => Br b (fun ms3 => ri1 s2 ms3 (fun ds1 ms4 => aLcL g1 tt1 te (wipeA s2 vs1) ds1 acc ms4 fun acc' ms5 => aLcO g tt ri1 g1 tt1 te vs1 s r acc' ms5 Q) fun _ _ => False) (fun ms3 => aLcO g tt ri1 g1 tt1 te vs1 s r acc ms3 Q) ms3) fun _ _ => False
structure LcO (g : aG) (tt : aT) (ri1 : aI) (g1 : aG) (tt1 : aT) (te : aE) (vs1 : List Nat) (s : ASt) (ds acc : List D) (ms : MS) (Q : List D → MS → Prop) (t : Tag Q Q := .mk) : Prop where
  h : aLcO g tt ri1 g1 tt1 te vs1 s ds acc ms Q
def fLc2 (ri : aI) (g : aG) (tt : aT) (ri1 : aI) (g1 : aG) (tt1 : aT) (te : aE) (vs vs1 : List Nat) : aF := fun s ms Q E => wipeA s vs = s ∧ ri s ms (fun ds ms1 => LcO g tt ri1 g1 tt1 te vs1 s ds [] ms1 fun acc ms2 => Q (.lst acc) ms2) E
section
variable {X : Cx} {Wx : WXA} {elt tg iter tg1 iter1 : Expr} {ifs ifs1 : List Expr} {scope : Scope} {own : List (Str × Nat)} {pos : Pos} {te : aE} {ri ri1 : aI} {g g1 : aG} {gs gs1 : List Nat} {tt tt1 : aT}
theorem lc2_ok {σ : L2.St} {H : Hp} {R : VK} {vs vs1 : List Nat} (hv : ∀ j ∈ vs1, j ∈ vs) (hgs : ∀ j ∈ gs, j ∈ vs) (hgs1 : ∀ j ∈ gs1, j ∈ vs1) (h : cF X.K Wx (fLc2 ri g tt ri1 g1 tt1 te vs vs1) σ H R) :
    tLc2 (cI X.K Wx ri) (cG X.K Wx.blk gs g) (cT X.K Wx.blk tt) (cI X.K Wx.blk ri1) (cG X.K Wx.blk gs1 g1) (cT X.K Wx.blk tt1) (cE X.K Wx.blk te) vs vs1 σ H R := by
  obtain ⟨B, w, ms, s, Q, E, L, ⟨hs, h⟩, hq, hx⟩ := h
  refine ⟨B, w, ms, s, _, E, L, h, fun w1 ms1 H1 J ds e1 L1 wk h1 D hD => ?_, hx⟩
  obtain ⟨d1, d2, d3⟩ := L1.fresh hD
  have d4 : D ∉ B.as := fun z => d2 (L1.bas D z)
  have d5 : B.F D = none := by
    cases q : B.F D with
    | none => rfl
    | some u => obtain ⟨o, z⟩ := L1.bf D u q; rw [d3] at z; cases z
  let Qf : List LA.D → MS → Prop := fun acc ms2 => Q (.lst acc) ms2
  let O : List LA.D → List LA.D → MS → (List LA.D → MS → Prop) → Prop := aLcO g tt ri1 g1 tt1 te vs1 s
  refine ⟨fun i m H => m + i = ds.length ∧ ∃ w2 ms2 acc ad, Le X.K w1 w2 ∧ Lk X.K (B.at D (.lst acc)) w2 ms2 (wipeA s vs) (wipe σ vs) H ∧ RepL X.K w2 acc ad ∧ O (ds.drop i) ad ms2 Qf, ⟨ds.length, rfl, w1, ms1, [], [], Le.refl _ _, (L1.side hD).wipe, .nil, h1.h⟩, ?_⟩
  rintro i m H2 ⟨hm, w2, ms2, acc, ad, e2, L2', racc, h2⟩
  by_cases hi : i < ds.length
  · refine .inr ⟨wk.goes _ w2 ms2 _ _ H2 i e2 L2' hi, fun H => m - 1 + (i + 1) = ds.length ∧ ∃ w2 ms2 acc ad, Le X.K w1 w2 ∧ Lk X.K (B.at D (.lst acc)) w2 ms2 (wipeA s vs) (wipe σ vs) H ∧ RepL X.K w2 acc ad ∧ O (ds.drop (i + 1)) ad ms2 Qf,
      fun H' n => ⟨m - 1, by omega, n⟩, fun x H' y => ?_⟩
    obtain ⟨w3, e3, L3, rx⟩ := wk.yields _ w2 ms2 _ _ H2 i ds[i] x H' e2 L2' (List.getElem?_eq_getElem hi) y
    rw [List.drop_eq_getElem_cons hi] at h2
    refine ⟨_, w3, ms2, _, _, _, L3, rx, by rw [hs]; exact h2, fun w4 ms4 H4 s4 σ4 e4 L4 oa ol h4 => ⟨(wipe_only oa hgs).trans (wipe_wipe σ vs), ?_⟩⟩
    have e14 := (e2.trans e3).trans e4
    have back : ∀ {w5 : W} {ms5 : MS} {H5 : Hp} {o : HO} {s5 : ASt} {σ5 : L2.St}, Lk X.K (B.at D o) w5 ms5 s5 σ5 H5 → OnlyAt vs1 σ4 σ5 → OnlyAt vs1 s4 s5 → Lk X.K (B.at D o) w5 ms5 (wipeA s vs) (wipe σ vs) H5 := fun L o1 o2 => by
      have := L.wipe (vs := vs)
      rw [wipe_only o1 hv, wipeA_only o2 hv, wipe_only oa hgs, wipe_wipe, wipeA_only ol hgs, wipeA_wipeA] at this
      exact this
    have oo1 : OnlyAt vs1 σ4 σ4 := ⟨rfl, fun _ _ => rfl⟩
    have oo2 : OnlyAt vs1 s4 s4 := ⟨rfl, fun _ _ => rfl⟩
    refine ⟨_, w4, ms4, s4, _, _, L4, h4, fun w5 ms5 H5 b e5 L5 h5 => ?_, fun _ _ _ _ _ _ _ _ _ z => z.elim⟩
    cases b with
    | false => rw [if_neg (by decide)]; exact ⟨by omega, w5, ms5, acc, ad, e14.trans e5, back L5 oo1 oo2, racc.mono (((e3.trans e4).trans e5)), h5⟩
    | true =>
      rw [if_pos rfl]
      refine ⟨_, w5, ms5, s4, _, _, L5, h5, fun w6 ms6 H6 J1 ds1 e6 L6 wk1 h6 => ?_, fun _ _ _ _ _ _ _ _ _ z => z.elim⟩
      let Nq : List LA.D → MS → Prop := fun acc' ms5 => O (ds.drop (i + 1)) acc' ms5 Qf
      have ww1 : OnlyAt vs1 σ4 (wipe σ4 vs1) := ⟨by rw [wipe_length], fun j hj => wipe_out hj⟩
      have ww2 : OnlyAt vs1 s4 (wipeA s4 vs1) := ⟨by rw [wipeA_length], fun j hj => wipeA_out hj⟩
      refine ⟨fun j k H => k + j = ds1.length ∧ ∃ w7 ms7 acc ad, Le X.K w6 w7 ∧ Lk X.K (B.at D (.lst acc)) w7 ms7 (wipeA s4 vs1) (wipe σ4 vs1) H ∧ RepL X.K w7 acc ad ∧ aLcL g1 tt1 te (wipeA s4 vs1) (ds1.drop j) ad ms7 Nq,
        ⟨ds1.length, rfl, w6, ms6, acc, ad, Le.refl _ _, L6.wipe, racc.mono (((e3.trans e4).trans e5).trans e6), h6⟩, ?_⟩
      rintro j k H7 ⟨hk, w7, ms7, acc7, ad7, e7, L7, racc7, h7⟩
      by_cases hj : j < ds1.length
      · refine .inr ⟨wk1.goes _ w7 ms7 _ _ H7 j e7 L7 hj, fun H => k - 1 + (j + 1) = ds1.length ∧ ∃ w7 ms7 acc ad, Le X.K w6 w7 ∧ Lk X.K (B.at D (.lst acc)) w7 ms7 (wipeA s4 vs1) (wipe σ4 vs1) H ∧ RepL X.K w7 acc ad ∧ aLcL g1 tt1 te (wipeA s4 vs1) (ds1.drop (j + 1)) ad ms7 Nq,
          fun H' n => ⟨k - 1, by omega, n⟩, fun x H' y => ?_⟩
        obtain ⟨w8, e8, L8, rx8⟩ := wk1.yields _ w7 ms7 _ _ H7 j ds1[j] x H' e7 L7 (List.getElem?_eq_getElem hj) y
        rw [List.drop_eq_getElem_cons hj] at h7
        refine ⟨_, w8, ms7, _, _, _, L8, rx8, h7, fun w9 ms9 H9 s9 σ9 e9 L9 oa9 ol9 h9 => ⟨(wipe_only oa9 hgs1).trans (wipe_wipe σ4 vs1), ?_⟩⟩
        have back1 : ∀ {w5 : W} {ms5 : MS} {H5 : Hp} {o : HO}, Lk X.K (B.at D o) w5 ms5 s9 σ9 H5 → Lk X.K (B.at D o) w5 ms5 (wipeA s4 vs1) (wipe σ4 vs1) H5 := fun L => by
          have := L.wipe (vs := vs1)
          rw [wipe_only oa9 hgs1, wipe_wipe, wipeA_only ol9 hgs1, wipeA_wipeA] at this
          exact this
        refine ⟨_, w9, ms9, s9, _, _, L9, h9, fun w10 ms10 H10 b e10 L10 h10 => ?_, fun _ _ _ _ _ _ _ _ _ z => z.elim⟩
        have e7a := ((e7.trans e8).trans e9).trans e10
        cases b with
        | false => dsimp only; rw [if_neg (by decide)]; exact ⟨by omega, w10, ms10, acc7, ad7, e7a, back1 L10, racc7.mono ((e8.trans e9).trans e10), h10⟩
        | true =>
          dsimp only
          rw [if_pos rfl]
          refine ⟨_, w10, ms10, s9, _, _, L10, h10, fun w11 ms11 H11 v d e11 L11 r11 h11 => ?_, fun _ _ _ _ _ _ _ _ _ z => z.elim⟩
          have ra11 := racc7.mono (((e8.trans e9).trans e10).trans e11)
          obtain ⟨_, hD11, _, _⟩ := L11.drop d3 d4 d5
          exact ⟨acc7, hD11, by rw [racc7.length]; exact h11.1, by omega, w11, ms11, acc7 ++ [v], ad7 ++ [d], e7a.trans e11, back1 (L11.sideUpd d3 d4 d5), ra11.append (.cons r11 .nil), h11.2⟩
      · have hj : j = ds1.length := by omega
        subst hj
        rw [List.drop_length] at h7
        exact .inl ⟨wk1.stops _ w7 ms7 _ _ H7 e7 L7, by omega, w7, ms7, acc7, ad7, ((e14.trans e5).trans e6).trans e7, back L7 ww1 ww2, racc7, h7⟩
  · have hi : i = ds.length := by omega
    subst hi
    rw [List.drop_length] at h2
    obtain ⟨L5, hD5, f5, _⟩ := (L2'.unwipe hs).drop d3 d4 d5
    refine .inl ⟨wk.stops _ w2 ms2 _ _ H2 e2 L2', ?_⟩
    have := hq w2 ms2 (but H2 D) D (.lst acc) (.lst ad) (e1.trans e2) L5 but_same (.lst upd_same racc) h2
    rw [but_back hD5] at this
    exact this
theorem fe_lc2 {vs1 : List Nat} (hc : X.calm = true) (hN : X.N.Nodup) (hi : AI X Wx tg iter ri) (ok : BlkOk X.N X.env.scope scope own) (hv : ∀ j ∈ vs1, j ∈ own.map (·.2)) (hgs : ∀ j ∈ gs, j ∈ own.map (·.2)) (hgs1 : ∀ j ∈ gs1, j ∈ vs1)
    (hg : ∀ (s : Shared) (H : Hp) (C : Addr) (cl : List (Str × Addr)) (fp : List Addr), AG (X.blk s H scope (compEnvC scope cl C X.env) fp) Wx.blk gs tg g) (ht : ∀ (s : Shared) (H : Hp) (C : Addr) (cl : List (Str × Addr)) (fp : List Addr), ATs (X.blk s H scope (compEnvC scope cl C X.env) fp) Wx.blk ifs tt)
    (hi1 : ∀ (s : Shared) (H : Hp) (C : Addr) (cl : List (Str × Addr)) (fp : List Addr), AI (X.blk s H scope (compEnvC scope cl C X.env) fp) Wx.blk tg1 iter1 ri1)
    (hg1 : ∀ (s : Shared) (H : Hp) (C : Addr) (cl : List (Str × Addr)) (fp : List Addr), AG (X.blk s H scope (compEnvC scope cl C X.env) fp) Wx.blk gs1 tg1 g1) (ht1 : ∀ (s : Shared) (H : Hp) (C : Addr) (cl : List (Str × Addr)) (fp : List Addr), ATs (X.blk s H scope (compEnvC scope cl C X.env) fp) Wx.blk ifs1 tt1)
    (he : ∀ (s : Shared) (H : Hp) (C : Addr) (cl : List (Str × Addr)) (fp : List Addr), AE (X.blk s H scope (compEnvC scope cl C X.env) fp) Wx.blk elt te) (hs : ∀ x, foldedSetIterable iter X.env x = pure x := by intro _; rfl) (hs1 : ∀ env x, foldedSetIterable iter1 env x = pure x := by intro _ _; rfl) :
    FE X Wx (.ListComp elt [⟨tg, iter, ifs, 0⟩, ⟨tg1, iter1, ifs1, 0⟩] scope pos) (fLc2 ri g tt ri1 g1 tt1 te (own.map (·.2)) vs1) :=
  PE.imp (pe_lc2 hc hN hi ok hv hg ht hi1 hg1 ht1 he hs hs1) fun σ H R h => lc2_ok (X := X) hv hgs hgs1 h
/-- x = [..] on one line, two for -/
theorem as_setLc2 {i : Nat} {y : Str} {py spos : Pos} {vs1 : List Nat} (hc : X.calm = true) (hN : X.N.Nodup) (hy : X.N[i]? = some y) (hyl : X.env.scope.names.lookup y = some .local)
    (hsw : swapsWith (.ListComp elt [⟨tg, iter, ifs, 0⟩, ⟨tg1, iter1, ifs1, 0⟩] scope pos) (some (.Name y py)) spos.line X.env = pure true) (hi : AI X Wx tg iter ri) (ok : BlkOk X.N X.env.scope scope own) (hv : ∀ j ∈ vs1, j ∈ own.map (·.2)) (hgs : ∀ j ∈ gs, j ∈ own.map (·.2)) (hgs1 : ∀ j ∈ gs1, j ∈ vs1)
    (hg : ∀ (s : Shared) (H : Hp) (C : Addr) (cl : List (Str × Addr)) (fp : List Addr), AG (X.blk s H scope (compEnvC scope cl C X.env) fp) Wx.blk gs tg g) (ht : ∀ (s : Shared) (H : Hp) (C : Addr) (cl : List (Str × Addr)) (fp : List Addr), ATs (X.blk s H scope (compEnvC scope cl C X.env) fp) Wx.blk ifs tt)
    (hi1 : ∀ (s : Shared) (H : Hp) (C : Addr) (cl : List (Str × Addr)) (fp : List Addr), AI (X.blk s H scope (compEnvC scope cl C X.env) fp) Wx.blk tg1 iter1 ri1)
    (hg1 : ∀ (s : Shared) (H : Hp) (C : Addr) (cl : List (Str × Addr)) (fp : List Addr), AG (X.blk s H scope (compEnvC scope cl C X.env) fp) Wx.blk gs1 tg1 g1) (ht1 : ∀ (s : Shared) (H : Hp) (C : Addr) (cl : List (Str × Addr)) (fp : List Addr), ATs (X.blk s H scope (compEnvC scope cl C X.env) fp) Wx.blk ifs1 tt1)
    (he : ∀ (s : Shared) (H : Hp) (C : Addr) (cl : List (Str × Addr)) (fp : List Addr), AE (X.blk s H scope (compEnvC scope cl C X.env) fp) Wx.blk elt te) (hs : ∀ x, foldedSetIterable iter X.env x = pure x := by intro _; rfl) (hs1 : ∀ env x, foldedSetIterable iter1 env x = pure x := by intro _ _; rfl) :
    AS X Wx (.Assign [.Name y py] (.ListComp elt [⟨tg, iter, ifs, 0⟩, ⟨tg1, iter1, ifs1, 0⟩] scope pos) spos) (aAsg (aNew (fLc2 ri g tt ri1 g1 tt1 te (own.map (·.2)) vs1)) (aName i)) :=
  PS.imp (ps_setLc2 hc hN hy hyl hsw hi ok hv hg ht hi1 hg1 ht1 he hs hs1) fun De σ H ⟨B, w, ms, s, A, L, h, en⟩ => by
    refine lc2_ok (X := X) (Wx := Wx) (ri := ri) (g := g) (tt := tt) (te := te) hv hgs hgs1 ⟨B, w, ms, s, fun m ms1 => match m.d with
      | some d => A.nx (s.set i (some (.fr d))) ms1
      | none => False, _, L, h, fun w' ms' H' p o m le L' hp r q => ?_, en.px⟩
    dsimp only at q
    split at q
    · rename_i d hd
      have f := L'.fresh hp
      exact en.nx _ ms' _ _ _ (le.trans (Le.new f.1)) ((L'.new hp).set (Rep.ofM f.1 upd_same r hd)) q
    · exact q.elim
end
end LA

set_option Elab.async false
set_option linter.all false
set_option maxRecDepth 100000
set_option maxHeartbeats 4000000
/-! LA14: keys, in for data, .get of an own dict. -/
namespace LA
open PySem PySem.Spec PyProof.Rows L2
theorem u65_of {A : Around} {k : Nat} (hr : Room k A) : A.units + 65 < cLine := by have := hr.un; omega
def keyD : Key → D
  | .inl i => .int i
  | .inr x => .str x
theorem rep_key {K : PySem.W.Frag} {w : W} (k : Key) : Rep K w (kV k) (keyD k) := by
  cases k with
  | inl i => exact .int i
  | inr x => exact .str x
theorem RepK.keys {K : PySem.W.Frag} {w : W} : ∀ {vs : List (Key × V)} {ds : List (Key × D)}, RepK K w vs ds → RepL K w (vs.map fun kv => kV kv.1) (ds.map fun kv => keyD kv.1)
  | _, _, .nil => .nil
  | _, _, .cons h r => .cons (rep_key _) (RepK.keys r)
/-- list(d) of a dict -/
def fKeys (ds : List D) (Q : D → Prop) : Prop := on1 ds fun x => isDK x fun kvs => Q (.lst (kvs.map fun kv => keyD kv.1))
theorem s_keys {kvs : List (Key × D)} {q : D → Prop} : fKeys [.dk kvs] q = q (.lst (kvs.map fun kv => keyD kv.1)) := rfl
theorem s_keyDI {i : Int} : keyD (.inl i) = .int i := rfl
theorem s_keyDS {x : Str} : keyD (.inr x) = .str x := rfl
section
variable {X : Cx}
theorem Rd.up {K : PySem.W.Frag} {w : W} {ms : MS} {H : Hp} {a : Addr} {u : HO} (h0 : St0 K w ms H) (h : Rd w.F a u) : Rd H a u := h.imp (h0.fh _ _) fun ⟨o, q⟩ => ⟨o, h0.fh _ _ q⟩
theorem ca_listD (hc : X.calm = true) : CallA X (.type "list") fKeys := by
  rintro pins s σ H vs us R I rx ⟨xi, B, w, ms, st, σ', ds, Qd, L, r, h, k⟩
  obtain ⟨x, rfl, hh⟩ := on1_of h
  clear h
  obtain ⟨v, rfl, rr⟩ := r.one
  cases rr with
  | dk hf q => exact call_listD hc pins s σ H _ us R I rx ⟨_, _, rfl, LA.Rd.up L.s0 hf, fun p hp => new_ L k hp (fun w' le hf => .lst hf ((RepK.keys q).mono le)) hh⟩
  | _ => exact False.elim hh
/-- x in t, t a tuple of data of any depth -/
def rInT (K : PySem.W.Frag) : R2 := fun x y H Q => ∃ d ds, Dp K H x d ∧ Dp K H y (.tuple ds) ∧ SeqAt.shaped d = true ∧ SeqAt.shaped (.tuple ds) = true ∧ Q (.bl (ds.any fun z => PyData.eqv z d)) H
theorem op_inT (hu : X.A.units + 65 < cLine) : OpR X (compareOp .In) (rInT X.K) := by
  rintro pins s σ H x y v u Q I rx ry ⟨d, ds, hd, he, sd, se, q⟩
  obtain ⟨as, r1⟩ := Dp.reads I d x v hd rx
  obtain ⟨bs, r2⟩ := Dp.reads I (.tuple ds) y u he ry
  exact SeqAt.in_tuple_reads r2 r1 (SeqAt.canLay_of_shaped se) (SeqAt.canLay_of_shaped sd) (room_in_shaped sd hu) ⟨.bl _, H, I, rfl, q⟩
def fInT (x y : D) (Q : D → Prop) : Prop := ∃ d ds, PyOf x d ∧ PyOf y (.tuple ds) ∧ SeqAt.shaped d = true ∧ SeqAt.shaped (.tuple ds) = true ∧ Q (.bl (ds.any fun z => PyData.eqv z d))
theorem oa_inT (hu : X.A.units + 65 < cLine) : OpA X (compareOp .In) fInT := by
  rintro pins s σ H x y v u R I rx ry ⟨xi, B, w, ms, st, σ', dx, dy, Qd, L, r1, r2, ⟨d, ds, h1, h2, s1, s2, q⟩, k⟩
  exact op_inT hu pins s σ H _ _ v u R I rx ry ⟨d, ds, (dp_of L.s0 h1).1 _ r1, (dp_of L.s0 h2).1 _ r2, s1, s2, same_ L k (.bl _) q⟩
/-- sorted(l), l of ints -/
def fSort (ds : List D) (Q : D → Prop) : Prop := on1 ds fun x => isL x fun xs => gotI (intsD xs) fun ns => ns.length < 64 ∧ ∀ ns' : List Int, ns'.Perm ns → ns'.Pairwise (· ≤ ·) → Q (.lst (ns'.map D.int))
theorem s_sort {xs : List D} {q : D → Prop} : fSort [.lst xs] q = gotI (intsD xs) fun ns => ns.length < 64 ∧ ∀ ns' : List Int, ns'.Perm ns → ns'.Pairwise (· ≤ ·) → q (.lst (ns'.map D.int)) := rfl
theorem repL_ints {K : PySem.W.Frag} {w : W} : ∀ (ns : List Int), RepL K w (ns.map V.int) (ns.map D.int)
  | [] => .nil
  | i :: r => .cons (.int i) (repL_ints r)
theorem ca_sort : CallA X (.builtin "sorted") fSort := by
  rintro pins s σ H vs us R I rx ⟨xi, B, w, ms, st, σ', ds, Qd, L, r, h, k⟩
  obtain ⟨x, rfl, hh⟩ := on1_of h
  clear h
  obtain ⟨v, rfl, rr⟩ := r.one
  cases rr with
  | @lst a vs ds hf q =>
    obtain ⟨ns, e, g⟩ := gotI_of hh
    obtain rfl := intsD_of e
    exact cr_sorted pins s σ H _ us R I rx ⟨a, ns, rfl, by rw [← q.of_ints]; exact SqL.up L.s0 hf, g.1, fun ns' p h1 h2 hp => new_ L k hp (fun w' le hf => .lst hf (repL_ints ns')) (g.2 ns' h1 h2)⟩
  | _ => exact False.elim hh
end
section
variable {X : Cx} {Wx : WXA} {o e f : Expr} {rk re : aE} {apos cpos : Pos} {i : Nat}
theorem ae_getO (hu : X.A.units + 1 < cLine) (ho : PE X o (tVar i)) (hk : AE X Wx e rk) (he : AE X Wx f re) (m : M2 X o "get" apos e f cpos) : AE X Wx (.Call (.Attribute o "get" apos) [e, f] [] cpos) (fun s ms Q E => ownAt i s (fun m => moK m fun _ => aGetO i rk re s ms Q E)) :=
  PE.imp (pe_dget2 hu ho hk he m) fun σ H R ⟨B, w, ms, s, Q, E, L, h, hq, hx⟩ => by
    obtain ⟨m0, e0, h⟩ := ownAt_of h
    obtain ⟨xs0, rfl, h⟩ := moK_of h
    obtain ⟨p, e1, r0, n⟩ := L.sl i _ e0
    cases r0 with
    | dk hp q0 =>
      refine ⟨_, e1, p, rfl, .inl ⟨_, .inl hp⟩, B, w, ms, s, _, E, L, h, fun w2 ms2 H2 v2 d2 e2 L2 r2 h2 => ⟨B, w2, ms2, s, _, E, L2, h2, fun w3 ms3 H3 v3 d3 e3 L3 r3 h3 => ?_, hx.le e2⟩, hx⟩
      obtain ⟨x, rfl, g⟩ := isKey_rep (r2.mono e3) h3
      obtain ⟨m3, e4, g⟩ := ownAt_of g
      obtain ⟨xs, rfl, g⟩ := moK_of g
      obtain ⟨p', e5, r5, _⟩ := L3.sl i _ e4
      have : p' = p := by rw [e1] at e5; simpa using e5.symm
      subst this
      cases r5 with
      | dk hp3 q3 =>
        refine ⟨_, .inl ⟨_, x, .inl hp3, rfl, rfl⟩, hq w3 ms3 H3 _ _ (e2.trans e3) L3 ?_ g⟩
        cases z : valD xs x with
        | none => rw [(q3.val x).2 z]; exact r3
        | some y => obtain ⟨u, hu, ru⟩ := (q3.val x).1 y z; rw [hu]; exact ru
end
end LA

set_option Elab.async false
set_option linter.all false
set_option maxRecDepth 100000
set_option maxHeartbeats 4000000
/-! LA15: a comprehension over a dict's keys: the dict is locked meanwhile. -/
namespace LA
open PySem PySem.Spec PyProof.Rows L2
/-- the base within the lock -/
def Bs.lk {ex : XI} (B : Bs ex) (d : Addr) (o u : HO) : Bs ex := ⟨upd B.H d o, B.as, upd B.F d u, B.self⟩
def W.lk (w : W) (d : Addr) (o : HO) : W := { w with F := upd w.F d o }
section
variable {K : PySem.W.Frag} {ex : XI} {B : Bs ex} {w w2 : W} {ms ms2 : MS} {s s2 : ASt} {σ σ2 : L2.St} {H H2 : Hp} {d : Addr} {vs : List (Key × V)} {od : Obj}
theorem le_swap {o o' : HO} (hd : w.F d = some o) (h1 : ∀ u, Rd w.F d (.dK u) → o' = .dK u ∨ ∃ x, o' = .frz x (.dK u)) (h2 : ∀ v, ¬ Rd w.F d (.tup v)) (h3 : ∀ v, o ≠ .lst v) (h4 : ∀ u, ¬ Rd w.F d (.dT u)) (h5 : ∀ C dx v, o ≠ .ins C dx v) (h6 : ∀ v, o ≠ .xd v) : Le K w (w.lk d o') := by
  refine ⟨fun a v h => ?_, fun a v h => ?_, fun a v h => ?_, fun a v h => ?_, fun a C dx v h => ?_, fun k a h => h, fun a v h => ?_⟩
  · by_cases z : a = d
    · subst z; exact (h2 v (.inl h)).elim
    · show upd w.F d o' a = _
      rw [upd_ne z]; exact h
  · by_cases z : a = d
    · subst z; rw [hd] at h; cases h; exact (h3 v rfl).elim
    · show upd w.F d o' a = _; rw [upd_ne z]; exact h
  · by_cases z : a = d
    · subst z
      rcases h1 v h with e | ⟨x, e⟩
      · exact .inl (by show upd w.F a o' a = _; rw [upd_same, e])
      · exact .inr ⟨x, by show upd w.F a o' a = _; rw [upd_same, e]⟩
    · unfold Rd at h ⊢
      show upd w.F d o' a = _ ∨ ∃ x, upd w.F d o' a = _
      rw [upd_ne z]; exact h
  · by_cases z : a = d
    · subst z; exact (h4 v h).elim
    · unfold Rd at h ⊢
      show upd w.F d o' a = _ ∨ ∃ x, upd w.F d o' a = _
      rw [upd_ne z]; exact h
  · by_cases z : a = d
    · subst z; rw [hd] at h; cases h; exact (h5 _ _ _ rfl).elim
    · show upd w.F d o' a = _; rw [upd_ne z]; exact h
  · by_cases z : a = d
    · subst z; rw [hd] at h; cases h; exact (h6 _ rfl).elim
    · show upd w.F d o' a = _; rw [upd_ne z]; exact h
theorem lock_le (hd : w.F d = some (.dK vs)) (od : Obj) : Le K w (w.lk d (.frz od (.dK vs))) := by
  refine le_swap hd (fun u q => ?_) (fun v q => ?_) (fun _ e => nomatch e) (fun v q => ?_) (fun _ _ _ e => nomatch e) (fun _ e => nomatch e)
  · rcases q with q | ⟨x, q⟩ <;> rw [hd] at q <;> cases q; exact .inr ⟨od, rfl⟩
  · rcases q with q | ⟨x, q⟩ <;> rw [hd] at q <;> cases q
  · rcases q with q | ⟨x, q⟩ <;> rw [hd] at q <;> cases q
theorem unlock_le (hd : w.F d = some (.frz od (.dK vs))) : Le K w (w.lk d (.dK vs)) := by
  refine le_swap hd (fun u q => ?_) (fun v q => ?_) (fun _ e => nomatch e) (fun v q => ?_) (fun _ _ _ e => nomatch e) (fun _ e => nomatch e)
  · rcases q with q | ⟨x, q⟩ <;> rw [hd] at q <;> cases q; exact .inl rfl
  · rcases q with q | ⟨x, q⟩ <;> rw [hd] at q <;> cases q
  · rcases q with q | ⟨x, q⟩ <;> rw [hd] at q <;> cases q
theorem Lk.mv {u o' : HO} (L : Lk K B w ms s σ H) (hd : w.F d = some u) (le : Le K w (w.lk d o')) : Lk K (B.lk d o' u) (w.lk d o') ms s σ (upd H d o') := by
  have hn : ∀ {a}, w.F a = none → a ≠ d := fun {a} h z => by subst z; rw [hd] at h; cases h
  refine ⟨⟨fun a o h => ?_, L.s0.nd, fun a ha => ?_, fun k m h => ?_, L.s0.ln⟩, fun a o na h => ?_, fun a ha => ?_, L.bas, fun a o h => ?_, L.len, fun i av h => ?_, L.dj, fun a u1 h => ?_, L.sf⟩
  · by_cases z : a = d
    · subst z; have h : upd w.F a _ a = some o := h; rw [upd_same] at h ⊢; exact h
    · have h : upd w.F d _ a = some o := h; rw [upd_ne z] at h ⊢; exact L.s0.fh a o h
  · show upd w.F d _ a = none
    rw [upd_ne (hn (L.s0.na a ha))]; exact L.s0.na a ha
  · obtain ⟨a, ha, r⟩ := L.s0.ce k m h
    exact ⟨a, ha, r.mono le fun o q => by rw [upd_ne (hn (L.s0.na a (List.mem_of_getElem? ha)))]; exact q⟩
  · by_cases z : a = d
    · subst z; have h : upd B.H a _ a = some o := h; rw [upd_same] at h ⊢; exact h
    · have h : upd B.H d _ a = some o := h; rw [upd_ne z] at h ⊢; exact L.keep a o na h
  · refine (L.pre a ha).imp id fun q => ?_
    show upd B.H d _ a = none
    rw [upd_ne (hn (L.s0.na a ha))]; exact q
  · by_cases z : a = d
    · subst z; exact .inl ⟨_, upd_same⟩
    · have h : upd w.F d _ a = some o := h; rw [upd_ne z] at h
      refine (L.fz a o h).imp (fun ⟨u, q⟩ => ⟨u, ?_⟩) fun q => q.imp id fun q => ?_
      · show upd B.F d _ a = some u; rw [upd_ne z]; exact q
      · show upd B.H d _ a = none; rw [upd_ne z]; exact q
  · have := L.sl i av h
    cases av with
    | fr x => obtain ⟨v, a, b⟩ := this; exact ⟨v, a, b.mono le⟩
    | ex x => obtain ⟨a, c, d, e0, e1, r⟩ := this; exact ⟨a, c, d, e0, e1, r.mono le⟩
    | ow m =>
      obtain ⟨p, a, r, m1, m2, m3⟩ := this
      have z := hn m1
      exact ⟨p, a, r.mono le fun o q => by rw [upd_ne z]; exact q, by show upd w.F d _ p = none; rw [upd_ne z]; exact m1, m2, by show upd B.H d _ p = none; rw [upd_ne z]; exact m3⟩
  · by_cases z : a = d
    · subst z; exact ⟨_, upd_same⟩
    · have h : upd B.F d _ a = some u1 := h; rw [upd_ne z] at h
      obtain ⟨o, q⟩ := L.bf a u1 h
      exact ⟨o, by show upd B.H d _ a = some o; rw [upd_ne z]; exact q⟩
theorem Lk.mvH {u o' : HO} (L : Lk K B w ms s σ H) (hd : w.F d = some u) (L2 : Lk K (B.lk d o' u) w2 ms2 s2 σ2 H2) : H2 d = some o' := by
  refine L2.keep d _ (fun z => ?_) upd_same
  have := L.s0.na d (L.bas d z)
  rw [hd] at this; cases this
theorem Lk.mvBack {u o' : HO} (L : Lk K B w ms s σ H) (hd : w.F d = some u) (L2 : Lk K (B.lk d o' u) w2 ms2 s2 σ2 H2) (hF : w2.F d = some o') (le2 : Le K w2 (w2.lk d u)) : Lk K B (w2.lk d u) ms2 s2 σ2 (upd H2 d u) := by
  have hn : ∀ {a}, w2.F a = none → a ≠ d := fun {a} h z => by subst z; rw [hF] at h; cases h
  have bh : ∀ {a}, a ≠ d → (B.lk d o' u).H a = B.H a := fun z => upd_ne z
  refine ⟨⟨fun a o h => ?_, L2.s0.nd, fun a ha => ?_, fun k m h => ?_, L2.s0.ln⟩, fun a o na h => ?_, fun a ha => ?_, L2.bas, fun a o h => ?_, L2.len, fun i av h => ?_, L2.dj, L.bf, L2.sf⟩
  · by_cases z : a = d
    · subst z; have h : upd w2.F a _ a = some o := h; rw [upd_same] at h ⊢; exact h
    · have h : upd w2.F d _ a = some o := h; rw [upd_ne z] at h ⊢; exact L2.s0.fh a o h
  · show upd w2.F d _ a = none
    rw [upd_ne (hn (L2.s0.na a ha))]; exact L2.s0.na a ha
  · obtain ⟨a, ha, r⟩ := L2.s0.ce k m h
    exact ⟨a, ha, r.mono le2 fun o q => by rw [upd_ne (hn (L2.s0.na a (List.mem_of_getElem? ha)))]; exact q⟩
  · by_cases z : a = d
    · subst z
      have := L.keep a o na h
      rw [L.s0.fh _ _ hd] at this; rw [upd_same]; exact this
    · rw [upd_ne z]; exact L2.keep a o na ((bh z).trans h)
  · refine (L2.pre a ha).imp id fun q => ?_
    rw [bh (hn (L2.s0.na a ha))] at q; exact q
  · by_cases z : a = d
    · subst z; exact L.fz a _ hd
    · have h : upd w2.F d _ a = some o := h; rw [upd_ne z] at h
      refine (L2.fz a o h).imp (fun ⟨u, q⟩ => ⟨u, ?_⟩) fun q => q.imp id fun q => ?_
      · have q : upd B.F d _ a = some u := q; rw [upd_ne z] at q; exact q
      · rw [bh z] at q; exact q
  · have := L2.sl i av h
    cases av with
    | fr x => obtain ⟨v, a, b⟩ := this; exact ⟨v, a, b.mono le2⟩
    | ex x => obtain ⟨a, c, d, e0, e1, r⟩ := this; exact ⟨a, c, d, e0, e1, r.mono le2⟩
    | ow m =>
      obtain ⟨p, a, r, m1, m2, m3⟩ := this
      have z := hn m1
      exact ⟨p, a, r.mono le2 fun o q => by rw [upd_ne z]; exact q, by show upd w2.F d _ p = none; rw [upd_ne z]; exact m1, m2, (bh z).symm.trans m3⟩
end
/-- either of two readings -/
theorem pe_or {X : Cx} {e : Expr} {t1 t2 : TE} (h1 : PE X e t1) (h2 : PE X e t2) : PE X e (fun σ H Q => t1 σ H Q ∨ t2 σ H Q) := ⟨fun pins s σ H Q I q => q.elim (h1.run pins s σ H Q I) (h2.run pins s σ H Q I)⟩
/-- over the keys of the dict in a slot -/
def fLcK (i : Nat) (g : aG) (tt : aT) (te : aE) (vs : List Nat) : aF := fun s ms Q _ => wipeA s vs = s ∧ slotF s[i]? fun x => isDK x fun kvs => LcL g tt te s (kvs.map fun kv => keyD kv.1) [] ms fun acc ms2 => Q (.lst acc) ms2
section
variable {X : Cx} {Wx : WXA} {elt tg iter : Expr} {ifs : List Expr} {scope : Scope} {own : List (Str × Nat)} {pos : Pos} {te : aE} {g : aG} {gs : List Nat} {tt : aT}
theorem lcK_in {σ : L2.St} {H1 : Hp} {R : VK} {vs : List Nat} {B : Bs Wx.ex} {w1 : W} {ms1 : MS} {s : ASt} {d : Addr} {o : Obj} {kvs : List (Key × V)} {kds : List (Key × D)} {Qf : List D → MS → Prop} (hgs : ∀ j ∈ gs, j ∈ vs) (hs : wipeA s vs = s)
    (L1 : Lk X.K B w1 ms1 s σ H1) (hd : w1.F d = some (.frz o (.dK kvs))) (hB : B.H d = some (.frz o (.dK kvs))) (hb : d ∉ B.as) (rk : RepK X.K w1 kvs kds) (h1 : aLcL g tt te s (kds.map fun kv => keyD kv.1) [] ms1 Qf)
    (hq : ∀ w' ms' H' D vs' ds', Le X.K w1 w' → Lk X.K B w' ms' s σ H' → H' D = none → RepL X.K w' vs' ds' → Qf ds' ms' → R (.ref D) (upd H' D (.lst vs'))) :
    ∀ D, H1 D = none → ∃ W : Nat → Nat → Hp → Prop, (∃ m, W 0 m (upd H1 D (.lst []))) ∧ ∀ i m H, W i m H →
      ((Itk d o kvs).stop i H ∧ R (.ref D) H) ∨ ((Itk d o kvs).go i H ∧ ∃ Nx : Hp → Prop, (∀ H', Nx H' → ∃ m', m' < m ∧ W (i + 1) m' H') ∧ ∀ x H', (Itk d o kvs).yld i H x H' → cG X.K Wx.blk gs g x (wipe σ vs) H' fun σ2 H2 => wipe σ2 vs = wipe σ vs ∧ cT X.K Wx.blk tt σ2 H2 fun b H3 => if b = true then cE X.K Wx.blk te σ2 H3 fun y H4 => ∃ acc, H4 D = some (.lst acc) ∧ acc.length < sizeLine ∧ Nx (upd H4 D (.lst (acc ++ [y]))) else Nx H3) := by
  intro D hD
  obtain ⟨d1, d2, d3⟩ := L1.fresh hD
  have d4 : D ∉ B.as := fun z => d2 (L1.bas D z)
  have d5 : B.F D = none := by
    cases q : B.F D with
    | none => rfl
    | some u => obtain ⟨o, z⟩ := L1.bf D u q; rw [d3] at z; cases z
  have hne : d ≠ D := fun z => by subst z; rw [hB] at d3; cases d3
  let ds : List LA.D := kds.map fun kv => keyD kv.1
  have hlen : ds.length = kvs.length := by show (kds.map _).length = _; have := rk.keys.length; simpa using this.symm
  have hold : ∀ {w2 : W} {ms2 : MS} {s2 : ASt} {σ2 : L2.St} {H2 : Hp} {ob : HO}, Lk X.K (B.at D ob) w2 ms2 s2 σ2 H2 → H2 d = some (.frz o (.dK kvs)) := fun L => L.keep d _ hb (by show upd B.H D _ d = _; rw [upd_ne hne]; exact hB)
  refine ⟨fun i m H => m + i = ds.length ∧ ∃ w2 ms2 acc ad, Le X.K w1 w2 ∧ Lk X.K (B.at D (.lst acc)) w2 ms2 (wipeA s vs) (wipe σ vs) H ∧ RepL X.K w2 acc ad ∧ aLcL g tt te s (ds.drop i) ad ms2 Qf, ⟨ds.length, rfl, w1, ms1, [], [], Le.refl _ _, (L1.side hD).wipe, .nil, h1⟩, ?_⟩
  rintro i m H2 ⟨hm, w2, ms2, acc, ad, e2, L2', racc, h2⟩
  by_cases hi : i < ds.length
  · refine .inr ⟨⟨hold L2', by omega⟩, fun H => m - 1 + (i + 1) = ds.length ∧ ∃ w2 ms2 acc ad, Le X.K w1 w2 ∧ Lk X.K (B.at D (.lst acc)) w2 ms2 (wipeA s vs) (wipe σ vs) H ∧ RepL X.K w2 acc ad ∧ aLcL g tt te s (ds.drop (i + 1)) ad ms2 Qf,
      fun H' n => ⟨m - 1, by omega, n⟩, fun x H' y => ?_⟩
    obtain ⟨rfl, k, v, hk, rfl⟩ := y
    have rx : Rep X.K w2 (kV k) ds[i] := by
      obtain ⟨u, hu, ru⟩ := (rk.keys.mono e2).get (List.getElem?_eq_getElem hi)
      rw [List.getElem?_map, hk] at hu
      cases hu; exact ru
    rw [List.drop_eq_getElem_cons hi] at h2
    refine ⟨_, w2, ms2, _, _, _, L2', rx, by rw [hs]; exact h2, fun w4 ms4 H4 s4 σ4 e4 L4 oa ol h4 => ⟨(wipe_only oa hgs).trans (wipe_wipe σ vs), ?_⟩⟩
    have e14 := e2.trans e4
    have back : ∀ {w5 : W} {ms5 : MS} {H5 : Hp} {o : HO}, Lk X.K (B.at D o) w5 ms5 s4 σ4 H5 → Lk X.K (B.at D o) w5 ms5 (wipeA s vs) (wipe σ vs) H5 := fun L => by
      have := L.wipe (vs := vs)
      rw [wipe_only oa hgs, wipe_wipe, wipeA_only ol hgs, wipeA_wipeA] at this
      exact this
    refine ⟨_, w4, ms4, s4, _, _, L4, h4, fun w5 ms5 H5 b e5 L5 h5 => ?_, fun _ _ _ _ _ _ _ _ _ z => z.elim⟩
    cases b with
    | false => dsimp only; rw [if_neg (by decide)]; exact ⟨by omega, w5, ms5, acc, ad, e14.trans e5, back L5, racc.mono (e4.trans e5), h5⟩
    | true =>
      dsimp only
      rw [if_pos rfl]
      refine ⟨_, w5, ms5, s4, _, _, L5, h5, fun w6 ms6 H6 v d e6 L6 r6 h6 => ?_, fun _ _ _ _ _ _ _ _ _ z => z.elim⟩
      have ra6 := racc.mono ((e4.trans e5).trans e6)
      obtain ⟨_, hD6, _, _⟩ := L6.drop d3 d4 d5
      exact ⟨acc, hD6, by rw [racc.length]; exact h6.1, by omega, w6, ms6, acc ++ [v], ad ++ [d], (e14.trans e5).trans e6, back (L6.sideUpd d3 d4 d5), ra6.append (.cons r6 .nil), h6.2⟩
  · have hi : i = ds.length := by omega
    subst hi
    rw [List.drop_length] at h2
    obtain ⟨L5, hD5, f5, _⟩ := (L2'.unwipe hs).drop d3 d4 d5
    refine .inl ⟨⟨hold L2', by omega⟩, ?_⟩
    have := hq w2 ms2 (but H2 D) D acc ad e2 L5 but_same racc h2
    rw [but_back hD5] at this
    exact this
theorem fe_lcK {i : Nat} (hc : X.calm = true) (hN : X.N.Nodup) (hv : PE X iter (tVar i)) (ok : BlkOk X.N X.env.scope scope own) (hgs : ∀ j ∈ gs, j ∈ own.map (·.2))
    (hg : ∀ (s : Shared) (H : Hp) (C : Addr) (cl : List (Str × Addr)) (fp : List Addr), AG (X.blk s H scope (compEnvC scope cl C X.env) fp) Wx.blk gs tg g) (ht : ∀ (s : Shared) (H : Hp) (C : Addr) (cl : List (Str × Addr)) (fp : List Addr), ATs (X.blk s H scope (compEnvC scope cl C X.env) fp) Wx.blk ifs tt)
    (he : ∀ (s : Shared) (H : Hp) (C : Addr) (cl : List (Str × Addr)) (fp : List Addr), AE (X.blk s H scope (compEnvC scope cl C X.env) fp) Wx.blk elt te) (hs : ∀ x, foldedSetIterable iter X.env x = pure x := by intro _; rfl) :
    FE X Wx (.ListComp elt [⟨tg, iter, ifs, 0⟩] scope pos) (fLcK i g tt te (own.map (·.2))) :=
  PE.imp (pe_or (pe_lc (g := cG X.K Wx.blk gs g) (tt := cT X.K Wx.blk tt) (te := cE X.K Wx.blk te) hc hN (pi_keys hv) ok hg ht he hs) (pe_lock (pe_lc (g := cG X.K Wx.blk gs g) (tt := cT X.K Wx.blk tt) (te := cE X.K Wx.blk te) hc hN (pi_keys hv) ok hg ht he hs))) fun σ H R ⟨B, w, ms, s, Q, E, L, ⟨hw, h⟩, hq, hx⟩ => by
    unfold slotF at h
    split at h
    · rename_i x e
      obtain ⟨v, e1, r⟩ := L.sl i _ e
      cases r with
      | @dk a vs ds hd rk =>
        have h : aLcL g tt te s (ds.map fun kv => keyD kv.1) [] ms fun acc ms2 => Q (.lst acc) ms2 := h.h
        rcases hd with hd | ⟨od, hd⟩
        · refine .inr ⟨a, _, L.s0.fh _ _ hd, trivial, fun od => ?_⟩
          have le := lock_le (K := X.K) hd od
          have L1 := L.mv hd le
          have nb : a ∉ B.as := fun z => by have := L.s0.na a (L.bas a z); rw [hd] at this; cases this
          refine ⟨_, e1, a, od, rfl, .inl ⟨vs, upd_same, lcK_in (X := X) (Wx := Wx) (R := fun v H' => H' a = some (.frz od (.dK vs)) ∧ R v (upd H' a (.dK vs))) (Qf := fun acc ms2 => Q (.lst acc) ms2) hgs hw L1 upd_same upd_same nb (rk.mono le) h fun w' ms' H' D vs' ds' le' L' hD rl q => ?_⟩⟩
          have hH := L.mvH hd L'
          have hne : a ≠ D := fun z => by subst z; rw [hH] at hD; cases hD
          have hF : w'.F a = some (.frz od (.dK vs)) := by
            rcases le'.k a vs (.inr ⟨od, upd_same⟩) with q | ⟨x, q⟩
            · have := L'.s0.fh _ _ q; rw [hH] at this; cases this
            · have := L'.s0.fh _ _ q; rw [hH] at this; cases this; exact q
          have le2 := unlock_le (K := X.K) hF
          have L3 := L.mvBack hd L' hF le2
          refine ⟨by rw [upd_ne hne]; exact hH, ?_⟩
          have hsw : upd (upd H' D (.lst vs')) a (.dK vs) = upd (upd H' a (.dK vs)) D (.lst vs') := by
            funext b
            by_cases z1 : b = a
            · subst z1; rw [upd_same, upd_ne hne, upd_same]
            · rw [upd_ne z1]
              by_cases z2 : b = D
              · subst z2; rw [upd_same, upd_same]
              · rw [upd_ne z2, upd_ne z2, upd_ne z1]
          rw [hsw]
          refine hq _ ms' _ D _ (.lst ds') ((le.trans le').trans le2) L3 (by rw [upd_ne (fun z => hne z.symm)]; exact hD) (.lst upd_same (rl.mono le2)) q
        · have same : ∀ (w : W), w.F a = some (.frz od (.dK vs)) → w.lk a (.frz od (.dK vs)) = w := fun w hw => by
            unfold W.lk
            have : upd w.F a (.frz od (.dK vs)) = w.F := by
              funext b
              by_cases z : b = a
              · subst z; rw [upd_same, hw]
              · rw [upd_ne z]
            rw [this]
          have hH0 := L.s0.fh _ _ hd
          have sameH : ∀ {G : Hp}, G a = some (.frz od (.dK vs)) → upd G a (.frz od (.dK vs)) = G := fun {G} q => by
            funext b
            by_cases z : b = a
            · subst z; rw [upd_same, q]
            · rw [upd_ne z]
          have le : Le X.K w (w.lk a (.frz od (.dK vs))) := by rw [same w hd]; exact Le.refl _ _
          have L1 := L.mv hd le
          rw [same w hd, sameH hH0] at L1
          have nb : a ∉ B.as := fun z => by have := L.s0.na a (L.bas a z); rw [hd] at this; cases this
          refine .inl ⟨_, e1, a, od, rfl, .inl ⟨vs, hH0, lcK_in (X := X) (Wx := Wx) (R := R) (Qf := fun acc ms2 => Q (.lst acc) ms2) hgs hw L1 hd upd_same nb rk h fun w' ms' H' D vs' ds' le' L' hD rl q => ?_⟩⟩
          have hH := L.mvH hd L'
          have hF : w'.F a = some (.frz od (.dK vs)) := by
            rcases le'.k a vs (.inr ⟨od, hd⟩) with q | ⟨x, q⟩
            · have := L'.s0.fh _ _ q; rw [hH] at this; cases this
            · have := L'.s0.fh _ _ q; rw [hH] at this; cases this; exact q
          have L3 := L.mvBack hd L' hF (by rw [same w' hF]; exact Le.refl _ _)
          rw [same w' hF, sameH hH] at L3
          exact hq w' ms' H' D _ (.lst ds') le' L3 hD (.lst upd_same (rl.mono (Le.refl _ _))) q
      | _ => exact False.elim h
    · exact h.elim
end
theorem br_n {c : Prop} [Decidable c] {p q : MS → Prop} {ms : MS} (h1 : ¬c → p ms) (h2 : c → q ms) : Br (!decide c) p q ms := by
  by_cases h : c
  · rw [decide_eq_true h]; exact h2 h
  · rw [decide_eq_false h]; exact h1 h
end LA

set_option Elab.async false
set_option linter.all false
set_option maxRecDepth 100000
set_option maxHeartbeats 4000000
/-! LA16: len(set(t)), t a tuple of different texts. -/
namespace LA
open PySem PySem.Spec PyProof.Rows L2
section
variable {prog : Program} {w : World} {A : Around} {R : Result → Shared → Prop} {I : Addr} {fp wr : List Addr} {G : Array GenState → Array GenState → Prop} {n : Nat} {Pq : Nat → Value → Prop} {St : Nat → Shared → Prop}
/-- the first i of the texts, as a set's test -/
def upTo (xs : List Str) (i : Nat) : Str → Bool := fun k => (xs.take i).any (· == k)
theorem upTo_no {xs : List Str} {i : Nat} (h : i < xs.length) (hd : xs.Nodup) : upTo xs i xs[i] = false := by
  unfold upTo
  rw [List.any_eq_false]
  intro y hy e
  obtain ⟨j, hj, ey⟩ := List.getElem_of_mem hy
  rw [List.length_take] at hj
  rw [List.getElem_take] at ey
  have hji : j < i := by omega
  have := List.pairwise_iff_getElem.mp hd j i (by omega) h hji
  exact this (ey.trans (beq_iff_eq.mp e))
theorem upTo_succ {xs : List Str} {i : Nat} (h : i < xs.length) (k : Str) : (upTo xs i k || decide (k = xs[i])) = upTo xs (i + 1) k := by
  unfold upTo
  have e : xs.take (i + 1) = xs.take i ++ [xs[i]] := by rw [List.take_succ, List.getElem?_eq_getElem h]; rfl
  rw [e, List.any_append]
  congr 1
  by_cases q : k = xs[i]
  · subst q; simp
  · have : (xs[i] == k) = false := beq_eq_false_iff_ne.mpr fun z => q z.symm
    simp [q, this]
theorem lp (W : WalksS prog w A.in1 I fp wr G n Pq St) (S : Addr) (nS : S ∉ fp) (xs : List Str) (hz : xs.length = n) (hd : xs.Nodup) (hb : n + 1 < scanBound) (hv : ∀ i v, Pq i v → ∃ t, v = .str (xs.getD i Str.empty) t) :
    ∀ (k i : Nat) (s : Shared), n - i = k → i ≤ n → St i s → s.heap.SetOf (PySem.strKind prog w) S (upTo xs i) i → (∀ s', Moved (S :: wr) G s s' → s'.heap.SetOf (PySem.strKind prog w) S (upTo xs n) n → R (.ok (.ret .none)) s') →
      codeAny (model prog w) A (.builtin "set.update.loop" ⟨[.ref S, .ref I], []⟩) R s := by
  have nw : S ∉ wr := fun h => nS (W.sub _ h)
  have up : ∀ b ∈ wr, b ∈ S :: wr := fun b h => List.mem_cons_of_mem _ h
  have carry : ∀ {s s' : Shared} {i : Nat}, Moved wr G s s' → s.heap.SetOf (PySem.strKind prog w) S (upTo xs i) i → s'.heap.SetOf (PySem.strKind prog w) S (upTo xs i) i := fun m ⟨o, es, ep, t, h, r⟩ => ⟨o, es, ep, t, m.heap S _ nw h, r⟩
  intro k
  induction k with
  | zero =>
    intro i s e hi st hS fin
    obtain rfl : i = n := by omega
    refine codeAny_builtin PyProof.Rows.F.entry_set_update_loop ?_; rw [Around.under_plainId PyProof.Rows.F.plain_set_update_loop _]; show wpAny _ A.in1 (pyNext (.ref I) >>= _) _ _ s
    refine wpAny_bind (W.done s _ _ st fun s' m => ?_); show wpAny _ A.in1 (ret Value.none) _ _ s'
    exact wpAny_pure (fin s' (m.mono up) (carry m hS))
  | succ k ih =>
    intro i s e hi st hS fin
    have lt : i < n := by omega
    have lx : i < xs.length := by omega
    refine codeAny_builtin PyProof.Rows.F.entry_set_update_loop ?_; rw [Around.under_plainId PyProof.Rows.F.plain_set_update_loop _]; show wpAny _ A.in1 (pyNext (.ref I) >>= _) _ _ s
    refine wpAny_bind (W.item i s _ _ lt st fun v s' hP st' m => ?_)
    obtain ⟨t, rfl⟩ := hv i v hP
    have ex : xs.getD i Str.empty = xs[i] := by rw [List.getD_eq_getElem?_getD, List.getElem?_eq_getElem lx]; rfl
    rw [ex]
    have hS' := carry m hS
    show wpAny _ A.in1 (holding [Value.str xs[i] t] (setAdd S (.str xs[i] t)) >>= _) _ _ s'
    refine wpAny_bind (wpAny_holding ?_)
    unfold setAdd
    refine wpAny_holding (wpAny_bind ((PySem.strKind prog w).pyHash (k := xs[i]) (strKind_is _ _ _ _) ?_))
    refine wpAny_setAddHashed_of (knd := PySem.strKind prog w) (s := { s' with toks := s'.toks + 1 }) (strKind_is _ _ _ _) rfl hS' (by omega) fun h' sb new => ?_
    have hSi : h'.SetOf (PySem.strKind prog w) S (upTo xs (i + 1)) (i + 1) := SetOf_congr new (fun k' => upTo_succ lx k') (by rw [upTo_no lx hd]; rfl)
    refine wpAny_pure ⟨plainId_quiet PyProof.Rows.F.plain_set_update_loop _, ih (i + 1) _ (by omega) lt (W.frame _ s' _ _ st' (Nat.le_succ _) fun b hb o e => ?_) hSi fun s2 m2 hS2 => ?_⟩
    · rw [sb.2 b (fun z : b = S => nS (z ▸ hb))]; exact e
    · refine fin s2 (Moved.trans W.gtrans ((m.mono up).then_heap (Nat.le_succ _) fun b o hb e => ?_) m2) hS2
      rw [sb.2 b (fun z : b = S => hb (z ▸ List.mem_cons_self))]; exact e
variable {E : Value → Shared → Prop} {s : Shared}
set_option maxHeartbeats 3200000 in
/-- set(t) of a tuple of different texts -/
theorem set_of {l : Addr} {items : Array Value} {xs : List Str} {Q : Value → Shared → Prop} (hh : A.handled = none) (hl : s.heap.IsTuple l items) (hi : PyProof.Rows.StrsAre items.toList xs) (hd : xs.Nodup) (hb : xs.length + 1 < scanBound)
    (h : ∀ (h' : Heap) (tk : Nat), h'.SetOf (PySem.strKind prog w) s.heap.objs.size (upTo xs items.size) items.size → (∀ b o, b < s.heap.objs.size → s.heap.get? b = some o → h'.get? b = some o) → Q (.ref s.heap.objs.size) { s with heap := h', toks := tk }) : wpAny (model prog w) A (call (.type "set") [.ref l]) Q E s := by
  obtain ⟨c, tl, mro⟩ := PySem.F.called_set.mro
  have k1 := PySem.F.called_set.made; have k2 := PySem.F.called_set.sub
  refine wpAny_call (codeAny_of_tree ?_); show wpAny _ _ (callAny (.type "set") _) _ _ _
  refine wpAny_pure ⟨Code.quiet_builtin _ (by decide +kernel), codeAny_builtin PySem.F.entry_type_call ?_⟩; rw [Around.under_plain (weight_type_call_type "set" [.ref l] []) rfl]
  have k3 := PySem.F.called_set.notType; have k4 := PySem.F.called_set.canCreate; have k5 := PySem.F.typeCall_set_1 (.ref l)
  repeat (any_goals (first | assumption | wp_step))
  let o0 : Bool → Obj := fun led => { cls := .type "set", dict := none, data := .set #[] 0 (.fresh 0 0 led) }
  refine codeAny_mono (code_set_new_1 (.ref l) (E := E) (Q₁ := fun obj s₁ => ∃ led : Bool, obj = .ref s.heap.objs.size ∧ s₁ = { s with heap := s.heap.push (o0 led) }) fun led => ⟨led, rfl, rfl⟩) fun r s₁ hr => ?_
  match r, hr with
  | .error e, hr => exact hr
  | .ok (.ret obj), hr =>
    obtain ⟨led, rfl, rfl⟩ := hr
    have g0 : (s.heap.push (o0 led)).get? s.heap.objs.size = some (o0 led) := Heap.get?_push_size _ rfl
    have gT : Shared.TypeIs { s with heap := s.heap.push (o0 led) } (.ref s.heap.objs.size) "set" := ⟨_, g0, rfl⟩
    have k6 := PySem.F.called_set.init.lookup; have k7 := PySem.F.called_set.init.bind (.ref s.heap.objs.size)
    repeat (any_goals (first | assumption | wp_step))
    let Rr : Result → Shared → Prop := wants (fun r s₂ => r = .none ∧ ∃ h' tk, s₂ = { s with heap := h', toks := tk } ∧ h'.SetOf (PySem.strKind prog w) s.heap.objs.size (upTo xs items.size) items.size ∧ (∀ b o, b < s.heap.objs.size → s.heap.get? b = some o → h'.get? b = some o)) E
    refine codeAny_mono (codeAny_call_builtin (R := Rr) PySem.F.called_set.init.plain PySem.F.entry_set_init (check_set_init_1 gT ?_)) fun r2 s2 hr2 => ?_
    · obtain ⟨⟨oc, od, oD, osl⟩, hol, hcl, nl, hdl⟩ := hl
      simp only at hcl hdl
      subst hcl; subst hdl
      have g1 : (s.heap.push (o0 led)).get? l = some { cls := .type "tuple", dict := od, data := .seq items nl, slots := osl } := Heap.get?_push_of_some _ hol
      have k8 := PySem.F.sub_tuple_set; have k9 := PySem.F.sub_tuple_frozenset
      have k10 : (Value.type "tuple" == Value.type "dict") = false := by decide
      have tl1 : (s.heap.push (o0 led)).IsTuple l items := ⟨_, g1, rfl, nl, rfl⟩
      unfold Builtin.«set.__init__» noKeywords Builtin.Frozenset.updateFrom; generalize hPI : pyIter = PI
      wp_walk
      subst hPI
      refine wpAny_pyIter_tuple tl1 (wpAny_bind (wpAny_runValue ?_))
      have lS : l < s.heap.objs.size := Heap.lt_size hol
      have nI : l ≠ (s.heap.push (o0 led)).objs.size := by rw [Heap.size_push]; exact Nat.ne_of_lt (Nat.lt_succ_of_lt lS)
      have nF : s.heap.objs.size ∉ [(s.heap.push (o0 led)).objs.size, l] := by rw [Heap.size_push]; simp only [List.mem_cons, List.not_mem_nil, or_false, not_or]; exact ⟨Nat.ne_of_lt (Nat.lt_succ_self _), Nat.ne_of_gt lS⟩
      have hz : xs.length = items.size := by rw [← StrsAre.len_eq hi, Array.length_toList]
      have hv : ∀ (i : Nat) (v : Value), items[i]? = some v → ∃ t, v = .str (xs.getD i Str.empty) t := fun i v q => SS.strs_at hi i v (by rw [Array.getElem?_toList]; exact q)
      refine lp ((Walks.tuple (show A.in1.in1.in1.handled = none by simp [hh]) _ l nI items).toS) s.heap.objs.size nF xs hz hd (by omega) hv (items.size - 0) 0 _ (by omega) (Nat.zero_le _) ⟨⟨_, Heap.get?_push_size _ rfl, rfl, rfl⟩, (tl1.push _)⟩ ?h0 ?h1
      case h0 => exact PyProof.Rows.SetOf_congr ((PyProof.Rows.setObjOf_fresh (knd := PySem.strKind prog w) led).setOf (show ((s.heap.push (o0 led)).push { cls := .type "tuple_iterator", data := .fields #[.ref l, .int 0 0] }).get? s.heap.objs.size = some (o0 led) from Heap.get?_push_of_some _ g0) (by unfold scanBound; omega)) (fun _ => rfl) rfl
      case h1 =>
        intro s' m hS'
        obtain ⟨h', g', d', tk', os'⟩ := s'
        obtain rfl : g' = s.gens := m.gens
        obtain rfl : d' = s.drawn := m.drawn
        obtain rfl : os' = s.os := m.os
        refine wpAny_pure (wpAny_pure ⟨rfl, h', tk', rfl, hS', fun b o hb e => ?_⟩)
        refine m.heap b o ?_ (Heap.get?_push_of_some _ (Heap.get?_push_of_some _ e))
        rw [Heap.size_push]; simp only [List.mem_cons, List.not_mem_nil, or_false, not_or]
        exact ⟨Nat.ne_of_lt hb, Nat.ne_of_lt (Nat.lt_succ_of_lt hb)⟩
    · match r2, hr2 with
      | .error e, hr2 => exact hr2
      | .ok (.ret r), hr2 =>
        obtain ⟨rfl, h', tk, rfl, hS', hk'⟩ := hr2
        repeat (any_goals (first | assumption | wp_step))
        exact h _ _ hS' hk'
end
/-- len(set(t)) -/
def tLenSetS (K : PySem.W.Frag) (ta : TE) : TE := fun σ H Q => ta σ H fun x H1 => ∃ l, ∃ xs : List Str, x = .ref l ∧ SqT K H1 l (xs.map V.str) ∧ xs.length < 64 ∧ xs.Nodup ∧ Q (.int xs.length) H1
section
variable {X : Cx} {Wx : WXA} {a : Expr} {ra : aE} {p p2 q pos : Pos}
theorem pe_lenSetS {ta : TE} (hc : X.calm = true) (hg : Gl X "len") (hm : X.mg "len" = none) (hg2 : Gl X "set") (hm2 : X.mg "set" = none) (ha : PE X a ta) (na : starEach [a] X.env = (false, eval a X.env) :: starEach [] X.env := by rfl) : PE X (.Call (.Name "len" p) [.Call (.Name "set" p2) [a] [] q] [] pos) (tLenSetS X.K ta) := by
  refine ⟨fun pins s σ H Q I h => Call_ (ld_blt I hg hm PySem.boot_len ?_)⟩
  refine PyProof.Rows.callWith_builtin1 (PyProof.Rows.args_cons (Call_ (ld_blt I hg2 hm2 PyProof.Rows.boot_set ?_)) rfl) rfl rfl
  refine PyProof.Rows.callWith_type1 (PyProof.Rows.args_cons (thn (ha.run pins s σ H _ I h) fun v s1 ⟨x, H1, I1, r1, l, xs, ex, hq, h64, hd, q1⟩ => PyProof.Rows.args_nil ?_) na) na rfl
  subst ex
  cases r1
  obtain ⟨its, r, pl, hz⟩ := I1.tuple hq
  refine set_of (I1.ok.hd hc) pl (by simpa using strsAre_of r) hd (by unfold scanBound; omega) fun h' tk hS hk => PyProof.Rows.args_nil ?_
  have hl : its.toArray.size = xs.length := by rw [List.size_toArray, ← r.length, List.length_map]
  rw [hl] at hS
  obtain ⟨o, es, ep, t, ho, hex, hd, _, _, _, hf, hn⟩ := hS
  have I2 : Inv X pins σ H1 { s1 with heap := h', toks := tk } := I1.kept fun b o e => hk b o (Heap.lt_size e) e
  exact call_len_set ho hex hd hf (by rw [hn]; omega) ⟨.int xs.length, H1, I2.tok _, ⟨_, by rw [hn]⟩, q1⟩
/-- a tuple -/
def isT (x : D) (k : List D → Prop) : Prop := match x with
  | .tup xs => k xs
  | _ => False
theorem s_isT {xs : List D} {k : List D → Prop} : isT (.tup xs) k = k xs := rfl
/-- texts -/
def strsD : List D → Option (List Str)
  | [] => some []
  | .str x :: r => (strsD r).map (x :: ·)
  | _ => none
theorem strsD_map : ∀ xs : List Str, strsD (xs.map D.str) = some xs
  | [] => rfl
  | x :: r => by rw [List.map_cons, strsD, strsD_map r]; rfl
theorem strsD_of : ∀ {ds : List D} {xs : List Str}, strsD ds = some xs → ds = xs.map D.str
  | [], xs, h => by cases h; rfl
  | .str x :: r, xs, h => by
    rw [strsD] at h
    cases q : strsD r with
    | none => rw [q] at h; cases h
    | some ys => rw [q] at h; cases h; rw [strsD_of q]; rfl
  | .non :: r, xs, h => by simp [strsD] at h
  | .bl _ :: r, xs, h => by simp [strsD] at h
  | .int _ :: r, xs, h => by simp [strsD] at h
  | .ty _ :: r, xs, h => by simp [strsD] at h
  | .cls _ :: r, xs, h => by simp [strsD] at h
  | .tup _ :: r, xs, h => by simp [strsD] at h
  | .lst _ :: r, xs, h => by simp [strsD] at h
  | .dk _ :: r, xs, h => by simp [strsD] at h
  | .dt _ :: r, xs, h => by simp [strsD] at h
  | .ins _ _ :: r, xs, h => by simp [strsD] at h
  | .ptr _ :: r, xs, h => by simp [strsD] at h
  | .exn _ _ :: r, xs, h => by simp [strsD] at h
theorem repL_strs {K : PySem.W.Frag} {w : W} : ∀ {xs : List Str} {vs : List V}, RepL K w vs (xs.map D.str) → vs = xs.map V.str
  | [], _, h => by cases h; rfl
  | x :: r, _, h => by
    cases h with
    | cons h1 h2 => cases h1; rw [repL_strs h2]; rfl
/-- the number of different texts of a tuple in which all differ -/
def aLenSet (ra : aE) : aE := fun s ms Q E => ra s ms (fun x ms1 => isT x fun ds => gotI (strsD ds) fun xs => xs.length < 64 ∧ xs.Nodup ∧ Q (.int xs.length) ms1) E
theorem ae_lenSet (hc : X.calm = true) (hg : Gl X "len") (hm : X.mg "len" = none) (hg2 : Gl X "set") (hm2 : X.mg "set" = none) (ha : AE X Wx a ra) (na : starEach [a] X.env = (false, eval a X.env) :: starEach [] X.env := by rfl) : AE X Wx (.Call (.Name "len" p) [.Call (.Name "set" p2) [a] [] q] [] pos) (aLenSet ra) :=
  PE.imp (pe_lenSetS hc hg hm hg2 hm2 ha na) fun σ H R ⟨B, w, ms, s, Q, E, L, h, hq, hx⟩ => ⟨B, w, ms, s, _, E, L, h, fun w1 ms1 H1 v d e1 L1 r1 h1 => by
    cases r1 with
    | @tup l vs ds hf rl =>
      obtain ⟨xs, e, g1, g2, g3⟩ := gotI_of h1
      obtain rfl := strsD_of e
      obtain rfl := repL_strs rl
      exact ⟨l, xs, rfl, SqT.up L1.s0 hf, g1, g2, hq w1 ms1 H1 _ _ e1 L1 (.int _) g3⟩
    | _ => exact False.elim h1, hx⟩
end
end LA

set_option Elab.async false
set_option linter.all false
set_option maxRecDepth 100000
set_option maxHeartbeats 4000000
/-! LA17 (printed by mkla17.py): each reading's step as an equation. -/
namespace LA
open PySem PySem.Spec PyProof.Rows L2
/-- behind a store: the slots are made plain first -/
def withS (s : ASt) (k : ASt → Prop) (t : Tag k k := .mk) : Prop := k s
theorem s_withS {x : Option AV} {s : ASt} {k : ASt → Prop} : withS (x :: s) k = k (x :: s) := Eq.trans rfl rfl
theorem w_aSeq {t u : aS} {s : ASt} {ms : MS} {A : AEnds} : aSeq t u A s ms = (t { A with nx := u A } s ms) := Eq.trans rfl rfl
theorem w_aNext  {s : ASt} {ms : MS} {A : AEnds} : aNext A s ms = (A.nx s ms) := Eq.trans rfl rfl
theorem w_aBreak  {s : ASt} {ms : MS} {A : AEnds} : aBreak A s ms = (A.bk s ms) := Eq.trans rfl rfl
theorem w_aCont  {s : ASt} {ms : MS} {A : AEnds} : aCont A s ms = (A.ct s ms) := Eq.trans rfl rfl
theorem w_aDrop {ra : aE} {s : ASt} {ms : MS} {A : AEnds} : aDrop ra A s ms = (ra s ms (fun _ ms1 => A.nx s ms1) fun x ms => A.ex x s ms) := Eq.trans rfl rfl
theorem w_aRet {ra : aE} {s : ASt} {ms : MS} {A : AEnds} : aRet ra A s ms = (ra s ms A.rt fun x ms => A.ex x s ms) := Eq.trans rfl rfl
theorem w_aRetN  {s : ASt} {ms : MS} {A : AEnds} : aRetN A s ms = (A.rt .non ms) := Eq.trans rfl rfl
theorem w_aIfS {c : aT} {t u : aS} {s : ASt} {ms : MS} {A : AEnds} : aIfS c t u A s ms = (c s ms (fun b ms1 => Br b (t A s) (u A s) ms1) fun x ms => A.ex x s ms) := Eq.trans rfl rfl
theorem w_aAsg {ra : aE} {g : aG} {s : ASt} {ms : MS} {A : AEnds} : aAsg ra g A s ms = (ra s ms (fun x ms1 => g x s ms1 A.nx) fun x ms => A.ex x s ms) := Eq.trans rfl rfl
theorem w_aName {i : Nat} {s : ASt} {ms : MS} {d : D} {Q : ASt → MS → Prop} : aName i d s ms Q = (withS (s.set i (some (.fr d))) (fun s => Q s ms)) := Eq.trans rfl rfl
theorem w_aC {d : D} {s : ASt} {ms : MS} {Q : D → MS → Prop} {E : XD → MS → Prop} : aC d s ms Q E = (Q d ms) := Eq.trans rfl rfl
theorem w_aBin {f : D → D → (D → Prop) → Prop} {ra rb : aE} {s : ASt} {ms : MS} {Q : D → MS → Prop} {E : XD → MS → Prop} : aBin f ra rb s ms Q E = (ra s ms (fun x ms1 => rb s ms1 (fun y ms2 => f x y fun z => Q z ms2) E) E) := Eq.trans rfl rfl
theorem w_aUn {f : D → (D → Prop) → Prop} {ra : aE} {s : ASt} {ms : MS} {Q : D → MS → Prop} {E : XD → MS → Prop} : aUn f ra s ms Q E = (ra s ms (fun x ms1 => f x fun z => Q z ms1) E) := Eq.trans rfl rfl
theorem w_aCall {S : ASp} {rr : aA} {s : ASt} {ms : MS} {Q : D → MS → Prop} {E : XD → MS → Prop} : aCall S rr s ms Q E = (rr s ms (fun ds ms1 => DoCall S ds ms1 Q E) E) := Eq.trans rfl rfl
theorem w_aMeth {c m : Str} {S : ASp} {ra : aE} {rr : aA} {s : ASt} {ms : MS} {Q : D → MS → Prop} {E : XD → MS → Prop} : aMeth c m S ra rr s ms Q E = (ra s ms (fun x ms1 => isIns c x ms1 fun fs => fs.lookup m = none ∧ rr s ms1 (fun ds ms2 => DoCall S (x :: ds) ms2 Q E) E) E) := Eq.trans rfl rfl
theorem w_aProp {c : Str} {S : ASp} {ra : aE} {s : ASt} {ms : MS} {Q : D → MS → Prop} {E : XD → MS → Prop} : aProp c S ra s ms Q E = (ra s ms (fun x ms1 => isIns c x ms1 fun _ => DoCall S [x] ms1 Q fun _ _ => False) E) := Eq.trans rfl rfl
theorem w_aInst {c : Str} {S : ASp} {ra : aE} {rr : aA} {s : ASt} {ms : MS} {Q : D → MS → Prop} {E : XD → MS → Prop} : aInst c S ra rr s ms Q E = (ra s ms (fun x ms1 => isIns c x ms1 fun _ => rr s ms1 (fun ds ms2 => isIns c x ms2 fun _ => DoCall S (x :: ds) ms2 Q E) E) E) := Eq.trans rfl rfl
theorem w_aMake {c : Str} {S : ISp} {rr : aA} {s : ASt} {ms : MS} {Q : D → MS → Prop} {E : XD → MS → Prop} : aMake c S rr s ms Q E = (rr s ms (fun ds ms1 => DoMake S ds ms1 (fun gs ms2 => Q (.ins c gs) ms2) E) E) := Eq.trans rfl rfl
theorem w_aMakeP {c : Str} {S : ISp} {rr : aA} {s : ASt} {ms : MS} {Q : D → MS → Prop} {E : XD → MS → Prop} : aMakeP c S rr s ms Q E = (rr s ms (fun ds ms1 => DoMake S ds ms1 (fun gs ms2 => Q (.ptr ms2.length) (ms2 ++ [.ins c gs])) E) E) := Eq.trans rfl rfl
theorem w_aEqO {c : Str} {S : ASp} {ra rb : aE} {s : ASt} {ms : MS} {Q : D → MS → Prop} {E : XD → MS → Prop} : aEqO c S ra rb s ms Q E = (ra s ms (fun x ms1 => rb s ms1 (fun y ms2 => isIns c x ms2 fun _ => othD c y ms2 (DoCall S [x, y] ms2 Q fun _ _ => False)) E) E) := Eq.trans rfl rfl
theorem w_aWhile {c : aT} {tb : aS} {s : ASt} {ms : MS} {A : AEnds} : aWhile c tb A s ms = (While c tb A s ms) := Eq.trans rfl rfl
theorem w_aAndV {ra rb : aE} {s : ASt} {ms : MS} {Q : D → MS → Prop} {E : XD → MS → Prop} : aAndV ra rb s ms Q E = (ra s ms (fun x ms1 => isB x fun c => Br c (fun ms => rb s ms Q E) (Q (.bl false)) ms1) E) := Eq.trans rfl rfl
theorem w_aOrV {ra rb : aE} {s : ASt} {ms : MS} {Q : D → MS → Prop} {E : XD → MS → Prop} : aOrV ra rb s ms Q E = (ra s ms (fun x ms1 => isB x fun c => Br c (Q (.bl true)) (fun ms => rb s ms Q E) ms1) E) := Eq.trans rfl rfl
theorem w_aNotV {ra : aE} {s : ASt} {ms : MS} {Q : D → MS → Prop} {E : XD → MS → Prop} : aNotV ra s ms Q E = (ra s ms (fun x ms1 => isB x fun c => Q (.bl (!c)) ms1) E) := Eq.trans rfl rfl
theorem w_aB {ra : aE} {s : ASt} {ms : MS} {Q : Bool → MS → Prop} {E : XD → MS → Prop} : aB ra s ms Q E = (ra s ms (fun x ms1 => isB x fun c => Q c ms1) E) := Eq.trans rfl rfl
theorem w_aAnd {ra rb : aT} {s : ASt} {ms : MS} {Q : Bool → MS → Prop} {E : XD → MS → Prop} : aAnd ra rb s ms Q E = (ra s ms (fun c ms1 => Br c (fun ms => rb s ms Q E) (Q false) ms1) E) := Eq.trans rfl rfl
theorem w_aOr {ra rb : aT} {s : ASt} {ms : MS} {Q : Bool → MS → Prop} {E : XD → MS → Prop} : aOr ra rb s ms Q E = (ra s ms (fun c ms1 => Br c (Q true) (fun ms => rb s ms Q E) ms1) E) := Eq.trans rfl rfl
theorem w_aNot {ra : aT} {s : ASt} {ms : MS} {Q : Bool → MS → Prop} {E : XD → MS → Prop} : aNot ra s ms Q E = (ra s ms (fun c ms1 => Q (!c) ms1) E) := Eq.trans rfl rfl
theorem w_aIf {rc : aT} {ra rb : aE} {s : ASt} {ms : MS} {Q : D → MS → Prop} {E : XD → MS → Prop} : aIf rc ra rb s ms Q E = (rc s ms (fun c ms1 => Br c (fun ms => ra s ms Q E) (fun ms => rb s ms Q E) ms1) E) := Eq.trans rfl rfl
theorem w_aChain {f g : D → D → (D → Prop) → Prop} {ra rb rc : aE} {s : ASt} {ms : MS} {Q : D → MS → Prop} {E : XD → MS → Prop} : aChain f g ra rb rc s ms Q E = (ra s ms (fun x ms1 => rb s ms1 (fun y ms2 => f x y fun z => isB z fun c => Br c (fun ms => rc s ms (fun u ms3 => g y u fun z => Q z ms3) E) (Q (.bl false)) ms2) E) E) := Eq.trans rfl rfl
theorem w_aNil  {s : ASt} {ms : MS} {Q : List D → MS → Prop} {E : XD → MS → Prop} : aNil s ms Q E = (Q [] ms) := Eq.trans rfl rfl
theorem w_aCons {ra : aE} {rr : aA} {s : ASt} {ms : MS} {Q : List D → MS → Prop} {E : XD → MS → Prop} : aCons ra rr s ms Q E = (ra s ms (fun x ms1 => rr s ms1 (fun xs ms2 => Q (x :: xs) ms2) E) E) := Eq.trans rfl rfl
theorem w_aTup {rr : aA} {s : ASt} {ms : MS} {Q : D → MS → Prop} {E : XD → MS → Prop} : aTup rr s ms Q E = (rr s ms (fun xs ms1 => xs.length ≤ sizeLine ∧ Q (.tup xs) ms1) E) := Eq.trans rfl rfl
theorem w_aLst {rr : aA} {s : ASt} {ms : MS} {Q : D → MS → Prop} {E : XD → MS → Prop} : aLst rr s ms Q E = (rr s ms (fun xs ms1 => xs.length ≤ sizeLine ∧ Q (.lst xs) ms1) E) := Eq.trans rfl rfl
theorem w_aCB {f : List D → (D → Prop) → Prop} {rr : aA} {s : ASt} {ms : MS} {Q : D → MS → Prop} {E : XD → MS → Prop} : aCB f rr s ms Q E = (rr s ms (fun xs ms1 => f xs fun z => Q z ms1) E) := Eq.trans rfl rfl
theorem w_aFld {cs : List Str} {f : Str} {ra : aE} {s : ASt} {ms : MS} {Q : D → MS → Prop} {E : XD → MS → Prop} : aFld cs f ra s ms Q E = (ra s ms (fun x ms1 => isInC cs x ms1 fun fs => gotF (fs.lookup f) fun d => Q d ms1) E) := Eq.trans rfl rfl
theorem w_aOwn {i : Nat} {f : aF} {s : ASt} {ms : MS} {A : AEnds} : aOwn i f A s ms = (f s ms (fun m ms1 => withS (s.set i (some (.ow m))) (fun s => A.nx s ms1)) fun x ms => A.ex x s ms) := Eq.trans rfl rfl
theorem w_fLst {rr : aA} {s : ASt} {ms : MS} {Q : MO → MS → Prop} {E : XD → MS → Prop} : fLst rr s ms Q E = (rr s ms (fun xs ms1 => xs.length ≤ sizeLine ∧ Q (.lst xs) ms1) E) := Eq.trans rfl rfl
theorem w_fDK  {s : ASt} {ms : MS} {Q : MO → MS → Prop} {E : XD → MS → Prop} : fDK s ms Q E = (Q (.dk []) ms) := Eq.trans rfl rfl
theorem w_fDT  {s : ASt} {ms : MS} {Q : MO → MS → Prop} {E : XD → MS → Prop} : fDT s ms Q E = (Q (.dt []) ms) := Eq.trans rfl rfl
theorem w_aFor {ri : aI} {g : aG} {tb : aS} {s : ASt} {ms : MS} {A : AEnds} : aFor ri g tb A s ms = (ri s ms (fun ds ms1 => ForL g tb ds A s ms1) fun x ms => A.ex x s ms) := Eq.trans rfl rfl
theorem w_fLc {ri : aI} {g : aG} {tt : aT} {te : aE} {vs : List Nat} {s : ASt} {ms : MS} {Q : MO → MS → Prop} {E : XD → MS → Prop} : fLc ri g tt te vs s ms Q E = (wipeA s vs = s ∧ ri s ms (fun ds ms1 => LcL g tt te s ds [] ms1 fun acc ms2 => Q (.lst acc) ms2) E) := Eq.trans rfl rfl
theorem w_fLcK {i : Nat} {g : aG} {tt : aT} {te : aE} {vs : List Nat} {s : ASt} {ms : MS} {Q : MO → MS → Prop} {E : XD → MS → Prop} : fLcK i g tt te vs s ms Q E = (wipeA s vs = s ∧ slotF s[i]? fun x => isDK x fun kvs => LcL g tt te s (kvs.map fun kv => keyD kv.1) [] ms fun acc ms2 => Q (.lst acc) ms2) := Eq.trans rfl rfl
theorem w_fLc2 {ri : aI} {g : aG} {tt : aT} {ri1 : aI} {g1 : aG} {tt1 : aT} {te : aE} {vs vs1 : List Nat} {s : ASt} {ms : MS} {Q : MO → MS → Prop} {E : XD → MS → Prop} : fLc2 ri g tt ri1 g1 tt1 te vs vs1 s ms Q E = (wipeA s vs = s ∧ ri s ms (fun ds ms1 => LcO g tt ri1 g1 tt1 te vs1 s ds [] ms1 fun acc ms2 => Q (.lst acc) ms2) E) := Eq.trans rfl rfl
theorem w_aYes  {s : ASt} {ms : MS} {Q : Bool → MS → Prop} {E : XD → MS → Prop} : aYes s ms Q E = (Q true ms) := Eq.trans rfl rfl
theorem w_aLenSet {ra : aE} {s : ASt} {ms : MS} {Q : D → MS → Prop} {E : XD → MS → Prop} : aLenSet ra s ms Q E = (ra s ms (fun x ms1 => isT x fun ds => gotI (strsD ds) fun xs => xs.length < 64 ∧ xs.Nodup ∧ Q (.int xs.length) ms1) E) := Eq.trans rfl rfl
theorem w_aNoPart  {s : ASt} {ms : MS} {Q : Option Int → MS → Prop} {E : XD → MS → Prop} : aNoPart s ms Q E = (Q none ms) := Eq.trans rfl rfl
theorem w_aPart {ra : aE} {s : ASt} {ms : MS} {Q : Option Int → MS → Prop} {E : XD → MS → Prop} : aPart ra s ms Q E = (ra s ms (fun x ms1 => pInt x fun i => Q i ms1) E) := Eq.trans rfl rfl
theorem w_aSl {ra : aE} {rl rh : aO} {s : ASt} {ms : MS} {Q : D → MS → Prop} {E : XD → MS → Prop} : aSl ra rl rh s ms Q E = (ra s ms (fun x ms1 => rl s ms1 (fun lo ms2 => rh s ms2 (fun hi ms3 => fCut x lo hi fun z => Q z ms3) E) E) E) := Eq.trans rfl rfl
theorem w_aApp {i : Nat} {ra : aE} {s : ASt} {ms : MS} {A : AEnds} : aApp i ra A s ms = (ownAt i s fun m => moL m fun _ => ra s ms (fun y ms1 => ownAt i s fun m => moL m fun xs => xs.length < sizeLine ∧ withS (s.set i (some (.ow (.lst (xs ++ [y]))))) (fun s => A.nx s ms1)) fun x ms => A.ex x s ms) := Eq.trans rfl rfl
theorem w_aExt {i : Nat} {ra : aE} {s : ASt} {ms : MS} {A : AEnds} : aExt i ra A s ms = (ownAt i s fun m => moL m fun _ => ra s ms (fun y ms1 => isL y fun zs => ownAt i s fun m => moL m fun xs => xs.length + zs.length ≤ sizeLine ∧ withS (s.set i (some (.ow (.lst (xs ++ zs))))) (fun s => A.nx s ms1)) fun x ms => A.ex x s ms) := Eq.trans rfl rfl
theorem w_aPop {j i : Nat} {s : ASt} {ms : MS} {A : AEnds} : aPop j i A s ms = (ownAt i s fun m => moL m fun xs => gotI xs.getLast? fun y => withS ((s.set i (some (.ow (.lst xs.dropLast)))).set j (some (.fr y))) (fun s => A.nx s ms)) := Eq.trans rfl rfl
theorem w_aLenO {i : Nat} {s : ASt} {ms : MS} {Q : D → MS → Prop} {E : XD → MS → Prop} : aLenO i s ms Q E = (ownAt i s fun m => moL m fun xs => Q (.int xs.length) ms) := Eq.trans rfl rfl
theorem w_aPutO {i : Nat} {rk rv : aE} {s : ASt} {ms : MS} {A : AEnds} : aPutO i rk rv A s ms = (ownAt i s fun m => moK m fun _ => rv s ms (fun y ms1 => rk s ms1 (fun x ms2 => isKey x fun k => ownAt i s fun m => moK m fun kvs => kvs.length < sizeLine ∧ withS (s.set i (some (.ow (.dk (putDK kvs k y))))) (fun s => A.nx s ms2)) fun x ms => A.ex x s ms) fun x ms => A.ex x s ms) := Eq.trans rfl rfl
theorem w_aGetD {rd rk re : aE} {s : ASt} {ms : MS} {Q : D → MS → Prop} {E : XD → MS → Prop} : aGetD rd rk re s ms Q E = (rd s ms (fun x ms1 => isDK x fun kvs => rk s ms1 (fun y ms2 => re s ms2 (fun z ms3 => isKey y fun k => Q ((valD kvs k).getD z) ms3) E) E) E) := Eq.trans rfl rfl
theorem w_aGetO {i : Nat} {rk re : aE} {s : ASt} {ms : MS} {Q : D → MS → Prop} {E : XD → MS → Prop} : aGetO i rk re s ms Q E = (rk s ms (fun y ms2 => re s ms2 (fun z ms3 => isKey y fun k => ownAt i s fun m => moK m fun kvs => Q ((valD kvs k).getD z) ms3) E) E) := Eq.trans rfl rfl
theorem w_aFldO {c f : Str} {rv : aE} {s : ASt} {ms : MS} {A : AEnds} : aFldO c f rv A s ms = (ownAt 0 s fun m => moI c m fun _ => rv s ms (fun y ms1 => ownAt 0 s fun m => moI c m fun fs => fs.length < 900 ∧ withS (s.set 0 (some (.ow (.ins c (putD f y fs))))) (fun s => A.nx s ms1)) fun x ms => A.ex x s ms) := Eq.trans rfl rfl
theorem w_aRaise0 {c : Str} {s : ASt} {ms : MS} {A : AEnds} : aRaise0 c A s ms = (A.ex (c, []) s ms) := Eq.trans rfl rfl
theorem w_aRaise {c : Str} {fns : List Str} {rr : aA} {s : ASt} {ms : MS} {A : AEnds} : aRaise c fns rr A s ms = (rr s ms (fun ds ms1 => ds.length = fns.length ∧ A.ex (c, (fns.zip ds).reverse) s ms1) fun x ms => A.ex x s ms) := Eq.trans rfl rfl
theorem w_aTry {tb : aS} {hs : List ACl} {s : ASt} {ms : MS} {A : AEnds} : aTry tb hs A s ms = (tb { A with ex := fun x s' ms' => aCls A x s' ms' hs } s ms) := Eq.trans rfl rfl
end LA

set_option Elab.async false
set_option linter.all false
set_option maxRecDepth 100000
set_option maxHeartbeats 4000000
/-! LA18: data. -/
namespace LA
open PySem PySem.Spec PyProof.Rows L2
theorem s_put0 {f : Str} {y : D} : putD f y [] = [(f, y)] := Eq.trans rfl rfl
theorem s_putE {z z' : String} {x y : D} {r : List (Str × D)} : putD (Str.ofString z) y ((Str.ofString z', x) :: r) = if z' = z then (Str.ofString z, y) :: r else (Str.ofString z', x) :: putD (Str.ofString z) y r := by
  rw [putD]
  by_cases h : z' = z
  · subst h; rw [if_pos rfl, if_pos rfl]
  · rw [if_neg h, if_neg (fun e => h (Eq.mp (str_eq _ _) e))]
theorem s_selfI {c c' : Str} {fs : List (Str × D)} {kF : List (Str × D) → Prop} {s : ASt} : selfIs (some (.ow (.ins c fs)) :: s) c' kF = (c = c' ∧ kF fs) := Eq.trans rfl rfl
theorem s_intsM {ns : List Int} : intsD (ns.map D.int) = some ns := by
  induction ns with
  | nil => rfl
  | cons i r ih => rw [List.map_cons, intsD, ih]; rfl
theorem s_intsF {α : Type} {l : List α} {f : α → Int} : intsD (l.map fun a => D.int (f a)) = some (l.map f) := by
  have := s_intsM (ns := l.map f)
  rw [List.map_map] at this; exact this
theorem s_blsM {ns : List Bool} : blsD (ns.map D.bl) = some ns := by
  induction ns with
  | nil => rfl
  | cons i r ih => rw [List.map_cons, blsD, ih]; rfl
theorem s_blsF {α : Type} {l : List α} {f : α → Bool} : blsD (l.map fun a => D.bl (f a)) = some (l.map f) := by
  have := s_blsM (ns := l.map f)
  rw [List.map_map] at this; exact this
theorem s_val0 {k : Key} : valD [] k = none := Eq.trans rfl rfl
theorem s_valE {z z' : String} {x : D} {r : List (Key × D)} : valD ((.inr (Str.ofString z), x) :: r) (.inr (Str.ofString z')) = if z = z' then some x else valD r (.inr (Str.ofString z')) := by
  unfold valD
  rw [List.find?_cons]
  by_cases h : z = z'
  · subst h; simp
  · rw [if_neg h, decide_eq_false (fun e => h (Eq.mp (str_eq _ _) (Sum.inr.inj e)))]
theorem s_dpt0 {k : Key} {y : D} : putDK [] k y = [(k, y)] := Eq.trans rfl rfl
theorem valD_map {α : Type} {l : List α} {f : α → Str} {g : α → D} {a : α} (h : a ∈ l) (inj : ∀ b ∈ l, f b = f a → g b = g a) : valD (l.map fun n => ((.inr (f n) : Key), g n)) (.inr (f a)) = some (g a) := by
  unfold valD
  induction l with
  | nil => cases h
  | cons y r ih =>
    simp only [List.map_cons, List.find?_cons]
    by_cases e : f y = f a
    · rw [e, decide_eq_true rfl]
      rw [← inj y List.mem_cons_self e]; rfl
    · rw [decide_eq_false fun z => e (Sum.inr.inj z)]
      refine ih ((List.mem_cons.mp h).resolve_left fun z => e (by rw [z])) fun b hb => inj b (List.mem_cons_of_mem _ hb)
/-- what a dict does not hold -/
theorem valD_none {α : Type} {l : List α} {f : α → Str} {g : α → D} {x : Str} (h : ∀ b ∈ l, f b ≠ x) : valD (l.map fun n => ((.inr (f n) : Key), g n)) (.inr x) = none := by
  unfold valD
  induction l with
  | nil => rfl
  | cons y r ih =>
    simp only [List.map_cons, List.find?_cons]
    rw [decide_eq_false fun z => h y List.mem_cons_self (Sum.inr.inj z)]
    exact ih fun b hb => h b (List.mem_cons_of_mem _ hb)
end LA

set_option Elab.async false
set_option linter.all false
set_option maxRecDepth 100000
set_option maxHeartbeats 4000000
/-! LA19: methods of lists and texts. -/
namespace LA
open PySem PySem.Spec PyProof.Rows L2
def tyD (T : String) (x : D) : Prop := match x with
  | .lst _ => T = "list"
  | .str _ => T = "str"
  | _ => False
def aBM (T : String) (f : D → List D → (D → Prop) → Prop) (ra : aE) (rr : aA) : aE := fun s ms Q E => ra s ms (fun x ms1 => tyD T x ∧ rr s ms1 (fun ds ms2 => f x ds fun z => Q z ms2) E) E
theorem w_aBM {T : String} {f : D → List D → (D → Prop) → Prop} {ra : aE} {rr : aA} {s : ASt} {ms : MS} {Q : D → MS → Prop} {E : XD → MS → Prop} : aBM T f ra rr s ms Q E = (ra s ms (fun x ms1 => tyD T x ∧ rr s ms1 (fun ds ms2 => f x ds fun z => Q z ms2) E) E) := Eq.trans rfl rfl
theorem s_tyL {T : String} {xs : List D} : tyD T (.lst xs) = (T = "list") := Eq.trans rfl rfl
theorem s_tyS {T : String} {z : Str} : tyD T (.str z) = (T = "str") := Eq.trans rfl rfl
section
variable {X : Cx} {Wx : WXA} {o c : Expr} {es : List Expr} {ra : aE} {rr : aA} {T : String} {f : D → List D → (D → Prop) → Prop} {r : V → List V → Hp → VK → Prop}
theorem ae_bm (h : ∀ {t : TE} {tt : TA}, PE X o t → PA X es tt → PE X c (tBM X.K T r t tt)) (hr : ∀ x xs H R, rCM X.K f x xs H R → r x xs H R) (ha : AE X Wx o ra) (hb : AA X Wx es rr) : AE X Wx c (aBM T f ra rr) :=
  PE.imp (h ha hb) fun σ H R ⟨B, w, ms, s, Q, E, L, h, hq, hx⟩ => ⟨B, w, ms, s, _, E, L, h, fun w1 ms1 H1 v d e1 L1 r1 ⟨ty, h1⟩ => by
    refine ⟨?_, B, w1, ms1, s, _, E, L1, h1, fun w2 ms2 H2 vs ds e2 L2 r2 h2 => hr _ _ _ _ ⟨_, B, w2, ms2, s, σ, d, ds, _, L2, r1.mono e2, r2, h2, fun w3 H3 z dz e3 L3 r3 q3 => hq w3 ms2 H3 z dz ((e1.trans e2).trans e3) L3 r3 q3⟩, hx.le e1⟩
    cases r1 with
    | lst hf rl => exact .inl ⟨ty, _, SqL.up L1.s0 hf⟩
    | str z => exact ty
    | _ => exact False.elim ty, hx⟩
end
/-- l.index(x) -/
def fIndex (x : D) (ds : List D) (q : D → Prop) : Prop := match x, ds with
  | .lst xs, [y] => flatD y = true ∧ xs.all flatD = true ∧ gotI (xs.findIdx? fun z => eqFlat z y) fun j => q (.int (j : Nat))
  | _, _ => False
theorem s_index {xs : List D} {y : D} {q : D → Prop} : fIndex (.lst xs) [y] q = (flatD y = true ∧ xs.all flatD = true ∧ gotI (xs.findIdx? fun z => eqFlat z y) fun j => q (.int (j : Nat))) := Eq.trans rfl rfl
theorem index_ok {K : PySem.W.Frag} (x : V) (xs : List V) (H : Hp) (R : VK) (h : rCM K fIndex x xs H R) : rIndex K x xs H R := by
  obtain ⟨ex, B, w, ms, s, σ, dx, ds, Qd, L, r1, r2, h, k⟩ := h
  unfold fIndex at h
  split at h
  · rename_i zs y
    obtain ⟨hy, hz, h⟩ := h
    obtain ⟨j, hj, q⟩ := gotI_of h
    cases r1 with
    | lst hf rl =>
      rename_i a vs
      cases r2 with
      | cons ry r2 =>
        cases r2
        rename_i v
        rw [List.findIdx?_eq_some_iff_getElem] at hj
        obtain ⟨hl, h1, h2⟩ := hj
        obtain ⟨u, hu, ru⟩ := rl.get (List.getElem?_eq_getElem hl)
        have fl : ∀ (i : Nat) (z : D), zs[i]? = some z → flatD z = true := fun i z e => List.all_eq_true.mp hz z (List.mem_of_getElem? e)
        refine ⟨a, vs, v, j, u, rfl, rfl, SqL.up L.s0 hf, flat_rep ry hy, flats_rep rl hz, hu, ?_, fun m z' hm hz' => ?_, k w H _ _ (Le.refl _ _) L (.int _) q⟩
        · rw [eqFlat_rep ru ry (fl _ _ (List.getElem?_eq_getElem hl)) hy]; exact h1
        · obtain ⟨d, hd, rd⟩ := rl.getV hz'
          rw [eqFlat_rep rd ry (fl _ _ hd) hy]
          have := h2 m hm
          have e : d = zs[m]'(by omega) := by
            rw [List.getElem?_eq_getElem (by omega)] at hd; exact (Option.some.inj hd).symm
          rw [e]
          cases q : eqFlat (zs[m]'(by omega)) y with
          | true => exact (this q).elim
          | false => rfl
    | _ => rename_i e; cases e
  · exact h.elim
end LA

set_option Elab.async false
set_option linter.all false
set_option maxRecDepth 100000
set_option maxHeartbeats 4000000
/-! LA20: equal data of any depth. -/
namespace LA
open PySem PySem.Spec PyProof.Rows L2
mutual
def toPy : D → PyData
  | .non => .none
  | .bl b => .bool b
  | .int i => .int i
  | .str x => .str x
  | .lst xs => .list (toPyL xs)
  | .tup xs => .tuple (toPyL xs)
  | _ => .none
def toPyL : List D → List PyData
  | [] => []
  | d :: r => toPy d :: toPyL r
end
/-- data that can be compared, nested n deep at most -/
def EqOk : Nat → D → Prop
  | _, .non => True
  | _, .bl _ => True
  | _, .int _ => True
  | _, .str x => PyData.strOk x = true
  | n + 1, .lst xs => ∀ x ∈ xs, EqOk n x
  | n + 1, .tup xs => ∀ x ∈ xs, EqOk n x
  | _, _ => False
theorem py_lst {n : Nat} : ∀ (xs : List D), (∀ x ∈ xs, PyOf x (toPy x) ∧ (toPy x).canLay0 = true ∧ (toPy x).depth ≤ n) → PyOf (.lst xs) (.list (toPyL xs)) ∧ PyOf (.tup xs) (.tuple (toPyL xs)) ∧ PyData.canLayAll0 (toPyL xs) = true ∧ PyData.depthAll (toPyL xs) ≤ n
  | [], _ => ⟨.lnil, .tnil, rfl, Nat.zero_le _⟩
  | x :: r, h => by
    obtain ⟨h1, h2, h3⟩ := h x List.mem_cons_self
    obtain ⟨i1, i2, i3, i4⟩ := py_lst r fun y hy => h y (List.mem_cons_of_mem _ hy)
    refine ⟨.lcons h1 i1, .tcons h1 i2, ?_, ?_⟩
    · simp only [toPyL, PyData.canLayAll0, h2, i3, Bool.and_self]
    · simp only [toPyL, PyData.depthAll]; exact Nat.max_le.mpr ⟨h3, i4⟩
theorem EqOk.py : ∀ (n : Nat) (d : D), EqOk n d → PyOf d (toPy d) ∧ (toPy d).canLay0 = true ∧ (toPy d).depth ≤ n
  | n, .non, _ => ⟨.non, rfl, Nat.zero_le _⟩
  | n, .bl b, _ => ⟨.bl b, rfl, Nat.zero_le _⟩
  | n, .int b, _ => ⟨.int b, rfl, Nat.zero_le _⟩
  | n, .str b, h => by
    have h : PyData.strOk b = true := by cases n <;> exact h
    exact ⟨.str b, by simp only [toPy, PyData.canLay0]; exact h, Nat.zero_le _⟩
  | n + 1, .lst xs, h => by
    obtain ⟨h1, h2, h3, h4⟩ := py_lst xs fun x hx => EqOk.py n x (h x hx)
    exact ⟨by rw [toPy]; exact h1, by simp only [toPy, PyData.canLay0]; exact h3, by simp only [toPy, PyData.depth]; omega⟩
  | n + 1, .tup xs, h => by
    obtain ⟨h1, h2, h3, h4⟩ := py_lst xs fun x hx => EqOk.py n x (h x hx)
    exact ⟨by rw [toPy]; exact h2, by simp only [toPy, PyData.canLay0]; exact h3, by simp only [toPy, PyData.depth]; omega⟩
  | 0, .lst _, h => h.elim
  | 0, .tup _, h => h.elim
  | n, .ty _, h => by cases n <;> exact h.elim
  | n, .cls _, h => by cases n <;> exact h.elim
  | n, .dk _, h => by cases n <;> exact h.elim
  | n, .dt _, h => by cases n <;> exact h.elim
  | n, .ins _ _, h => by cases n <;> exact h.elim
  | n, .ptr _, h => by cases n <;> exact h.elim
  | n, .exn _ _, h => by cases n <;> exact h.elim
theorem EqOk.up {d : D} : ∀ {n m : Nat}, n ≤ m → EqOk n d → EqOk m d
  | n, m, h, e => by
    cases d with
    | non => cases m <;> trivial
    | bl b => cases m <;> trivial
    | int b => cases m <;> trivial
    | str b => cases n <;> cases m <;> exact e
    | lst xs =>
      match n, m, h, e with
      | n + 1, m + 1, h, e => exact fun x hx => EqOk.up (Nat.le_of_succ_le_succ h) (e x hx)
    | tup xs =>
      match n, m, h, e with
      | n + 1, m + 1, h, e => exact fun x hx => EqOk.up (Nat.le_of_succ_le_succ h) (e x hx)
    | _ => cases n <;> exact e.elim
theorem EqOk.shaped {n : Nat} {d : D} (h : EqOk n d) (hn : n ≤ 64) : SeqAt.shaped (toPy d) = true := by
  obtain ⟨_, h2, h3⟩ := h.py
  unfold SeqAt.shaped
  rw [h2, decide_eq_true (by omega)]; rfl
theorem eqDeep_self {n : Nat} {x : D} {k : Bool → Prop} (h : EqOk n x) (hn : n ≤ 64) (q : k true) : EqDeep x x k := by
  obtain ⟨h1, h2, _⟩ := h.py
  exact ⟨_, _, h1, h1, h.shaped hn, h.shaped hn, by rw [SeqAt.eqv_refl _ h2]; exact q⟩
end LA

set_option Elab.async false
set_option linter.all false
set_option maxRecDepth 100000
set_option maxHeartbeats 4000000
/-! LA21: f-strings, join. -/
namespace LA
open PySem PySem.Spec PyProof.Rows L2
def fmtD (x : D) (k : Str → Prop) : Prop := match x with
  | .str y => y.length ≤ sizeLine ∧ k y
  | .int i => i.natAbs.log2 < 1920 ∧ k (toString i)
  | _ => False
theorem s_fmtS {y : Str} {k : Str → Prop} : fmtD (.str y) k = (y.length ≤ sizeLine ∧ k y) := Eq.trans rfl rfl
theorem s_fmtI {i : Int} {k : Str → Prop} : fmtD (.int i) k = (i.natAbs.log2 < 1920 ∧ k (toString i)) := Eq.trans rfl rfl
def strD (x : D) (k : Str → Prop) : Prop := match x with
  | .str y => k y
  | _ => False
theorem s_strD {y : Str} {k : Str → Prop} : strD (.str y) k = k y := Eq.trans rfl rfl
def aFmt (ra : aE) : aE := fun s ms Q E => ra s ms (fun x ms1 => fmtD x fun y => Q (.str y) ms1) E
theorem w_aFmt {ra : aE} {s : ASt} {ms : MS} {Q : D → MS → Prop} {E : XD → MS → Prop} : aFmt ra s ms Q E = (ra s ms (fun x ms1 => fmtD x fun y => Q (.str y) ms1) E) := Eq.trans rfl rfl
def aJs : List aE → Str → ASt → MS → (Str → MS → Prop) → (XD → MS → Prop) → Prop
  | [], acc, _, ms, Q, _ => Q acc ms
  | r :: rs, acc, s, ms, Q, E => r s ms (fun x ms1 => strD x fun y => (acc ++ y).length ≤ sizeLine ∧ aJs rs (acc ++ y) s ms1 Q E) E
theorem w_aJs0 {acc : Str} {s : ASt} {ms : MS} {Q : Str → MS → Prop} {E : XD → MS → Prop} : aJs [] acc s ms Q E = Q acc ms := Eq.trans rfl rfl
theorem w_aJs1 {r : aE} {rs : List aE} {acc : Str} {s : ASt} {ms : MS} {Q : Str → MS → Prop} {E : XD → MS → Prop} : aJs (r :: rs) acc s ms Q E = r s ms (fun x ms1 => strD x fun y => (acc ++ y).length ≤ sizeLine ∧ aJs rs (acc ++ y) s ms1 Q E) E := Eq.trans rfl rfl
def aJoin (rs : List aE) : aE := fun s ms Q E => aJs rs Str.empty s ms (fun y ms1 => Q (.str y) ms1) E
theorem w_aJoin {rs : List aE} {s : ASt} {ms : MS} {Q : D → MS → Prop} {E : XD → MS → Prop} : aJoin rs s ms Q E = aJs rs Str.empty s ms (fun y ms1 => Q (.str y) ms1) E := Eq.trans rfl rfl
section
variable {X : Cx} {Wx : WXA} {e : Expr} {es : List Expr} {ra : aE} {rs : List aE} {pos : Pos}
theorem ae_fmt (he : AE X Wx e ra) : AE X Wx (.FormattedValue e (-1) none pos) (aFmt ra) :=
  PE.imp (pe_fmt he) fun σ H R ⟨B, w, ms, s, Q, E, L, h, hq, hx⟩ => ⟨B, w, ms, s, _, E, L, h, fun w1 ms1 H1 v d e1 L1 r1 h1 => by
    cases r1 with
    | str y => exact .inl ⟨y, rfl, h1.1, hq w1 ms1 H1 _ _ e1 L1 (.str y) h1.2⟩
    | int i => exact .inr ⟨i, rfl, h1.1, hq w1 ms1 H1 _ _ e1 L1 (.str _) h1.2⟩
    | _ => exact False.elim h1, hx⟩
inductive AJ (X : Cx) (Wx : WXA) : List Expr → List aE → Prop where
  | nil : AJ X Wx [] []
  | cons {e : Expr} {t : aE} {es : List Expr} {ts : List aE} (h : AE X Wx e t) (r : AJ X Wx es ts) : AJ X Wx (e :: es) (t :: ts)
theorem AJ.pj (h : AJ X Wx es rs) : PJ X es (rs.map (cE X.K Wx)) := by
  induction h with
  | nil => exact .nil
  | cons h r ih => exact .cons h ih
theorem js_ok : ∀ (rs : List aE) (acc : Str) {σ : L2.St} {H : Hp} {B : Bs Wx.ex} {w : W} {ms : MS} {s : ASt} {Q : Str → MS → Prop} {E : XD → MS → Prop} {R : Str → Hp → Prop}, Lk X.K B w ms s σ H → aJs rs acc s ms Q E →
    (∀ w' ms' H' y, Le X.K w w' → Lk X.K B w' ms' s σ H' → Q y ms' → R y H') → PostX X.K B w s σ E Wx → tJs (rs.map (cE X.K Wx)) acc σ H R
  | [], acc, σ, H, B, w, ms, s, Q, E, R, L, h, hq, hx => hq w ms H acc (Le.refl _ _) L h
  | r :: rs, acc, σ, H, B, w, ms, s, Q, E, R, L, h, hq, hx => ⟨B, w, ms, s, _, E, L, h, fun w1 ms1 H1 v d e1 L1 r1 h1 => by
    cases r1 with
    | str y => exact ⟨y, rfl, h1.1, js_ok rs (acc ++ y) L1 h1.2 (fun w' ms' H' y' le => hq w' ms' H' y' (e1.trans le)) (hx.le e1)⟩
    | _ => exact False.elim h1, hx⟩
theorem ae_joined {v1 v2 : Expr} {rest : List Expr} (h : AJ X Wx (v1 :: v2 :: rest) rs) : AE X Wx (.JoinedStr (v1 :: v2 :: rest) pos) (aJoin rs) :=
  PE.imp (pe_joined h.pj) fun σ H R ⟨B, w, ms, s, Q, E, L, h, hq, hx⟩ => js_ok rs Str.empty L h (fun w' ms' H' y le L' q => hq w' ms' H' _ _ le L' (.str y) q) hx
end
/-- z.join(l) -/
def fJoin (x : D) (ds : List D) (q : D → Prop) : Prop := match x, ds with
  | .str a, [.lst xs] => gotI (strsD xs) fun ys => (ys.map (·.length)).sum + ys.length * a.length ≤ 16777216 ∧ q (.str (Txt.join a ys))
  | _, _ => False
theorem s_join {a : Str} {xs : List D} {q : D → Prop} : fJoin (.str a) [.lst xs] q = gotI (strsD xs) fun ys => (ys.map (·.length)).sum + ys.length * a.length ≤ 16777216 ∧ q (.str (Txt.join a ys)) := Eq.trans rfl rfl
theorem join_ok {K : PySem.W.Frag} (x : V) (xs : List V) (H : Hp) (R : VK) (h : rCM K fJoin x xs H R) : ∃ a p, ∃ ys : List Str, x = .str a ∧ xs = [.ref p] ∧ (SqL K H p (ys.map V.str) ∨ SqT K H p (ys.map V.str)) ∧ (ys.map (·.length)).sum + ys.length * a.length ≤ 16777216 ∧ R (.str (Txt.join a ys)) H := by
  obtain ⟨ex, B, w, ms, s, σ, dx, ds, Qd, L, r1, r2, h, k⟩ := h
  unfold fJoin at h
  split at h
  · rename_i a zs
    obtain ⟨ys, hj, hl, q⟩ := gotI_of h
    cases r1
    cases r2 with
    | cons ry r2 =>
      cases r2
      cases ry with
      | lst hf rl =>
        rename_i p vs
        have e := strsD_of hj
        subst e
        exact ⟨a, p, ys, rfl, rfl, .inl (by rw [← RepL.of_strs rl]; exact SqL.up L.s0 hf), hl, k w H _ _ (Le.refl _ _) L (.str _) q⟩
  · exact h.elim
theorem s_strsM {ns : List Str} : strsD (ns.map D.str) = some ns := by
  induction ns with
  | nil => rfl
  | cons i r ih => rw [List.map_cons, strsD, ih]; rfl
theorem s_strsF {α : Type} {l : List α} {f : α → Str} : strsD (l.map fun a => D.str (f a)) = some (l.map f) := by
  have := s_strsM (ns := l.map f)
  rw [List.map_map] at this; exact this
end LA

set_option Elab.async false
set_option linter.all false
set_option maxRecDepth 100000
set_option maxHeartbeats 4000000
/-! LA22: comprehensions over written lists. -/
namespace LA
open PySem PySem.Spec PyProof.Rows L2
section
variable {g : aG} {tt : aT} {te : aE} {s : ASt} {acc ds : List D} {d : D} {ms : MS} {Q : List D → MS → Prop}
theorem lcL_eq : LcL g tt te s ds acc ms Q = aLcL g tt te s ds acc ms Q := propext ⟨fun h => h.h, fun h => ⟨h⟩⟩
theorem lc_nil : LcL g tt te s [] acc ms Q = Q acc ms := lcL_eq
theorem lcL_fn : (fun acc ms => LcL g tt te s ds acc ms Q) = fun acc ms => aLcL g tt te s ds acc ms Q := by funext acc ms; exact lcL_eq
theorem lc_cons : LcL g tt te s (d :: ds) acc ms Q = g d s ms fun s2 ms2 => tt s2 ms2 (fun b ms3 => Br b (fun ms3 => te s2 ms3 (fun y ms4 => acc.length < sizeLine ∧ (fun acc ms => LcL g tt te s ds acc ms Q) (acc ++ [y]) ms4) fun _ _ => False) (fun ms3 => (fun acc ms => LcL g tt te s ds acc ms Q) acc ms3) ms3) fun _ _ => False := by
  rw [lcL_fn, lcL_eq]; rfl
end
/-- a new list: one behind the other -/
def fCatL (ra rb : aE) : aF := fun s ms Q E => ra s ms (fun x ms1 => rb s ms1 (fun y ms2 => isL x fun xs => isL y fun ys => xs.length + ys.length ≤ sizeLine ∧ Q (.lst (xs ++ ys)) ms2) E) E
theorem w_fCatL {ra rb : aE} {s : ASt} {ms : MS} {Q : MO → MS → Prop} {E : XD → MS → Prop} : fCatL ra rb s ms Q E = (ra s ms (fun x ms1 => rb s ms1 (fun y ms2 => isL x fun xs => isL y fun ys => xs.length + ys.length ≤ sizeLine ∧ Q (.lst (xs ++ ys)) ms2) E) E) := Eq.trans rfl rfl
theorem fe_catL {X : Cx} {Wx : WXA} {a b : Expr} {ra rb : aE} {pos : Pos} (ha : AE X Wx a ra) (hb : AE X Wx b rb) : FE X Wx (.BinOp a .Add b pos) (fCatL ra rb) :=
  PE.imp (pe_op op_cat ha hb) fun σ H R ⟨B, w, ms, s, Q, E, L, h, hq, hx⟩ => two (X := X) L h hx fun w2 ms2 H2 v v2 d d2 e2 L2 r1 r2 h2 => by
    cases r1 with
    | lst f1 q1 =>
      cases r2 with
      | lst f2 q2 => exact ⟨_, _, _, _, rfl, rfl, L2.s0.fh _ _ f1, L2.s0.fh _ _ f2, by rw [q1.length, q2.length]; exact h2.1, fun p hp => hq w2 ms2 H2 p _ _ e2 L2 hp (.lst upd_same (q1.append q2)) h2.2⟩
      | _ => exact False.elim h2
    | _ => exact False.elim h2
theorem numLen {z : Int} (h : z.natAbs.log2 < 1920) : (Str.ofString (toString z)).length ≤ 1921 := int_text_len_1921 h
theorem joinLen (sep : Str) (l : List Str) : (Txt.join sep l).length ≤ (l.map (·.length)).sum + l.length * sep.length := by
  have h : (Builtin.Str.glued sep l).length = (l.map (·.length)).sum + (l.length - 1) * sep.length := by exact PySem.size_glued sep l
  show (Builtin.Str.glued sep l).length ≤ _
  rw [h]
  have : (l.length - 1) * sep.length ≤ l.length * sep.length := Nat.mul_le_mul_right _ (by omega)
  omega
end LA

set_option Elab.async false
set_option linter.all false
set_option maxRecDepth 100000
set_option maxHeartbeats 4000000
/-! LA23: own operators. -/
namespace LA
open PySem PySem.Spec PyProof.Rows L2
/-- the other side of an own operator: an int, an instance of the class -/
def othB (c : Str) (y : D) (ms : MS) (k : Prop) : Prop := match y with
  | .int _ => k
  | .ins c' _ => c' = c ∧ k
  | .ptr i => match ms[i]? with
    | some (.ins c' _) => c' = c ∧ k
    | _ => False
  | _ => False
theorem s_othB1 {c : Str} {i : Int} {ms : MS} {k : Prop} : othB c (.int i) ms k = k := Eq.trans rfl rfl
theorem s_othB2 {c c' : Str} {fs : List (Str × D)} {ms : MS} {k : Prop} : othB c (.ins c' fs) ms k = (c' = c ∧ k) := Eq.trans rfl rfl
theorem s_othB3 {c : Str} {n : Nat} {ms : MS} {k : Prop} : othB c (.ptr n) ms k = cellI ms[n]? fun c' _ => c' = c ∧ k := by unfold othB cellI; rfl
def aBinO (c : Str) (S : ASp) (ra rb : aE) : aE := fun s ms Q E => ra s ms (fun x ms1 => rb s ms1 (fun y ms2 => isIns c x ms2 fun _ => othB c y ms2 (DoCall S [x, y] ms2 Q E)) E) E
theorem w_aBinO {c : Str} {S : ASp} {ra rb : aE} {s : ASt} {ms : MS} {Q : D → MS → Prop} {E : XD → MS → Prop} : aBinO c S ra rb s ms Q E = (ra s ms (fun x ms1 => rb s ms1 (fun y ms2 => isIns c x ms2 fun _ => othB c y ms2 (DoCall S [x, y] ms2 Q E)) E) E) := Eq.trans rfl rfl
def aInO (c : Str) (S : ASp) (ra rb : aE) : aE := fun s ms Q E => ra s ms (fun x ms1 => rb s ms1 (fun y ms2 => isIns c y ms2 fun _ => DoCall S [y, x] ms2 (fun z ms3 => isB z fun b => Q (.bl b) ms3) E) E) E
theorem w_aInO {c : Str} {S : ASp} {ra rb : aE} {s : ASt} {ms : MS} {Q : D → MS → Prop} {E : XD → MS → Prop} : aInO c S ra rb s ms Q E = (ra s ms (fun x ms1 => rb s ms1 (fun y ms2 => isIns c y ms2 fun _ => DoCall S [y, x] ms2 (fun z ms3 => isB z fun b => Q (.bl b) ms3) E) E) E) := Eq.trans rfl rfl
section
variable {X : Cx} {Wx : WXA} {a b : Expr} {ra rb : aE} {pos : Pos} {k : Nat} {c m : Str} {ps : List Str} {S : ASp} {op : Operator}
theorem mate_rep {K : PySem.W.Frag} {w : W} {ms : MS} {H : Hp} {v : V} {d : D} {kk : Prop} (h0 : St0 K w ms H) (r : Rep K w v d) (h : othB c d ms kk) : HX.Mate K c H v ∧ kk := by
  cases r with
  | int i => exact ⟨.int, h⟩
  | ins h1 r1 =>
    obtain ⟨rfl, h⟩ := h
    exact ⟨.ins (h0.fh _ _ h1), h⟩
  | @ptr a i h1 =>
    unfold othB at h
    dsimp only at h
    split at h
    · rename_i c' fs q
      obtain ⟨rfl, h⟩ := h
      obtain ⟨b, hb, rm⟩ := h0.ce _ _ q
      rw [h1] at hb; cases hb
      cases rm with
      | ins h2 r2 => exact ⟨.ins h2, h⟩
    · exact h.elim
  | _ => exact False.elim h
theorem ae_binO (tk : L2N.Takes X Wx.w) (G : HX.GMe X.prog X.w X.K X.mg X.base c m k ps (spA X.K S)) (Bc : HX.BinC X.K c op.info.2) (hr : Room k X.A) (ha : AE X Wx a ra) (hb : AE X Wx b rb) (hd : PySem.dunder op.info.2 = m := by rfl) : AE X Wx (.BinOp a op b pos) (aBinO c S ra rb) :=
  PE.imp (HX.pe_binO G Bc hr (fun σ => L2N.passAt tk σ) ha hb hd) fun σ H R ⟨B, w, ms, s, Q, E, L, h, hq, hx⟩ => two (X := X) L h hx fun w2 ms2 H2 v v2 d d2 e2 L2 r1 r2 h2 => by
    obtain ⟨p, dx, fs, ds, rfl, hH, rf, h2⟩ := isIns_rep (X := X) L2.s0 r1 h2
    obtain ⟨o, h2⟩ := mate_rep L2.s0 r2 h2
    exact ⟨p, dx, fs, rfl, hH, o, spA_of (X := X) L2 (.cons r1 (.cons r2 .nil)) h2.h (hq.le e2) (hx.le e2)⟩
theorem ae_inO (tk : L2N.Takes X Wx.w) (G : HX.GMe X.prog X.w X.K X.mg X.base c "__contains__" k ps (spA X.K S)) (hr : Room k X.A) (ha : AE X Wx a ra) (hb : AE X Wx b rb) (hm : behindInMarks .In b = false := by rfl) : AE X Wx (.Compare a [.In] [b] pos) (aInO c S ra rb) :=
  PE.imp (HX.pe_inO G hr (fun σ => L2N.passAt tk σ) ha hb hm) fun σ H R ⟨B, w, ms, s, Q, E, L, h, hq, hx⟩ => two (X := X) L h hx fun w2 ms2 H2 v v2 d d2 e2 L2 r1 r2 h2 => by
    obtain ⟨p, dx, fs, ds, rfl, hH, rf, h2⟩ := isIns_rep (X := X) L2.s0 r2 h2
    refine ⟨p, dx, fs, rfl, hH, spA_of (X := X) L2 (.cons r2 (.cons r1 .nil)) h2.h (fun w3 ms3 H3 z dz e3 L3 r3 q3 => ?_) (hx.le e2)⟩
    obtain ⟨b, rfl, rfl, q⟩ := isB_rep (X := X) r3 q3
    exact ⟨b, rfl, hq w3 ms3 H3 _ _ (e2.trans e3) L3 (.bl b) q⟩
end
/-- a list's items to several names -/
def aGLst (n : Nat) (r : aGs) : aG := fun d s ms Q => match d with
  | .lst ds => ds.length = n ∧ r ds s ms Q
  | _ => False
theorem s_gl {n : Nat} {r : aGs} {ds : List D} {s : ASt} {ms : MS} {Q : ASt → MS → Prop} : aGLst n r (.lst ds) s ms Q = (ds.length = n ∧ r ds s ms Q) := Eq.trans rfl rfl
theorem ag_lst {X : Cx} {Wx : WXA} {es : List Expr} {pos : Pos} {k n : Nat} {r : aGs} {vs : List Nat} (hc : X.calm = true) (h : AGs X Wx vs es r) (hn : (assignEach es X.env).length = n := by rfl) (hst : (assignEach es X.env).findIdx? (·.1) = none := by rfl) : AG X Wx vs (.Tuple es k pos) (aGLst n r) :=
  PG.imp (pg_lst hc h hn hst) fun v σ H R ⟨B, w, ms, s, d, Q, L, rv, q, kk⟩ => by
    cases rv with
    | lst hs rl => exact ⟨_, _, rfl, SqL.up L.s0 hs, rl.length.trans q.1, B, w, ms, s, _, Q, L, rl, q.2, kk⟩
    | _ => exact False.elim q
end LA

set_option Elab.async false
set_option linter.all false
set_option maxRecDepth 100000
set_option maxHeartbeats 4000000
/-! LA24: len of an own instance. -/
namespace LA
open PySem PySem.Spec PyProof.Rows L2
section
variable {M : Model} {A : Around} {E : Value → Shared → Prop} {s : Shared} {K : PySem.W.Frag} {x C f : Addr} {ox : Obj} {od : Option Obj}
theorem special_own {name : Str} {args : List Value} {Q : Option Value → Shared → Prop} (X : K.In s.heap) (I : PySem.W.InstAt s.heap x ox C od) (hs : PySem.W.findIn K (.ref C) name = some (some (.ref f))) (hf : PySem.W.isFn K (.ref f) = true)
    (h : wpAny M A (call (.ref f) (.ref x :: args)) (fun v => Q (some v)) E s) : wpAny M A (callSpecial? (.ref x) name args) Q E s := by
  unfold callSpecial? specialOf
  refine wpAny_bind (wpAny_bind (I.type.here ((PySem.W.looks_findIn X hs).here ?_)))
  refine wpAny_holding (wpAny_bind ((PySem.W.bind_fn X _ (beq_iff_eq.mp hf)).here ?_))
  dsimp only
  exact wpAny_bind (wpAny_mono h (fun _ _ z => wpAny_pure z) fun _ _ z => z)
end
section
variable {X : Cx} {k : Nat} {c : Str} {ps : List Str} {sp : Sp}
theorem call_lenO (G : HX.GMe X.prog X.w X.K X.mg X.base c "__len__" k ps sp) (hr : Room (k + 1) X.A) : CallR X (.builtin "len") (fun xs H Q => ∃ a dx fs, xs = [.ref a] ∧ H a = some (.ins (He.ga X.K c) dx fs) ∧ sp [.ref a] H (fun r H3 => ∃ n : Int, r = .int n ∧ 0 ≤ n ∧ n < 2 ^ 63 ∧ Q (.int n) H3) E0) := by
  obtain ⟨fd, F, bi⟩ := G.fn
  intro pins s σ H xs us Q I r h
  obtain ⟨a, dx, fs, rfl, ha, hq⟩ := h
  obtain ⟨u, rfl, ru⟩ := vals1 r
  cases (show u = Value.ref a from ru)
  obtain ⟨mA, O, _⟩ := ins_get I.hok ha
  obtain ⟨od, J, _⟩ := O.look
  refine Calls.call_function_entry kind_len plain_len entry_len (args_len1 _) ?_
  unfold Builtin.«len»
  refine wpAny_bind (m := oneArg "len" _) (wpAny_pure ?_)
  refine wpAny_bind (m := callSpecial? (.ref a) (Str.ofString "__len__")) (special_own I.kIn J G.me.at_ G.me.fn (thn (HX.run_in1 (E := E0) (vs := [.ref a]) F hr bi (HX.pas0 σ) I (.cons rfl .nil) hq) fun r s3 z => ?_))
  obtain ⟨rv, H3, I3, rr, n, rfl, n0, n1, q3⟩ := z
  obtain ⟨t, rfl⟩ := (show ∃ t, r = Value.int n t from rr)
  refine wpAny_bind (wpAny_holding (wpAny_pure ?_))
  refine wpAny_bind (wpAny_letGo ?_)
  show wpAny _ _ (if n < 0 then _ else _) _ _ _
  rw [if_neg (by omega)]
  show wpAny _ _ (if n ≥ 2 ^ 63 then _ else _) _ _ _
  rw [if_neg (by omega)]
  exact wpAny_bind (wpAny_mkInt (wpAny_pure ⟨_, rfl, ⟨.int n, H3, I3.tok _, ⟨_, rfl⟩, q3⟩⟩))
end
def natI (z : D) (k : Int → Prop) : Prop := match z with
  | .int i => 0 ≤ i ∧ i < 2 ^ 63 ∧ k i
  | _ => False
theorem s_natI {i : Int} {k : Int → Prop} : natI (.int i) k = (0 ≤ i ∧ i < 2 ^ 63 ∧ k i) := Eq.trans rfl rfl
def aLenI (c : Str) (S : ASp) (ra : aE) : aE := fun s ms Q E => ra s ms (fun x ms1 => isIns c x ms1 fun _ => DoCall S [x] ms1 (fun z ms2 => natI z fun n => Q (.int n) ms2) fun _ _ => False) E
theorem w_aLenI {c : Str} {S : ASp} {ra : aE} {s : ASt} {ms : MS} {Q : D → MS → Prop} {E : XD → MS → Prop} : aLenI c S ra s ms Q E = (ra s ms (fun x ms1 => isIns c x ms1 fun _ => DoCall S [x] ms1 (fun z ms2 => natI z fun n => Q (.int n) ms2) fun _ _ => False) E) := Eq.trans rfl rfl
section
variable {X : Cx} {Wx : WXA} {e : Expr} {ra : aE} {p pos : Pos} {k : Nat} {c : Str} {ps : List Str} {S : ASp}
theorem ae_lenI (G : HX.GMe X.prog X.w X.K X.mg X.base c "__len__" k ps (spA X.K S)) (hr : Room (k + 1) X.A) (hg : Gl X "len") (hm : X.mg "len" = none) (ha : AE X Wx e ra) (hs : starEach [e] X.env = (false, eval e X.env) :: starEach [] X.env := by rfl) : AE X Wx (.Call (.Name "len" p) [e] [] pos) (aLenI c S ra) :=
  PE.imp (pe_callB (call_lenO G hr) hg hm (by decide +kernel) (pa_cons ha pa_nil hs) (he := hs)) fun σ H R ⟨B, w, ms, s, Q, E, L, h, hq, hx⟩ => ⟨B, w, ms, s, _, E, L, h, fun w1 ms1 H1 v d e1 L1 r1 h1 => by
    obtain ⟨a, dx, fs, ds, rfl, hH, rf, h1⟩ := isIns_rep (X := X) L1.s0 r1 h1
    refine ⟨a, dx, fs, rfl, hH, w1, ms1, [d], _, _, L1.s0, .cons r1 .nil, h1.h, fun w' ms' H' v d le A rv q => ?_, fun _ _ _ _ _ _ _ _ _ z => z.elim⟩
    cases rv with
    | int n => exact ⟨n, rfl, q.1, q.2.1, hq w' ms' H' _ _ (e1.trans le) (L1.after le A) (.int n) q.2.2⟩
    | _ => exact False.elim q, hx⟩
end
end LA

set_option Elab.async false
set_option linter.all false
set_option maxRecDepth 100000
set_option maxHeartbeats 4000000
/-! LA25: try, by equations. -/
namespace LA
open PySem PySem.Spec PyProof.Rows L2
section
variable {A : AEnds} {x : XD} {s : ASt} {ms : MS} {c : Str} {tbl : List (Str × Bool)} {su : aS} {r : List ACl} {i : Nat} {d : D} {m : MO}
theorem s_cls0 : aCls A x s ms [] = A.ex x s ms := Eq.trans rfl rfl
theorem s_clsN : aCls A x s ms (⟨c, tbl, none, su⟩ :: r) = gotI (tbl.lookup x.1) fun b => Br b (fun ms => su (suA A none) s ms) (fun ms => aCls A x s ms r) ms := Eq.trans rfl rfl
theorem s_clsS : aCls A x s ms (⟨c, tbl, some i, su⟩ :: r) = gotI (tbl.lookup x.1) fun b => Br b (fun ms => withS (s.set i (some (.ex x))) fun s => su (suA A (some i)) s ms) (fun ms => aCls A x s ms r) ms := Eq.trans rfl rfl
theorem s_suN : suA A none = { nx := fun s ms => withS (clr s) (fun s => A.nx s ms), rt := A.rt, bk := fun s ms => withS (clr s) (fun s => A.bk s ms), ct := fun s ms => withS (clr s) (fun s => A.ct s ms) } := Eq.trans rfl rfl
theorem s_suS : suA A (some i) = { nx := fun s ms => withS (clr (s.set i none)) (fun s => A.nx s ms), rt := A.rt, bk := fun s ms => withS (clr (s.set i none)) (fun s => A.bk s ms), ct := fun s ms => withS (clr (s.set i none)) (fun s => A.ct s ms) } := Eq.trans rfl rfl
theorem s_clr0 : clr [] = [] := Eq.trans rfl rfl
theorem s_clrN : clr (none :: s) = none :: clr s := Eq.trans rfl rfl
theorem s_clrF : clr (some (.fr d) :: s) = some (.fr d) :: clr s := Eq.trans rfl rfl
theorem s_clrO : clr (some (.ow m) :: s) = some (.ow m) :: clr s := Eq.trans rfl rfl
theorem s_clrX : clr (some (.ex x) :: s) = none :: clr s := Eq.trans rfl rfl
theorem s_lkG0 {z : Str} : List.lookup z ([] : List (Str × Bool)) = none := rfl
theorem s_lkG {z z' : String} {b : Bool} {fs : List (Str × Bool)} : List.lookup (Str.ofString z) ((Str.ofString z', b) :: fs) = if z = z' then some b else List.lookup (Str.ofString z) fs := by
  rw [List.lookup_cons]
  by_cases h : z = z'
  · subst h; rw [if_pos rfl, beq_self_eq_true]
  · rw [if_neg h]
    have : (Str.ofString z == Str.ofString z') = false := by
      rw [beq_eq_false_iff_ne]; intro e; rw [str_eq] at e; exact h e
    rw [this]
end
/-- a slot with the error that is handled -/
def slotX (o : Option (Option AV)) (k : XD → Prop) (t : Tag k k := .mk) : Prop := match o with
  | some (some (.ex x)) => k x
  | _ => False
theorem s_slotX {x : XD} {k : XD → Prop} : slotX (some (some (.ex x))) k = k x := Eq.trans rfl rfl
def aXfC (c : Str) (i : Nat) (f : Str) : aE := fun s ms Q _ => slotX s[i]? fun x => x.1 = c ∧ gotF (x.2.lookup f) fun d => Q d ms
theorem w_aXfC {c : Str} {i : Nat} {f : Str} {s : ASt} {ms : MS} {Q : D → MS → Prop} {E : XD → MS → Prop} : aXfC c i f s ms Q E = slotX s[i]? fun x => x.1 = c ∧ gotF (x.2.lookup f) fun d => Q d ms := Eq.trans rfl rfl
theorem ae_xfC {X : Cx} {a : Addr} {oe : Obj} {cls : Value} {d : Option Addr} {pn : List (Addr × Obj)} {c f n : Str} {i : Nat} {p pos : Pos} {Wx : WX} (T : XfC X.K (He.ga X.K c)) (hno : PySem.W.findIn X.K (.ref (He.ga X.K c)) f = some none) (hz : L2N.Zn cls d oe) (hf : ∃ vs, oe.data = .fields vs)
    (he : PE (X.suite a ((a, oe) :: pn)) (.Name n p) (tVar i)) : AE (X.suite a ((a, oe) :: pn)) ⟨Wx, some (a, cls, d)⟩ (.Attribute (.Name n p) f pos) (aXfC c i f) :=
  PE.imp (ae_xf (c := c) T hno hz hf he) fun σ H R ⟨B, w, ms, s, Q, E, L, h, hq, hx⟩ => ⟨B, w, ms, s, Q, E, L, by
    unfold aXfC slotX at h
    unfold aXf
    split at h
    · rename_i x e
      rw [e]
      exact ⟨h.1, h.2⟩
    · exact h.elim, hq, hx⟩
theorem tb_nil {K : PySem.W.Frag} {x : Str} : ∀ q ∈ ([] : List (Str × Bool)), PySem.W.exmOne K (.ref (He.ga K q.1)) (.ref (He.ga K x)) = some q.2 := fun _ h => nomatch h
theorem tb_cons {K : PySem.W.Frag} {x c : Str} {b : Bool} {l : List (Str × Bool)} (h : PySem.W.exmOne K (.ref (He.ga K c)) (.ref (He.ga K x)) = some b) (r : ∀ q ∈ l, PySem.W.exmOne K (.ref (He.ga K q.1)) (.ref (He.ga K x)) = some q.2) :
    ∀ q ∈ (c, b) :: l, PySem.W.exmOne K (.ref (He.ga K q.1)) (.ref (He.ga K x)) = some q.2 := fun q hq => by
  rcases List.mem_cons.mp hq with rfl | hq
  · exact h
  · exact r q hq
end LA

set_option Elab.async false
set_option linter.all false
set_option maxRecDepth 100000
set_option maxHeartbeats 4000000
/-! LA26: own errors with fields. -/
namespace LA
open PySem PySem.Spec PyProof.Rows L2
def oeCls (K : PySem.W.Frag) (C : Addr) : Bool := match K.lookup C with
  | some ⟨.type "type", _, .cls cd, sl⟩ => (match cd.mro, sl.toList with
    | .ref C' :: bm, [_, _, _, _, some (.builtin n), _] => C' == C && (n == "ValueError.__new__" && (!cd.hasDel && (cd.hasDict && PySem.HandSPX.refsVE bm)))
    | _, _ => false)
  | _ => false
theorem oeCls_ok {K : PySem.W.Frag} {C : Addr} (q : oeCls K C = true) : ∃ nm q N bs bm sn sub ab col dd k0 k1 k2 k3 k5, K.lookup C = some (excClassObj nm q C N bs bm true sn sub ab col dd k0 k1 k2 k3 k5 "ValueError.__new__") ∧ PySem.HandSPX.refsVE bm = true := by
  unfold oeCls at q
  split at q
  · rename_i dd cd sl ho
    split at q
    · rename_i C' bm k0 k1 k2 k3 n k5 hm hs
      simp only [Bool.and_eq_true, beq_iff_eq, Bool.not_eq_true'] at q
      obtain ⟨rfl, rfl, hdel, hdc, hv⟩ := q
      obtain ⟨nm, bs, mro, ns, qn, hd, sn, sub, ab, col, del⟩ := cd
      dsimp only at hm hdel hdc
      subst hm hdel hdc
      have hsl : sl = #[k0, k1, k2, k3, some (.builtin "ValueError.__new__"), k5] := by
        obtain ⟨l⟩ := sl
        simp only at hs
        rw [hs]
      subst hsl
      exact ⟨nm, qn, ns, bs, bm, sn, sub, ab, col, dd, k0, k1, k2, k3, k5, ho, hv⟩
    · cases q
  · cases q
/-- what a class of errors with an own __init__ is -/
structure OeK (K : PySem.W.Frag) (c : Str) : Prop where
  T : OexC K (He.ga K c)
  iC : PySem.W.findIn K (.ref (He.ga K c)) "__init__" = some (some (.ref (He.ma K (He.ga K c) "__init__")))
  tI : PySem.W.typeIn K (.ref (He.ma K (He.ga K c) "__init__")) = some (.type "function")
def oeB (K : PySem.W.Frag) (c : Str) : Bool := oeCls K (He.ga K c) && (decide (PySem.W.findIn K (.ref (He.ga K c)) "__setattr__" = some (some (.builtin "object.__setattr__"))) && (decide (PySem.W.subIn K (.ref (He.ga K c)) (.type "BaseException") = some true) &&
  (decide (PySem.W.typeIn K (.ref (He.ga K c)) = some (.type "type")) && (PySem.W.keepIn K (.ref (He.ga K c)) && (decide (PySem.W.findIn K (.ref (He.ga K c)) "__init__" = some (some (.ref (He.ma K (He.ga K c) "__init__")))) &&
  decide (PySem.W.typeIn K (.ref (He.ma K (He.ga K c) "__init__")) = some (.type "function")))))))
theorem oe_ok {K : PySem.W.Frag} {c : Str} (h : oeB K c = true) : OeK K c := by
  obtain ⟨h1, h⟩ := He.ba h
  obtain ⟨h2, h⟩ := He.ba h
  obtain ⟨h3, h⟩ := He.ba h
  obtain ⟨h4, h⟩ := He.ba h
  obtain ⟨h5, h⟩ := He.ba h
  obtain ⟨h6, h7⟩ := He.ba h
  exact ⟨⟨oeCls_ok h1, of_decide_eq_true h2, of_decide_eq_true h3, of_decide_eq_true h4, h5⟩, of_decide_eq_true h6, of_decide_eq_true h7⟩
end LA

set_option Elab.async false
set_option linter.all false
set_option maxRecDepth 100000
set_option maxHeartbeats 4000000
/-! LA27: equality of any two data; a tuple repeated. -/
namespace LA
open PySem PySem.Spec PyProof.Rows L2
theorem eqDeep_of {n m : Nat} {x y : D} {k : Bool → Prop} (h : EqOk n x) (hn : n ≤ 64) (h' : EqOk m y) (hm : m ≤ 64) (q : k (PyData.eqv (toPy x) (toPy y))) : EqDeep x y k := by
  obtain ⟨h1, h2, _⟩ := h.py
  obtain ⟨g1, g2, _⟩ := h'.py
  exact ⟨_, _, h1, g1, h.shaped hn, h'.shaped hm, q⟩
theorem toPyL_len : ∀ xs : List D, (toPyL xs).length = xs.length
  | [] => rfl
  | _ :: r => by rw [toPyL, List.length_cons, List.length_cons, toPyL_len r]
theorem eqv_tupLen {xs ys : List D} (h : xs.length ≠ ys.length) : PyData.eqv (toPy (.tup xs)) (toPy (.tup ys)) = false := by
  rw [toPy, toPy, PyData.eqv, SeqAt.eqvAll_other_length (by rw [toPyL_len, toPyL_len]; exact h)]
theorem eqDeep_len {n m : Nat} {xs ys : List D} {k : Bool → Prop} (h : EqOk n (.tup xs)) (hn : n ≤ 64) (h' : EqOk m (.tup ys)) (hm : m ≤ 64) (e : xs.length ≠ ys.length) (q : k false) : EqDeep (.tup xs) (.tup ys) k :=
  eqDeep_of h hn h' hm (by rw [eqv_tupLen e]; exact q)
def fMulT (x y : D) (Q : D → Prop) : Prop := match x, y with
  | .tup xs, .int k => xs ≠ [] ∧ 2 ≤ k ∧ k ≤ 1000 ∧ xs.length ≤ 1000 ∧ Q (.tup (List.replicate k.toNat xs).flatten)
  | _, _ => False
theorem w_mulT {xs : List D} {k : Int} {Q : D → Prop} : fMulT (.tup xs) (.int k) Q = (xs ≠ [] ∧ 2 ≤ k ∧ k ≤ 1000 ∧ xs.length ≤ 1000 ∧ Q (.tup (List.replicate k.toNat xs).flatten)) := Eq.trans rfl rfl
theorem oa_mulT {X : Cx} : OpA X (binaryOp .Mult) fMulT := by
  rintro pins s σ H x y v u R I rx ry ⟨xi, B, w, ms, st, σ', dx, dy, Qd, L, r1, r2, h, k⟩
  cases r1 with
  | tup h1 q1 => cases r2 with
    | int j =>
      refine op_repT pins s σ H _ _ v u R I rx ry ⟨_, j, _, rfl, rfl, SqT.up L.s0 h1, ?_, h.2.1, h.2.2.1, by rw [q1.length]; exact h.2.2.2.1, fun p hp => new_ L k hp (fun w' le hf => .tup hf ((q1.mono le).rep _)) h.2.2.2.2⟩
      intro e
      subst e
      cases q1
      exact h.1 rfl
    | _ => exact False.elim h
  | _ => exact False.elim h
def fIsB (x y : D) (Q : D → Prop) : Prop := match x, y with
  | .bl a, .bl b => Q (.bl (decide (a = b)))
  | .int _, .bl _ => Q (.bl false)
  | .non, .bl _ => Q (.bl false)
  | _, _ => False
section
variable {a b : Bool} {i : Int} {q : D → Prop}
theorem w_isBB : fIsB (.bl a) (.bl b) q = q (.bl (decide (a = b))) := Eq.trans rfl rfl
theorem w_isBI : fIsB (.int i) (.bl b) q = q (.bl false) := Eq.trans rfl rfl
theorem w_isBN : fIsB .non (.bl b) q = q (.bl false) := Eq.trans rfl rfl
end
theorem op_isBI {X : Cx} : OpR X (compareOp .Is) (fun x y H Q => ∃ i b, x = .int i ∧ y = .bl b ∧ Q (.bl false) H) := by
  intro pins s σ H x y v u Q I rx ry h
  obtain ⟨i, b, rfl, rfl, q⟩ := h
  obtain ⟨t, rfl⟩ := rx
  cases (show u = Value.bool b from ry)
  exact wpAny_is_other rfl nofun ⟨.bl false, H, I, rfl, q⟩
theorem op_isBN {X : Cx} : OpR X (compareOp .Is) (fun x y H Q => ∃ b, x = .non ∧ y = .bl b ∧ Q (.bl false) H) := by
  intro pins s σ H x y v u Q I rx ry h
  obtain ⟨b, rfl, rfl, q⟩ := h
  cases (show v = Value.none from rx)
  cases (show u = Value.bool b from ry)
  exact wpAny_is_other rfl nofun ⟨.bl false, H, I, rfl, q⟩
theorem oa_isB {X : Cx} : OpA X (compareOp .Is) fIsB := by
  rintro pins s σ H x y v u R I rx ry ⟨xi, B, w, ms, st, σ', dx, dy, Qd, L, r1, r2, h, k⟩
  cases r2 with
  | bl b => cases r1 with
    | bl a => exact op_isBl pins s σ H _ _ v u R I rx ry ⟨a, b, rfl, rfl, same_ L k (.bl _) h⟩
    | int i => exact op_isBI pins s σ H _ _ v u R I rx ry ⟨i, b, rfl, rfl, same_ L k (.bl _) h⟩
    | non => exact op_isBN pins s σ H _ _ v u R I rx ry ⟨b, rfl, rfl, same_ L k (.bl _) h⟩
    | _ => exact False.elim h
  | _ => cases r1 <;> exact False.elim h
end LA

set_option Elab.async false
set_option linter.all false
set_option maxRecDepth 100000
set_option maxHeartbeats 4000000
/-! LA29: data without dicts and errors; a thing lent to a call. -/
namespace LA
open PySem PySem.Spec PyProof.Rows L2
/-! ### data without dicts and errors -/
mutual
def plainD : D → Bool
  | .tup xs => plainL xs
  | .lst xs => plainL xs
  | .ins _ fs => plainF fs
  | .dk _ => false
  | .dt _ => false
  | .exn _ _ => false
  | _ => true
def plainL : List D → Bool
  | [] => true
  | x :: r => plainD x && plainL r
def plainF : List (Str × D) → Bool
  | [] => true
  | (_, x) :: r => plainD x && plainF r
end
def plainM : MO → Bool
  | .lst xs => plainL xs
  | .ins _ fs => plainF fs
  | .rng => true
  | _ => false
/-- without one place -/
def W.cut (w : W) (a : Addr) : W := { w with F := but w.F a }
section
variable {K : PySem.W.Frag} {w w' w2 : W} {a : Addr}
/-- nothing plain stands at a -/
structure NotPlain (w : W) (a : Addr) : Prop where
  t : ∀ vs, ¬ Rd w.F a (.tup vs)
  l : ∀ vs, w.F a ≠ some (.lst vs)
  i : ∀ C dx vs, w.F a ≠ some (.ins C dx vs)
theorem Rep.cut (n : NotPlain w a) {v : V} {d : D} (h : Rep K w v d) : plainD d = true → Rep K (w.cut a) v d := by
  refine Rep.rec (K := K) (w := w) (motive_1 := fun v d _ => plainD d = true → Rep K (w.cut a) v d) (motive_2 := fun v d _ => plainL d = true → RepL K (w.cut a) v d) (motive_3 := fun v d _ => True) (motive_4 := fun v d _ => True) (motive_5 := fun v d _ => plainF d = true → RepF K (w.cut a) v d)
    (fun _ => .non) (fun b _ => .bl b) (fun i _ => .int i) (fun x _ => .str x) (fun n _ => .ty n) (fun c _ => .cls c) ?_ ?_ (fun _ _ _ z => by simp [plainD] at z) (fun _ _ _ z => by simp [plainD] at z) ?_ (fun h _ => .ptr h)
    (fun _ => .nil) ?_ trivial (fun _ _ _ _ => trivial) trivial (fun _ _ _ _ => trivial) (fun _ => .nil) ?_ h
  · intro b vs ds h _ r z
    have ne : b ≠ a := fun e => n.t vs (.inl (e ▸ h))
    exact .tup (by show but w.F a b = _; rw [but_ne ne]; exact h) (r (by simpa [plainD] using z))
  · intro b vs ds h _ r z
    have ne : b ≠ a := fun e => n.l vs (e ▸ h)
    exact .lst (by show but w.F a b = _; rw [but_ne ne]; exact h) (r (by simpa [plainD] using z))
  · intro b dx c vs ds h _ r z
    have ne : b ≠ a := fun e => n.i _ _ vs (e ▸ h)
    exact .ins (by show but w.F a b = _; rw [but_ne ne]; exact h) (r (by simpa [plainD] using z))
  · intro v d vs ds _ _ h1 h2 z
    simp only [plainL, Bool.and_eq_true] at z
    exact .cons (h1 z.1) (h2 z.2)
  · intro k v d vs ds _ _ h1 h2 z
    simp only [plainF, Bool.and_eq_true] at z
    exact .cons (h1 z.1) (h2 z.2)
theorem RepL.cutP (n : NotPlain w a) : ∀ {v : List V} {d : List D}, RepL K w v d → plainL d = true → RepL K (w.cut a) v d
  | _, _, .nil, _ => .nil
  | _, _, .cons h r, z => by
    simp only [plainL, Bool.and_eq_true] at z
    exact .cons (h.cut n z.1) (RepL.cutP n r z.2)
theorem RepF.cutP (n : NotPlain w a) : ∀ {v : List (Str × V)} {d : List (Str × D)}, RepF K w v d → plainF d = true → RepF K (w.cut a) v d
  | _, _, .nil, _ => .nil
  | _, _, .cons h r, z => by
    simp only [plainF, Bool.and_eq_true] at z
    exact .cons (h.cut n z.1) (RepF.cutP n r z.2)
theorem RepM.cut (n : NotPlain w a) {H H' : Hp} {p : Addr} {m : MO} (h : RepM K w H p m) (z : plainM m = true) (k : ∀ o, H p = some o → H' p = some o) : RepM K (w.cut a) H' p m := by
  cases h with
  | lst h r => exact .lst (k _ h) (r.cutP n (by simpa [plainM] using z))
  | dk h r => simp [plainM] at z
  | dt h r => simp [plainM] at z
  | ins h r => exact .ins (k _ h) (r.cutP n (by simpa [plainM] using z))
  | rng h l => exact .rng (k _ h) l
/-- a thing lent to a call: it stands still there -/
theorem lent {ms2 : MS} {H H2 H3 : Hp} {o : HO} (h0 : w.F a = none) (haw : a ∉ w.as) (e : Le K { w with F := upd w.F a o } w2) (A : Aft K { w with F := upd w.F a o } (upd H a o) w2 ms2 H2)
    (n : NotPlain w2 a) (hm : ∀ m ∈ ms2, plainM m = true) (h3 : ∀ b, b ≠ a → H3 b = H2 b) (ha : ∀ u, H a = some u → H3 a = some u) : Le K w (w2.cut a) ∧ Aft K w H (w2.cut a) ms2 H3 := by
  have ne : ∀ {b : Addr} {u : HO}, w.F b = some u → b ≠ a := fun {b u} q z => by rw [z, h0] at q; cases q
  have up : ∀ {b : Addr} {u : HO}, w.F b = some u → upd w.F a o b = some u := fun {b u} q => by rw [upd_ne (ne q)]; exact q
  have cu : ∀ {b : Addr} {u : HO}, b ≠ a → w2.F b = some u → (w2.cut a).F b = some u := fun {b u} z q => by show but w2.F a b = _; rw [but_ne z]; exact q
  have rdu : ∀ {b : Addr} {u : HO}, Rd w.F b u → b ≠ a ∧ Rd (upd w.F a o) b u := fun {b u} q => by
    rcases q with q | ⟨x, q⟩
    · exact ⟨ne q, .inl (up q)⟩
    · exact ⟨ne q, .inr ⟨x, up q⟩⟩
  have rdc : ∀ {b : Addr} {u : HO}, b ≠ a → Rd w2.F b u → Rd (w2.cut a).F b u := fun {b u} z q => by
    rcases q with q | ⟨x, q⟩
    · exact .inl (cu z q)
    · exact .inr ⟨x, cu z q⟩
  have ac : ∀ b ∈ w2.as, b ≠ a := fun b hb z => by
    have e1 := A.s0.na b hb
    rcases A.pre b hb with q | q
    · exact haw (z ▸ q)
    · rw [z, upd_same] at q; cases q
  refine ⟨⟨fun b vs q => ?_, fun b vs q => ?_, fun b vs q => ?_, fun b vs q => ?_, fun b C dx vs q => ?_, fun k b q => e.p k b q, fun b vs q => ?_⟩, ⟨⟨fun b u q => ?_, A.s0.nd, fun b hb => ?_, fun k m q => ?_, A.s0.ln⟩, fun b u hb q => ?_, fun b hb => ?_, A.bas, fun b u q => ?_⟩⟩
  · exact cu (ne q) (e.t b vs (up q))
  · exact cu (ne q) (e.l b vs (up q))
  · obtain ⟨z, r⟩ := rdu q; exact rdc z (e.k b vs r)
  · obtain ⟨z, r⟩ := rdu q; exact rdc z (e.d b vs r)
  · exact cu (ne q) (e.i b C dx vs (up q))
  · exact cu (ne q) (e.x b vs (up q))
  · have q : but w2.F a b = some u := q
    by_cases z : b = a
    · rw [z, but_same] at q; cases q
    · rw [but_ne z] at q; rw [h3 b z]; exact A.s0.fh b u q
  · show but w2.F a b = none
    rw [but_ne (ac b hb)]; exact A.s0.na b hb
  · obtain ⟨b, h1, h2⟩ := A.s0.ce k m q
    exact ⟨b, h1, h2.cut n (hm m (List.mem_of_getElem? q)) fun o r => by rw [h3 b (ac b (List.mem_of_getElem? h1))]; exact r⟩
  · by_cases z : b = a
    · rw [z] at q ⊢; exact ha u q
    · rw [h3 b z]; exact A.keep b u hb (by rw [upd_ne z]; exact q)
  · rcases A.pre b hb with q | q
    · exact .inl q
    · rw [upd_ne (ac b hb)] at q; exact .inr q
  · have q : but w2.F a b = some u := q
    by_cases z : b = a
    · rw [z, but_same] at q; cases q
    · rw [but_ne z] at q
      rcases A.fz b u q with ⟨u', r⟩ | r | r
      · have r : upd w.F a o b = some u' := r
        rw [upd_ne z] at r; exact .inl ⟨u', r⟩
      · exact .inr (.inl r)
      · rw [upd_ne z] at r; exact .inr (.inr r)
end
section
variable {c z : Str} {fs r : List (Str × D)} {x : D} {xs : List D} {b : Bool} {n : Int} {k : Nat}
theorem s_plT : plainD (.tup xs) = plainL xs := by rw [plainD]
theorem s_plL : plainD (.lst xs) = plainL xs := by rw [plainD]
theorem s_plI : plainD (.ins c fs) = plainF fs := by rw [plainD]
theorem s_pl0 : plainD .non = true := by simp [plainD]
theorem s_pl1 : plainD (.bl b) = true := by simp [plainD]
theorem s_pl2 : plainD (.int n) = true := by simp [plainD]
theorem s_pl3 : plainD (.str z) = true := by simp [plainD]
theorem s_pl4 : plainD (.ptr k) = true := by simp [plainD]
theorem s_plN : plainL [] = true := by rw [plainL]
theorem s_plC : plainL (x :: xs) = (plainD x && plainL xs) := by rw [plainL]
theorem s_plFN : plainF [] = true := by rw [plainF]
theorem s_plFC : plainF ((z, x) :: r) = (plainD x && plainF r) := by rw [plainF]
def plainMs (ms : MS) : Bool := ms.all plainM
theorem s_plMs : plainMs [.rng] = true := rfl
theorem s_plM0 : plainMs [] = true := rfl
end
end LA

set_option Elab.async false
set_option linter.all false
set_option maxRecDepth 100000
set_option maxHeartbeats 4000000
/-! LA37: an own dict returned, lent to a call, copied, compared; pop of a key. -/
namespace LA
open PySem PySem.Spec PyProof.Rows L2
section
variable {K : PySem.W.Frag} {ex : XI} {B : Bs ex} {w w' w1 : W} {ms ms1 : MS} {s : ASt} {σ : L2.St} {H H' : Hp} {p : Addr} {m : MO} {i j : Nat}
/-- a slot of an object that nobody else holds -/
theorem Lk.setOwn (L : Lk K B w ms s σ H) (i0 : 0 < i) (hF : w.F p = none) (ha : p ∉ w.as) (hB : B.H p = none) (r : RepM K w H p m) (hd : ∀ (k : Nat) mk, s[k]? = some (some (AV.ow mk)) → σ[k]? ≠ some (some (.ref p))) :
    Lk K B w ms (s.set i (some (.ow m))) (σ.set i (some (.ref p))) H := by
  refine ⟨L.s0, L.keep, L.pre, L.bas, L.fz, by simp [L.len], fun k av e => ?_, fun k l q mk ml e1 e2 e3 e4 => ?_, L.bf, fun x mm hs e => ?_⟩
  · by_cases h : i = k
    · subst h
      have hl : i < s.length := by have := (List.getElem?_eq_some_iff.mp e).1; simpa using this
      rw [List.getElem?_set_self hl] at e
      cases e
      exact ⟨p, by rw [List.getElem?_set_self (by rw [← L.len]; exact hl)], r, hF, ha, hB⟩
    · rw [List.getElem?_set_ne h] at e
      have := L.sl k av e
      cases av with
      | fr d => obtain ⟨u, e1, r⟩ := this; exact ⟨u, by rw [List.getElem?_set_ne h]; exact e1, r⟩
      | ex x => obtain ⟨a, c, d, e0, e1, r⟩ := this; exact ⟨a, c, d, e0, by rw [List.getElem?_set_ne h]; exact e1, r⟩
      | ow mm => obtain ⟨u, e1, r⟩ := this; exact ⟨u, by rw [List.getElem?_set_ne h]; exact e1, r⟩
  · have sz : ∀ {k : Nat} {mk : MO}, (s.set i (some (.ow m)))[k]? = some (some (AV.ow mk)) → i = k → (σ.set i (some (.ref p)))[k]? = some (some (.ref p)) := fun {k mk} e h => by
      subst h
      have hl : i < s.length := by have := (List.getElem?_eq_some_iff.mp e).1; simpa using this
      rw [List.getElem?_set_self (by rw [← L.len]; exact hl)]
    by_cases h1 : i = k
    · by_cases h2 : i = l
      · omega
      · rw [sz e1 h1] at e3
        rw [List.getElem?_set_ne h2] at e2 e4
        cases e3
        exact (hd l _ e2 e4).elim
    · rw [List.getElem?_set_ne h1] at e1 e3
      by_cases h2 : i = l
      · rw [sz e2 h2] at e4
        cases e4
        exact (hd k _ e1 e3).elim
      · rw [List.getElem?_set_ne h2] at e2 e4
        exact L.dj k l q mk ml e1 e2 e3 e4
  · rw [List.getElem?_set_ne (by omega)] at e ⊢
    exact L.sf x mm hs e
/-- an own object that becomes a cell -/
theorem Lk.cell (L : Lk K B w ms s σ H) (h : s[i]? = some (some (.ow m))) : ∃ p, σ[i]? = some (some (.ref p)) ∧ Le K w { w with as := w.as ++ [p] } ∧ Lk K B { w with as := w.as ++ [p] } (ms ++ [m]) (s.set i none) σ H ∧ w.as.length = ms.length := by
  obtain ⟨p, e1, r0, n1, n2, n3⟩ := L.sl i _ h
  have le : Le K w { w with as := w.as ++ [p] } := .ext (fun _ _ h => h) fun k a e => by
    show (w.as ++ [p])[k]? = some a
    rw [List.getElem?_append_left (List.getElem?_eq_some_iff.mp e).1]; exact e
  refine ⟨p, e1, le, ⟨⟨L.s0.fh, ?_, fun a ha => ?_, fun k mk e => ?_, by simp [L.s0.ln]⟩, L.keep, fun a ha => ?_, fun a ha => List.mem_append_left _ (L.bas a ha), L.fz, by simp [L.len], fun k av e => ?_, fun k l q mk ml q1 q2 q3 q4 => ?_, L.bf, fun x mm hs e => ?_⟩, L.s0.ln⟩
  · show (w.as ++ [p]).Nodup
    rw [List.nodup_append]
    refine ⟨L.s0.nd, by simp, fun a ha b hb e => n2 ?_⟩
    have : b = p := by simpa using hb
    rw [← this, ← e]; exact ha
  · have ha : a ∈ w.as ++ [p] := ha
    rcases List.mem_append.mp ha with q | q
    · exact L.s0.na a q
    · have : a = p := by simpa using q
      rw [this]; exact n1
  · by_cases hk : k < ms.length
    · rw [List.getElem?_append_left hk] at e
      obtain ⟨a, ha, r⟩ := L.s0.ce k mk e
      exact ⟨a, le.p k a ha, r.mono le fun _ q => q⟩
    · have hk2 : k = ms.length := by
        have := (List.getElem?_eq_some_iff.mp e).1
        simp at this; omega
      subst hk2
      have : mk = m := by simpa using e.symm
      subst this
      refine ⟨p, ?_, r0.mono le fun _ q => q⟩
      show (w.as ++ [p])[ms.length]? = some p
      rw [← L.s0.ln]; simp
  · have ha : a ∈ w.as ++ [p] := ha
    rcases List.mem_append.mp ha with q | q
    · exact L.pre a q
    · have : a = p := by simpa using q
      rw [this]; exact .inr n3
  · by_cases hij : i = k
    · subst hij
      have il : i < s.length := (List.getElem?_eq_some_iff.mp h).1
      rw [List.getElem?_set_self il] at e; cases e
    · rw [List.getElem?_set_ne hij] at e
      have := L.sl k av e
      cases av with
      | fr d => obtain ⟨v, a, b⟩ := this; exact ⟨v, a, b.mono le⟩
      | ex x => obtain ⟨a, c, d, e0, e1, r⟩ := this; exact ⟨a, c, d, e0, e1, r.mono le⟩
      | ow mm =>
        obtain ⟨u, e2, r, m1, m2, m3⟩ := this
        refine ⟨u, e2, r.mono le fun _ q => q, m1, fun z => ?_, m3⟩
        have z : u ∈ w.as ++ [p] := z
        rcases List.mem_append.mp z with q | q
        · exact m2 q
        · have : u = p := by simpa using q
          exact hij (L.dj i k p _ _ h e e1 (this ▸ e2))
  · have back : ∀ {j : Nat} {mj : MO}, (s.set i none)[j]? = some (some (AV.ow mj)) → s[j]? = some (some (AV.ow mj)) := fun {j mj} e => by
      by_cases hij : i = j
      · subst hij
        have il : i < s.length := (List.getElem?_eq_some_iff.mp h).1
        rw [List.getElem?_set_self il] at e; cases e
      · rw [List.getElem?_set_ne hij] at e; exact e
    exact L.dj k l q _ _ (back q1) (back q2) q3 q4
  · by_cases z : i = 0
    · subst z
      have il : 0 < s.length := (List.getElem?_eq_some_iff.mp h).1
      rw [List.getElem?_set_self il] at e; cases e
    · rw [List.getElem?_set_ne z] at e; exact L.sf x mm hs e
theorem Rep.flat {v : V} {d : D} (h : Rep K w v d) (f : flatD d = true) : Rep K w' v d := by
  cases h <;> first | exact .non | exact .bl _ | exact .int _ | exact .str _ | cases f
def flatM (m : MO) : Bool := match m with
  | .dk kvs => kvs.all fun kv => flatD kv.2
  | _ => false
theorem RepK.flat : ∀ {v : List (Key × V)} {d : List (Key × D)}, RepK K w v d → (d.all fun kv => flatD kv.2) = true → RepK K w' v d
  | _, _, .nil, _ => .nil
  | _, _, .cons h r, f => by
    rw [List.all_cons, Bool.and_eq_true] at f
    exact .cons (h.flat f.1) (RepK.flat r f.2)
theorem RepM.flat (h : RepM K w H p m) (f : flatM m = true) : RepM K w' H p m := by
  cases h with
  | dk h r => exact .dk h (r.flat f)
  | _ => cases f
/-- the last cell behind a call becomes an own object -/
theorem Lk.ownCell (L : Lk K B w1 ms1 s σ H) (le : Le K w1 w') (A : Aft K w1 H w' (ms1 ++ [m]) H') (hr : ∀ c ∈ ms1, c = .rng) (hm : flatM m = true) (hp : w'.as[ms1.length]? = some p) (j0 : 0 < j) :
    Le K w1 { w' with as := w1.as } ∧ Lk K B { w' with as := w1.as } ms1 (s.set j (some (.ow m))) (σ.set j (some (.ref p))) H' := by
  have le' : Le K w1 { w' with as := w1.as } := ⟨le.t, le.l, le.k, le.d, le.i, fun _ _ h => h, le.x⟩
  have A' : Aft K w1 H { w' with as := w1.as } ms1 H' := by
    refine ⟨⟨A.s0.fh, L.s0.nd, fun a ha => A.s0.na a (A.bas a ha), fun k mk e => ?_, L.s0.ln⟩, A.keep, fun a ha => .inl ha, fun a ha => ha, A.fz⟩
    obtain ⟨a, ha, r⟩ := A.s0.ce k mk (by rw [List.getElem?_append_left (List.getElem?_eq_some_iff.mp e).1]; exact e)
    obtain ⟨a0, ha0, _⟩ := L.s0.ce k mk e
    have : a0 = a := by rw [le.p k a0 ha0] at ha; exact Option.some.inj ha
    subst this
    have := hr mk (List.mem_of_getElem? e)
    subst this
    refine ⟨a0, ha0, ?_⟩
    cases r with | rng h l => exact .rng h l
  have hmem : p ∈ w'.as := List.mem_of_getElem? hp
  have hna : p ∉ w1.as := fun z => by
    obtain ⟨k, hk, e⟩ := List.mem_iff_getElem.mp z
    have q : w1.as[k]? = some p := by simp [hk, e]
    have q2 := le.p k p q
    have q3 := (List.getElem?_eq_some_iff.mp q2).1
    have q4 := (List.getElem?_eq_some_iff.mp hp).1
    have : k = ms1.length := (List.getElem_inj (h₀ := q3) (h₁ := q4) A.s0.nd).mp ((List.getElem?_eq_some_iff.mp q2).2.trans (List.getElem?_eq_some_iff.mp hp).2.symm)
    rw [← L.s0.ln] at this; omega
  have hH : H p = none := (A.pre p hmem).resolve_left hna
  have f := L.fresh hH
  refine ⟨le', (L.after le' A').setOwn j0 (A.s0.na p hmem) hna f.2.2 ?_ fun k mk e z => ?_⟩
  · obtain ⟨a, ha, r⟩ := A.s0.ce ms1.length m (by simp)
    have : a = p := by rw [hp] at ha; exact (Option.some.inj ha).symm
    subst this
    exact r.flat hm
  · obtain ⟨q, e1, r, _⟩ := L.sl k _ e
    rw [z] at e1; cases e1
    obtain ⟨o, ho⟩ := r.there
    rw [hH] at ho; cases ho
end
def aRetC (i : Nat) : aS := fun A s ms => ownAt i s fun m => A.rt (.ptr ms.length) (ms ++ [m])
def isRng (m : MO) : Bool := match m with
  | .rng => true
  | _ => false
/-- x = f(..), the object that f returns is one's own -/
def aSetCallC (j : Nat) (S : ASp) (rr : aA) : aS := fun A s ms => rr s ms (fun ds ms1 => DoCall S ds ms1 (fun d ms2 => ∃ m, d = .ptr ms1.length ∧ ms2 = ms1 ++ [m] ∧ ms1.all isRng = true ∧ flatM m = true ∧ A.nx (s.set j (some (.ow m))) ms1) (fun x ms => A.ex x s ms)) (fun x ms => A.ex x s ms)
/-- arguments, an own dict among them -/
def cAo (K : PySem.W.Frag) (Wx : WXA) (i : Nat) (r : aA) : TA := fun σ H R => ∃ B : Bs Wx.ex, ∃ w ms s Q E, Lk K B w ms s σ H ∧ r s ms Q E ∧ (∀ w' ms' H' vs ds, Le K w w' → Lk K B w' ms' s σ H' → (∀ p o, σ[i]? = some (some (.ref p)) → w'.F p = none → H' p = some o → RepL K { w' with F := upd w'.F p o } vs ds) → Q ds ms' → R vs H') ∧ PostX K B w s σ E Wx
abbrev AAo (X : Cx) (Wx : WXA) (i : Nat) (es : List Expr) (r : aA) : Prop := PA X es (cAo X.K Wx i r)
def aOwnA (i : Nat) (rr : aA) : aA := fun s ms Q E => ownAt i s fun m => moK m fun kvs => rr s ms (fun xs ms2 => Q (.dk kvs :: xs) ms2) E
/-- f(.., x, ..), x an own dict in slot i -/
def aCallO (i : Nat) (S : ASp) (rr : aA) : aE := fun s ms Q E => rr s ms (fun ds ms1 => ownAt i s fun m => moK m fun _ => DoCall S ds ms1 (fun d ms2 => plainD d = true ∧ plainMs ms2 = true ∧ Q d ms2) (fun x ms2 => plainF x.2 = true ∧ plainMs ms2 = true ∧ E x ms2)) E
/-- dict(x) -/
def fCopyO (i : Nat) : aF := fun s ms Q _ => ownAt i s fun m => moK m fun kvs => Q (.dk kvs) ms
/-- x != y, own dicts that are equal -/
def aSameO (i j : Nat) : aT := fun s ms Q _ => ownAt i s fun m => moK m fun ks => ownAt j s fun m => moK m fun ls => ks.length = ls.length ∧ (∀ p ∈ ks, flatD p.2 = true ∧ valD ls p.1 = some p.2) ∧ Q false ms
def dropDK (kvs : List (Key × D)) (k : Key) : List (Key × D) := kvs.filter fun kv => decide (kv.1 ≠ k)
/-- x.pop(k) -/
def aDPop (i : Nat) (rk : aE) : aS := fun A s ms => ownAt i s fun m => moK m fun _ => rk s ms (fun y ms2 => isKey y fun k => ownAt i s fun m => moK m fun kvs => gotI (valD kvs k) fun _ => A.nx (s.set i (some (.ow (.dk (dropDK kvs k))))) ms2) fun x ms => A.ex x s ms
theorem RepK.drop {K : PySem.W.Frag} {w : W} (k : Key) : ∀ {v : List (Key × V)} {d : List (Key × D)}, RepK K w v d → RepK K w (dropK v k) (dropDK d k)
  | _, _, .nil => .nil
  | _, _, .cons (k := k') h r => by
    unfold dropK dropDK
    rw [List.filter_cons, List.filter_cons]
    by_cases e : k' = k
    · rw [if_neg (by simp [e]), if_neg (by simp [e])]; exact RepK.drop k r
    · rw [if_pos (by simp [e]), if_pos (by simp [e])]; exact .cons h (RepK.drop k r)
/-- dict(d) -/
def rCopyD : List V → Hp → VK → Prop := fun vs H Q => ∃ a kvs, vs = [.ref a] ∧ H a = some (.dK kvs) ∧ ∀ p, H p = none → Q (.ref p) (upd H p (.dK kvs))
theorem call_copyD {X : Cx} : CallR X (.type "dict") rCopyD := by
  rintro pins s σ H vs us Q I rx ⟨a, kvs, rfl, ha, k⟩
  obtain ⟨u, rfl, ru⟩ := vals1 rx
  cases ru
  exact d_copyOf I (.inl ha) fun p s' hp I' => ⟨.ref p, _, I', rfl, k p hp⟩
/-- a != b, two dicts that are equal -/
def rNeD : R2 := fun x y H Q => ∃ a b ks ls, x = .ref a ∧ y = .ref b ∧ H a = some (.dK ks) ∧ H b = some (.dK ls) ∧ ks.length = ls.length ∧ (∀ p ∈ ks, flatB p.2 = true ∧ valV ls p.1 = some p.2) ∧ Q (.bl false) H
theorem hits_same {A : Around} {s : Shared} {ls : List (Key × V)} {vb : List (Key × Value)} (rb : KV ls vb) {ks : List (Key × V)} {va : List (Key × Value)}
    (ra : KV ks va) : (∀ p ∈ ks, flatB p.2 = true ∧ valV ls p.1 = some p.2) → PySem.W.KeqHits A s vb va true := by
  unfold KV at ra
  induction ra with
  | nil => intro _; exact .nil
  | @cons p q ps qs h t k =>
    intro hp
    obtain ⟨h1, h2⟩ := h
    obtain ⟨f, e⟩ := hp p List.mem_cons_self
    have rr : RelO (some p.2) (valueAt vb p.1) := by rw [← e]; exact rb.val p.1
    obtain ⟨y, hy, ry⟩ := rr.some_of
    obtain ⟨key, v⟩ := q
    have h1' : p.1 = key := h1
    rw [h1'] at hy
    show PySem.W.KeqHits A s vb ((key, v) :: qs) (true && true)
    exact .hit hy (eqAt_same h2 ry f) (k fun p' hm => hp p' (List.mem_cons_of_mem _ hm))
theorem op_neD {X : Cx} (hu : X.A.units < cLine) : OpR X (compareOp .NotEq) rNeD := by
  rintro pins s σ H x y v u Q I rx ry ⟨a, b, ks, ls, rfl, rfl, ha, hb, hl, hp, q⟩
  cases (show v = Value.ref a from rx)
  cases (show u = Value.ref b from ry)
  obtain ⟨_, ya, va, ra, da⟩ := (show ObjOk X.prog X.w H s.heap a (.dK ks) from I.hok a _ ha)
  obtain ⟨_, yb, vb, rb, db⟩ := (show ObjOk X.prog X.w H s.heap b (.dK ls) from I.hok b _ hb)
  refine PySem.W.keq_ne (knd := mixKind X.prog X.w) (r := true) ya yb da db hu (fun _ => hits_same rb ra hp) ?_
  have e : va.length = vb.length := by rw [← ra.length, ← rb.length]; exact hl
  rw [show (!(va.length == vb.length && true)) = false from by rw [e]; simp]
  exact ⟨.bl false, H, I, rfl, q⟩
section
variable {X : Cx} {Wx : WXA} {e o a b f : Expr} {es : List Expr} {ra rk : aE} {rr : aA} {pos p2 apos cpos p : Pos} {i j k : Nat} {x : Str} {ps : List Str} {S : ASp}
theorem as_retC (he : PE X e (tVar i)) : AS X Wx (.Return (some e) pos) (aRetC i) :=
  PS.imp (ps_ret he) fun De σ H ⟨B, w, ms, s, A, L, h, en⟩ => by
    obtain ⟨m, e0, h⟩ := ownAt_of h
    obtain ⟨p, e1, le, L2, hl⟩ := L.cell e0
    refine ⟨.ref p, e1, en.rt _ _ H _ σ (.ref p) (.ptr ms.length) le L2 (.ptr ?_) h⟩
    show (w.as ++ [p])[ms.length]? = some p
    rw [← hl]; simp
theorem as_setCallC {y : Str} {pos' : Pos} (tk : L2N.Takes X Wx.w) (j0 : 0 < j) (hN : X.N.Nodup) (hi : X.N[j]? = some y) (hx : Loc X.env.scope y) (G : HX.GFn X.prog X.w X.K X.mg X.base x k ps (spA X.K S)) (hr : Room k X.A) (hg : Gl X x) (ha : AA X Wx (e :: es) rr) (hdb : (x == ("__debug__" : Str)) = false := by decide)
    (he : starEach (e :: es) X.env = (false, eval e X.env) :: starEach es X.env := by rfl) (hpl : (backTo cpos (starEach es X.env)).any (·.1) = false := by rfl) (hs : swapsWith (.Call (.Name x p) (e :: es) [] cpos) (some (.Name y pos')) pos.line X.env = pure false := by rfl) (hf : X.fn y = true ∨ X.env.scope.names.lookup y = some .local := by first | exact .inl rfl | exact .inr rfl | assumption) :
    AS X Wx (.Assign [.Name y pos'] (.Call (.Name x p) (e :: es) [] cpos) pos) (aSetCallC j S rr) :=
  PS.imp (ps_set hN hi hx (HX.pe_g G hr (fun σ => L2N.passAt tk σ) hg ha hdb he hpl) hs hf) fun De σ H ⟨B, w, ms, s, A, L, h, en⟩ =>
    ⟨B, w, ms, s, _, fun x ms => A.ex x s ms, L, h, fun w1 ms1 H1 vs ds e1 L1 r1 h1 => ⟨w1, ms1, ds, _, _, L1.s0, r1, h1.h, fun w' ms' H' v d le A' rv q => by
      obtain ⟨m, rfl, rfl, hr', hm, q⟩ := q
      cases rv with
      | ptr hp =>
        obtain ⟨le2, L2⟩ := L1.ownCell le A' (fun c hc => by have := List.all_eq_true.mp hr' c hc; cases c <;> first | rfl | cases this) hm hp j0
        exact en.nx _ ms1 H' _ _ (e1.trans le2) L2 q, fun w' ms' H' cl ad x le A' rx q => en.ex w' ms' H' s σ cl ad x (e1.trans le) (L1.after le A') rx q⟩, en.px⟩
theorem aao_nil : AAo X Wx i [] aNil := PA.imp pa_nil fun σ H R ⟨B, w, ms, s, Q, E, L, h, hq, hx⟩ => hq w ms H [] [] (Le.refl _ _) L (fun _ _ _ _ _ => .nil) h
theorem aao_cons (ha : AE X Wx e ra) (hr : AAo X Wx i es rr) (hs : starEach (e :: es) X.env = (false, eval e X.env) :: starEach es X.env := by rfl) : AAo X Wx i (e :: es) (aCons ra rr) :=
  PA.imp (pa_cons ha hr hs) fun σ H R ⟨B, w, ms, s, Q, E, L, h, hq, hx⟩ => ⟨B, w, ms, s, _, E, L, h, fun w1 ms1 H1 v d e1 L1 r1 h1 =>
    ⟨B, w1, ms1, s, _, E, L1, h1, fun w2 ms2 H2 vs ds e2 L2 r2 h2 => hq w2 ms2 H2 _ _ (e1.trans e2) L2 (fun p o h3 h4 h5 => .cons ((r1.mono e2).mono (Le.new h4)) (r2 p o h3 h4 h5)) h2, hx.le e1⟩, hx⟩
theorem aao_own (he : PE X e (tVar i)) (hr : AAo X Wx i es rr) (hs : starEach (e :: es) X.env = (false, eval e X.env) :: starEach es X.env := by rfl) : AAo X Wx i (e :: es) (aOwnA i rr) :=
  PA.imp (pa_cons he hr hs) fun σ H R ⟨B, w, ms, s, Q, E, L, h, hq, hx⟩ => by
    obtain ⟨m, e0, h⟩ := ownAt_of h
    obtain ⟨kvs, rfl, h⟩ := moK_of h
    obtain ⟨p, e1, r0, n⟩ := L.sl i _ e0
    refine ⟨_, e1, B, w, ms, s, _, E, L, h, fun w2 ms2 H2 vs ds e2 L2 r2 h2 => hq w2 ms2 H2 _ _ e2 L2 (fun p' o h3 h4 h5 => ?_) h2, hx⟩
    refine .cons ?_ (r2 p' o h3 h4 h5)
    have : p' = p := by rw [e1] at h3; simpa using h3.symm
    subst this
    obtain ⟨p2, e2', r2', _⟩ := L2.sl i _ e0
    have : p2 = p' := by rw [e1] at e2'; simpa using e2'.symm
    subst this
    cases r2' with
    | dk hp q => rw [hp] at h5; cases h5; exact .dk (.inl upd_same) (q.mono (Le.new h4))
theorem ae_callO (tk : L2N.Takes X Wx.w) (G : HX.GFn X.prog X.w X.K X.mg X.base x k ps (spA X.K S)) (hr : Room k X.A) (hg : Gl X x) (ha : AAo X Wx i (e :: es) rr) (hdb : (x == ("__debug__" : Str)) = false := by decide)
    (he : starEach (e :: es) X.env = (false, eval e X.env) :: starEach es X.env := by rfl) (hpl : (backTo pos (starEach es X.env)).any (·.1) = false := by rfl) : AE X Wx (.Call (.Name x p) (e :: es) [] pos) (aCallO i S rr) :=
  PE.imp (HX.pe_g G hr (fun σ => L2N.passAt tk σ) hg ha hdb he hpl) fun σ H R ⟨B, w, ms, s, Q, E, L, h, hq, hx⟩ => ⟨B, w, ms, s, _, E, L, h, fun w1 ms1 H1 vs ds e1 L1 r1 h1 => by
    obtain ⟨m, e0, h1⟩ := ownAt_of h1
    obtain ⟨kvs, rfl, h1⟩ := moK_of h1
    obtain ⟨p, e2, r0, n1, n2, n3⟩ := L1.sl i _ e0
    cases r0 with
    | @dk vk _ hp q0 =>
      have rl := r1 p _ e2 n1 hp
      have le0 : Le X.K w1 { w1 with F := upd w1.F p (.dK vk) } := Le.new n1
      have hrd : Rd (upd w1.F p (.dK vk)) p (.dK vk) := .inl upd_same
      have np : ∀ {w2 : W}, Le X.K { w1 with F := upd w1.F p (.dK vk) } w2 → NotPlain w2 p := fun {w2} le => by
        have := le.k p vk hrd
        refine ⟨fun vs q => ?_, fun vs q => ?_, fun C dx vs q => ?_⟩ <;> rcases this with z | ⟨o, z⟩
        · rcases q with q | ⟨o', q⟩ <;> rw [z] at q <;> cases q
        · rcases q with q | ⟨o', q⟩ <;> rw [z] at q <;> cases q
        all_goals (rw [z] at q; cases q)
      have hH : upd H1 p (.dK vk) = H1 := by
        funext b
        by_cases z : b = p
        · rw [z, upd_same, hp]
        · rw [upd_ne z]
      have h0 : St0 X.K { w1 with F := upd w1.F p (.dK vk) } ms1 H1 := by
        refine ⟨fun b u z => ?_, L1.s0.nd, fun b hb => ?_, fun k m z => ?_, L1.s0.ln⟩
        · have z : upd w1.F p (.dK vk) b = some u := z
          by_cases y : b = p
          · rw [y, upd_same] at z; cases z; rw [y]; exact hp
          · rw [upd_ne y] at z; exact L1.s0.fh b u z
        · show upd w1.F p (.dK vk) b = none
          rw [upd_ne (show b ≠ p from fun z => n2 (z ▸ hb))]; exact L1.s0.na b hb
        · obtain ⟨b, hb, r⟩ := L1.s0.ce k m z
          exact ⟨b, hb, r.mono le0 fun _ q => q⟩
      have fin : ∀ {w2 : W} {ms2 : MS} {H2 : Hp}, Le X.K { w1 with F := upd w1.F p (.dK vk) } w2 → Aft X.K { w1 with F := upd w1.F p (.dK vk) } H1 w2 ms2 H2 → plainMs ms2 = true → Le X.K w1 (w2.cut p) ∧ Lk X.K B (w2.cut p) ms2 s σ H2 := fun {w2 ms2 H2} le A hm => by
        obtain ⟨l1, a1⟩ := lent (H3 := H2) n1 n2 le (by rw [hH]; exact A) (np le) (fun m hm' => List.all_eq_true.mp hm m hm') (fun _ _ => rfl) (fun u hu => A.keep p u n2 hu)
        exact ⟨l1, L1.after l1 a1⟩
      refine ⟨{ w1 with F := upd w1.F p (.dK vk) }, ms1, ds, _, _, h0, rl, h1.h, fun w' ms' H' v d le A rv q => ?_, fun w' ms' H' cl ad x le A rx q => ?_⟩
      · obtain ⟨z1, z2, q⟩ := q
        obtain ⟨l1, L2⟩ := fin le A z2
        exact hq _ ms' H' v d (e1.trans l1) L2 (rv.cut (np le) z1) q
      · obtain ⟨z1, z2, q⟩ := q
        obtain ⟨l1, L2⟩ := fin le A z2
        refine hx _ ms' H' cl ad x (e1.trans l1) L2 ⟨rx.1, rx.2.imp id ?_⟩ q
        rintro ⟨a', fs, e3, e4, rf⟩
        have ne : a' ≠ p := fun z => by
          rcases le.k p vk hrd with y | ⟨o, y⟩ <;> rw [z, y] at e4 <;> cases e4
        exact ⟨a', fs, e3, by show but w'.F p a' = _; rw [but_ne ne]; exact e4, rf.cutP (np le) z1⟩, hx⟩
theorem fe_copyO (h : PE X e (tCB rCopyD (tCons (tVar i) tNil))) : FE X Wx e (fCopyO i) :=
  PE.imp h fun σ H R ⟨B, w, ms, s, Q, E, L, h, hq, hx⟩ => by
    obtain ⟨m, e0, h⟩ := ownAt_of h
    obtain ⟨kvs, rfl, h⟩ := moK_of h
    obtain ⟨p, e1, r0, n⟩ := L.sl i _ e0
    cases r0 with
    | dk hp q => exact ⟨_, e1, p, _, rfl, hp, fun p' hp' => hq w ms H p' _ _ (Le.refl _ _) L hp' (.dk upd_same q) h⟩
theorem fe_dictO (hg : Gl X "dict") (hm : X.mg "dict" = none) (he : PE X a (tVar i)) (hs : starEach [a] X.env = (false, eval a X.env) :: starEach [] X.env := by rfl) : FE X Wx (.Call (.Name "dict" p) [a] [] pos) (fCopyO i) :=
  fe_copyO (pe_callTy call_copyD hg hm rfl (pa_cons he pa_nil hs) (by decide) (by decide) hs)
theorem valV_of {K : PySem.W.Frag} {w : W} {vs : List (Key × V)} {ds : List (Key × D)} (r : RepK K w vs ds) (hv : ∀ p ∈ ds, flatD p.2 = true) : ∀ p ∈ vs, ∃ d, (p.1, d) ∈ ds ∧ Rep K w p.2 d := by
  intro p hp
  obtain ⟨n, hn, e⟩ := List.mem_iff_getElem.mp hp
  obtain ⟨d, hd, rd⟩ := r.get (i := n) (k := p.1) (x := p.2) (by rw [List.getElem?_eq_getElem hn, e])
  exact ⟨d, List.mem_of_getElem? hd, rd⟩
theorem flat_uniq {K : PySem.W.Frag} {w : W} {v u : V} {d : D} (h : Rep K w v d) (g : Rep K w u d) (f : flatD d = true) : u = v ∧ flatB v = true := by
  cases h <;> first | (cases g; exact ⟨rfl, rfl⟩) | cases f
theorem at_sameO (hu : X.A.units < cLine) (ha : PE X a (tVar i)) (hb : PE X b (tVar j)) (hm : behindInMarks .NotEq b = false := by rfl) : AT X Wx (.Compare a [.NotEq] [b] pos) (aSameO i j) :=
  PT.imp (pt_cmpR (op_neD hu) ha hb hm) fun σ H R ⟨B, w, ms, s, Q, E, L, h, hq, hx⟩ => by
    obtain ⟨m, e0, h⟩ := ownAt_of h
    obtain ⟨ks, rfl, h⟩ := moK_of h
    obtain ⟨m, e2, h⟩ := ownAt_of h
    obtain ⟨ls, rfl, hl, hp, h⟩ := moK_of h
    obtain ⟨p, e1, r0, n⟩ := L.sl i _ e0
    obtain ⟨p', e3, r3, n'⟩ := L.sl j _ e2
    cases r0 with
    | dk h1 q1 =>
      cases r3 with
      | dk h2 q2 =>
        refine ⟨_, e1, _, e3, p, p', _, _, rfl, rfl, h1, h2, by rw [q1.length, q2.length]; exact hl, fun z hz => ?_, false, rfl, hq w ms H false (Le.refl _ _) L h⟩
        obtain ⟨d, hd, rd⟩ := valV_of q1 (fun p hp' => (hp p hp').1) z hz
        obtain ⟨f1, f2⟩ := hp _ hd
        obtain ⟨u, hu, ru⟩ := (q2.val z.1).1 _ f2
        obtain ⟨rfl, f3⟩ := flat_uniq rd ru f1
        exact ⟨f3, hu⟩
theorem as_dpop (ho : PE X o (tVar i)) (hk : AE X Wx e rk) (m : M1 X o "pop" apos e cpos) (hs : swapsWith (.Call (.Attribute o "pop" apos) [e] [] cpos) none pos.line X.env = pure false := by rfl) : AS X Wx (.Expr (.Call (.Attribute o "pop" apos) [e] [] cpos) pos) (aDPop i rk) :=
  PS.imp (ps_expr (pe_dpop1 ho hk m) hs) fun De σ H ⟨B, w, ms, s, A, L, h, en⟩ => by
    obtain ⟨m, e0, h⟩ := ownAt_of h
    obtain ⟨xs0, rfl, h⟩ := moK_of h
    obtain ⟨p, e1, r0, n⟩ := L.sl i _ e0
    cases r0 with
    | dk hp0 q0 =>
      refine ⟨_, e1, p, rfl, .inl ⟨_, .inl hp0⟩, B, w, ms, s, _, _, L, h, fun w2 ms2 H2 x dx le2 L2 r2 h2 => ?_, en.px⟩
      obtain ⟨k, rfl, h2⟩ := isKey_rep r2 h2
      obtain ⟨m, e2, h2⟩ := ownAt_of h2
      obtain ⟨xs, rfl, h2⟩ := moK_of h2
      obtain ⟨y, hy, h2⟩ := gotI_of h2
      obtain ⟨p', e3, q, n2⟩ := L2.sl i _ e2
      have : p' = p := by rw [e1] at e3; simpa using e3.symm
      subst this
      cases q with
      | dk hp q =>
        obtain ⟨u, hu, _⟩ := (q.val k).1 y hy
        refine ⟨_, k, u, hp, rfl, hu, ?_⟩
        exact en.nx w2 ms2 _ _ _ le2 (L2.updOwn e2 e1 (.dk upd_same (q.drop k))) h2
end
/-! ### steps -/
section
variable {i j : Nat} {s : ASt} {ms : MS} {S : ASp} {rr : aA} {rk : aE} {A : AEnds} {Q : D → MS → Prop} {QL : List D → MS → Prop} {E : XD → MS → Prop}
theorem w_aRetC : aRetC i A s ms = (ownAt i s fun m => A.rt (.ptr ms.length) (ms ++ [m])) := Eq.trans rfl rfl
theorem w_aSetCallC : aSetCallC j S rr A s ms = (rr s ms (fun ds ms1 => DoCall S ds ms1 (fun d ms2 => ∃ m, d = .ptr ms1.length ∧ ms2 = ms1 ++ [m] ∧ ms1.all isRng = true ∧ flatM m = true ∧ withS (s.set j (some (.ow m))) (fun s => A.nx s ms1)) (fun x ms => A.ex x s ms)) (fun x ms => A.ex x s ms)) := Eq.trans rfl rfl
theorem w_aOwnA : aOwnA i rr s ms QL E = (ownAt i s fun m => moK m fun kvs => rr s ms (fun xs ms2 => QL (.dk kvs :: xs) ms2) E) := Eq.trans rfl rfl
theorem w_aCallO : aCallO i S rr s ms Q E = (rr s ms (fun ds ms1 => ownAt i s fun m => moK m fun _ => DoCall S ds ms1 (fun d ms2 => plainD d = true ∧ plainMs ms2 = true ∧ Q d ms2) (fun x ms2 => plainF x.2 = true ∧ plainMs ms2 = true ∧ E x ms2)) E) := Eq.trans rfl rfl
theorem w_fCopyO {Q : MO → MS → Prop} : fCopyO i s ms Q E = (ownAt i s fun m => moK m fun kvs => Q (.dk kvs) ms) := Eq.trans rfl rfl
theorem w_aSameO {Q : Bool → MS → Prop} : aSameO i j s ms Q E = (ownAt i s fun m => moK m fun ks => ownAt j s fun m => moK m fun ls => ks.length = ls.length ∧ (∀ p ∈ ks, flatD p.2 = true ∧ valD ls p.1 = some p.2) ∧ Q false ms) := Eq.trans rfl rfl
theorem w_aDPop : aDPop i rk A s ms = (ownAt i s fun m => moK m fun _ => rk s ms (fun y ms2 => isKey y fun k => ownAt i s fun m => moK m fun kvs => gotI (valD kvs k) fun _ => withS (s.set i (some (.ow (.dk (dropDK kvs k))))) (fun s => A.nx s ms2)) fun x ms => A.ex x s ms) := Eq.trans rfl rfl
end
end LA

set_option Elab.async false
set_option linter.all false
set_option maxRecDepth 100000
set_option maxHeartbeats 8000000
namespace LW
open PySem PySem.Spec PyProof.Rows L2
def topS (i : Nat) : Stmt := PySem.Challenge.pw_overmidnight_k08_whole_runs.main.body.getD i (.Pass ⟨0, 0, 0, 0⟩)
abbrev s__law_below : Stmt := topS 47
theorem sc__law_below : FnScope ["_law_d", "_law_size", "_law_result"] ["_law_d", "_law_size"] (defScope s__law_below) := ⟨rfl, rfl, rfl, by decide +kernel, rfl, by decide +kernel, by decide +kernel⟩
abbrev s__law_random : Stmt := topS 46
theorem sc__law_random : FnScope ["_law_script", "_law_salt", "_law_seed", "_law_cell"] ["_law_script", "_law_salt"] (defScope s__law_random) := ⟨rfl, rfl, rfl, by decide +kernel, rfl, by decide +kernel, by decide +kernel⟩
abbrev s__law_pick : Stmt := topS 48
theorem sc__law_pick : FnScope ["_law_d", "_law_items"] ["_law_d", "_law_items"] (defScope s__law_pick) := ⟨rfl, rfl, rfl, by decide +kernel, rfl, by decide +kernel, by decide +kernel⟩
abbrev s__law_length : Stmt := topS 50
theorem sc__law_length : FnScope ["_law_d"] ["_law_d"] (defScope s__law_length) := ⟨rfl, rfl, rfl, by decide +kernel, rfl, by decide +kernel, by decide +kernel⟩
abbrev s__law_amount : Stmt := topS 51
theorem sc__law_amount : FnScope ["_law_d", "_law_size", "_law_near"] ["_law_d", "_law_size"] (defScope s__law_amount) := ⟨rfl, rfl, rfl, by decide +kernel, rfl, by decide +kernel, by decide +kernel⟩
abbrev s_InvalidProgram_init : Stmt := inClass (topS 6) 0
theorem sc_InvalidProgram_init : FnScope ["self", "rule", "reason"] ["self", "rule", "reason"] (defScope s_InvalidProgram_init) := ⟨rfl, rfl, rfl, by decide +kernel, rfl, by decide +kernel, by decide +kernel⟩
abbrev s__law_time : Stmt := topS 52
theorem sc__law_time : FnScope ["_law_d", "_law_size"] ["_law_d", "_law_size"] (defScope s__law_time) := ⟨rfl, rfl, rfl, by decide +kernel, rfl, by decide +kernel, by decide +kernel⟩
abbrev s__law_point : Stmt := topS 54
theorem sc__law_point : FnScope ["_law_d", "_law_names_here", "_law_size", "_law_deep", "_law_chance"] ["_law_d", "_law_names_here", "_law_size", "_law_deep"] (defScope s__law_point) := ⟨rfl, rfl, rfl, by decide +kernel, rfl, by decide +kernel, by decide +kernel⟩
abbrev s__law_names : Stmt := topS 53
theorem sc__law_names : FnScope ["_law_d", "_law_many", "_law_pool", "_law_start"] ["_law_d", "_law_many"] (defScope s__law_names) := ⟨rfl, rfl, rfl, by decide +kernel, rfl, by decide +kernel, by decide +kernel⟩
abbrev s__law_dressed : Stmt := topS 55
theorem sc__law_dressed : FnScope ["_law_d", "_law_part", "_law_size", "_law_chance"] ["_law_d", "_law_part", "_law_size"] (defScope s__law_dressed) := ⟨rfl, rfl, rfl, by decide +kernel, rfl, by decide +kernel, by decide +kernel⟩
abbrev s__law_span : Stmt := topS 56
theorem sc__law_span : FnScope ["_law_d", "_law_names_here", "_law_size", "_law_part"] ["_law_d", "_law_names_here", "_law_size"] (defScope s__law_span) := ⟨rfl, rfl, rfl, by decide +kernel, rfl, by decide +kernel, by decide +kernel⟩
abbrev s__law_condition : Stmt := topS 58
theorem sc__law_condition : FnScope ["_law_d", "_law_names_here", "_law_size", "_law_deep", "_law_sorts", "_law_word", "_law_one", "_law_k"] ["_law_d", "_law_names_here", "_law_size", "_law_deep"] (defScope s__law_condition) := ⟨rfl, rfl, rfl, by decide +kernel, rfl, by decide +kernel, by decide +kernel⟩
abbrev s__law_shorter : Stmt := topS 57
theorem sc__law_shorter : FnScope ["_law_d", "_law_names_here", "_law_size", "_law_one", "_law_two", "_law_other", "_law_first", "_law_second"] ["_law_d", "_law_names_here", "_law_size"] (defScope s__law_shorter) := ⟨rfl, rfl, rfl, by decide +kernel, rfl, by decide +kernel, by decide +kernel⟩
abbrev s__law_outcome : Stmt := topS 59
theorem sc__law_outcome : FnScope ["_law_d", "_law_names_here", "_law_size", "_law_chance", "_law_parts", "_law_points", "_law_k"] ["_law_d", "_law_names_here", "_law_size"] (defScope s__law_outcome) := ⟨rfl, rfl, rfl, by decide +kernel, rfl, by decide +kernel, by decide +kernel⟩
abbrev s__law_rule : Stmt := topS 60
theorem sc__law_rule : FnScope ["_law_d", "_law_names_here", "_law_size", "_law_condition_here"] ["_law_d", "_law_names_here", "_law_size"] (defScope s__law_rule) := ⟨rfl, rfl, rfl, by decide +kernel, rfl, by decide +kernel, by decide +kernel⟩
abbrev s__law_rules : Stmt := topS 61
theorem sc__law_rules : FnScope ["_law_d", "_law_names_here", "_law_size", "_law_many", "_law_k"] ["_law_d", "_law_names_here", "_law_size", "_law_many"] (defScope s__law_rules) := ⟨rfl, rfl, rfl, by decide +kernel, rfl, by decide +kernel, by decide +kernel⟩
abbrev s_all_parts : Stmt := topS 34
theorem sc_all_parts : FnScope ["part", "depth", "found", "inner"] ["part", "depth"] (defScope s_all_parts) := ⟨rfl, rfl, rfl, by decide +kernel, rfl, by decide +kernel, by decide +kernel⟩
abbrev s_inner_of : Stmt := topS 33
theorem sc_inner_of : FnScope ["part", "word"] ["part"] (defScope s_inner_of) := ⟨rfl, rfl, rfl, by decide +kernel, rfl, by decide +kernel, by decide +kernel⟩
abbrev s_is_point : Stmt := topS 35
theorem sc_is_point : FnScope ["part"] ["part"] (defScope s_is_point) := ⟨rfl, rfl, rfl, by decide +kernel, rfl, by decide +kernel, by decide +kernel⟩
abbrev s_is_span : Stmt := topS 36
theorem sc_is_span : FnScope ["part"] ["part"] (defScope s_is_span) := ⟨rfl, rfl, rfl, by decide +kernel, rfl, by decide +kernel, by decide +kernel⟩
abbrev s_reading_of : Stmt := topS 37
theorem sc_reading_of : FnScope ["part", "found"] ["part"] (defScope s_reading_of) := ⟨rfl, rfl, rfl, by decide +kernel, rfl, by decide +kernel, by decide +kernel⟩
abbrev s_less : Stmt := topS 38
theorem sc_less : FnScope ["one", "other", "found", "name", "many"] ["one", "other"] (defScope s_less) := ⟨rfl, rfl, rfl, by decide +kernel, rfl, by decide +kernel, by decide +kernel⟩
abbrev s_is_simple : Stmt := topS 39
theorem sc_is_simple : FnScope ["reading", "counts", "name"] ["reading"] (defScope s_is_simple) := ⟨rfl, rfl, rfl, by decide +kernel, rfl, by decide +kernel, by decide +kernel⟩
abbrev s_is_integer : Stmt := topS 11
theorem sc_is_integer : FnScope ["value"] ["value"] (defScope s_is_integer) := ⟨rfl, rfl, rfl, by decide +kernel, rfl, by decide +kernel, by decide +kernel⟩
abbrev s_is_name : Stmt := topS 12
theorem sc_is_name : FnScope ["value", "sign"] ["value"] (defScope s_is_name) := ⟨rfl, rfl, rfl, by decide +kernel, rfl, by decide +kernel, by decide +kernel⟩
abbrev s_is_bad_kind : Stmt := topS 40
theorem sc_is_bad_kind : FnScope ["part", "word", "inner"] ["part"] (defScope s_is_bad_kind) := ⟨rfl, rfl, rfl, by decide +kernel, rfl, by decide +kernel, by decide +kernel⟩
abbrev s_fault_of : Stmt := topS 41
theorem sc_fault_of : FnScope ["part", "times", "word"] ["part", "times"] (defScope s_fault_of) := ⟨rfl, rfl, rfl, by decide +kernel, rfl, by decide +kernel, by decide +kernel⟩
abbrev s_check_parts : Stmt := topS 42
theorem sc_check_parts : FnScope ["parts", "times", "rule", "rows", "part", "depth", "reason", "row"] ["parts", "times", "rule"] (defScope s_check_parts) := ⟨rfl, rfl, rfl, by decide +kernel, rfl, by decide +kernel, by decide +kernel⟩
abbrev s_Program_init : Stmt := inClass (topS 44) 0
theorem sc_Program_init : FnScope ["self", "times", "rules", "last", "index", "rule"] ["self", "times", "rules", "last"] (defScope s_Program_init) := ⟨rfl, rfl, rfl, by decide +kernel, rfl, by decide +kernel, by decide +kernel⟩
abbrev s_check_times : Stmt := topS 43
theorem sc_check_times : FnScope ["times", "name"] ["times"] (defScope s_check_times) := ⟨rfl, rfl, rfl, by decide +kernel, rfl, by decide +kernel, by decide +kernel⟩
abbrev s__law_equal : Stmt := topS 49
theorem sc__law_equal : FnScope ["_law_actual", "_law_expected", "_law_key", "_law_k"] ["_law_actual", "_law_expected"] (defScope s__law_equal) := ⟨rfl, rfl, rfl, by decide +kernel, rfl, by decide +kernel, by decide +kernel⟩
abbrev s_number_of : Stmt := topS 14
theorem sc_number_of : FnScope ["part", "length", "times", "word"] ["part", "length", "times"] (defScope s_number_of) := ⟨rfl, rfl, rfl, by decide +kernel, rfl, by decide +kernel, by decide +kernel⟩
abbrev s_holds_for : Stmt := topS 15
theorem sc_holds_for : FnScope ["condition", "length", "times", "word", "numbers", "part"] ["condition", "length", "times"] (defScope s_holds_for) := ⟨rfl, rfl, rfl, by decide +kernel, rfl, by decide +kernel, by decide +kernel⟩
abbrev s_first_of : Stmt := topS 16
theorem sc_first_of : FnScope ["outcome", "length", "times", "now", "waits", "part"] ["outcome", "length", "times"] (defScope s_first_of) := ⟨rfl, rfl, rfl, by decide +kernel, rfl, by decide +kernel, by decide +kernel⟩
abbrev s_reckoned : Stmt := topS 17
theorem sc_reckoned : FnScope ["outcome", "length", "times", "part"] ["outcome", "length", "times"] (defScope s_reckoned) := ⟨rfl, rfl, rfl, by decide +kernel, rfl, by decide +kernel, by decide +kernel⟩
abbrev s_Day_length : Stmt := inClass (topS 22) 1
theorem sc_Day_length : FnScope ["self"] ["self"] (defScope s_Day_length) := ⟨rfl, rfl, rfl, by decide +kernel, rfl, by decide +kernel, by decide +kernel⟩
abbrev s_Day_init : Stmt := inClass (topS 22) 0
theorem sc_Day_init : FnScope ["self", "length"] ["self", "length"] (defScope s_Day_init) := ⟨rfl, rfl, rfl, by decide +kernel, rfl, by decide +kernel, by decide +kernel⟩
abbrev s_check_given : Stmt := topS 18
theorem sc_check_given : FnScope ["program", "length", "times", "name"] ["program", "length", "times"] (defScope s_check_given) := ⟨rfl, rfl, rfl, by decide +kernel, rfl, by decide +kernel, by decide +kernel⟩
abbrev s_run : Stmt := topS 19
theorem sc_run : FnScope ["program", "day", "times", "index", "rule"] ["program", "day", "times"] (defScope s_run) := ⟨rfl, rfl, rfl, by decide +kernel, rfl, by decide +kernel, by decide +kernel⟩
abbrev s__law_number : Stmt := topS 62
theorem sc__law_number : FnScope ["_law_part", "_law_size", "_law_times", "_law_word", "_law_number_here"] ["_law_part", "_law_size", "_law_times"] (defScope s__law_number) := ⟨rfl, rfl, rfl, by decide +kernel, rfl, by decide +kernel, by decide +kernel⟩
abbrev s__law_true : Stmt := topS 64
theorem sc__law_true : FnScope ["_law_condition_here", "_law_size", "_law_times", "_law_word", "_law_numbers", "_law_one", "_law_part"] ["_law_condition_here", "_law_size", "_law_times"] (defScope s__law_true) := ⟨rfl, rfl, rfl, by decide +kernel, rfl, by decide +kernel, by decide +kernel⟩
abbrev s__law_later : Stmt := topS 63
theorem sc__law_later : FnScope ["_law_start", "_law_end", "_law_size", "_law_number_here"] ["_law_start", "_law_end", "_law_size"] (defScope s__law_later) := ⟨rfl, rfl, rfl, by decide +kernel, rfl, by decide +kernel, by decide +kernel⟩
abbrev s__law_what : Stmt := topS 65
theorem sc__law_what : FnScope ["_law_outcome_here", "_law_size", "_law_times", "_law_now", "_law_waits", "_law_best", "_law_k", "_law_part"] ["_law_outcome_here", "_law_size", "_law_times"] (defScope s__law_what) := ⟨rfl, rfl, rfl, by decide +kernel, rfl, by decide +kernel, by decide +kernel⟩
abbrev s__law_run : Stmt := topS 66
theorem sc__law_run : FnScope ["_law_rules_here", "_law_last", "_law_size", "_law_times", "_law_k", "_law_kind", "_law_what_here"] ["_law_rules_here", "_law_last", "_law_size", "_law_times"] (defScope s__law_run) := ⟨rfl, rfl, rfl, by decide +kernel, rfl, by decide +kernel, by decide +kernel⟩
abbrev s__law_refused : Stmt := topS 68
theorem sc__law_refused : FnScope ["_law_program", "_law_day", "_law_times", "_law_found"] ["_law_program", "_law_day", "_law_times"] (defScope s__law_refused) := ⟨rfl, rfl, rfl, by decide +kernel, rfl, by decide +kernel, by decide +kernel⟩
abbrev s__law_drawn : Stmt := topS 67
theorem sc__law_drawn : FnScope ["_law_d", "_law_names_here", "_law_size", "_law_times", "_law_base", "_law_name"] ["_law_d", "_law_names_here", "_law_size"] (defScope s__law_drawn) := ⟨rfl, rfl, rfl, by decide +kernel, rfl, by decide +kernel, by decide +kernel⟩
abbrev s_law : Stmt := topS 69
theorem sc_law : FnScope ["_law_script", "_law_d", "_law_size", "_law_names_here", "_law_rules_here", "_law_last", "_law_program", "_law_turn", "_law_times", "_law_kept", "_law_due", "_law_name"] ["_law_script"] (defScope s_law) := ⟨rfl, rfl, rfl, by decide +kernel, rfl, by decide +kernel, by decide +kernel⟩
structure Txt (K : PySem.W.Frag) (mg : Str → Option Value) : Prop where
  n_int : mg "int" = none
  n_len : mg "len" = none
  n_abs : mg "abs" = none
  oe_InvalidProgram : LA.OeK K "InvalidProgram"
  g_InvalidProgram : mg "InvalidProgram" = some (.ref (He.ga K "InvalidProgram"))
  a_InvalidProgram_rule : NoAttr K (He.ga K "InvalidProgram") "rule"
  a_InvalidProgram_reason : NoAttr K (He.ga K "InvalidProgram") "reason"
  d_InvalidProgram_init : HX.DefAt K "__init__" "InvalidProgram.__init__" s_InvalidProgram_init (He.ma K (He.ga K "InvalidProgram") "__init__")
  n_list : mg "list" = none
  n_tuple : mg "tuple" = none
  n_range : mg "range" = none
  k_OF_POINTS : LA.StrTup K mg "OF_POINTS" ["minus", "before", "same", "between", "within"]
  k_POINTS : LA.StrTup K mg "POINTS" ["time", "at", "midnight"]
  k_SPANS : LA.StrTup K mg "SPANS" ["minus", "for"]
  n_sorted : mg "sorted" = none
  n_isinstance : mg "isinstance" = none
  n_bool : mg "bool" = none
  k_LETTERS : ∃ t, mg "LETTERS" = some (.str "abcdefghijklmnopqrstuvwxyz" t)
  k_LONGEST : ∃ t, mg "LONGEST" = some (.int 8 t)
  n_str : mg "str" = none
  n_all : mg "all" = none
  k_NUMBERED : LA.StrTup K mg "NUMBERED" ["at", "for", "plus"]
  n_max : mg "max" = none
  k_MOST_DEPTH : ∃ t, mg "MOST_DEPTH" = some (.int 7 t)
  k_MOST_TUPLES : ∃ t, mg "MOST_TUPLES" = some (.int 40 t)
  c_Program : Cls K (He.ga K "Program")
  a_Program_last : NoAttr K (He.ga K "Program") "last"
  a_Program_rules : NoAttr K (He.ga K "Program") "rules"
  a_Program_times : NoAttr K (He.ga K "Program") "times"
  n_enumerate : mg "enumerate" = none
  k_MOST_RULES : ∃ t, mg "MOST_RULES" = some (.int 12 t)
  mk_Program : Mk K (He.ga K "Program") (He.ma K (He.ga K "Program") "__init__")
  g_Program : mg "Program" = some (.ref (He.ga K "Program"))
  n_set : mg "set" = none
  k_MOST_TIMES : ∃ t, mg "MOST_TIMES" = some (.int 4 t)
  n_dict : mg "dict" = none
  n_min : mg "min" = none
  n_sum : mg "sum" = none
  c_Day : Cls K (He.ga K "Day")
  a_Day_ticks_of_day : NoAttr K (He.ga K "Day") "ticks_of_day"
  x_InvalidLength : HX.ExK K mg "InvalidLength"
  mk_Day : Mk K (He.ga K "Day") (He.ma K (He.ga K "Day") "__init__")
  g_Day : mg "Day" = some (.ref (He.ga K "Day"))
  x_InvalidTimes : HX.ExK K mg "InvalidTimes"
  n_any : mg "any" = none
  em_OtherDay_InvalidTimes : PySem.W.exmOne K (.ref (He.ga K "OtherDay")) (.ref (He.ga K "InvalidTimes")) = some false
  em_InvalidTimes_InvalidTimes : PySem.W.exmOne K (.ref (He.ga K "InvalidTimes")) (.ref (He.ga K "InvalidTimes")) = some true
  em_InvalidProgram_InvalidTimes : PySem.W.exmOne K (.ref (He.ga K "InvalidProgram")) (.ref (He.ga K "InvalidTimes")) = some false
  em_InvalidNumber_InvalidTimes : PySem.W.exmOne K (.ref (He.ga K "InvalidNumber")) (.ref (He.ga K "InvalidTimes")) = some false
  em_InvalidLength_InvalidTimes : PySem.W.exmOne K (.ref (He.ga K "InvalidLength")) (.ref (He.ga K "InvalidTimes")) = some false
  g_InvalidTimes : mg "InvalidTimes" = some (.ref (He.ga K "InvalidTimes"))
  d__law_below : HX.DefAt K "_law_below" "_law_below" s__law_below (He.ga K "_law_below")
  g__law_below : mg "_law_below" = some (.ref (He.ga K "_law_below"))
  d__law_random : HX.DefAt K "_law_random" "_law_random" s__law_random (He.ga K "_law_random")
  g__law_random : mg "_law_random" = some (.ref (He.ga K "_law_random"))
  d__law_pick : HX.DefAt K "_law_pick" "_law_pick" s__law_pick (He.ga K "_law_pick")
  g__law_pick : mg "_law_pick" = some (.ref (He.ga K "_law_pick"))
  d__law_length : HX.DefAt K "_law_length" "_law_length" s__law_length (He.ga K "_law_length")
  g__law_length : mg "_law_length" = some (.ref (He.ga K "_law_length"))
  d__law_amount : HX.DefAt K "_law_amount" "_law_amount" s__law_amount (He.ga K "_law_amount")
  g__law_amount : mg "_law_amount" = some (.ref (He.ga K "_law_amount"))
  d__law_time : HX.DefAt K "_law_time" "_law_time" s__law_time (He.ga K "_law_time")
  g__law_time : mg "_law_time" = some (.ref (He.ga K "_law_time"))
  d__law_point : HX.DefAt K "_law_point" "_law_point" s__law_point (He.ga K "_law_point")
  g__law_point : mg "_law_point" = some (.ref (He.ga K "_law_point"))
  d__law_names : HX.DefAt K "_law_names" "_law_names" s__law_names (He.ga K "_law_names")
  g__law_names : mg "_law_names" = some (.ref (He.ga K "_law_names"))
  d__law_dressed : HX.DefAt K "_law_dressed" "_law_dressed" s__law_dressed (He.ga K "_law_dressed")
  g__law_dressed : mg "_law_dressed" = some (.ref (He.ga K "_law_dressed"))
  d__law_span : HX.DefAt K "_law_span" "_law_span" s__law_span (He.ga K "_law_span")
  g__law_span : mg "_law_span" = some (.ref (He.ga K "_law_span"))
  d__law_condition : HX.DefAt K "_law_condition" "_law_condition" s__law_condition (He.ga K "_law_condition")
  g__law_condition : mg "_law_condition" = some (.ref (He.ga K "_law_condition"))
  d__law_shorter : HX.DefAt K "_law_shorter" "_law_shorter" s__law_shorter (He.ga K "_law_shorter")
  g__law_shorter : mg "_law_shorter" = some (.ref (He.ga K "_law_shorter"))
  d__law_outcome : HX.DefAt K "_law_outcome" "_law_outcome" s__law_outcome (He.ga K "_law_outcome")
  g__law_outcome : mg "_law_outcome" = some (.ref (He.ga K "_law_outcome"))
  d__law_rule : HX.DefAt K "_law_rule" "_law_rule" s__law_rule (He.ga K "_law_rule")
  g__law_rule : mg "_law_rule" = some (.ref (He.ga K "_law_rule"))
  d__law_rules : HX.DefAt K "_law_rules" "_law_rules" s__law_rules (He.ga K "_law_rules")
  g__law_rules : mg "_law_rules" = some (.ref (He.ga K "_law_rules"))
  d_all_parts : HX.DefAt K "all_parts" "all_parts" s_all_parts (He.ga K "all_parts")
  g_all_parts : mg "all_parts" = some (.ref (He.ga K "all_parts"))
  d_inner_of : HX.DefAt K "inner_of" "inner_of" s_inner_of (He.ga K "inner_of")
  g_inner_of : mg "inner_of" = some (.ref (He.ga K "inner_of"))
  d_is_point : HX.DefAt K "is_point" "is_point" s_is_point (He.ga K "is_point")
  g_is_point : mg "is_point" = some (.ref (He.ga K "is_point"))
  d_is_span : HX.DefAt K "is_span" "is_span" s_is_span (He.ga K "is_span")
  g_is_span : mg "is_span" = some (.ref (He.ga K "is_span"))
  d_reading_of : HX.DefAt K "reading_of" "reading_of" s_reading_of (He.ga K "reading_of")
  g_reading_of : mg "reading_of" = some (.ref (He.ga K "reading_of"))
  d_less : HX.DefAt K "less" "less" s_less (He.ga K "less")
  g_less : mg "less" = some (.ref (He.ga K "less"))
  d_is_simple : HX.DefAt K "is_simple" "is_simple" s_is_simple (He.ga K "is_simple")
  g_is_simple : mg "is_simple" = some (.ref (He.ga K "is_simple"))
  d_is_integer : HX.DefAt K "is_integer" "is_integer" s_is_integer (He.ga K "is_integer")
  g_is_integer : mg "is_integer" = some (.ref (He.ga K "is_integer"))
  d_is_name : HX.DefAt K "is_name" "is_name" s_is_name (He.ga K "is_name")
  g_is_name : mg "is_name" = some (.ref (He.ga K "is_name"))
  d_is_bad_kind : HX.DefAt K "is_bad_kind" "is_bad_kind" s_is_bad_kind (He.ga K "is_bad_kind")
  g_is_bad_kind : mg "is_bad_kind" = some (.ref (He.ga K "is_bad_kind"))
  d_fault_of : HX.DefAt K "fault_of" "fault_of" s_fault_of (He.ga K "fault_of")
  g_fault_of : mg "fault_of" = some (.ref (He.ga K "fault_of"))
  d_check_parts : HX.DefAt K "check_parts" "check_parts" s_check_parts (He.ga K "check_parts")
  g_check_parts : mg "check_parts" = some (.ref (He.ga K "check_parts"))
  d_Program_init : HX.DefAt K "__init__" "Program.__init__" s_Program_init (He.ma K (He.ga K "Program") "__init__")
  d_check_times : HX.DefAt K "check_times" "check_times" s_check_times (He.ga K "check_times")
  g_check_times : mg "check_times" = some (.ref (He.ga K "check_times"))
  d__law_equal : HX.DefAt K "_law_equal" "_law_equal" s__law_equal (He.ga K "_law_equal")
  g__law_equal : mg "_law_equal" = some (.ref (He.ga K "_law_equal"))
  d_number_of : HX.DefAt K "number_of" "number_of" s_number_of (He.ga K "number_of")
  g_number_of : mg "number_of" = some (.ref (He.ga K "number_of"))
  d_holds_for : HX.DefAt K "holds_for" "holds_for" s_holds_for (He.ga K "holds_for")
  g_holds_for : mg "holds_for" = some (.ref (He.ga K "holds_for"))
  d_first_of : HX.DefAt K "first_of" "first_of" s_first_of (He.ga K "first_of")
  g_first_of : mg "first_of" = some (.ref (He.ga K "first_of"))
  d_reckoned : HX.DefAt K "reckoned" "reckoned" s_reckoned (He.ga K "reckoned")
  g_reckoned : mg "reckoned" = some (.ref (He.ga K "reckoned"))
  po_Day_length : PropOf K (He.ga K "Day") "length" (He.ma K (He.ga K "Day") "length") (HX.pg K (He.ga K "Day") "length")
  d_Day_length : HX.DefAt K "length" "Day.length" s_Day_length (HX.pg K (He.ga K "Day") "length")
  d_Day_init : HX.DefAt K "__init__" "Day.__init__" s_Day_init (He.ma K (He.ga K "Day") "__init__")
  d_check_given : HX.DefAt K "check_given" "check_given" s_check_given (He.ga K "check_given")
  g_check_given : mg "check_given" = some (.ref (He.ga K "check_given"))
  d_run : HX.DefAt K "run" "run" s_run (He.ga K "run")
  g_run : mg "run" = some (.ref (He.ga K "run"))
  d__law_number : HX.DefAt K "_law_number" "_law_number" s__law_number (He.ga K "_law_number")
  g__law_number : mg "_law_number" = some (.ref (He.ga K "_law_number"))
  d__law_true : HX.DefAt K "_law_true" "_law_true" s__law_true (He.ga K "_law_true")
  g__law_true : mg "_law_true" = some (.ref (He.ga K "_law_true"))
  d__law_later : HX.DefAt K "_law_later" "_law_later" s__law_later (He.ga K "_law_later")
  g__law_later : mg "_law_later" = some (.ref (He.ga K "_law_later"))
  d__law_what : HX.DefAt K "_law_what" "_law_what" s__law_what (He.ga K "_law_what")
  g__law_what : mg "_law_what" = some (.ref (He.ga K "_law_what"))
  d__law_run : HX.DefAt K "_law_run" "_law_run" s__law_run (He.ga K "_law_run")
  g__law_run : mg "_law_run" = some (.ref (He.ga K "_law_run"))
  d__law_refused : HX.DefAt K "_law_refused" "_law_refused" s__law_refused (He.ga K "_law_refused")
  g__law_refused : mg "_law_refused" = some (.ref (He.ga K "_law_refused"))
  d__law_drawn : HX.DefAt K "_law_drawn" "_law_drawn" s__law_drawn (He.ga K "_law_drawn")
  g__law_drawn : mg "_law_drawn" = some (.ref (He.ga K "_law_drawn"))
  d_law : HX.DefAt K "law" "law" s_law (He.ga K "law")
  g_law : mg "law" = some (.ref (He.ga K "law"))
end LW
namespace LW
open PySem PySem.Spec PyProof.Rows L2
def hfa0 : List (PySem.W.Frag → Bool) := [fun K => (He.Fa.free "int").ok K,
  fun K => (He.Fa.free "len").ok K,
  fun K => (He.Fa.free "abs").ok K,
  fun K => LA.oeB K "InvalidProgram",
  fun K => (He.Fa.glo "InvalidProgram").ok K,
  fun K => (He.Fa.noat "InvalidProgram" "rule").ok K,
  fun K => (He.Fa.noat "InvalidProgram" "reason").ok K,
  fun K => (He.Fa.free "list").ok K,
  fun K => (He.Fa.free "tuple").ok K,
  fun K => (He.Fa.free "range").ok K,
  fun K => LA.strTupB K "OF_POINTS" ["minus", "before", "same", "between", "within"],
  fun K => LA.strTupB K "POINTS" ["time", "at", "midnight"],
  fun K => LA.strTupB K "SPANS" ["minus", "for"],
  fun K => (He.Fa.free "sorted").ok K,
  fun K => (He.Fa.free "isinstance").ok K,
  fun K => (He.Fa.free "bool").ok K,
  fun K => (He.Fa.str "LETTERS" "abcdefghijklmnopqrstuvwxyz").ok K,
  fun K => (He.Fa.int "LONGEST" 8).ok K,
  fun K => (He.Fa.free "str").ok K,
  fun K => (He.Fa.free "all").ok K,
  fun K => LA.strTupB K "NUMBERED" ["at", "for", "plus"],
  fun K => (He.Fa.free "max").ok K,
  fun K => (He.Fa.int "MOST_DEPTH" 7).ok K,
  fun K => (He.Fa.int "MOST_TUPLES" 40).ok K,
  fun K => (He.Fa.cls "Program").ok K,
  fun K => (He.Fa.noat "Program" "last").ok K,
  fun K => (He.Fa.noat "Program" "rules").ok K,
  fun K => (He.Fa.noat "Program" "times").ok K,
  fun K => (He.Fa.free "enumerate").ok K,
  fun K => (He.Fa.int "MOST_RULES" 12).ok K]
def hfa1 : List (PySem.W.Frag → Bool) := [fun K => (He.Fa.mkr "Program").ok K,
  fun K => (He.Fa.glo "Program").ok K,
  fun K => (He.Fa.free "set").ok K,
  fun K => (He.Fa.int "MOST_TIMES" 4).ok K,
  fun K => (He.Fa.free "dict").ok K,
  fun K => (He.Fa.free "min").ok K,
  fun K => (He.Fa.free "sum").ok K,
  fun K => (He.Fa.cls "Day").ok K,
  fun K => (He.Fa.noat "Day" "ticks_of_day").ok K,
  fun K => ((He.Fa.glo "InvalidLength").ok K && (He.Fa.exc "InvalidLength").ok K),
  fun K => (He.Fa.mkr "Day").ok K,
  fun K => (He.Fa.glo "Day").ok K,
  fun K => ((He.Fa.glo "InvalidTimes").ok K && (He.Fa.exc "InvalidTimes").ok K),
  fun K => (He.Fa.free "any").ok K,
  fun K => decide (PySem.W.exmOne K (.ref (He.ga K "OtherDay")) (.ref (He.ga K "InvalidTimes")) = some false),
  fun K => decide (PySem.W.exmOne K (.ref (He.ga K "InvalidTimes")) (.ref (He.ga K "InvalidTimes")) = some true),
  fun K => decide (PySem.W.exmOne K (.ref (He.ga K "InvalidProgram")) (.ref (He.ga K "InvalidTimes")) = some false),
  fun K => decide (PySem.W.exmOne K (.ref (He.ga K "InvalidNumber")) (.ref (He.ga K "InvalidTimes")) = some false),
  fun K => decide (PySem.W.exmOne K (.ref (He.ga K "InvalidLength")) (.ref (He.ga K "InvalidTimes")) = some false),
  fun K => (He.Fa.glo "InvalidTimes").ok K,
  fun K => (He.Fa.glo "_law_below").ok K,
  fun K => (He.Fa.glo "_law_random").ok K,
  fun K => (He.Fa.glo "_law_pick").ok K,
  fun K => (He.Fa.glo "_law_length").ok K,
  fun K => (He.Fa.glo "_law_amount").ok K,
  fun K => (He.Fa.glo "_law_time").ok K,
  fun K => (He.Fa.glo "_law_point").ok K,
  fun K => (He.Fa.glo "_law_names").ok K,
  fun K => (He.Fa.glo "_law_dressed").ok K,
  fun K => (He.Fa.glo "_law_span").ok K]
def hfa2 : List (PySem.W.Frag → Bool) := [fun K => (He.Fa.glo "_law_condition").ok K,
  fun K => (He.Fa.glo "_law_shorter").ok K,
  fun K => (He.Fa.glo "_law_outcome").ok K,
  fun K => (He.Fa.glo "_law_rule").ok K,
  fun K => (He.Fa.glo "_law_rules").ok K,
  fun K => (He.Fa.glo "all_parts").ok K,
  fun K => (He.Fa.glo "inner_of").ok K,
  fun K => (He.Fa.glo "is_point").ok K,
  fun K => (He.Fa.glo "is_span").ok K,
  fun K => (He.Fa.glo "reading_of").ok K,
  fun K => (He.Fa.glo "less").ok K,
  fun K => (He.Fa.glo "is_simple").ok K,
  fun K => (He.Fa.glo "is_integer").ok K,
  fun K => (He.Fa.glo "is_name").ok K,
  fun K => (He.Fa.glo "is_bad_kind").ok K,
  fun K => (He.Fa.glo "fault_of").ok K,
  fun K => (He.Fa.glo "check_parts").ok K,
  fun K => (He.Fa.glo "check_times").ok K,
  fun K => (He.Fa.glo "_law_equal").ok K,
  fun K => (He.Fa.glo "number_of").ok K,
  fun K => (He.Fa.glo "holds_for").ok K,
  fun K => (He.Fa.glo "first_of").ok K,
  fun K => (He.Fa.glo "reckoned").ok K,
  fun K => HX.propB K "Day" "length",
  fun K => (He.Fa.glo "check_given").ok K,
  fun K => (He.Fa.glo "run").ok K,
  fun K => (He.Fa.glo "_law_number").ok K,
  fun K => (He.Fa.glo "_law_true").ok K,
  fun K => (He.Fa.glo "_law_later").ok K,
  fun K => (He.Fa.glo "_law_what").ok K]
def hfa3 : List (PySem.W.Frag → Bool) := [fun K => (He.Fa.glo "_law_run").ok K,
  fun K => (He.Fa.glo "_law_refused").ok K,
  fun K => (He.Fa.glo "_law_drawn").ok K,
  fun K => (He.Fa.glo "law").ok K]
def hfa : List (PySem.W.Frag → Bool) := hfa0 ++ hfa1 ++ hfa2 ++ hfa3
def hfn0 : List HX.DefX := [⟨fun K => He.ma K (He.ga K "InvalidProgram") "__init__", "__init__", "InvalidProgram.__init__", s_InvalidProgram_init⟩,
  ⟨fun K => He.ga K "_law_below", "_law_below", "_law_below", s__law_below⟩,
  ⟨fun K => He.ga K "_law_random", "_law_random", "_law_random", s__law_random⟩,
  ⟨fun K => He.ga K "_law_pick", "_law_pick", "_law_pick", s__law_pick⟩,
  ⟨fun K => He.ga K "_law_length", "_law_length", "_law_length", s__law_length⟩,
  ⟨fun K => He.ga K "_law_amount", "_law_amount", "_law_amount", s__law_amount⟩,
  ⟨fun K => He.ga K "_law_time", "_law_time", "_law_time", s__law_time⟩,
  ⟨fun K => He.ga K "_law_point", "_law_point", "_law_point", s__law_point⟩,
  ⟨fun K => He.ga K "_law_names", "_law_names", "_law_names", s__law_names⟩,
  ⟨fun K => He.ga K "_law_dressed", "_law_dressed", "_law_dressed", s__law_dressed⟩,
  ⟨fun K => He.ga K "_law_span", "_law_span", "_law_span", s__law_span⟩,
  ⟨fun K => He.ga K "_law_condition", "_law_condition", "_law_condition", s__law_condition⟩,
  ⟨fun K => He.ga K "_law_shorter", "_law_shorter", "_law_shorter", s__law_shorter⟩,
  ⟨fun K => He.ga K "_law_outcome", "_law_outcome", "_law_outcome", s__law_outcome⟩,
  ⟨fun K => He.ga K "_law_rule", "_law_rule", "_law_rule", s__law_rule⟩,
  ⟨fun K => He.ga K "_law_rules", "_law_rules", "_law_rules", s__law_rules⟩,
  ⟨fun K => He.ga K "all_parts", "all_parts", "all_parts", s_all_parts⟩,
  ⟨fun K => He.ga K "inner_of", "inner_of", "inner_of", s_inner_of⟩,
  ⟨fun K => He.ga K "is_point", "is_point", "is_point", s_is_point⟩,
  ⟨fun K => He.ga K "is_span", "is_span", "is_span", s_is_span⟩,
  ⟨fun K => He.ga K "reading_of", "reading_of", "reading_of", s_reading_of⟩,
  ⟨fun K => He.ga K "less", "less", "less", s_less⟩,
  ⟨fun K => He.ga K "is_simple", "is_simple", "is_simple", s_is_simple⟩,
  ⟨fun K => He.ga K "is_integer", "is_integer", "is_integer", s_is_integer⟩,
  ⟨fun K => He.ga K "is_name", "is_name", "is_name", s_is_name⟩,
  ⟨fun K => He.ga K "is_bad_kind", "is_bad_kind", "is_bad_kind", s_is_bad_kind⟩,
  ⟨fun K => He.ga K "fault_of", "fault_of", "fault_of", s_fault_of⟩,
  ⟨fun K => He.ga K "check_parts", "check_parts", "check_parts", s_check_parts⟩,
  ⟨fun K => He.ma K (He.ga K "Program") "__init__", "__init__", "Program.__init__", s_Program_init⟩,
  ⟨fun K => He.ga K "check_times", "check_times", "check_times", s_check_times⟩]
def hfn1 : List HX.DefX := [⟨fun K => He.ga K "_law_equal", "_law_equal", "_law_equal", s__law_equal⟩,
  ⟨fun K => He.ga K "number_of", "number_of", "number_of", s_number_of⟩,
  ⟨fun K => He.ga K "holds_for", "holds_for", "holds_for", s_holds_for⟩,
  ⟨fun K => He.ga K "first_of", "first_of", "first_of", s_first_of⟩,
  ⟨fun K => He.ga K "reckoned", "reckoned", "reckoned", s_reckoned⟩,
  ⟨fun K => HX.pg K (He.ga K "Day") "length", "length", "Day.length", s_Day_length⟩,
  ⟨fun K => He.ma K (He.ga K "Day") "__init__", "__init__", "Day.__init__", s_Day_init⟩,
  ⟨fun K => He.ga K "check_given", "check_given", "check_given", s_check_given⟩,
  ⟨fun K => He.ga K "run", "run", "run", s_run⟩,
  ⟨fun K => He.ga K "_law_number", "_law_number", "_law_number", s__law_number⟩,
  ⟨fun K => He.ga K "_law_true", "_law_true", "_law_true", s__law_true⟩,
  ⟨fun K => He.ga K "_law_later", "_law_later", "_law_later", s__law_later⟩,
  ⟨fun K => He.ga K "_law_what", "_law_what", "_law_what", s__law_what⟩,
  ⟨fun K => He.ga K "_law_run", "_law_run", "_law_run", s__law_run⟩,
  ⟨fun K => He.ga K "_law_refused", "_law_refused", "_law_refused", s__law_refused⟩,
  ⟨fun K => He.ga K "_law_drawn", "_law_drawn", "_law_drawn", s__law_drawn⟩,
  ⟨fun K => He.ga K "law", "law", "law", s_law⟩]
def hfn : List HX.DefX := hfn0 ++ hfn1
def hnm0 : List Str := ["_wall",
  "ClockError",
  "InvalidLength",
  "InvalidNumber",
  "OtherDay",
  "InvalidProgram",
  "InvalidTimes",
  "LETTERS",
  "LONGEST",
  "is_integer",
  "is_name",
  "number_of",
  "holds_for",
  "first_of",
  "reckoned",
  "check_given",
  "run",
  "need_integer",
  "Day",
  "Clock",
  "MOST_TIMES",
  "MOST_RULES",
  "MOST_TUPLES",
  "MOST_DEPTH",
  "POINTS",
  "SPANS",
  "NUMBERED",
  "OF_POINTS",
  "inner_of",
  "all_parts"]
def hnm1 : List Str := ["is_point",
  "is_span",
  "reading_of",
  "less",
  "is_simple",
  "is_bad_kind",
  "fault_of",
  "check_parts",
  "check_times",
  "Program",
  "_law_random",
  "_law_below",
  "_law_pick",
  "_law_equal",
  "_law_length",
  "_law_amount",
  "_law_time",
  "_law_names",
  "_law_point",
  "_law_dressed",
  "_law_span",
  "_law_shorter",
  "_law_condition",
  "_law_outcome",
  "_law_rule",
  "_law_rules",
  "_law_number",
  "_law_later",
  "_law_true",
  "_law_what"]
def hnm2 : List Str := ["_law_run",
  "_law_drawn",
  "_law_refused"]
def hnm : List Str := hnm0 ++ hnm1 ++ hnm2
abbrev Rw : PySem.W.OpenRow := PySem.W.OpenLaw.row PySem.Challenge.rw_overmidnight_k08_whole_runs
abbrev hk : PySem.W.Hook := HX.hookX 7 hfa hfn
def ob (s : PySem.W.SharedT) : HX.AlX := HX.obsXG 7 hfa hfn (HandSHeadRun.getT s)
theorem ob_eq (s : PySem.W.SharedT) : ob s = hk.obs s.abs := HX.obsXG_eq (HandSHeadRun.getT_eq s)
theorem hrun (w : World) : HandSHeadRun.RunEq Rw (PySem.W.view Rw.prog [69]) hk ob 6000 hnm w := by
  intro os
  kernel_rfl
end LW
local macro_rules | `(tactic| walk_at "s") => `(tactic| first
  | ((with_reducible refine' HX.z_var ?zh ?_); (case zh => exact rfl))
  | with_reducible refine HX.z_c ?_
  | with_reducible refine HX.z_cons ?_
  | with_reducible refine HX.z_nil ?_
  | with_reducible refine HX.z_op ?_
  | with_reducible refine HX.z_I0 ?_
  | with_reducible refine HX.z_test ?_
  | with_reducible refine HX.z_tB ?_
  | with_reducible refine HX.z_bl ?_
  | with_reducible refine HX.z_seq ?_
  | with_reducible refine HX.z_asg ?_
  | with_reducible refine HX.z_name ?_
  | with_reducible refine HX.z_if ?_
  | with_reducible refine HX.z_ret ?_
  | with_reducible refine HX.z_next ?_
  | with_reducible refine HX.z_drop ?_
  | with_reducible refine HX.z_retN ?_
  | with_reducible refine HX.z_callS ?_
  | with_reducible refine HX.z_fld ?_
  | with_reducible refine HX.z_sfld ?_
  | ((with_reducible refine' HX.z_fld2 ?zh ?zc ?zn ?zl ?_); (case zh => walk_at "hp"); (case zc => assumption); (case zn => assumption); (case zl => walk_at "lk"))
  | ((with_reducible refine' HX.z_sfld2 ?zh ?zc ?zn ?zz ?ze ?_); (case zh => walk_at "hp"); (case zc => assumption); (case zn => assumption); (case zz => walk_at "lt"); (case ze => walk_at "pf"))
  | with_reducible refine HX.z_chain ?_
  | with_reducible refine HX.z_ch2 ?_
  | with_reducible refine HX.z_meth ?_
  | ((with_reducible refine' HX.z_meth2 ?zh ?zl ?_); (case zh => walk_at "hp"); (case zl => walk_at "lk"))
  | with_reducible refine HX.z_prop ?_
  | ((with_reducible refine' HX.z_prop2 ?zh ?_); (case zh => walk_at "hp"))
  | with_reducible refine HX.z_make ?_
  | with_reducible refine HX.z_inst ?_
  | with_reducible refine HX.z_inst2 ?_
  | ((with_reducible refine' HX.z_inst3 ?zh ?_); (case zh => walk_at "hp"))
  | with_reducible refine HX.z_cb ?_
  | with_reducible refine HX.z_un ?_
  | with_reducible refine HX.z_U ?_
  | with_reducible refine HX.z_and ?_
  | with_reducible refine HX.z_or ?_
  | with_reducible refine HX.z_not ?_
  | with_reducible refine HX.z_andV ?_
  | with_reducible refine HX.z_orV ?_
  | with_reducible refine HX.z_notV ?_
  | with_reducible refine HX.z_ifE ?_
  | with_reducible refine HX.z_sub ?_
  | with_reducible refine HX.z_lst ?_
  | with_reducible refine HX.z_tup ?_
  | with_reducible refine HX.z_bm ?_
  | with_reducible refine HX.z_bm0 ?_
  | with_reducible refine HX.z_intI ?_
  | with_reducible refine HX.z_intB ?_
  | with_reducible refine HX.z_abs ?_
  | ((with_reducible refine' HX.z_new ?zl ?_); (case zl => walk_at "lt"))
  | with_reducible refine HX.z_t ?_
  | with_reducible refine HX.z_yes ?_
  | with_reducible refine HX.z_f ?_
  | with_reducible refine HX.z_isN ?_
  | with_reducible refine HX.z_isNN ?_
  | ((with_reducible refine' HX.z_isi ?zc ?zt ?zk ?_); (case zc => constructor); (case zt => walk_at "ty"); (case zk => walk_at "kit"))
  | with_reducible refine HX.z_n1 ?_
  | with_reducible refine HX.z_n0 ?_
  | with_reducible refine HX.z_nb ?_
  | with_reducible refine HX.z_di ?_
  | ((with_reducible refine' HX.z_dt ?zc ?_); (case zc => rfl))
  | ((with_reducible refine' HX.z_df ?zc ?_); (case zc => (intro e; cases e; done)))
  | ((with_reducible refine' HX.z_eq ?zc ?_); (case zc => exact rfl))
  | ((with_reducible refine' HX.z_ne ?zc ?_); (case zc => exact rfl))
  | ((with_reducible refine' HX.z_I ?zc ?_); (case zc => walk_at "sc"))
  | ((with_reducible refine' HX.z_ixL ?zh ?za ?_); (case zh => walk_at "hl"); (case za => walk_at "ix"))
  | ((with_reducible refine' HX.z_ixT ?zh ?za ?_); (case zh => walk_at "ht"); (case za => walk_at "ix"))
  | ((with_reducible refine' HX.z_cat ?zh ?zi ?zl ?_); (case zh => walk_at "hp"); (case zi => walk_at "hp"); (case zl => walk_at "lt"))
  | ((with_reducible refine' HX.z_listL ?zh ?_); (case zh => walk_at "hl"))
  | ((with_reducible refine' HX.z_listT ?zh ?_); (case zh => walk_at "ht"))
  | ((with_reducible refine' HX.z_tupL ?zh ?_); (case zh => walk_at "hl"))
  | ((with_reducible refine' HX.z_ixA ?zh ?za ?_); (case zh => first | assumption | (refine' Or.inl ?zz; (case zz => walk_at "hl")) | (refine' Or.inr ?zz; (case zz => walk_at "ht"))); (case za => walk_at "ix"))
  | ((with_reducible refine' HX.z_lenL ?zh ?_); (case zh => walk_at "hl"))
  | ((with_reducible refine' HX.z_lenT ?zh ?_); (case zh => walk_at "ht"))
  | ((with_reducible refine' HX.z_tyL ?zh ?_); (case zh => walk_at "hp"))
  | ((with_reducible refine' HX.z_popAt ?zh ?z1 ?z2 ?za ?zb ?_); (case zh => walk_at "hp"); (case z1 => decide); (case z2 => decide); (case za => walk_at "ix"); (case zb => exact rfl))
  | with_reducible refine HX.z_binO ?_
  | ((with_reducible refine' HX.z_binK ?zh ?zm ?_); (case zh => walk_at "hp"); (case zm => first | exact .int | (refine' .ins ?zz; (case zz => walk_at "hp"))))
  | with_reducible refine HX.z_rbinO ?_
  | ((with_reducible refine' HX.z_rbinK ?zh ?_); (case zh => walk_at "hp"))
  | ((with_reducible refine' HX.z_aug ?zh ?_); (case zh => exact rfl))
  | ((with_reducible refine' HX.z_ipK ?zh ?_); (case zh => walk_at "hp"))
  | with_reducible refine HX.z_inO ?_
  | ((with_reducible refine' HX.z_inK ?zh ?_); (case zh => walk_at "hp"))
  | with_reducible refine HX.z_subO ?_
  | ((with_reducible refine' HX.z_subK ?zh ?_); (case zh => walk_at "hp"))
  | ((with_reducible refine' HX.z_rep ?zh ?z1 ?z2 ?zl ?_); (case zh => walk_at "hp"); (case z1 => decide); (case z2 => decide); (case zl => first | decide | (simp; done)))
  | ((with_reducible refine' HX.z_setL ?zh ?za ?_); (case zh => walk_at "hp"); (case za => walk_at "ix")))
local macro_rules | `(tactic| walk_at "go") => `(tactic| ((try dsimp only [HX.cxR]); walk_at "ss"))
local macro_rules | `(tactic| walk_at "ss") => `(tactic| repeat walk_at "s")
local macro_rules | `(tactic| walk_at "sc") => `(tactic| first
  | decide
  | (refine Or.inl ⟨?_, ?_⟩ <;> first | decide | omega)
  | (refine Or.inr ⟨?_, ?_⟩ <;> first | decide | omega)
  | (refine ⟨?_, ?_⟩ <;> first | decide | omega)
  | (show ¬ _ = _; omega)
  | omega)
local macro_rules | `(tactic| walk_at "hp") => `(tactic| first | assumption | exact L2.upd_same | (refine' (L2.upd_ne ?zn).trans ?zz; (case zn => assumption); (case zz => walk_at "hp")))
local macro_rules | `(tactic| walk_at "hl") => `(tactic| first | assumption | (refine' L2.SqL.of ?zq; (case zq => walk_at "hp")))
local macro_rules | `(tactic| walk_at "ht") => `(tactic| first | assumption | (refine' L2.SqT.of ?zq; (case zq => walk_at "hp")))
local macro_rules | `(tactic| walk_at "lt") => `(tactic| first | decide | (simp; done) | (simp; omega) | (simp_all; done) | (simp_all; omega))
local macro_rules | `(tactic| walk_at "ix") => `(tactic| first
  | with_reducible assumption
  | exact HX.atc 0 rfl rfl | exact HX.atc 1 rfl rfl | exact HX.atc 2 rfl rfl | exact HX.atc 3 rfl rfl | exact HX.atc 4 rfl rfl | exact HX.atc 5 rfl rfl
  | (refine' HX.ixc 0 rfl ?zz; (case zz => walk_at "lt")) | (refine' HX.ixc 1 rfl ?zz; (case zz => walk_at "lt")) | (refine' HX.ixc 2 rfl ?zz; (case zz => walk_at "lt")) | (refine' HX.ixc 3 rfl ?zz; (case zz => walk_at "lt"))
  | (refine' HX.sqc 0 rfl ?zz; (case zz => walk_at "lt")) | (refine' HX.sqc 1 rfl ?zz; (case zz => walk_at "lt")) | (refine' HX.sqc 2 rfl ?zz; (case zz => walk_at "lt"))
  | rfl | decide)
local macro_rules | `(tactic| walk_at "lk") => `(tactic| first
  | exact HX.lk0 | rfl
  | (refine' HX.lk1 ?zk ?zq; (case zk => decide +kernel); (case zq => walk_at "lk")))
local macro_rules | `(tactic| walk_at "pf") => `(tactic| first
  | exact HX.pf_nil | exact HX.pf_hit
  | (refine' HX.pf_miss ?zk ?zq; (case zk => decide +kernel); (case zq => walk_at "pf")))
local macro_rules | `(tactic| walk_at "ty") => `(tactic| first
  | with_reducible first | exact .base .non | exact .base (.bl _) | exact .base (.int _) | exact .base (.str _)
  | (refine' HX.ty_L ?zz; (case zz => walk_at "hl")) | (refine' HX.ty_T ?zz; (case zz => walk_at "ht")) | (refine' HX.InK.ty ?zi ?zz; (case zi => assumption); (case zz => walk_at "hp")))
local macro_rules | `(tactic| walk_at "kit") => `(tactic| with_reducible first
  | assumption | exact HX.kb_NoneType_bool | exact HX.kb_NoneType_int | exact HX.kb_NoneType_str | exact HX.kb_NoneType_dict | exact HX.kb_NoneType_tuple | exact HX.kb_NoneType_list | exact HX.kb_bool_bool | exact HX.kb_bool_int | exact HX.kb_bool_str | exact HX.kb_bool_dict | exact HX.kb_bool_tuple | exact HX.kb_bool_list | exact HX.kb_int_bool | exact HX.kb_int_int | exact HX.kb_int_str | exact HX.kb_int_dict | exact HX.kb_int_tuple | exact HX.kb_int_list | exact HX.kb_str_bool | exact HX.kb_str_int | exact HX.kb_str_str | exact HX.kb_str_dict | exact HX.kb_str_tuple | exact HX.kb_str_list | exact HX.kb_list_bool | exact HX.kb_list_int | exact HX.kb_list_str | exact HX.kb_list_dict | exact HX.kb_list_tuple | exact HX.kb_list_list | exact HX.kb_tuple_bool | exact HX.kb_tuple_int | exact HX.kb_tuple_str | exact HX.kb_tuple_dict | exact HX.kb_tuple_tuple | exact HX.kb_tuple_list | exact HX.kb_dict_bool | exact HX.kb_dict_int | exact HX.kb_dict_str | exact HX.kb_dict_dict | exact HX.kb_dict_tuple | exact HX.kb_dict_list)
local macro_rules | `(tactic| walk_at "n") => `(tactic| try simp only [LA.startA, LA.startI, LA.wipeA, List.map_cons, List.map_nil, List.cons_append, List.nil_append, List.length_cons, List.length_nil, List.replicate, List.set_cons_zero, List.set_cons_succ, Nat.reduceAdd, Nat.reduceSub])
local macro_rules | `(tactic| walk_at "a") => `(tactic| ((walk_at "n"); simp (implicitDefEqProofs := false) (dsimp := false) only [↓LA.w_aSeq, ↓LA.w_aNext, ↓LA.w_aBreak, ↓LA.w_aCont, ↓LA.w_aDrop, ↓LA.w_aRet, ↓LA.w_aRetN, ↓LA.w_aIfS, ↓LA.w_aAsg, ↓LA.w_aName, ↓LA.w_aC, ↓LA.w_aBin, ↓LA.w_aUn, ↓LA.w_aCall, ↓LA.w_aMeth, ↓LA.w_aProp, ↓LA.w_aInst, ↓LA.w_aMake, ↓LA.w_aMakeP, ↓LA.w_aEqO, ↓LA.w_aWhile, ↓LA.w_aAndV, ↓LA.w_aOrV, ↓LA.w_aNotV, ↓LA.w_aB, ↓LA.w_aAnd, ↓LA.w_aOr, ↓LA.w_aNot, ↓LA.w_aIf, ↓LA.w_aChain, ↓LA.w_aNil, ↓LA.w_aCons, ↓LA.w_aTup, ↓LA.w_aLst, ↓LA.w_aCB, ↓LA.w_aFld, ↓LA.w_aOwn, ↓LA.w_fLst, ↓LA.w_fDK, ↓LA.w_fDT, ↓LA.w_aFor, ↓LA.w_fLc, ↓LA.w_fLcK, ↓LA.w_fLc2, ↓LA.w_aYes, ↓LA.w_aLenSet, ↓LA.w_aNoPart, ↓LA.w_aPart, ↓LA.w_aSl, ↓LA.w_aApp, ↓LA.w_aExt, ↓LA.w_aPop, ↓LA.w_aLenO, ↓LA.w_aPutO, ↓LA.w_aGetD, ↓LA.w_aGetO, ↓LA.w_aFldO, ↓LA.w_aRaise0, ↓LA.w_aRaise, ↓LA.w_aTry, ↓LA.w_aBM, ↓LA.w_aFmt, ↓LA.w_aJs0, ↓LA.w_aJs1, ↓LA.w_aJoin, ↓LA.w_fCatL, ↓LA.w_aBinO, ↓LA.w_aInO, ↓LA.w_aLenI, ↓LA.w_aXfC, ↓LA.w_mulT, ↓LA.w_isBB, ↓LA.w_isBI, ↓LA.w_isBN, ↓LA.w_aRetC, ↓LA.w_aSetCallC, ↓LA.w_aOwnA, ↓LA.w_aCallO, ↓LA.w_fCopyO, ↓LA.w_aSameO, ↓LA.w_aDPop, ↓LA.s_var, ↓LA.s_slotF, ↓LA.s_isB, ↓LA.s_brt, ↓LA.s_brf, ↓LA.s_gc, ↓LA.s_gn, ↓LA.s_gt, ↓LA.s_fz, ↓LA.s_zl, ↓LA.s_zk, ↓LA.s_zt, ↓LA.s_zi, ↓LA.s_zf, ↓LA.s_isIns, ↓LA.s_isInC, ↓LA.s_cellI, ↓LA.s_isInsP, ↓LA.s_isInCP, ↓LA.s_gotF, ↓LA.s_gotI, ↓LA.s_add, ↓LA.s_addS, ↓LA.s_addT, ↓LA.s_addL, ↓LA.s_sub, ↓LA.s_mul, ↓LA.s_mod, ↓LA.s_div, ↓LA.s_pow, ↓LA.s_neg, ↓LA.s_eqI, ↓LA.s_eqS, ↓LA.s_eqB, ↓LA.s_eqIS, ↓LA.s_eqSI, ↓LA.s_eqNS, ↓LA.s_eqSN, ↓LA.s_eqTT, ↓LA.s_eqLL, ↓LA.s_neI, ↓LA.s_neS, ↓LA.s_neB, ↓LA.s_neTT, ↓LA.s_neLL, ↓LA.s_lt, ↓LA.s_le, ↓LA.s_gt', ↓LA.s_ge, ↓LA.s_is, ↓LA.s_isn, ↓LA.s_n0, ↓LA.s_n1, ↓LA.s_n2, ↓LA.s_n3, ↓LA.s_n4, ↓LA.s_n5, ↓LA.s_n6, ↓LA.s_n7, ↓LA.s_n8, ↓LA.s_inL, ↓LA.s_inT, ↓LA.s_inS, ↓LA.s_niL, ↓LA.s_niT, ↓LA.s_niS, ↓LA.s_f0, ↓LA.s_f1, ↓LA.s_f2, ↓LA.s_f3, ↓LA.s_ef1, ↓LA.s_ef2, ↓LA.s_ixL, ↓LA.s_ixT, ↓LA.s_ixS, ↓LA.s_pInt, ↓LA.s_cutL, ↓LA.s_cutT, ↓LA.s_lenL, ↓LA.s_lenT, ↓LA.s_lenDK, ↓LA.s_lenS, ↓LA.s_intI, ↓LA.s_intB, ↓LA.s_abs, ↓LA.s_strI, ↓LA.s_strS, ↓LA.s_isL, ↓LA.s_sum, ↓LA.s_max, ↓LA.s_min, ↓LA.s_max2, ↓LA.s_min2, ↓LA.s_all, ↓LA.s_any, ↓LA.s_liL, ↓LA.s_liT, ↓LA.s_tuL, ↓LA.s_tuT, ↓LA.s_ty, ↓LA.s_ty0, ↓LA.s_ty1, ↓LA.s_ty2, ↓LA.s_ty3, ↓LA.s_ty4, ↓LA.s_ty5, ↓LA.s_ty6, ↓LA.s_own, ↓LA.s_ow0, ↓LA.s_ow1, ↓LA.s_ow2, ↓LA.s_ow3, ↓LA.s_ow4, ↓LA.s_ow5, ↓LA.s_ow6, ↓LA.s_ownAt, ↓LA.s_slotO, ↓LA.s_moL, ↓LA.s_moK, ↓LA.s_moT, ↓LA.s_moI, ↓LA.s_keyI, ↓LA.s_keyS, ↓LA.s_get, ↓LA.s_has, ↓LA.s_hasN, ↓LA.s_isDK, ↓LA.s_oth1, ↓LA.s_othT, ↓LA.s_oth2, ↓LA.s_othP, ↓LA.s_self0, ↓LA.s_items, ↓LA.s_itL, ↓LA.s_itT, ↓LA.s_signs, ↓LA.s_sg, ↓LA.s_enum, ↓LA.s_enL, ↓LA.s_enT, ↓LA.s_enS, ↓LA.s_r1, ↓LA.s_r1i, ↓LA.s_r2, ↓LA.s_r2i, ↓LA.s_for0, ↓LA.s_forS, ↓LA.s_new, ↓LA.s_moDl, ↓LA.s_moDk, ↓LA.s_moDt, ↓LA.s_lk0, ↓LA.s_keys, ↓LA.s_keyDI, ↓LA.s_keyDS, ↓LA.s_sort, ↓LA.s_isT, ↓LA.s_selfI, ↓LA.s_tyL, ↓LA.s_tyS, ↓LA.s_index, ↓LA.s_fmtS, ↓LA.s_fmtI, ↓LA.s_strD, ↓LA.s_join, ↓LA.s_strsM, ↓LA.s_strsF, ↓LA.s_othB1, ↓LA.s_othB2, ↓LA.s_othB3, ↓LA.s_gl, ↓LA.s_natI, ↓LA.s_cls0, ↓LA.s_clsN, ↓LA.s_clsS, ↓LA.s_slotX, ↓LA.s_plT, ↓LA.s_plL, ↓LA.s_plI, ↓LA.s_pl0, ↓LA.s_pl1, ↓LA.s_pl2, ↓LA.s_pl3, ↓LA.s_pl4, ↓LA.s_plN, ↓LA.s_plC, ↓LA.s_plFN, ↓LA.s_plFC, ↓LA.s_plMs, ↓LA.s_plM0, LA.s_var, LA.s_slotF, LA.s_isB, LA.s_brt, LA.s_brf, LA.s_gc, LA.s_gn, LA.s_gt, LA.s_fz, LA.s_zl, LA.s_zk, LA.s_zt, LA.s_zi, LA.s_zf, LA.s_isIns, LA.s_isInC, LA.s_cellI, LA.s_isInsP, LA.s_isInCP, LA.s_gotF, LA.s_gotI, LA.s_add, LA.s_addS, LA.s_addT, LA.s_addL, LA.s_sub, LA.s_mul, LA.s_mod, LA.s_div, LA.s_pow, LA.s_neg, LA.s_eqI, LA.s_eqS, LA.s_eqB, LA.s_eqIS, LA.s_eqSI, LA.s_eqNS, LA.s_eqSN, LA.s_eqTT, LA.s_eqLL, LA.s_neI, LA.s_neS, LA.s_neB, LA.s_neTT, LA.s_neLL, LA.s_lt, LA.s_le, LA.s_gt', LA.s_ge, LA.s_is, LA.s_isn, LA.s_n0, LA.s_n1, LA.s_n2, LA.s_n3, LA.s_n4, LA.s_n5, LA.s_n6, LA.s_n7, LA.s_n8, LA.s_inL, LA.s_inT, LA.s_inS, LA.s_niL, LA.s_niT, LA.s_niS, LA.s_f0, LA.s_f1, LA.s_f2, LA.s_f3, LA.s_if0, LA.s_if1, LA.s_ef1, LA.s_ef2, LA.s_ixL, LA.s_ixT, LA.s_ixS, LA.s_pInt, LA.s_cutL, LA.s_cutT, LA.s_lenL, LA.s_lenT, LA.s_lenDK, LA.s_lenS, LA.s_intI, LA.s_intB, LA.s_abs, LA.s_strI, LA.s_strS, LA.s_in0, LA.s_in1, LA.s_bl0, LA.s_bl1, LA.s_isL, LA.s_sum, LA.s_max, LA.s_min, LA.s_max2, LA.s_min2, LA.s_all, LA.s_any, LA.s_liL, LA.s_liT, LA.s_tuL, LA.s_tuT, LA.s_ty, LA.s_ty0, LA.s_ty1, LA.s_ty2, LA.s_ty3, LA.s_ty4, LA.s_ty5, LA.s_ty6, LA.s_own, LA.s_ow0, LA.s_ow1, LA.s_ow2, LA.s_ow3, LA.s_ow4, LA.s_ow5, LA.s_ow6, LA.s_ownAt, LA.s_slotO, LA.s_moL, LA.s_moK, LA.s_moT, LA.s_moI, LA.s_keyI, LA.s_keyS, LA.s_get, LA.s_has, LA.s_hasN, LA.s_isDK, LA.s_oth1, LA.s_othT, LA.s_oth2, LA.s_othP, LA.s_self0, LA.s_items, LA.s_itL, LA.s_itT, LA.s_signs, LA.s_sg, LA.s_enum, LA.s_enL, LA.s_enT, LA.s_enS, LA.s_r1, LA.s_r1i, LA.s_r2, LA.s_r2i, LA.s_for0, LA.s_forS, LA.s_new, LA.s_moDl, LA.s_moDk, LA.s_moDt, LA.s_lk0, LA.s_lk1, LA.s_lkE, LA.s_keys, LA.s_keyDI, LA.s_keyDS, LA.s_sort, LA.s_isT, LA.s_put0, LA.s_putE, LA.s_selfI, LA.s_intsM, LA.s_intsF, LA.s_blsM, LA.s_blsF, LA.s_val0, LA.s_valE, LA.s_dpt0, LA.s_tyL, LA.s_tyS, LA.s_index, LA.s_fmtS, LA.s_fmtI, LA.s_strD, LA.s_join, LA.s_strsM, LA.s_strsF, LA.s_othB1, LA.s_othB2, LA.s_othB3, LA.s_gl, LA.s_natI, LA.s_cls0, LA.s_clsN, LA.s_clsS, LA.s_suN, LA.s_suS, LA.s_clr0, LA.s_clrN, LA.s_clrF, LA.s_clrO, LA.s_clrX, LA.s_lkG0, LA.s_lkG, LA.s_slotX, LA.s_plT, LA.s_plL, LA.s_plI, LA.s_pl0, LA.s_pl1, LA.s_pl2, LA.s_pl3, LA.s_pl4, LA.s_plN, LA.s_plC, LA.s_plFN, LA.s_plFC, LA.s_plMs, LA.s_plM0, LA.kt_NoneType_int, LA.kt_NoneType_bool, LA.kt_NoneType_str, LA.kt_NoneType_tuple, LA.kt_NoneType_list, LA.kt_NoneType_dict, LA.kt_bool_int, LA.kt_bool_bool, LA.kt_bool_str, LA.kt_bool_tuple, LA.kt_bool_list, LA.kt_bool_dict, LA.kt_int_int, LA.kt_int_bool, LA.kt_int_str, LA.kt_int_tuple, LA.kt_int_list, LA.kt_int_dict, LA.kt_str_int, LA.kt_str_bool, LA.kt_str_str, LA.kt_str_tuple, LA.kt_str_list, LA.kt_str_dict, LA.kt_tuple_int, LA.kt_tuple_bool, LA.kt_tuple_str, LA.kt_tuple_tuple, LA.kt_tuple_list, LA.kt_tuple_dict, LA.kt_list_int, LA.kt_list_bool, LA.kt_list_str, LA.kt_list_tuple, LA.kt_list_list, LA.kt_list_dict, LA.kt_dict_int, LA.kt_dict_bool, LA.kt_dict_str, LA.kt_dict_tuple, LA.kt_dict_list, LA.kt_dict_dict, LA.s_withS, LA.startA, LA.startI, LA.wipeA, LA.str_eq, List.map_cons, List.map_nil, List.cons_append, List.nil_append, List.length_cons, List.length_nil, List.length_map, List.length_append, List.replicate, List.set_cons_zero, List.set_cons_succ, List.getElem?_cons_zero, List.getElem?_cons_succ, List.getElem?_nil, List.mem_cons, List.not_mem_nil, String.reduceEq, String.reduceNe, Nat.reduceAdd, Nat.reduceSub, Nat.reduceMul, Nat.reduceLeDiff, Nat.reducePow, Nat.reduceEqDiff, Int.reduceAdd, Int.reduceSub, Int.reduceMul, Int.reduceNeg, Int.reducePow, Int.reduceToNat, Int.reduceLT, Int.reduceLE, Int.reduceEq, Int.reduceNe, Int.reduceMod, Int.reduceDiv, decide_true, decide_false, Bool.not_true, Bool.not_false, and_true, true_and, and_false, false_and, or_true, true_or, or_false, false_or, not_true_eq_false, not_false_eq_true, if_true, if_false, reduceIte, ne_eq, List.all_cons, List.all_nil, List.any_cons, List.any_nil, List.zip_cons_cons, List.zip_nil_left, List.zip_nil_right, List.reverse_cons, List.reverse_nil, Bool.or_true, Bool.or_false, Bool.true_or, Bool.false_or, Bool.and_true, Bool.and_false, Bool.true_and, Bool.false_and, id_eq, LA.atI_lit, Option.map_some, Option.map_none, PySem.sizeLine, Option.getD_some, Option.getD_none, Option.isSome_some, Option.isSome_none, List.drop_succ_cons, List.drop_zero, LA.cut_from, LA.cut_toL, List.take_succ_cons, List.take_zero, List.take_nil, List.drop_nil, Bool.false_eq_true, eq_self, Nat.reduceLT]))
local macro_rules | `(tactic| walk_at "b") => `(tactic| try walk_at "a")
local macro_rules | `(tactic| walk_at "d") => `(tactic| ((try walk_at "a"); repeat' ((first | refine LA.br_d (fun _ => ?_) (fun _ => ?_) | refine LA.br_n (fun _ => ?_) (fun _ => ?_)) <;> (try (exfalso; omega)) <;> (try walk_at "a"))))
local macro_rules | `(tactic| walk_at "l") => `(tactic| (repeat (first | (refine Eq.mpr LA.lc_cons ?_; (try walk_at "a")) | (refine Eq.mpr LA.lc_nil ?_; (try walk_at "a")))))
namespace LW
open PySem PySem.Spec PyProof.Rows L2
/-! the law's source of numbers -/
section
variable {P : Program} {w : World} {K : PySem.W.Frag} {mg : Str → Option Value} {base : Heap}
/-- the source at d: at least two numbers -/
def Rg (H : Hp) (d : Addr) : Prop := ∃ ns : List Int, H d = some (.lst (ns.map V.int)) ∧ 2 ≤ ns.length
def sp_below : Sp := fun vs H Q _ => ∃ (d : Addr) (n : Int), vs = [.ref d, .int n] ∧ 0 < n ∧ n < 1073741824 ∧ Rg H d ∧ ∀ (r : Int) (H' : Hp), 0 ≤ r → r < n → HX.ExB d H H' → Rg H' d → Q (.int r) H'
theorem below_mono : ∀ vs H (Q Q' : VK) E, (∀ v H', Q v H' → Q' v H') → sp_below vs H Q E → sp_below vs H Q' E := fun _ _ _ _ _ k ⟨d, n, e, h1, h2, h3, q⟩ => ⟨d, n, e, h1, h2, h3, fun r H' a b c d => k _ _ (q r H' a b c d)⟩
theorem ok__law_below (T : Txt K mg) : HX.GFn P w K mg base "_law_below" 1 ["_law_d", "_law_size"] sp_below := by
  refine HX.gfn_of T.d__law_below T.g__law_below sc__law_below (fun vs H Q E h => ?_) (fun _ _ _ _ _ _ us hl => match us, hl with | [_, _], _ => rfl) (fun cdv A outer s H vs Q E hr h => ⟨_, PSs.nox (C8.pss_cut (ps_if (PW.pt (pw_and (pt_cmpR op_eq (pe_ix ix_list (pv 0) pe_int (fun _ _ => rfl)) pe_int (nomark _)) (pw_and1 (pt_cmpR op_gt (pe_callB HX.call_lenSq rfl T.n_len (by decide +kernel) (pa_cons (pv 0) pa_nil)) pe_int (nomark _))))) (pss_one (ps_asg (pe_bm PySem.F.plainAttrs_list PySem.F.slot_list_pop PySem.F.type_list_pop mt_popAt (pv 0) (pa_cons pe_int pa_nil)) (pg_sub (pv 0) pe_int set_list))) pss_nil)
  (pss_cons (ps_if (pt_cmpR op_gt (pe_ix ix_list (pv 0) pe_int (fun _ _ => rfl)) pe_int (nomark _)) (pss_cons (ps_set (i := 2) sc__law_below.nd rfl (Or.inl rfl) (pe_op op_modN (pe_callTy HX.call_intI rfl T.n_int (by decide +kernel) (pa_cons (pe_ix ix_list (pv 0) pe_int (fun _ _ => rfl)) pa_nil)) (pv 1)))
  (pss_cons (ps_asg (pe_op op_fdivN (pe_ix ix_list (pv 0) pe_int (fun _ _ => rfl)) (pv 1)) (pg_sub (pv 0) pe_int set_list))
  (pss_one (ps_ret (pv 2))))) pss_nil)
  (pss_cons (ps_asg (pe_op op_modN (pe_callTy HX.call_intI rfl T.n_int (by decide +kernel) (pa_cons (pe_op op_add (pe_op op_mul (pe_ix ix_list (pv 0) pe_int (fun _ _ => rfl)) pe_int) pe_int) pa_nil)) pe_int) (pg_sub (pv 0) pe_int set_list))
  (pss_one (ps_ret (pe_op op_modN (pe_callTy HX.call_intI rfl T.n_int (by decide +kernel) (pa_cons (pe_op op_fdivN (pe_ix ix_list (pv 0) pe_int (fun _ _ => rfl)) pe_int) pa_nil)) (pv 1))))))), ?_⟩)
  · obtain ⟨d, n, rfl, _⟩ := h
    rfl
  obtain ⟨d, n, rfl, hn, hn2, ⟨ns, hd, h2⟩, k⟩ := h
  match ns, h2 with
  | s :: a :: rest, _ =>
  dsimp only [HX.cxR]
  refine ⟨fun σ' H' => ∃ s a rest, σ' = [some (.ref d), some (.int n), none] ∧ H' d = some (.lst ((s :: a :: rest : List Int).map V.int)) ∧ HX.ExB d H H', ?_, ?_⟩
  · walk_at "ss"
    refine HX.z_d2 (fun h => ?_) (fun h => ?_)
    · walk_at "ss"
      refine HX.z_d2 (fun h => ?_) (fun h => ?_)
      · match rest, h with
        | b :: rest, _ =>
        walk_at "ss"
        exact ⟨s, b, rest, rfl, upd_same, (HX.ExB.updd (d := d)).upd2⟩
      · walk_at "ss"
        exact ⟨s, a, rest, rfl, hd, HX.ExB.refl _ _⟩
    · walk_at "ss"
      exact ⟨s, a, rest, rfl, hd, HX.ExB.refl _ _⟩
  · rintro σ' H1 ⟨s, a, rest, rfl, hd1, ex⟩
    walk_at "ss"
    refine HX.z_d2 (fun h => ?_) (fun h => ?_)
    · walk_at "ss"
      exact k _ _ (HX.fm_nn hn) (HX.fm_lt hn) ex.upd2 ⟨s :: a.fdiv n :: rest, upd_same, by simp⟩
    · walk_at "ss"
      exact k _ _ (HX.fm_nn hn) (HX.fm_lt hn) ex.upd2 ⟨(s * 48271 + 11).fmod 2147483647 :: a :: rest, upd_same, by simp⟩
def sp_random (K : PySem.W.Frag) : Sp := fun vs H Q _ => ∃ (a : Addr) (ns : List Int) (z : Int), vs = [.ref a, .int z] ∧ SqL K H a (ns.map V.int) ∧ ns.length ≤ 63 ∧ ∀ (p : Addr) (H' : Hp), H p = none → Same H H' → Rg H' p → Q (.ref p) H'
theorem ok__law_random (T : Txt K mg) : HX.GFn P w K mg base "_law_random" 1 ["_law_script", "_law_salt"] (sp_random K) := by
  refine HX.gfn_of T.d__law_random T.g__law_random sc__law_random (fun vs H Q E h => ?_) (fun _ _ _ _ _ _ us hl => match us, hl with | [_, _], _ => rfl) (fun cdv A outer s H vs Q E hr h => ⟨_, PSs.nox (pss_cons (ps_set (i := 2) sc__law_random.nd rfl (Or.inl rfl) (pv 1))
  (pss_cons (ps_for PassesOwn.never rfl (pi_list (pv 0)) (pg_name (i := 3) sc__law_random.nd rfl (Or.inl rfl)) (pss_one (ps_set (i := 2) sc__law_random.nd rfl (Or.inl rfl) (pe_op op_modN (pe_callTy HX.call_intI rfl T.n_int (by decide +kernel) (pa_cons (pe_op op_add (pe_op op_mul (pv 2) pe_int) (pe_callB HX.call_absI rfl T.n_abs (by decide +kernel) (pa_cons (pv 3) pa_nil))) pa_nil)) pe_int))))
  (pss_one (ps_ret (pe_op op_cat (pe_lst (pa_cons (pv 2) (pa_cons pe_int pa_nil))) (pe_lc (own := [("_law_cell", 3)]) (te := (tVar 3)) (tt := (tTest (tOp (rI0 fun i j => .bl (decide (j ≤ i))) (tVar 3) (tOp (rI CPow fun i j => .int (i ^ j.toNat)) (tC (.int 10)) (tC (.int 18)))))) rfl sc__law_random.nd (pi_list (pv 0)) (blkOk_by (own := [("_law_cell", 3)]) (N := ["_law_script", "_law_salt", "_law_seed", "_law_cell"]) (sc := defScope s__law_random) (by decide +kernel)) (fun _ _ _ _ _ => (pg_name (i := 3) sc__law_random.nd rfl (Or.inl rfl))) (fun _ _ _ _ _ => (pts_one (pt_cmpR op_ge (pv 3) (pe_op op_pow pe_int pe_int) (nomark _)))) (fun _ _ _ _ _ => (pv 3)))))))), ?_⟩)
  · obtain ⟨d, n, z, rfl, _⟩ := h
    rfl
  obtain ⟨a, ns, z, rfl, hS, h63, k⟩ := h
  walk_at "go"
  refine HX.z_forLv (a := a) (xs := ns.map V.int) rfl hS (fun _ σ' H' => Same H H' ∧ ∃ (y : Int) (v : Option V), σ' = [some (.ref a), some (.int z), some (.int y), v]) ⟨⟨Same.refl H, z, none, rfl⟩, ?_, ?_, ?_⟩
  · rintro i σ' H1 _ ⟨s1, _⟩
    exact s1.seq hS
  · rintro i x σ' H1 hi ⟨s1, y, v, rfl⟩
    obtain ⟨c, _, rfl⟩ := HX.int_at hi
    walk_at "ss"
    exact ⟨s1, _, _, rfl⟩
  · rintro σ' H1 ⟨s0, y, v, rfl⟩
    walk_at "ss"
    intro p hp
    have s1 : Same H (upd H1 p (.lst [V.int y, V.int 0])) := s0.trans (HX.Same.new hp)
    refine HX.z_lcLv (a := a) (xs := ns.map V.int) rfl (s1.seq hS) fun q hq => ⟨fun i H' => ∃ zs : List Int, zs.length ≤ i ∧ H' q = some (.lst (zs.map V.int)) ∧ Same (upd H1 p (.lst [V.int y, V.int 0])) H', ⟨[], Nat.le_refl _, upd_same, HX.Same.new hq⟩, ?_, ?_, ?_⟩
    · rintro i H' _ ⟨zs, _, hz, s2⟩
      exact (s1.trans s2).seq hS
    · rintro i x H' hi ⟨zs, hl, hz, s2⟩
      obtain ⟨c, _, rfl⟩ := HX.int_at hi
      have hi2 := HX.lt_of_at hi
      rw [List.length_map] at hi2
      walk_at "ss"
      refine ⟨rfl, ?_⟩
      walk_at "ss"
      refine HX.z_d2 (fun _ => ?_) (fun _ => ⟨zs, by omega, hz, s2⟩)
      walk_at "ss"
      exact ⟨_, hz, HX.sz_lt (by rw [List.length_map]; omega), zs ++ [c], by simp; omega, by rw [upd_same, List.map_append]; rfl, HX.Same.app s2 hq⟩
    · rintro H' ⟨zs, hl, hz, s2⟩
      have hp2 := s2 _ _ (upd_same (H := H1))
      rw [List.length_map] at hl
      walk_at "ss"
      intro l hn
      refine k _ _ ((s1.trans s2).free hn) ((s1.trans s2).trans (HX.Same.new hn)) ⟨[y, 0] ++ zs, ?_, by simp⟩
      rw [upd_same, List.map_append]
      rfl
theorem Rg.ne {H : Hp} {d p : Addr} (h : Rg H d) (n : H p = none) : p ≠ d := by
  obtain ⟨ns, h, _⟩ := h
  exact (ne_of_none h n).symm
theorem Rg.keep {H H' : Hp} {d : Addr} (h : Rg H d) (e : Same H H') : Rg H' d := by
  obtain ⟨ns, h, l⟩ := h
  exact ⟨ns, e _ _ h, l⟩
def sp_pick (K : PySem.W.Frag) : Sp := fun vs H Q _ => ∃ (d b : Addr) (xs : List V), vs = [.ref d, .ref b] ∧ SqL K H b xs ∧ b ≠ d ∧ 0 < xs.length ∧ xs.length < 1000 ∧ Rg H d ∧ ∀ (v : V) (H' : Hp), v ∈ xs → HX.ExB d H H' → Rg H' d → Q v H'
theorem ok__law_pick (T : Txt K mg) : HX.GFn P w K mg base "_law_pick" 2 ["_law_d", "_law_items"] (sp_pick K) := by
  have g__law_below := ok__law_below (P := P) (w := w) (base := base) T
  refine HX.gfn_of T.d__law_pick T.g__law_pick sc__law_pick (fun vs H Q E h => ?_) (fun _ _ _ _ _ _ us hl => match us, hl with | [_, _], _ => rfl) (fun cdv A outer s H vs Q E hr h => ⟨_, PSs.nox (pss_one (ps_ret (pe_ix ix_list (pv 1) (HX.pe_g g__law_below (hr.mono (by first | decide | omega)) HX.pas0 rfl (pa_cons (pv 0) (pa_cons (pe_callB HX.call_lenSq rfl T.n_len (by decide +kernel) (pa_cons (pv 1) pa_nil)) pa_nil))) (fun _ _ => rfl)))), ?_⟩)
  · obtain ⟨d, b, xs, rfl, _⟩ := h
    rfl
  obtain ⟨d, b, xs, rfl, hS, nb, h0, h1, hR, k⟩ := h
  walk_at "go"
  refine ⟨d, xs.length, rfl, by omega, by omega, hR, fun r H' r0 r1 ex R' => ?_⟩
  have hr2 : r.toNat < xs.length := by omega
  refine HX.z_ixL (ex.sl nb hS) (HX.atc r.toNat (by omega) (List.getElem?_eq_getElem hr2)) ?_
  exact k _ _ (List.getElem_mem hr2) ex R'
def sp_length : Sp := fun vs H Q _ => ∃ (d : Addr), vs = [.ref d] ∧ Rg H d ∧ ∀ (n : Int) (H' : Hp), 1 ≤ n → n ≤ 10 ^ 41 → HX.ExB d H H' → Rg H' d → Q (.int n) H'
theorem ok__law_length (T : Txt K mg) : HX.GFn P w K mg base "_law_length" 3 ["_law_d"] sp_length := by
  have g__law_below := ok__law_below (P := P) (w := w) (base := base) T
  have g__law_pick := ok__law_pick (P := P) (w := w) (base := base) T
  refine HX.gfn_of T.d__law_length T.g__law_length sc__law_length (fun vs H Q E h => ?_) (fun _ _ _ _ _ _ us hl => match us, hl with | [_], _ => rfl) (fun cdv A outer s H vs Q E hr h => ⟨_, PSs.nox (pss_one (ps_ret (HX.pe_g g__law_pick (hr.mono (by first | decide | omega)) HX.pas0 rfl (pa_cons (pv 0) (pa_cons (pe_lst (pa_cons pe_int (pa_cons pe_int (pa_cons pe_int (pa_cons pe_int (pa_cons pe_int (pa_cons pe_int (pa_cons pe_int (pa_cons pe_int (pa_cons (pe_op op_pow pe_int pe_int) (pa_cons (pe_op op_add (pe_op op_pow pe_int pe_int) pe_int) (pa_cons (pe_op op_add pe_int (HX.pe_g g__law_below (hr.mono (by first | decide | omega)) HX.pas0 rfl (pa_cons (pv 0) (pa_cons pe_int pa_nil)))) pa_nil)))))))))))) pa_nil))))), ?_⟩)
  · obtain ⟨d, rfl, _⟩ := h
    rfl
  obtain ⟨d, rfl, hR, k⟩ := h
  walk_at "go"
  refine ⟨d, 500, rfl, by omega, by omega, hR, fun r H' r0 r1 ex R' => ?_⟩
  walk_at "ss"
  intro p hp
  walk_at "ss"
  refine ⟨d, p, _, rfl, SqL.of upd_same, R'.ne hp, by simp, by simp, R'.keep (HX.Same.new hp), fun v H2 hv ex2 R2 => ?_⟩
  have e3 : HX.ExB d H H2 := ex.trans ((HX.ExB.of (HX.Same.new hp)).trans ex2)
  have hq : ∃ n : Int, v = .int n ∧ 1 ≤ n ∧ n ≤ 10 ^ 41 := by
    simp only [List.mem_cons, List.not_mem_nil, or_false, Int.reduceToNat, Int.reducePow, Int.reduceAdd] at hv
    rcases hv with h | h | h | h | h | h | h | h | h | h | h <;> exact ⟨_, h, by omega, by omega⟩
  obtain ⟨n, rfl, n1, n2⟩ := hq
  exact k n H2 n1 n2 e3 R2
/-- how large a drawn number of ticks may be -/
def sp_amount : Sp := fun vs H Q _ => ∃ (d : Addr) (z : Int), vs = [.ref d, .int z] ∧ 1 ≤ z ∧ Rg H d ∧ ∀ (n : Int) (H' : Hp), -(3 * z + 1000000) ≤ n → n ≤ 3 * z + 1000000 → HX.ExB d H H' → Rg H' d → Q (.int n) H'
theorem ok__law_amount (T : Txt K mg) : HX.GFn P w K mg base "_law_amount" 3 ["_law_d", "_law_size"] sp_amount := by
  have g__law_below := ok__law_below (P := P) (w := w) (base := base) T
  have g__law_pick := ok__law_pick (P := P) (w := w) (base := base) T
  refine HX.gfn_of T.d__law_amount T.g__law_amount sc__law_amount (fun vs H Q E h => ?_) (fun _ _ _ _ _ _ us hl => match us, hl with | [_, _], _ => rfl) (fun cdv A outer s H vs Q E hr h => ⟨_, PSs.nox (pss_cons (ps_set (i := 2) sc__law_amount.nd rfl (Or.inl rfl) (HX.pe_g g__law_pick (hr.mono (by first | decide | omega)) HX.pas0 rfl (pa_cons (pv 0) (pa_cons (pe_lst (pa_cons pe_int (pa_cons pe_int (pa_cons (pe_op op_fdivN (pv 1) pe_int) (pa_cons (pv 1) (pa_cons (pe_un un_neg (pv 1)) (pa_cons (pe_op op_mul pe_int (pv 1)) (pa_cons (pe_op op_sub (pv 1) pe_int) (pa_cons (pe_op op_mul pe_int (pv 1)) pa_nil))))))))) pa_nil))))
  (pss_one (ps_ret (pe_op op_add (pv 2) (HX.pe_g g__law_pick (hr.mono (by first | decide | omega)) HX.pas0 rfl (pa_cons (pv 0) (pa_cons (pe_lst (pa_cons pe_int (pa_cons pe_int (pa_cons pe_int (pa_cons (pe_un un_neg pe_int) (pa_cons pe_int (pa_cons (pe_un un_neg pe_int) (pa_cons (HX.pe_g g__law_below (hr.mono (by first | decide | omega)) HX.pas0 rfl (pa_cons (pv 0) (pa_cons (pe_op op_pow pe_int pe_int) pa_nil))) pa_nil)))))))) pa_nil))))))), ?_⟩)
  · obtain ⟨d, z, rfl, _⟩ := h
    rfl
  obtain ⟨d, z, rfl, hz, hR, k⟩ := h
  walk_at "go"
  intro p hp
  walk_at "ss"
  refine ⟨d, p, _, rfl, SqL.of upd_same, hR.ne hp, by simp, by simp, hR.keep (HX.Same.new hp), fun v H2 hv ex2 R2 => ?_⟩
  have e2 : HX.ExB d H H2 := (HX.ExB.of (HX.Same.new hp)).trans ex2
  have hq : ∃ n : Int, v = .int n ∧ -(3 * z) ≤ n ∧ n ≤ 3 * z := by
    rw [HX.fd_eq (show (0 : Int) < 2 by decide)] at hv
    simp only [List.mem_cons, List.not_mem_nil, or_false] at hv
    rcases hv with h | h | h | h | h | h | h | h <;> exact ⟨_, h, by omega, by omega⟩
  obtain ⟨n, rfl, n1, n2⟩ := hq
  walk_at "ss"
  refine ⟨d, _, rfl, by simp, by simp, R2, fun r H3 r0 r1 ex3 R3 => ?_⟩
  walk_at "ss"
  intro q hq
  walk_at "ss"
  refine ⟨d, q, _, rfl, SqL.of upd_same, R3.ne hq, by simp, by simp, R3.keep (HX.Same.new hq), fun v H4 hv ex4 R4 => ?_⟩
  have e4 : HX.ExB d H H4 := e2.trans (ex3.trans ((HX.ExB.of (HX.Same.new hq)).trans ex4))
  have hq : ∃ m : Int, v = .int m ∧ -1000000 ≤ m ∧ m ≤ 1000000 := by
    simp only [Int.reduceToNat, Int.reducePow] at r1
    simp only [List.mem_cons, List.not_mem_nil, or_false] at hv
    rcases hv with h | h | h | h | h | h | h <;> exact ⟨_, h, by omega, by omega⟩
  obtain ⟨m, rfl, m1, m2⟩ := hq
  walk_at "ss"
  exact k _ _ (by omega) (by omega) e4 R4
end

end LW
namespace LW
open PySem PySem.Spec PyProof.Rows L2
open LA
section
variable {P : Program} {w : World} {K : PySem.W.Frag} {mg : Str → Option Value} {base : Heap}
theorem gr_InvalidProgram (T : Txt K mg) : LA.GEx P w K mg base "InvalidProgram" 2 ["rule", "reason"] := by
  have O := T.oe_InvalidProgram
  obtain ⟨fd, F⟩ := T.d_InvalidProgram_init
  refine ⟨O.T, O.iC, O.tI, T.g_InvalidProgram, fd, ["self", "rule", "reason"], HX.fnok_of F sc_InvalidProgram_init (fun vs H Q E h => ?_) (fun cdv A outer s H vs Q E hr h => ⟨_, (pss_cons (ps_ost (pv 0) (pv 1)) (pss_one (ps_ost (pv 0) (pv 2)))), ?_⟩), F.bindsN (fun _ _ _ _ _ _ us hl => match us, hl with | [_, _, _], _ => rfl)⟩
  · obtain ⟨a, ws, rfl, hl, _⟩ := h
    rw [List.length_cons, hl]; rfl
  obtain ⟨a, ws, rfl, hl, ha, k⟩ := h
  match ws, hl with
  | [y0, y1], _ =>
    refine ⟨y0, rfl, .ref a, rfl, a, He.ga K "InvalidProgram", rfl, O.T, T.a_InvalidProgram_rule, .inl ⟨ha, fun dx hdx hne => ?_⟩⟩
    refine ⟨y1, rfl, .ref a, rfl, a, He.ga K "InvalidProgram", rfl, O.T, T.a_InvalidProgram_reason, .inr ⟨dx, _, upd_same, (by rw [upd_ne hne]; exact upd_same), by simp, ?_⟩⟩
    exact k _ dx hdx hne (by rw [upd_ne (Ne.symm hne)]; exact upd_same) (by rw [upd_same]; rfl) (fun b h1 h2 => by rw [upd_ne h2, upd_ne h1, upd_ne h2])
end

end LW
namespace LW
open PySem PySem.Spec PyProof.Rows L2
open LA
/-! points, spans, conditions, outcomes as types -/
/-- points and spans -/
inductive Pa where
  | time (n : Str) | mid | at (z : Int) | spn (z : Int) | plus (p : Pa) (z : Int) | wrap (p : Pa) | minus (p q : Pa)
def Pa.d : Pa → D
  | .time n => .tup [.str "time", .str n]
  | .mid => .tup [.str "midnight"]
  | .at z => .tup [.str "at", .int z]
  | .spn z => .tup [.str "for", .int z]
  | .plus p z => .tup [.str "plus", p.d, .int z]
  | .wrap p => .tup [.str "wrap", p.d]
  | .minus p q => .tup [.str "minus", p.d, q.d]
/-- is it a point -/
def Pa.kp : Pa → Bool
  | .time _ => true | .mid => true | .at _ => true | .spn _ => false | .plus p _ => p.kp | .wrap p => p.kp | .minus _ _ => false
/-- the greatest number in a part -/
def big : Nat := 2 ^ 160
def Pa.wf (ns : List Str) : Pa → Prop
  | .time n => n ∈ ns
  | .mid => True
  | .at z => z.natAbs < big
  | .spn z => z.natAbs < big
  | .plus p z => p.wf ns ∧ z.natAbs < big
  | .wrap p => p.wf ns
  | .minus p q => p.kp = true ∧ q.kp = true ∧ p.wf ns ∧ q.wf ns
/-- how many tuples; how deep -/
def Pa.cnt : Pa → Nat
  | .time _ => 1 | .mid => 1 | .at _ => 1 | .spn _ => 1 | .plus p _ => p.cnt + 1 | .wrap p => p.cnt + 1 | .minus p q => p.cnt + q.cnt + 1
def Pa.dep : Pa → Nat
  | .time _ => 0 | .mid => 0 | .at _ => 0 | .spn _ => 0 | .plus p _ => p.dep + 1 | .wrap p => p.dep + 1 | .minus p q => max p.dep q.dep + 1
/-- how often each time is in it -/
abbrev Rd := List (Str × Int)
def Rd.get (r : Rd) (x : Str) : Int := (r.lookup x).getD 0
def Rd.put (r : Rd) (x : Str) (z : Int) : Rd := if (r.any fun p => p.1 == x) then r.map (fun p => if p.1 == x then (x, z) else p) else r ++ [(x, z)]
def Rd.lessL (a b : Rd) : List Str → Rd → Rd
  | [], f => f
  | x :: l, f => Rd.lessL a b l (if a.get x - b.get x = 0 then f else f.put x (a.get x - b.get x))
def Rd.less (a b : Rd) : Rd := Rd.lessL a b (a.map (·.1) ++ b.map (·.1)) []
def Pa.rd : Pa → Rd
  | .time n => [(n, 1)] | .mid => [] | .at _ => [] | .spn _ => [] | .plus p _ => p.rd | .wrap p => p.rd | .minus p q => p.rd.less q.rd
/-- the readings that are simple -/
inductive Simp : Rd → Prop
  | nil : Simp []
  | one (x : Str) (z : Int) (h : z = 1 ∨ z = -1 ∨ z = 2 ∨ z = -2) : Simp [(x, z)]
  | two (x y : Str) (z : Int) (h : z = 1 ∨ z = -1 ∨ z = 2 ∨ z = -2) (n : x ≠ y) : Simp [(x, z), (y, -z)]
inductive Co where
  | before (p q : Pa) | same (p q : Pa) | betw (p q r : Pa) | within (p q r : Pa) | shorter (p q : Pa) | not (c : Co) | and (c e : Co) | or (c e : Co)
def Co.d : Co → D
  | .before p q => .tup [.str "before", p.d, q.d]
  | .same p q => .tup [.str "same", p.d, q.d]
  | .betw p q r => .tup [.str "between", p.d, q.d, r.d]
  | .within p q r => .tup [.str "within", p.d, q.d, r.d]
  | .shorter p q => .tup [.str "shorter", p.d, q.d]
  | .not c => .tup [.str "not", c.d]
  | .and c e => .tup [.str "and", c.d, e.d]
  | .or c e => .tup [.str "or", c.d, e.d]
def Pa.pt (ns : List Str) (p : Pa) : Prop := p.kp = true ∧ p.wf ns
def Pa.sp (ns : List Str) (p : Pa) : Prop := p.kp = false ∧ p.wf ns
def Co.wf (ns : List Str) : Co → Prop
  | .before p q => p.pt ns ∧ q.pt ns
  | .same p q => p.pt ns ∧ q.pt ns
  | .betw p q r => p.pt ns ∧ q.pt ns ∧ r.pt ns
  | .within p q r => p.pt ns ∧ q.pt ns ∧ r.pt ns
  | .shorter p q => p.sp ns ∧ q.sp ns ∧ Simp (p.rd.less q.rd)
  | .not c => c.wf ns
  | .and c e => c.wf ns ∧ e.wf ns
  | .or c e => c.wf ns ∧ e.wf ns
def Co.cnt : Co → Nat
  | .before p q => p.cnt + q.cnt + 1 | .same p q => p.cnt + q.cnt + 1 | .betw p q r => p.cnt + q.cnt + r.cnt + 1 | .within p q r => p.cnt + q.cnt + r.cnt + 1
  | .shorter p q => p.cnt + q.cnt + 1 | .not c => c.cnt + 1 | .and c e => c.cnt + e.cnt + 1 | .or c e => c.cnt + e.cnt + 1
def Co.dep : Co → Nat
  | .before p q => max p.dep q.dep + 1 | .same p q => max p.dep q.dep + 1 | .betw p q r => max p.dep (max q.dep r.dep) + 1 | .within p q r => max p.dep (max q.dep r.dep) + 1
  | .shorter p q => max p.dep q.dep + 1 | .not c => c.dep + 1 | .and c e => max c.dep e.dep + 1 | .or c e => max c.dep e.dep + 1
inductive Oc where
  | word (w : Str) | value (p : Pa) | total (ps : List Pa) | first (p : Pa) (ps : List Pa)
def Oc.d : Oc → D
  | .word w => .tup [.str "word", .str w]
  | .value p => .tup [.str "value", p.d]
  | .total ps => .tup [.str "total", .tup (ps.map Pa.d)]
  | .first p ps => .tup [.str "first", p.d, .tup (ps.map Pa.d)]
/-- a name's signs -/
def okName (z : Str) : Prop := 1 ≤ z.length ∧ z.length ≤ 8 ∧ ∀ c ∈ z.cps.toList, 97 ≤ c ∧ c ≤ 122
/-- the names that the laws use -/
def good : List Str := ["now", "open", "shut", "a", "zz", "if", "plus", "yes", "no", "late", "other", "extra", "else", "times", "wrap", "in", "out", "always", "closed", "early", "first", "never", "word", "b", "c", "e"]
def Oc.wf (ns : List Str) : Oc → Prop
  | .word w => w ∈ good
  | .value p => p.wf ns
  | .total ps => 1 ≤ ps.length ∧ ps.length ≤ 3 ∧ ∀ p ∈ ps, p.wf ns
  | .first p ps => p.pt ns ∧ 2 ≤ ps.length ∧ ps.length ≤ 4 ∧ ∀ q ∈ ps, q.pt ns
def sumN (ps : List Pa) : Nat := (ps.map Pa.cnt).sum
def maxN : List Pa → Nat
  | [] => 0
  | p :: ps => max p.dep (maxN ps)
def Oc.cnt : Oc → Nat
  | .word _ => 1 | .value p => p.cnt + 1 | .total ps => sumN ps + 1 | .first p ps => p.cnt + sumN ps + 1
def Oc.dep : Oc → Nat
  | .word _ => 0 | .value p => p.dep + 1 | .total ps => maxN ps + 1 | .first p ps => max p.dep (maxN ps) + 1
abbrev Ru := Co × Oc
def Ru.d (r : Ru) : D := .tup [r.1.d, r.2.d]
def Ru.wf (ns : List Str) (r : Ru) : Prop := r.1.wf ns ∧ r.2.wf ns ∧ r.1.cnt + r.2.cnt ≤ 40 ∧ r.1.dep ≤ 7 ∧ r.2.dep ≤ 7
/-- names of times -/
def pool7 : List Str := ["now", "open", "shut", "a", "zz", "if", "plus"]
def NsOk (ns : List Str) : Prop := 1 ≤ ns.length ∧ ns.length ≤ 4 ∧ ns.Nodup ∧ ∀ n ∈ ns, n ∈ good
def nsD (ns : List Str) : D := .tup (ns.map D.str)
theorem nsD_list {ns : List Str} : nsD ns = .tup (ns.map D.str) := rfl

end LW
namespace LW
open PySem PySem.Spec PyProof.Rows L2
open LA
/-! the source of numbers, by data -/
section
variable {P : Program} {w : World} {K : PySem.W.Frag} {mg : Str → Option Value} {base : Heap}
theorem powT {j : Int} (h : 0 ≤ j) (h2 : j ≤ 1000000) : CPow 10 j := ⟨h, h2, by decide⟩
theorem ga__law_below (T : Txt K mg) : HX.GFn P w K mg base "_law_below" 1 ["_law_d", "_law_size"] (spA K S_below) := by
  refine gfn_imp (ok__law_below T) fun vs H Q E h => ?_
  obtain ⟨w, ms, ds, Qa, Ea, h0, r, ⟨n, rfl, hm, n0, n1, k⟩, hq, _⟩ := h
  cases r with
  | cons r1 r =>
    cases r with
    | cons r2 r =>
      cases r
      cases r2
      cases r1 with
      | @ptr a _ ha =>
        obtain ⟨b, hb, rm⟩ := h0.ce _ _ hm
        rw [ha] at hb; cases hb
        cases rm with
        | rng hH hl => exact ⟨a, n, rfl, n0, n1, ⟨_, hH, hl⟩, fun r H' r0 r1 ex hR => hq w ms H' _ _ (Le.refl _ _) (aft_rng h0 hm ha ex hR) (.int r) (k r r0 r1)⟩
theorem ga__law_pick (T : Txt K mg) : HX.GFn P w K mg base "_law_pick" 2 ["_law_d", "_law_items"] (spA K S_pick) := by
  have g__law_below := ga__law_below (P := P) (w := w) (base := base) T
  refine LA.gfn_of T.d__law_pick T.g__law_pick sc__law_pick (by intro ds ms Q E h; unfold S_pick at h; repeat (first | (obtain ⟨rfl, _⟩ := h; rfl) | obtain ⟨_, h⟩ := h)) (fun _ _ _ _ _ _ us hl => match us, hl with | [_, _], _ => rfl) fun cdv A outer s H E hr => ⟨_, (LA.ass_one (LA.as_ret (LA.ae_ix LA.ia_any (LA.ae_var (pv 1)) (LA.ae_call HX.takesO g__law_below (hr.mono (by first | decide | omega)) rfl (LA.aa_cons (LA.ae_var (pv 0)) (LA.aa_cons (LA.ae_callB LA.ca_len rfl T.n_len (by decide +kernel) (LA.aa_cons (LA.ae_var (pv 1)) LA.aa_nil)) LA.aa_nil))) (fun _ _ => rfl)))), fun ds ms Q E h => ?_⟩
  obtain ⟨xs, rfl, hm, h0, h1, k⟩ := h
  walk_at "b"
  refine ⟨xs.length, rfl, hm, by omega, by omega, fun r r0 r1 => ?_⟩
  walk_at "b"
  rw [atI_in r0 (by omega)]
  exact k _ (List.getElem_mem (by omega))
theorem div2 {z : Int} (h : 0 < z) : DivOk z 2 := ⟨by decide, by decide⟩
theorem mulS {i j : Int} (h : -(2 ^ 64) < i ∧ i < 2 ^ 64) : MulOk i j := .inl (.inl h)
def S_length : ASp := fun ds ms Q _ => ds = [.ptr 0] ∧ ms[0]? = some .rng ∧ ∀ n : Int, 1 ≤ n → n ≤ 10 ^ 41 → Q (.int n) ms
theorem ga__law_length (T : Txt K mg) : HX.GFn P w K mg base "_law_length" 3 ["_law_d"] (spA K S_length) := by
  have g__law_pick := ga__law_pick (P := P) (w := w) (base := base) T
  have g__law_below := ga__law_below (P := P) (w := w) (base := base) T
  refine LA.gfn_of T.d__law_length T.g__law_length sc__law_length (by intro ds ms Q E h; unfold S_length at h; repeat (first | (obtain ⟨rfl, _⟩ := h; rfl) | obtain ⟨_, h⟩ := h)) (fun _ _ _ _ _ _ us hl => match us, hl with | [_], _ => rfl) fun cdv A outer s H E hr => ⟨_, (LA.ass_one (LA.as_ret (LA.ae_call HX.takesO g__law_pick (hr.mono (by first | decide | omega)) rfl (LA.aa_cons (LA.ae_var (pv 0)) (LA.aa_cons (LA.ae_lst (LA.aa_cons LA.ae_int (LA.aa_cons LA.ae_int (LA.aa_cons LA.ae_int (LA.aa_cons LA.ae_int (LA.aa_cons LA.ae_int (LA.aa_cons LA.ae_int (LA.aa_cons LA.ae_int (LA.aa_cons LA.ae_int (LA.aa_cons (LA.ae_bin LA.oa_pow LA.ae_int LA.ae_int) (LA.aa_cons (LA.ae_bin LA.oa_add (LA.ae_bin LA.oa_pow LA.ae_int LA.ae_int) LA.ae_int) (LA.aa_cons (LA.ae_bin LA.oa_add LA.ae_int (LA.ae_call HX.takesO g__law_below (hr.mono (by first | decide | omega)) rfl (LA.aa_cons (LA.ae_var (pv 0)) (LA.aa_cons LA.ae_int LA.aa_nil)))) LA.aa_nil)))))))))))) LA.aa_nil))))), fun ds ms Q E h => ?_⟩
  obtain ⟨rfl, hm, k⟩ := h
  walk_at "b"
  refine ⟨powT (by decide) (by decide), powT (by decide) (by decide), below_i hm (by decide) (by decide) fun r r0 r1 => ?_⟩
  walk_at "b"
  refine pick_i hm (by simp) (by simp) fun x hx => ?_
  simp only [List.mem_cons, List.not_mem_nil, or_false] at hx
  rcases hx with rfl | rfl | rfl | rfl | rfl | rfl | rfl | rfl | rfl | rfl | rfl <;> exact k _ (by omega) (by omega)
def S_amount : ASp := fun ds ms Q _ => ∃ z : Int, ds = [.ptr 0, .int z] ∧ ms[0]? = some .rng ∧ 1 ≤ z ∧ z ≤ 10 ^ 41 ∧ ∀ n : Int, n.natAbs < big → Q (.int n) ms
theorem ga__law_amount (T : Txt K mg) : HX.GFn P w K mg base "_law_amount" 3 ["_law_d", "_law_size"] (spA K S_amount) := by
  have g__law_pick := ga__law_pick (P := P) (w := w) (base := base) T
  have g__law_below := ga__law_below (P := P) (w := w) (base := base) T
  refine LA.gfn_of T.d__law_amount T.g__law_amount sc__law_amount (by intro ds ms Q E h; unfold S_amount at h; repeat (first | (obtain ⟨rfl, _⟩ := h; rfl) | obtain ⟨_, h⟩ := h)) (fun _ _ _ _ _ _ us hl => match us, hl with | [_, _], _ => rfl) fun cdv A outer s H E hr => ⟨_, (LA.ass_cons (LA.as_set (i := 2) sc__law_amount.nd rfl (Or.inl rfl) (LA.ae_call HX.takesO g__law_pick (hr.mono (by first | decide | omega)) rfl (LA.aa_cons (LA.ae_var (pv 0)) (LA.aa_cons (LA.ae_lst (LA.aa_cons LA.ae_int (LA.aa_cons LA.ae_int (LA.aa_cons (LA.ae_bin LA.oa_div (LA.ae_var (pv 1)) LA.ae_int) (LA.aa_cons (LA.ae_var (pv 1)) (LA.aa_cons (LA.ae_un LA.ua_neg (LA.ae_var (pv 1))) (LA.aa_cons (LA.ae_bin LA.oa_mul LA.ae_int (LA.ae_var (pv 1))) (LA.aa_cons (LA.ae_bin LA.oa_sub (LA.ae_var (pv 1)) LA.ae_int) (LA.aa_cons (LA.ae_bin LA.oa_mul LA.ae_int (LA.ae_var (pv 1))) LA.aa_nil))))))))) LA.aa_nil))))
  (LA.ass_one (LA.as_ret (LA.ae_bin LA.oa_add (LA.ae_var (pv 2)) (LA.ae_call HX.takesO g__law_pick (hr.mono (by first | decide | omega)) rfl (LA.aa_cons (LA.ae_var (pv 0)) (LA.aa_cons (LA.ae_lst (LA.aa_cons LA.ae_int (LA.aa_cons LA.ae_int (LA.aa_cons LA.ae_int (LA.aa_cons (LA.ae_un LA.ua_neg LA.ae_int) (LA.aa_cons LA.ae_int (LA.aa_cons (LA.ae_un LA.ua_neg LA.ae_int) (LA.aa_cons (LA.ae_call HX.takesO g__law_below (hr.mono (by first | decide | omega)) rfl (LA.aa_cons (LA.ae_var (pv 0)) (LA.aa_cons (LA.ae_bin LA.oa_pow LA.ae_int LA.ae_int) LA.aa_nil))) LA.aa_nil)))))))) LA.aa_nil))))))), fun ds ms Q E h => ?_⟩
  obtain ⟨z, rfl, hm, z1, z2, k⟩ := h
  walk_at "b"
  refine ⟨div2 (by omega), mulS (by omega), mulS (by omega), pick_i hm (by simp) (by simp) fun x hx => ?_⟩
  have hq : ∃ n : Int, x = .int n ∧ -(3 * z) ≤ n ∧ n ≤ 3 * z := by
    simp only [List.mem_cons, List.not_mem_nil, or_false] at hx
    rcases hx with h | h | h | h | h | h | h | h <;> exact ⟨_, h, by omega, by omega⟩
  obtain ⟨n, rfl, n1, n2⟩ := hq
  walk_at "b"
  refine ⟨powT (by decide) (by decide), below_i hm (by decide) (by decide) fun r r0 r1 => ?_⟩
  walk_at "b"
  refine pick_i hm (by simp) (by simp) fun x hx => ?_
  have hq : ∃ m : Int, x = .int m ∧ -1000000 ≤ m ∧ m ≤ 1000000 := by
    simp only [List.mem_cons, List.not_mem_nil, or_false] at hx
    rcases hx with h | h | h | h | h | h | h <;> exact ⟨_, h, by omega, by omega⟩
  obtain ⟨m, rfl, m1, m2⟩ := hq
  walk_at "b"
  exact k _ (by unfold big; omega)
def S_time : ASp := fun ds ms Q _ => ∃ z : Int, ds = [.ptr 0, .int z] ∧ ms[0]? = some .rng ∧ 1 ≤ z ∧ ∀ n : Int, 0 ≤ n → n < z → Q (.int n) ms
theorem ga__law_time (T : Txt K mg) : HX.GFn P w K mg base "_law_time" 3 ["_law_d", "_law_size"] (spA K S_time) := by
  have g__law_pick := ga__law_pick (P := P) (w := w) (base := base) T
  have g__law_below := ga__law_below (P := P) (w := w) (base := base) T
  refine LA.gfn_of T.d__law_time T.g__law_time sc__law_time (by intro ds ms Q E h; unfold S_time at h; repeat (first | (obtain ⟨rfl, _⟩ := h; rfl) | obtain ⟨_, h⟩ := h)) (fun _ _ _ _ _ _ us hl => match us, hl with | [_, _], _ => rfl) fun cdv A outer s H E hr => ⟨_, (LA.ass_one (LA.as_ret (LA.ae_bin LA.oa_mod (LA.ae_call HX.takesO g__law_pick (hr.mono (by first | decide | omega)) rfl (LA.aa_cons (LA.ae_var (pv 0)) (LA.aa_cons (LA.ae_lst (LA.aa_cons LA.ae_int (LA.aa_cons LA.ae_int (LA.aa_cons LA.ae_int (LA.aa_cons LA.ae_int (LA.aa_cons (LA.ae_bin LA.oa_div (LA.ae_var (pv 1)) LA.ae_int) (LA.aa_cons (LA.ae_bin LA.oa_sub (LA.ae_var (pv 1)) LA.ae_int) (LA.aa_cons (LA.ae_bin LA.oa_sub (LA.ae_var (pv 1)) LA.ae_int) (LA.aa_cons (LA.ae_call HX.takesO g__law_below (hr.mono (by first | decide | omega)) rfl (LA.aa_cons (LA.ae_var (pv 0)) (LA.aa_cons (LA.ae_bin LA.oa_pow LA.ae_int LA.ae_int) LA.aa_nil))) LA.aa_nil))))))))) LA.aa_nil))) (LA.ae_var (pv 1))))), fun ds ms Q E h => ?_⟩
  obtain ⟨z, rfl, hm, z1, k⟩ := h
  walk_at "b"
  refine ⟨div2 (by omega), powT (by decide) (by decide), below_i hm (by decide) (by decide) fun r r0 r1 => ?_⟩
  walk_at "b"
  refine pick_i hm (by simp) (by simp) fun x hx => ?_
  have hq : ∃ n : Int, x = .int n := by
    simp only [List.mem_cons, List.not_mem_nil, or_false] at hx
    rcases hx with h | h | h | h | h | h | h | h <;> exact ⟨_, h⟩
  obtain ⟨n, rfl⟩ := hq
  walk_at "b"
  exact ⟨by omega, k _ (Int.emod_nonneg _ (by omega)) (Int.emod_lt_of_pos _ (by omega))⟩
end

end LW
namespace LW
open PySem PySem.Spec PyProof.Rows L2
open LA
/-! random programs -/
section
variable {P : Program} {w : World} {K : PySem.W.Frag} {mg : Str → Option Value} {base : Heap}
def S_names : ASp := fun ds ms Q _ => ∃ m : Int, ds = [.ptr 0, .int m] ∧ ms[0]? = some .rng ∧ 1 ≤ m ∧ m ≤ 4 ∧ ∀ ns, NsOk ns → ("extra" : Str) ∉ ns → Q (nsD ns) ms
theorem ns_ok (s : Nat) (hs : s < 7) (m : Nat) (h1 : 1 ≤ m) (h2 : m ≤ 4) : NsOk ((pool7.drop s ++ pool7.take s).take m) := by
  have hs' : s = 0 ∨ s = 1 ∨ s = 2 ∨ s = 3 ∨ s = 4 ∨ s = 5 ∨ s = 6 := by omega
  have hm' : m = 1 ∨ m = 2 ∨ m = 3 ∨ m = 4 := by omega
  rcases hs' with rfl | rfl | rfl | rfl | rfl | rfl | rfl <;> rcases hm' with rfl | rfl | rfl | rfl <;> refine ⟨by decide, by decide, ?_, ?_⟩ <;> simp [good, pool7, LA.str_eq]
theorem ns_noX (s m : Nat) : ("extra" : Str) ∉ (pool7.drop s ++ pool7.take s).take m := fun h => by
  have h := List.mem_of_mem_take h
  have : ("extra" : Str) ∈ pool7 := (List.mem_append.mp h).elim List.mem_of_mem_drop List.mem_of_mem_take
  simp [pool7, LA.str_eq] at this
theorem ga__law_names (T : Txt K mg) : HX.GFn P w K mg base "_law_names" 2 ["_law_d", "_law_many"] (spA K S_names) := by
  have g__law_below := ga__law_below (P := P) (w := w) (base := base) T
  refine LA.gfn_of T.d__law_names T.g__law_names sc__law_names (by intro ds ms Q E h; unfold S_names at h; repeat (first | (obtain ⟨rfl, _⟩ := h; rfl) | obtain ⟨_, h⟩ := h)) (fun _ _ _ _ _ _ us hl => match us, hl with | [_, _], _ => rfl) fun cdv A outer s H E hr => ⟨_, (LA.ass_cons (LA.as_set (i := 2) sc__law_names.nd rfl (Or.inl rfl) (LA.ae_lst (LA.aa_cons LA.ae_str (LA.aa_cons LA.ae_str (LA.aa_cons LA.ae_str (LA.aa_cons LA.ae_str (LA.aa_cons LA.ae_str (LA.aa_cons LA.ae_str (LA.aa_cons LA.ae_str LA.aa_nil)))))))))
  (LA.ass_cons (LA.as_set (i := 3) sc__law_names.nd rfl (Or.inl rfl) (LA.ae_call HX.takesO g__law_below (hr.mono (by first | decide | omega)) rfl (LA.aa_cons (LA.ae_var (pv 0)) (LA.aa_cons LA.ae_int LA.aa_nil))))
  (LA.ass_one (LA.as_ret (LA.ae_callTy LA.ca_tuple rfl T.n_tuple (by decide +kernel) (LA.aa_cons (LA.ae_slice (LA.ae_bin LA.oa_add (LA.ae_slice (LA.ae_var (pv 2)) (LA.ao_some (LA.ae_var (pv 3))) LA.ao_none) (LA.ae_slice (LA.ae_var (pv 2)) LA.ao_none (LA.ao_some (LA.ae_var (pv 3))))) LA.ao_none (LA.ao_some (LA.ae_var (pv 1)))) LA.aa_nil)))))), fun ds ms Q E h => ?_⟩
  obtain ⟨m, rfl, hm, m1, m2, k⟩ := h
  walk_at "b"
  refine below_i hm (by decide) (by decide) fun r r0 r1 => ?_
  have hr : r = 0 ∨ r = 1 ∨ r = 2 ∨ r = 3 ∨ r = 4 ∨ r = 5 ∨ r = 6 := by omega
  have hk := k _ (ns_ok r.toNat (by omega) m.toNat (by omega) (by omega)) (ns_noX _ _)
  have hm' : m = 1 ∨ m = 2 ∨ m = 3 ∨ m = 4 := by omega
  rcases hr with rfl | rfl | rfl | rfl | rfl | rfl | rfl <;> rcases hm' with rfl | rfl | rfl | rfl <;> (walk_at "a"; exact hk)
/-- what all of them are given -/
structure Gn (ms : MS) (ns : List Str) (z : Int) : Prop where
  hm : ms[0]? = some .rng
  ns : NsOk ns
  z1 : 1 ≤ z
  z2 : z ≤ 10 ^ 41
variable {ms : MS} {ns : List Str} {z : Int} {Q : D → MS → Prop} {E : XD → MS → Prop}
theorem Gn.amount {t : Tag Q E} (g : Gn ms ns z) (k : ∀ n : Int, n.natAbs < big → Q (.int n) ms) : DoCall (S_amount) [.ptr 0, .int z] ms Q E t := ⟨z, rfl, g.hm, g.z1, g.z2, k⟩
theorem Gn.name {t : Tag Q E} (g : Gn ms ns z) (k : ∀ n, n ∈ ns → Q (.str n) ms) : DoCall (S_pick) [.ptr 0, .lst (ns.map D.str)] ms Q E t := pick_i g.hm (by rw [List.length_map]; exact g.ns.1) (by rw [List.length_map]; have := g.ns.2.1; omega) fun x hx => by
  obtain ⟨n, hn, rfl⟩ := List.mem_map.mp hx
  exact k n hn
/-- p is a point of the names, of depth n -/
def PtN (ns : List Str) (n : Nat) (p : Pa) : Prop := p.pt ns ∧ p.cnt ≤ n + 1 ∧ p.dep ≤ n
def S_point (n : Nat) : ASp := fun ds ms Q _ => 0 < n ∧ ∃ (ns : List Str) (z deep : Int), ds = [.ptr 0, nsD ns, .int z, .int deep] ∧ Gn ms ns z ∧ 0 ≤ deep ∧ deep < n ∧ ∀ p, PtN ns deep.toNat p → Q p.d ms
theorem ga__law_point (T : Txt K mg) : ∀ n : Nat, HX.GFn P w K mg base "_law_point" (n + 4) ["_law_d", "_law_names_here", "_law_size", "_law_deep"] (spA K (S_point n))
  | 0 => LA.gfn_none T.d__law_point T.g__law_point sc__law_point (fun _ _ _ _ _ _ us hl => match us, hl with | [_, _, _, _], _ => rfl) (fun ds ms Q E h => Nat.lt_irrefl 0 h.1)
  | n + 1 => by
    have g__law_point := ga__law_point T n
    have g__law_below := ga__law_below (P := P) (w := w) (base := base) T
    have g__law_amount := ga__law_amount (P := P) (w := w) (base := base) T
    have g__law_pick := ga__law_pick (P := P) (w := w) (base := base) T
    refine LA.gfn_of T.d__law_point T.g__law_point sc__law_point (by intro ds ms Q E h; unfold S_point at h; repeat (first | (obtain ⟨rfl, _⟩ := h; rfl) | obtain ⟨_, h⟩ := h)) (fun _ _ _ _ _ _ us hl => match us, hl with | [_, _, _, _], _ => rfl) fun cdv A outer s H E hr => ⟨_, (LA.ass_cons (LA.as_set (i := 4) sc__law_point.nd rfl (Or.inl rfl) (LA.ae_call HX.takesO g__law_below (hr.mono (by first | decide | omega)) rfl (LA.aa_cons (LA.ae_var (pv 0)) (LA.aa_cons LA.ae_int LA.aa_nil))))
  (LA.ass_cons (LA.as_if (LA.at_bool (LA.aw_and (LA.at_cmp LA.oa_gt (LA.ae_var (pv 3)) LA.ae_int (nomark _)) (LA.aw_and1 (LA.at_cmp (LA.oa_eq hr.units) (LA.ae_var (pv 4)) LA.ae_int (nomark _))))) (LA.ass_one (LA.as_ret (LA.ae_tup (LA.aa_cons LA.ae_str (LA.aa_cons (LA.ae_call HX.takesO g__law_point (hr.mono (by first | decide | omega)) rfl (LA.aa_cons (LA.ae_var (pv 0)) (LA.aa_cons (LA.ae_var (pv 1)) (LA.aa_cons (LA.ae_var (pv 2)) (LA.aa_cons (LA.ae_bin LA.oa_sub (LA.ae_var (pv 3)) LA.ae_int) LA.aa_nil))))) LA.aa_nil))))) LA.ass_nil)
  (LA.ass_cons (LA.as_if (LA.at_bool (LA.aw_and (LA.at_cmp LA.oa_gt (LA.ae_var (pv 3)) LA.ae_int (nomark _)) (LA.aw_and1 (LA.at_cmp LA.oa_lt (LA.ae_var (pv 4)) LA.ae_int (nomark _))))) (LA.ass_one (LA.as_ret (LA.ae_tup (LA.aa_cons LA.ae_str (LA.aa_cons (LA.ae_call HX.takesO g__law_point (hr.mono (by first | decide | omega)) rfl (LA.aa_cons (LA.ae_var (pv 0)) (LA.aa_cons (LA.ae_var (pv 1)) (LA.aa_cons (LA.ae_var (pv 2)) (LA.aa_cons (LA.ae_bin LA.oa_sub (LA.ae_var (pv 3)) LA.ae_int) LA.aa_nil))))) (LA.aa_cons (LA.ae_call HX.takesO g__law_amount (hr.mono (by first | decide | omega)) rfl (LA.aa_cons (LA.ae_var (pv 0)) (LA.aa_cons (LA.ae_var (pv 2)) LA.aa_nil))) LA.aa_nil)))))) LA.ass_nil)
  (LA.ass_cons (LA.as_if (LA.at_cmp (LA.oa_eq hr.units) (LA.ae_var (pv 4)) LA.ae_int (nomark _)) (LA.ass_one (LA.as_ret (LA.ae_tup (LA.aa_cons LA.ae_str (LA.aa_cons (LA.ae_call HX.takesO g__law_amount (hr.mono (by first | decide | omega)) rfl (LA.aa_cons (LA.ae_var (pv 0)) (LA.aa_cons (LA.ae_var (pv 2)) LA.aa_nil))) LA.aa_nil))))) LA.ass_nil)
  (LA.ass_cons (LA.as_if (LA.at_cmp (LA.oa_eq hr.units) (LA.ae_var (pv 4)) LA.ae_int (nomark _)) (LA.ass_one (LA.as_ret (LA.ae_tup (LA.aa_cons LA.ae_str LA.aa_nil)))) LA.ass_nil)
  (LA.ass_one (LA.as_ret (LA.ae_tup (LA.aa_cons LA.ae_str (LA.aa_cons (LA.ae_call HX.takesO g__law_pick (hr.mono (by first | decide | omega)) rfl (LA.aa_cons (LA.ae_var (pv 0)) (LA.aa_cons (LA.ae_callTy LA.ca_list rfl T.n_list (by decide +kernel) (LA.aa_cons (LA.ae_var (pv 1)) LA.aa_nil)) LA.aa_nil))) LA.aa_nil)))))))))), fun ds ms Q E h => ?_⟩
    obtain ⟨_, ns, z, deep, rfl, hg, d0, d1, k⟩ := h
    have hl := hg.ns.2.1
    have hl1 := hg.ns.1
    simp only [nsD_list] at *
    walk_at "b"
    refine below_i hg.hm (by decide) (by decide) fun r r0 r1 => ?_
    walk_at "d"
    · refine ⟨by omega, ns, z, deep - 1, rfl, hg, by omega, by omega, fun p hp => ?_⟩
      walk_at "b"
      exact k (.wrap p) ⟨⟨hp.1.1, hp.1.2⟩, by have := hp.2.1; simp only [Pa.cnt]; omega, by have := hp.2.2; simp only [Pa.dep]; omega⟩
    · refine ⟨by omega, ns, z, deep - 1, rfl, hg, by omega, by omega, fun p hp => ?_⟩
      walk_at "b"
      refine hg.amount fun m hm => ?_
      walk_at "b"
      exact k (.plus p m) ⟨⟨hp.1.1, hp.1.2, hm⟩, by have := hp.2.1; simp only [Pa.cnt]; omega, by have := hp.2.2; simp only [Pa.dep]; omega⟩
    · exact hg.amount fun m hm => by walk_at "b"; exact k (.at m) ⟨⟨rfl, hm⟩, Nat.le_add_left _ _, Nat.zero_le _⟩
    · exact k .mid ⟨⟨rfl, trivial⟩, Nat.le_add_left _ _, Nat.zero_le _⟩
    · exact hg.name fun m hm => by walk_at "b"; exact k (.time m) ⟨⟨rfl, hm⟩, Nat.le_add_left _ _, Nat.zero_le _⟩
    · exact hg.amount fun m hm => by walk_at "b"; exact k (.at m) ⟨⟨rfl, hm⟩, Nat.le_add_left _ _, Nat.zero_le _⟩
    · exact k .mid ⟨⟨rfl, trivial⟩, Nat.le_add_left _ _, Nat.zero_le _⟩
    · exact hg.name fun m hm => by walk_at "b"; exact k (.time m) ⟨⟨rfl, hm⟩, Nat.le_add_left _ _, Nat.zero_le _⟩
theorem Gn.point {t : Tag Q E} (g : Gn ms ns z) {n : Nat} {deep : Int} (h0 : 0 ≤ deep) (h1 : deep < n) (k : ∀ p, PtN ns deep.toNat p → Q p.d ms) : DoCall (S_point n) [.ptr 0, .tup (ns.map D.str), .int z, .int deep] ms Q E t := ⟨by omega, ns, z, deep, rfl, g, h0, h1, k⟩
/-- a part with a sum or a wrap about it -/
structure Dressed (ns : List Str) (p q : Pa) : Prop where
  kp : q.kp = p.kp
  wf : p.wf ns → q.wf ns
  rd : q.rd = p.rd
  cnt : q.cnt ≤ p.cnt + 2
  dep : q.dep ≤ p.dep + 2
def S_dressed : ASp := fun ds ms Q _ => ∃ (ns : List Str) (z : Int) (p : Pa), ds = [.ptr 0, p.d, .int z] ∧ Gn ms ns z ∧ ∀ q, Dressed ns p q → Q q.d ms
theorem ga__law_dressed (T : Txt K mg) : HX.GFn P w K mg base "_law_dressed" 4 ["_law_d", "_law_part", "_law_size"] (spA K S_dressed) := by
  have g__law_below := ga__law_below (P := P) (w := w) (base := base) T
  have g__law_amount := ga__law_amount (P := P) (w := w) (base := base) T
  refine LA.gfn_of T.d__law_dressed T.g__law_dressed sc__law_dressed (by intro ds ms Q E h; unfold S_dressed at h; repeat (first | (obtain ⟨rfl, _⟩ := h; rfl) | obtain ⟨_, h⟩ := h)) (fun _ _ _ _ _ _ us hl => match us, hl with | [_, _, _], _ => rfl) fun cdv A outer s H E hr => ⟨_, (LA.ass_cons (LA.as_set (i := 3) sc__law_dressed.nd rfl (Or.inl rfl) (LA.ae_call HX.takesO g__law_below (hr.mono (by first | decide | omega)) rfl (LA.aa_cons (LA.ae_var (pv 0)) (LA.aa_cons LA.ae_int LA.aa_nil))))
  (LA.ass_cons (LA.as_if (LA.at_cmp (LA.oa_eq hr.units) (LA.ae_var (pv 3)) LA.ae_int (nomark _)) (LA.ass_one (LA.as_ret (LA.ae_tup (LA.aa_cons LA.ae_str (LA.aa_cons (LA.ae_tup (LA.aa_cons LA.ae_str (LA.aa_cons (LA.ae_var (pv 1)) (LA.aa_cons (LA.ae_call HX.takesO g__law_amount (hr.mono (by first | decide | omega)) rfl (LA.aa_cons (LA.ae_var (pv 0)) (LA.aa_cons (LA.ae_var (pv 2)) LA.aa_nil))) LA.aa_nil)))) LA.aa_nil))))) LA.ass_nil)
  (LA.ass_cons (LA.as_if (LA.at_cmp LA.oa_lt (LA.ae_var (pv 3)) LA.ae_int (nomark _)) (LA.ass_one (LA.as_ret (LA.ae_tup (LA.aa_cons LA.ae_str (LA.aa_cons (LA.ae_var (pv 1)) LA.aa_nil))))) LA.ass_nil)
  (LA.ass_cons (LA.as_if (LA.at_cmp (LA.oa_eq hr.units) (LA.ae_var (pv 3)) LA.ae_int (nomark _)) (LA.ass_one (LA.as_ret (LA.ae_tup (LA.aa_cons LA.ae_str (LA.aa_cons (LA.ae_var (pv 1)) (LA.aa_cons (LA.ae_call HX.takesO g__law_amount (hr.mono (by first | decide | omega)) rfl (LA.aa_cons (LA.ae_var (pv 0)) (LA.aa_cons (LA.ae_var (pv 2)) LA.aa_nil))) LA.aa_nil)))))) LA.ass_nil)
  (LA.ass_one (LA.as_ret (LA.ae_var (pv 1)))))))), fun ds ms Q E h => ?_⟩
  obtain ⟨ns, z, p, rfl, hg, k⟩ := h
  walk_at "b"
  refine below_i hg.hm (by decide) (by decide) fun r r0 r1 => ?_
  walk_at "d"
  · exact hg.amount fun m hm => by walk_at "b"; exact k (.wrap (.plus p m)) ⟨rfl, fun h => ⟨h, hm⟩, rfl, Nat.le_refl _, Nat.le_refl _⟩
  · exact k (.wrap p) ⟨rfl, fun h => h, rfl, Nat.le_succ _, Nat.le_succ _⟩
  · exact hg.amount fun m hm => by walk_at "b"; exact k (.plus p m) ⟨rfl, fun h => ⟨h, hm⟩, rfl, Nat.le_succ _, Nat.le_succ _⟩
  · exact k p ⟨rfl, fun h => h, rfl, Nat.le_add_right _ _, Nat.le_add_right _ _⟩
theorem Gn.dressed {t : Tag Q E} (g : Gn ms ns z) (p : Pa) (k : ∀ q, Dressed ns p q → Q q.d ms) : DoCall (S_dressed) [.ptr 0, p.d, .int z] ms Q E t := ⟨ns, z, p, rfl, g, k⟩
/-- p is a span of the names -/
def SpN (ns : List Str) (p : Pa) : Prop := p.sp ns ∧ p.cnt ≤ 7 ∧ p.dep ≤ 4
def S_span : ASp := fun ds ms Q _ => ∃ (ns : List Str) (z : Int), ds = [.ptr 0, nsD ns, .int z] ∧ Gn ms ns z ∧ ∀ p, SpN ns p → Q p.d ms
theorem SpN.of {ns : List Str} {p q r : Pa} (hp : PtN ns 1 p) (hq : PtN ns 1 q) (h : Dressed ns (.minus p q) r) : SpN ns r := by
  refine ⟨⟨h.kp, h.wf ⟨hp.1.1, hq.1.1, hp.1.2, hq.1.2⟩⟩, ?_, ?_⟩
  · have := h.cnt; have := hp.2.1; have := hq.2.1; simp only [Pa.cnt] at *; omega
  · have := h.dep; have := hp.2.2; have := hq.2.2; simp only [Pa.dep] at *; omega
theorem SpN.fr {ns : List Str} {m : Int} {r : Pa} (hm : m.natAbs < big) (h : Dressed ns (.spn m) r) : SpN ns r :=
  ⟨⟨h.kp, h.wf hm⟩, Nat.le_trans h.cnt (by simp [Pa.cnt]), Nat.le_trans h.dep (by simp [Pa.dep])⟩
theorem ga__law_span (T : Txt K mg) : HX.GFn P w K mg base "_law_span" 8 ["_law_d", "_law_names_here", "_law_size"] (spA K S_span) := by
  have g__law_below := ga__law_below (P := P) (w := w) (base := base) T
  have g__law_amount := ga__law_amount (P := P) (w := w) (base := base) T
  have g__law_point := ga__law_point (P := P) (w := w) (base := base) T 3
  have g__law_dressed := ga__law_dressed (P := P) (w := w) (base := base) T
  refine LA.gfn_of T.d__law_span T.g__law_span sc__law_span (by intro ds ms Q E h; unfold S_span at h; repeat (first | (obtain ⟨rfl, _⟩ := h; rfl) | obtain ⟨_, h⟩ := h)) (fun _ _ _ _ _ _ us hl => match us, hl with | [_, _, _], _ => rfl) fun cdv A outer s H E hr => ⟨_, (LA.ass_cons (LA.as_if (LA.at_cmp (LA.oa_eq hr.units) (LA.ae_call HX.takesO g__law_below (hr.mono (by first | decide | omega)) rfl (LA.aa_cons (LA.ae_var (pv 0)) (LA.aa_cons LA.ae_int LA.aa_nil))) LA.ae_int (nomark _)) (LA.ass_one (LA.as_ret (LA.ae_tup (LA.aa_cons LA.ae_str (LA.aa_cons (LA.ae_call HX.takesO g__law_amount (hr.mono (by first | decide | omega)) rfl (LA.aa_cons (LA.ae_var (pv 0)) (LA.aa_cons (LA.ae_var (pv 2)) LA.aa_nil))) LA.aa_nil))))) LA.ass_nil)
  (LA.ass_cons (LA.as_set (i := 3) sc__law_span.nd rfl (Or.inl rfl) (LA.ae_tup (LA.aa_cons LA.ae_str (LA.aa_cons (LA.ae_call HX.takesO g__law_point (hr.mono (by first | decide | omega)) rfl (LA.aa_cons (LA.ae_var (pv 0)) (LA.aa_cons (LA.ae_var (pv 1)) (LA.aa_cons (LA.ae_var (pv 2)) (LA.aa_cons LA.ae_int LA.aa_nil))))) (LA.aa_cons (LA.ae_call HX.takesO g__law_point (hr.mono (by first | decide | omega)) rfl (LA.aa_cons (LA.ae_var (pv 0)) (LA.aa_cons (LA.ae_var (pv 1)) (LA.aa_cons (LA.ae_var (pv 2)) (LA.aa_cons LA.ae_int LA.aa_nil))))) LA.aa_nil)))))
  (LA.ass_one (LA.as_ret (LA.ae_call HX.takesO g__law_dressed (hr.mono (by first | decide | omega)) rfl (LA.aa_cons (LA.ae_var (pv 0)) (LA.aa_cons (LA.ae_var (pv 3)) (LA.aa_cons (LA.ae_var (pv 2)) LA.aa_nil)))))))), fun ds ms Q E h => ?_⟩
  obtain ⟨ns, z, rfl, hg, k⟩ := h
  simp only [nsD_list] at *
  walk_at "b"
  refine below_i hg.hm (by decide) (by decide) fun r r0 r1 => ?_
  walk_at "d"
  · exact hg.amount fun m hm => by walk_at "b"; exact k (.spn m) ⟨⟨rfl, hm⟩, by simp [Pa.cnt], by simp [Pa.dep]⟩
  · refine hg.point (by decide) (by decide) fun p hp => ?_
    walk_at "b"
    refine hg.point (by decide) (by decide) fun q hq => ?_
    walk_at "b"
    exact hg.dressed (.minus p q) fun r hr => by walk_at "b"; exact k r (.of hp hq hr)
theorem Gn.span {t : Tag Q E} (g : Gn ms ns z) (k : ∀ p, SpN ns p → Q p.d ms) : DoCall (S_span) [.ptr 0, .tup (ns.map D.str), .int z] ms Q E t := ⟨ns, z, rfl, g, k⟩
end

end LW
namespace LW
open PySem PySem.Spec PyProof.Rows L2
open LA
section
variable {P : Program} {w : World} {K : PySem.W.Frag} {mg : Str → Option Value} {base : Heap}
variable {ms : MS} {ns : List Str} {z : Int} {Q : D → MS → Prop} {E : XD → MS → Prop}
/-- a point's reading -/
def rdo : Option Str → Rd
  | none => []
  | some x => [(x, 1)]
theorem rd_pt : ∀ {p : Pa}, p.kp = true → ∃ o, p.rd = rdo o
  | .time n, _ => ⟨some n, rfl⟩
  | .mid, _ => ⟨none, rfl⟩
  | .at _, _ => ⟨none, rfl⟩
  | .spn _, h => by simp [Pa.kp] at h
  | .minus _ _, h => by simp [Pa.kp] at h
  | .plus p _, h => rd_pt (p := p) h
  | .wrap p, h => rd_pt (p := p) h
theorem less_rdo (a b : Option Str) : (rdo a).less (rdo b) = match a, b with
    | none, none => []
    | some x, none => [(x, 1)]
    | none, some y => [(y, -1)]
    | some x, some y => if x = y then [] else [(x, 1), (y, -1)] := by
  cases a with
  | none => cases b with
    | none => rfl
    | some y => simp [rdo, Rd.less, Rd.lessL, Rd.get, Rd.put, List.lookup]
  | some x => cases b with
    | none => simp [rdo, Rd.less, Rd.lessL, Rd.get, Rd.put, List.lookup]
    | some y =>
      by_cases h : x = y
      · subst h; simp [rdo, Rd.less, Rd.lessL, Rd.get, Rd.put, List.lookup]
      · have h' : ¬ y = x := fun e => h e.symm
        have e1 : (x == y) = false := beq_eq_false_iff_ne.mpr h
        have e2 : (y == x) = false := beq_eq_false_iff_ne.mpr h'
        simp [rdo, Rd.less, Rd.lessL, Rd.get, Rd.put, List.lookup, e1, e2, h, h']
theorem simpC (a b : Option Str) : Simp (((rdo a).less (rdo b)).less []) := by
  rw [less_rdo]
  rcases a with _ | x <;> rcases b with _ | y
  · exact .nil
  · simp [Rd.less, Rd.lessL, Rd.get, Rd.put, List.lookup]; exact .one _ _ (by simp)
  · simp [Rd.less, Rd.lessL, Rd.get, Rd.put, List.lookup]; exact .one _ _ (by simp)
  · by_cases h : x = y
    · simp [h, Rd.less, Rd.lessL]; exact .nil
    · have h' : ¬ y = x := fun e => h e.symm
      have e1 : (x == y) = false := beq_eq_false_iff_ne.mpr h
      have e2 : (y == x) = false := beq_eq_false_iff_ne.mpr h'
      simp [h, h', e1, e2, Rd.less, Rd.lessL, Rd.get, Rd.put, List.lookup]
      exact .two x y 1 (by simp) h
theorem simpB (a b : Option Str) : Simp (((rdo a).less (rdo b)).less ((rdo b).less (rdo a))) := by
  rw [less_rdo, less_rdo]
  rcases a with _ | x <;> rcases b with _ | y
  · exact .nil
  · simp [Rd.less, Rd.lessL, Rd.get, Rd.put, List.lookup]; exact .one _ _ (by simp)
  · simp [Rd.less, Rd.lessL, Rd.get, Rd.put, List.lookup]; exact .one _ _ (by simp)
  · by_cases h : x = y
    · simp [h, Rd.less, Rd.lessL]; exact .nil
    · have h' : ¬ y = x := fun e => h e.symm
      have e1 : (x == y) = false := beq_eq_false_iff_ne.mpr h
      have e2 : (y == x) = false := beq_eq_false_iff_ne.mpr h'
      simp [h, h', e1, e2, Rd.less, Rd.lessL, Rd.get, Rd.put, List.lookup]
      exact .two x y 2 (by simp) h
theorem eqs (x y : Str) : x = y ∨ ((x == y) = false ∧ (y == x) = false ∧ ¬ x = y ∧ ¬ y = x) := by
  by_cases h : x = y
  · exact .inl h
  · have h' : ¬ y = x := fun e => h e.symm
    exact .inr ⟨beq_eq_false_iff_ne.mpr h, beq_eq_false_iff_ne.mpr h', h, h'⟩
theorem simpA (a b c : Option Str) : Simp (((rdo a).less (rdo b)).less ((rdo a).less (rdo c))) := by
  rw [less_rdo, less_rdo]
  rcases a with _ | x <;> rcases b with _ | y <;> rcases c with _ | u <;> dsimp only
  · exact .nil
  · simp [Rd.less, Rd.lessL, Rd.get, Rd.put, List.lookup]; exact .one _ _ (by simp)
  · simp [Rd.less, Rd.lessL, Rd.get, Rd.put, List.lookup]; exact .one _ _ (by simp)
  · rcases eqs y u with rfl | ⟨e1, e2, e3, e4⟩
    · simp [Rd.less, Rd.lessL, Rd.get, Rd.put, List.lookup]; exact .nil
    · simp [Rd.less, Rd.lessL, Rd.get, Rd.put, List.lookup, e1, e2, e3, e4]; exact .two _ _ (-1) (by simp) e3
  · simp [Rd.less, Rd.lessL, Rd.get, Rd.put, List.lookup]; exact .nil
  · rcases eqs x u with rfl | ⟨e1, e2, e3, e4⟩
    · simp [Rd.less, Rd.lessL, Rd.get, Rd.put, List.lookup]; exact .one _ _ (by simp)
    · simp [Rd.less, Rd.lessL, Rd.get, Rd.put, List.lookup, e1, e2, e3, e4]; exact .one _ _ (by simp)
  · rcases eqs x y with rfl | ⟨e1, e2, e3, e4⟩
    · simp [Rd.less, Rd.lessL, Rd.get, Rd.put, List.lookup]; exact .one _ _ (by simp)
    · simp [Rd.less, Rd.lessL, Rd.get, Rd.put, List.lookup, e1, e2, e3, e4]; exact .one _ _ (by simp)
  · rcases eqs x y with rfl | ⟨e1, e2, e3, e4⟩
    · rcases eqs x u with rfl | ⟨f1, f2, f3, f4⟩
      · simp [Rd.less, Rd.lessL]; exact .nil
      · simp [Rd.less, Rd.lessL, Rd.get, Rd.put, List.lookup, f1, f2, f3, f4]; exact .two _ _ (-1) (by simp) f3
    · rcases eqs x u with rfl | ⟨f1, f2, f3, f4⟩
      · simp [Rd.less, Rd.lessL, Rd.get, Rd.put, List.lookup, e1, e2, e3, e4]; exact .two _ _ 1 (by simp) e3
      · rcases eqs y u with rfl | ⟨g1, g2, g3, g4⟩
        · simp [Rd.less, Rd.lessL, Rd.get, Rd.put, List.lookup, e1, e2, e3, e4]; exact .nil
        · simp [Rd.less, Rd.lessL, Rd.get, Rd.put, List.lookup, e1, e2, e3, e4, f1, f2, f3, f4, g1, g2, g3, g4]; exact .two _ _ (-1) (by simp) g3
theorem simpD (a b c : Option Str) : Simp (((rdo b).less (rdo a)).less ((rdo c).less (rdo a))) := by
  rw [less_rdo, less_rdo]
  rcases a with _ | x <;> rcases b with _ | y <;> rcases c with _ | u <;> dsimp only
  · exact .nil
  · simp [Rd.less, Rd.lessL, Rd.get, Rd.put, List.lookup]; exact .one _ _ (by simp)
  · simp [Rd.less, Rd.lessL, Rd.get, Rd.put, List.lookup]; exact .one _ _ (by simp)
  · rcases eqs y u with rfl | ⟨e1, e2, e3, e4⟩
    · simp [Rd.less, Rd.lessL, Rd.get, Rd.put, List.lookup]; exact .nil
    · simp [Rd.less, Rd.lessL, Rd.get, Rd.put, List.lookup, e1, e2, e3, e4]; exact .two _ _ 1 (by simp) e3
  · simp [Rd.less, Rd.lessL, Rd.get, Rd.put, List.lookup]; exact .nil
  · rcases eqs x u with rfl | ⟨e1, e2, e3, e4⟩
    · simp [Rd.less, Rd.lessL, Rd.get, Rd.put, List.lookup]; exact .one _ _ (by simp)
    · simp [Rd.less, Rd.lessL, Rd.get, Rd.put, List.lookup, e1, e2, e3, e4]; exact .one _ _ (by simp)
  · rcases eqs x y with rfl | ⟨e1, e2, e3, e4⟩
    · simp [Rd.less, Rd.lessL, Rd.get, Rd.put, List.lookup]; exact .one _ _ (by simp)
    · simp [Rd.less, Rd.lessL, Rd.get, Rd.put, List.lookup, e1, e2, e3, e4]; exact .one _ _ (by simp)
  · rcases eqs x y with rfl | ⟨e1, e2, e3, e4⟩
    · rcases eqs x u with rfl | ⟨f1, f2, f3, f4⟩
      · simp [Rd.less, Rd.lessL]; exact .nil
      · simp [Rd.less, Rd.lessL, Rd.get, Rd.put, List.lookup, f1, f2, f3, f4]; exact .two _ _ (-1) (by simp) f4
    · rcases eqs x u with rfl | ⟨f1, f2, f3, f4⟩
      · simp [Rd.less, Rd.lessL, Rd.get, Rd.put, List.lookup, e1, e2, e3, e4]; exact .two _ _ 1 (by simp) e4
      · rcases eqs y u with rfl | ⟨g1, g2, g3, g4⟩
        · simp [Rd.less, Rd.lessL, Rd.get, Rd.put, List.lookup, e1, e2, e3, e4]; exact .nil
        · simp [Rd.less, Rd.lessL, Rd.get, Rd.put, List.lookup, e1, e2, e3, e4, f1, f2, f3, f4, g1, g2, g3, g4]; exact .two _ _ 1 (by simp) g3
def S_shorter : ASp := fun ds ms Q _ => ∃ (ns : List Str) (z : Int), ds = [.ptr 0, nsD ns, .int z] ∧ Gn ms ns z ∧ ∀ p q, SpN ns p → SpN ns q → Simp (p.rd.less q.rd) → Q (Co.shorter p q).d ms
theorem ga__law_shorter (T : Txt K mg) : HX.GFn P w K mg base "_law_shorter" 8 ["_law_d", "_law_names_here", "_law_size"] (spA K S_shorter) := by
  have g__law_point := ga__law_point (P := P) (w := w) (base := base) T 3
  have g__law_pick := ga__law_pick (P := P) (w := w) (base := base) T
  have g__law_amount := ga__law_amount (P := P) (w := w) (base := base) T
  have g__law_below := ga__law_below (P := P) (w := w) (base := base) T
  have g__law_dressed := ga__law_dressed (P := P) (w := w) (base := base) T
  refine LA.gfn_of T.d__law_shorter T.g__law_shorter sc__law_shorter (by intro ds ms Q E h; unfold S_shorter at h; repeat (first | (obtain ⟨rfl, _⟩ := h; rfl) | obtain ⟨_, h⟩ := h)) (fun _ _ _ _ _ _ us hl => match us, hl with | [_, _, _], _ => rfl) fun cdv A outer s H E hr => ⟨_, (LA.ass_cons (LA.as_set (i := 3) sc__law_shorter.nd rfl (Or.inl rfl) (LA.ae_call HX.takesO g__law_point (hr.mono (by first | decide | omega)) rfl (LA.aa_cons (LA.ae_var (pv 0)) (LA.aa_cons (LA.ae_var (pv 1)) (LA.aa_cons (LA.ae_var (pv 2)) (LA.aa_cons LA.ae_int LA.aa_nil))))))
  (LA.ass_cons (LA.as_set (i := 4) sc__law_shorter.nd rfl (Or.inl rfl) (LA.ae_call HX.takesO g__law_point (hr.mono (by first | decide | omega)) rfl (LA.aa_cons (LA.ae_var (pv 0)) (LA.aa_cons (LA.ae_var (pv 1)) (LA.aa_cons (LA.ae_var (pv 2)) (LA.aa_cons LA.ae_int LA.aa_nil))))))
  (LA.ass_cons (LA.as_set (i := 5) sc__law_shorter.nd rfl (Or.inl rfl) (LA.ae_call HX.takesO g__law_point (hr.mono (by first | decide | omega)) rfl (LA.aa_cons (LA.ae_var (pv 0)) (LA.aa_cons (LA.ae_var (pv 1)) (LA.aa_cons (LA.ae_var (pv 2)) (LA.aa_cons LA.ae_int LA.aa_nil))))))
  (LA.ass_cons (LA.as_set (i := 6) sc__law_shorter.nd rfl (Or.inl rfl) (LA.ae_tup (LA.aa_cons LA.ae_str (LA.aa_cons (LA.ae_var (pv 3)) (LA.aa_cons (LA.ae_var (pv 4)) LA.aa_nil)))))
  (LA.ass_cons (LA.as_set (i := 7) sc__law_shorter.nd rfl (Or.inl rfl) (LA.ae_call HX.takesO g__law_pick (hr.mono (by first | decide | omega)) rfl (LA.aa_cons (LA.ae_var (pv 0)) (LA.aa_cons (LA.ae_lst (LA.aa_cons (LA.ae_tup (LA.aa_cons LA.ae_str (LA.aa_cons (LA.ae_var (pv 3)) (LA.aa_cons (LA.ae_var (pv 5)) LA.aa_nil)))) (LA.aa_cons (LA.ae_tup (LA.aa_cons LA.ae_str (LA.aa_cons (LA.ae_var (pv 4)) (LA.aa_cons (LA.ae_var (pv 3)) LA.aa_nil)))) (LA.aa_cons (LA.ae_tup (LA.aa_cons LA.ae_str (LA.aa_cons (LA.ae_call HX.takesO g__law_amount (hr.mono (by first | decide | omega)) rfl (LA.aa_cons (LA.ae_var (pv 0)) (LA.aa_cons (LA.ae_var (pv 2)) LA.aa_nil))) LA.aa_nil))) LA.aa_nil)))) LA.aa_nil))))
  (LA.ass_cons (LA.as_if (LA.at_cmp (LA.oa_eq hr.units) (LA.ae_call HX.takesO g__law_below (hr.mono (by first | decide | omega)) rfl (LA.aa_cons (LA.ae_var (pv 0)) (LA.aa_cons LA.ae_int LA.aa_nil))) LA.ae_int (nomark _)) (LA.ass_cons (LA.as_set (i := 6) sc__law_shorter.nd rfl (Or.inl rfl) (LA.ae_tup (LA.aa_cons LA.ae_str (LA.aa_cons (LA.ae_var (pv 4)) (LA.aa_cons (LA.ae_var (pv 3)) LA.aa_nil)))))
  (LA.ass_one (LA.as_set (i := 7) sc__law_shorter.nd rfl (Or.inl rfl) (LA.ae_tup (LA.aa_cons LA.ae_str (LA.aa_cons (LA.ae_var (pv 5)) (LA.aa_cons (LA.ae_var (pv 3)) LA.aa_nil))))))) LA.ass_nil)
  (LA.ass_one (LA.as_ret (LA.ae_tup (LA.aa_cons LA.ae_str (LA.aa_cons (LA.ae_call HX.takesO g__law_dressed (hr.mono (by first | decide | omega)) rfl (LA.aa_cons (LA.ae_var (pv 0)) (LA.aa_cons (LA.ae_var (pv 6)) (LA.aa_cons (LA.ae_var (pv 2)) LA.aa_nil)))) (LA.aa_cons (LA.ae_call HX.takesO g__law_dressed (hr.mono (by first | decide | omega)) rfl (LA.aa_cons (LA.ae_var (pv 0)) (LA.aa_cons (LA.ae_var (pv 7)) (LA.aa_cons (LA.ae_var (pv 2)) LA.aa_nil)))) LA.aa_nil)))))))))))), fun ds ms Q E h => ?_⟩
  obtain ⟨ns, z, rfl, hg, k⟩ := h
  simp only [nsD_list] at *
  walk_at "b"
  refine hg.point (by decide) (by decide) fun p1 h1 => ?_
  walk_at "b"
  refine hg.point (by decide) (by decide) fun p2 h2 => ?_
  walk_at "b"
  refine hg.point (by decide) (by decide) fun p3 h3 => ?_
  walk_at "b"
  refine hg.amount fun m hm => ?_
  walk_at "b"
  refine pick_i hg.hm (by simp) (by simp) fun x hx => ?_
  obtain ⟨a, ha⟩ := rd_pt h1.1.1
  obtain ⟨b, hb⟩ := rd_pt h2.1.1
  obtain ⟨c, hc⟩ := rd_pt h3.1.1
  have h3' : PtN ns 1 p3 := ⟨h3.1, by have := h3.2.1; simp at this; omega, by have := h3.2.2; simp at this; omega⟩
  walk_at "b"
  refine below_i hg.hm (by decide) (by decide) fun r r0 r1 => ?_
  walk_at "d"
  · refine hg.dressed (.minus p2 p1) fun r hr => ?_
    walk_at "b"
    refine hg.dressed (.minus p3 p1) fun r2 hr2 => ?_
    walk_at "b"
    exact k r r2 (.of h2 h1 hr) (.of h3' h1 hr2) (by rw [hr.rd, hr2.rd]; simp only [Pa.rd, ha, hb, hc]; exact simpD a b c)
  · simp only [List.mem_cons, List.not_mem_nil, or_false] at hx
    rcases hx with rfl | rfl | rfl
    · refine hg.dressed (.minus p1 p2) fun r hr => ?_
      walk_at "b"
      refine hg.dressed (.minus p1 p3) fun r2 hr2 => ?_
      walk_at "b"
      exact k r r2 (.of h1 h2 hr) (.of h1 h3' hr2) (by rw [hr.rd, hr2.rd]; simp only [Pa.rd, ha, hb, hc]; exact simpA a b c)
    · refine hg.dressed (.minus p1 p2) fun r hr => ?_
      walk_at "b"
      refine hg.dressed (.minus p2 p1) fun r2 hr2 => ?_
      walk_at "b"
      exact k r r2 (.of h1 h2 hr) (.of h2 h1 hr2) (by rw [hr.rd, hr2.rd]; simp only [Pa.rd, ha, hb, hc]; exact simpB a b)
    · refine hg.dressed (.minus p1 p2) fun r hr => ?_
      walk_at "b"
      refine hg.dressed (.spn m) fun r2 hr2 => ?_
      walk_at "b"
      exact k r r2 (.of h1 h2 hr) (.fr hm hr2) (by rw [hr.rd, hr2.rd]; simp only [Pa.rd, ha, hb, hc]; exact simpC a b)
theorem Gn.shorter {t : Tag Q E} (g : Gn ms ns z) (k : ∀ p q, SpN ns p → SpN ns q → Simp (p.rd.less q.rd) → Q (Co.shorter p q).d ms) : DoCall (S_shorter) [.ptr 0, .tup (ns.map D.str), .int z] ms Q E t := ⟨ns, z, rfl, g, k⟩
/-- is it a condition of two conditions -/
def Co.two : Co → Bool
  | .and _ _ => true
  | .or _ _ => true
  | _ => false
structure CoN (ns : List Str) (n : Nat) (c : Co) : Prop where
  wf : c.wf ns
  two : n = 0 → c.two = false
  ctw : c.two = true → c.cnt ≤ 15 * n + 16
  con : c.two = false → c.cnt ≤ 15 + n
  dep : c.dep ≤ 5 + n
def S_condition (n : Nat) : ASp := fun ds ms Q _ => 0 < n ∧ ∃ (ns : List Str) (z deep : Int), ds = [.ptr 0, nsD ns, .int z, .int deep] ∧ Gn ms ns z ∧ 0 ≤ deep ∧ deep < n ∧ deep ≤ 1 ∧ ∀ c, CoN ns deep.toNat c → Q c.d ms
theorem Gn.condition {t : Tag Q E} (g : Gn ms ns z) {n : Nat} {deep : Int} (h0 : 0 ≤ deep) (h1 : deep < n) (h2 : deep ≤ 1) (k : ∀ c, CoN ns deep.toNat c → Q c.d ms) : DoCall (S_condition n) [.ptr 0, .tup (ns.map D.str), .int z, .int deep] ms Q E t := ⟨by omega, ns, z, deep, rfl, g, h0, h1, h2, k⟩
theorem CoN.of {ns : List Str} {n : Nat} {c : Co} (h : c.wf ns) (t : c.two = false) (k : c.cnt ≤ 15) (d : c.dep ≤ 5) : CoN ns n c := ⟨h, fun _ => t, fun e => (by rw [t] at e; cases e), fun _ => by omega, by omega⟩
theorem three {ys : List D} {P : D → Prop} (h : ys.length = 3) (k : ∀ y ∈ ys, P y) : ∃ a b c, ys = [a, b, c] ∧ P a ∧ P b ∧ P c := by
  match ys, h with
  | [a, b, c], _ => exact ⟨a, b, c, rfl, k a (by simp), k b (by simp), k c (by simp)⟩
theorem PtN.b {ns : List Str} {p : Pa} (h : PtN ns 1 p) : p.cnt ≤ 2 ∧ p.dep ≤ 1 := h.2
theorem ga__law_condition (T : Txt K mg) : ∀ n : Nat, HX.GFn P w K mg base "_law_condition" (n + 9) ["_law_d", "_law_names_here", "_law_size", "_law_deep"] (spA K (S_condition n))
  | 0 => LA.gfn_none T.d__law_condition T.g__law_condition sc__law_condition (fun _ _ _ _ _ _ us hl => match us, hl with | [_, _, _, _], _ => rfl) (fun ds ms Q E h => Nat.lt_irrefl 0 h.1)
  | n + 1 => by
    have g__law_condition := ga__law_condition T n
    have g__law_pick := ga__law_pick (P := P) (w := w) (base := base) T
    have g__law_shorter := ga__law_shorter (P := P) (w := w) (base := base) T
    have g__law_point := ga__law_point (P := P) (w := w) (base := base) T 3
    refine LA.gfn_of T.d__law_condition T.g__law_condition sc__law_condition (by intro ds ms Q E h; unfold S_condition at h; repeat (first | (obtain ⟨rfl, _⟩ := h; rfl) | obtain ⟨_, h⟩ := h)) (fun _ _ _ _ _ _ us hl => match us, hl with | [_, _, _, _], _ => rfl) fun cdv A outer s H E hr => ⟨_, (LA.ass_cons (LA.as_set (i := 4) sc__law_condition.nd rfl (Or.inl rfl) (LA.ae_lst (LA.aa_cons LA.ae_str (LA.aa_cons LA.ae_str (LA.aa_cons LA.ae_str (LA.aa_cons LA.ae_str (LA.aa_cons LA.ae_str (LA.aa_cons LA.ae_str (LA.aa_cons LA.ae_str (LA.aa_cons LA.ae_str (LA.aa_cons LA.ae_str (LA.aa_cons LA.ae_str LA.aa_nil))))))))))))
  (LA.ass_cons (LA.as_set (i := 5) sc__law_condition.nd rfl (Or.inl rfl) (LA.ae_call HX.takesO g__law_pick (hr.mono (by first | decide | omega)) rfl (LA.aa_cons (LA.ae_var (pv 0)) (LA.aa_cons (LA.ae_var (pv 4)) LA.aa_nil))))
  (LA.ass_cons (LA.as_if (LA.at_cmp (LA.oa_eq hr.units) (LA.ae_var (pv 5)) LA.ae_str (nomark _)) (LA.ass_one (LA.as_ret (LA.ae_call HX.takesO g__law_shorter (hr.mono (by first | decide | omega)) rfl (LA.aa_cons (LA.ae_var (pv 0)) (LA.aa_cons (LA.ae_var (pv 1)) (LA.aa_cons (LA.ae_var (pv 2)) LA.aa_nil)))))) LA.ass_nil)
  (LA.ass_cons (LA.as_if (LA.at_bool (LA.aw_and (LA.at_cmp LA.oa_gt (LA.ae_var (pv 3)) LA.ae_int (nomark _)) (LA.aw_and1 (LA.at_cmp (LA.oa_eq hr.units) (LA.ae_var (pv 5)) LA.ae_str (nomark _))))) (LA.ass_one (LA.as_ret (LA.ae_tup (LA.aa_cons (LA.ae_var (pv 5)) (LA.aa_cons (LA.ae_call HX.takesO g__law_condition (hr.mono (by first | decide | omega)) rfl (LA.aa_cons (LA.ae_var (pv 0)) (LA.aa_cons (LA.ae_var (pv 1)) (LA.aa_cons (LA.ae_var (pv 2)) (LA.aa_cons (LA.ae_bin LA.oa_sub (LA.ae_var (pv 3)) LA.ae_int) LA.aa_nil))))) LA.aa_nil))))) LA.ass_nil)
  (LA.ass_cons (LA.as_if (LA.at_bool (LA.aw_and (LA.at_cmp LA.oa_gt (LA.ae_var (pv 3)) LA.ae_int (nomark _)) (LA.aw_and1 (LA.at_cmp LA.oa_in (LA.ae_var (pv 5)) (LA.ae_tup (LA.aa_cons LA.ae_str (LA.aa_cons LA.ae_str LA.aa_nil))) rfl)))) (LA.ass_cons (LA.as_set (i := 6) sc__law_condition.nd rfl (Or.inl rfl) (LA.ae_call HX.takesO g__law_condition (hr.mono (by first | decide | omega)) rfl (LA.aa_cons (LA.ae_var (pv 0)) (LA.aa_cons (LA.ae_var (pv 1)) (LA.aa_cons (LA.ae_var (pv 2)) (LA.aa_cons (LA.ae_bin LA.oa_sub (LA.ae_var (pv 3)) LA.ae_int) LA.aa_nil))))))
  (LA.ass_one (LA.as_ret (LA.ae_tup (LA.aa_cons (LA.ae_var (pv 5)) (LA.aa_cons (LA.ae_var (pv 6)) (LA.aa_cons (LA.ae_call HX.takesO g__law_condition (hr.mono (by first | decide | omega)) rfl (LA.aa_cons (LA.ae_var (pv 0)) (LA.aa_cons (LA.ae_var (pv 1)) (LA.aa_cons (LA.ae_var (pv 2)) (LA.aa_cons (LA.ae_bin LA.oa_sub (LA.ae_var (pv 3)) LA.ae_int) LA.aa_nil))))) LA.aa_nil))))))) LA.ass_nil)
  (LA.ass_cons (LA.as_if (LA.at_cmp LA.oa_in (LA.ae_var (pv 5)) (LA.ae_tup (LA.aa_cons LA.ae_str (LA.aa_cons LA.ae_str LA.aa_nil))) rfl) (LA.ass_one (LA.as_ret (LA.ae_bin LA.oa_add (LA.ae_tup (LA.aa_cons (LA.ae_var (pv 5)) LA.aa_nil)) (LA.ae_callTy LA.ca_tuple rfl T.n_tuple (by decide +kernel) (LA.aa_cons (LA.ae_new (LA.fe_lc (own := [("_law_k", 7)]) rfl sc__law_condition.nd (LA.ai_range1 rfl T.n_range LA.ae_int) (blkOk_by (own := [("_law_k", 7)]) (N := ["_law_d", "_law_names_here", "_law_size", "_law_deep", "_law_sorts", "_law_word", "_law_one", "_law_k"]) (sc := defScope s__law_condition) (by decide +kernel)) (by decide) (fun _ _ _ _ _ => (LA.ag_name (pg_name (i := 7) sc__law_condition.nd rfl (Or.inl rfl)))) (fun _ _ _ _ _ => LA.ats_nil) (fun _ _ _ _ _ => (LA.ae_call HX.takes0N g__law_point (hr.mono (by first | decide | omega)) rfl (LA.aa_cons (LA.ae_var (pv 0)) (LA.aa_cons (LA.ae_var (pv 1)) (LA.aa_cons (LA.ae_var (pv 2)) (LA.aa_cons LA.ae_int LA.aa_nil)))))))) LA.aa_nil))))) LA.ass_nil)
  (LA.ass_cons (LA.as_set (i := 5) sc__law_condition.nd rfl (Or.inl rfl) (LA.ae_call HX.takesO g__law_pick (hr.mono (by first | decide | omega)) rfl (LA.aa_cons (LA.ae_var (pv 0)) (LA.aa_cons (LA.ae_lst (LA.aa_cons LA.ae_str (LA.aa_cons LA.ae_str LA.aa_nil))) LA.aa_nil))))
  (LA.ass_one (LA.as_ret (LA.ae_tup (LA.aa_cons (LA.ae_var (pv 5)) (LA.aa_cons (LA.ae_call HX.takesO g__law_point (hr.mono (by first | decide | omega)) rfl (LA.aa_cons (LA.ae_var (pv 0)) (LA.aa_cons (LA.ae_var (pv 1)) (LA.aa_cons (LA.ae_var (pv 2)) (LA.aa_cons LA.ae_int LA.aa_nil))))) (LA.aa_cons (LA.ae_call HX.takesO g__law_point (hr.mono (by first | decide | omega)) rfl (LA.aa_cons (LA.ae_var (pv 0)) (LA.aa_cons (LA.ae_var (pv 1)) (LA.aa_cons (LA.ae_var (pv 2)) (LA.aa_cons LA.ae_int LA.aa_nil))))) LA.aa_nil))))))))))))), fun ds ms Q E h => ?_⟩
    obtain ⟨_, ns, z, deep, rfl, hg, d0, d1, d2, k⟩ := h
    simp only [nsD_list] at *
    walk_at "b"
    refine pick_i hg.hm (by simp) (by simp) fun x hx => ?_
    have h1 : 0 < deep → deep.toNat = 1 := fun h => by omega
    have hbef : ∀ p q : Pa, PtN ns 1 p → PtN ns 1 q → Q (.tup [.str "before", p.d, q.d]) ms := fun p q hp hq => k (.before p q) (by
      have h1 := hp.b
      have h2 := hq.b
      exact .of ⟨hp.1, hq.1⟩ rfl (by simp only [Co.cnt]; omega) (by simp only [Co.dep]; omega))
    have hsam : ∀ p q : Pa, PtN ns 1 p → PtN ns 1 q → Q (.tup [.str "same", p.d, q.d]) ms := fun p q hp hq => k (.same p q) (by
      have h1 := hp.b
      have h2 := hq.b
      exact .of ⟨hp.1, hq.1⟩ rfl (by simp only [Co.cnt]; omega) (by simp only [Co.dep]; omega))
    have hsho : ∀ p q : Pa, SpN ns p → SpN ns q → Simp (p.rd.less q.rd) → Q (Co.shorter p q).d ms := fun p q hp hq hs => k (.shorter p q) (.of ⟨hp.1, hq.1, hs⟩ rfl (by have := hp.2.1; have := hq.2.1; simp only [Co.cnt]; omega) (by have := hp.2.2; have := hq.2.2; simp only [Co.dep]; omega))
    have hc : ∀ {Q'} {E' : XD → MS → Prop} {t : Tag Q' E'}, 0 < deep → (∀ c, CoN ns 0 c → Q' c.d ms) → DoCall (S_condition n) [.ptr 0, .tup (ns.map D.str), .int z, .int (deep - 1)] ms Q' E' t := fun {Q' E' t} h0 k => by
      refine hg.condition (by omega) (by omega) (by omega) fun c hc => k c ?_
      have : (deep - 1).toNat = 0 := by omega
      rw [this] at hc; exact hc
    have hbet : ∀ p q r : Pa, PtN ns 1 p → PtN ns 1 q → PtN ns 1 r → Q (.tup [.str "between", p.d, q.d, r.d]) ms := fun p q r hp hq hr => k (.betw p q r) (by
      have h1 := hp.b
      have h2 := hq.b
      have h3 := hr.b
      exact .of ⟨hp.1, hq.1, hr.1⟩ rfl (by simp only [Co.cnt]; omega) (by simp only [Co.dep]; omega))
    have hwit : ∀ p q r : Pa, PtN ns 1 p → PtN ns 1 q → PtN ns 1 r → Q (.tup [.str "within", p.d, q.d, r.d]) ms := fun p q r hp hq hr => k (.within p q r) (by
      have h1 := hp.b
      have h2 := hq.b
      have h3 := hr.b
      exact .of ⟨hp.1, hq.1, hr.1⟩ rfl (by simp only [Co.cnt]; omega) (by simp only [Co.dep]; omega))
    have hnot : 0 < deep → ∀ c, CoN ns 0 c → Q (.tup [.str "not", c.d]) ms := fun h0 c hc => k (.not c) (by
      have := hc.con (hc.two rfl)
      have := hc.dep
      exact ⟨hc.wf, fun _ => rfl, fun e => (nomatch e), fun _ => by simp only [Co.cnt]; omega, by simp only [Co.dep]; omega⟩)
    have hand : 0 < deep → ∀ c e, CoN ns 0 c → CoN ns 0 e → Q (.tup [.str "and", c.d, e.d]) ms := fun h0 c e hc he => k (.and c e) (by
      have := hc.con (hc.two rfl)
      have := hc.dep
      have := he.con (he.two rfl)
      have := he.dep
      exact ⟨⟨hc.wf, he.wf⟩, fun _ => by omega, fun e => by simp only [Co.cnt]; omega, fun e => (nomatch e), by simp only [Co.dep]; omega⟩)
    have hor : 0 < deep → ∀ c e, CoN ns 0 c → CoN ns 0 e → Q (.tup [.str "or", c.d, e.d]) ms := fun h0 c e hc he => k (.or c e) (by
      have := hc.con (hc.two rfl)
      have := hc.dep
      have := he.con (he.two rfl)
      have := he.dep
      exact ⟨⟨hc.wf, he.wf⟩, fun _ => by omega, fun e => by simp only [Co.cnt]; omega, fun e => (nomatch e), by simp only [Co.dep]; omega⟩)
    simp only [List.mem_cons, List.not_mem_nil, or_false] at hx
    rcases hx with rfl | rfl | rfl | rfl | rfl | rfl | rfl | rfl | rfl | rfl <;> walk_at "d"
    all_goals first
      | exact hg.shorter fun p q hp hq hs => by walk_at "b"; exact hsho p q hp hq hs
      | (refine lcL_all (fun d => ∃ p, d = Pa.d p ∧ PtN ns 1 p) (by decide) (fun d hd N hN => ?_) fun ys h3 hy => ?_
         · walk_at "b"
           exact hg.point (by decide) (by decide) fun p hp => hN _ ⟨p, rfl, hp⟩
         · obtain ⟨_, _, _, rfl, ⟨p, rfl, hp⟩, ⟨q, rfl, hq⟩, ⟨r, rfl, hr⟩⟩ := three h3 hy
           walk_at "b"
           first | exact hbet p q r hp hq hr | exact hwit p q r hp hq hr)
      | (refine hc (by assumption) fun c h => ?_
         walk_at "b"
         first
           | exact hnot (by assumption) c h
           | (refine hc (by assumption) fun e h' => ?_
              walk_at "b"
              first | exact hand (by assumption) c e h h' | exact hor (by assumption) c e h h'))
      | (refine pick_i hg.hm (by simp) (by simp) fun x hx => ?_
         walk_at "b"
         refine hg.point (by decide) (by decide) fun p hp => ?_
         walk_at "b"
         refine hg.point (by decide) (by decide) fun q hq => ?_
         walk_at "b"
         simp only [List.mem_cons, List.not_mem_nil, or_false] at hx
         rcases hx with rfl | rfl
         · exact hbef p q hp hq
         · exact hsam p q hp hq)
end

end LW
namespace LW
open PySem PySem.Spec PyProof.Rows L2
open LA
section
variable {P : Program} {w : World} {K : PySem.W.Frag} {mg : Str → Option Value} {base : Heap}
variable {ms : MS} {ns : List Str} {z : Int} {Q : D → MS → Prop} {E : XD → MS → Prop}
structure OcN (ns : List Str) (o : Oc) : Prop where
  wf : o.wf ns
  cnt : o.cnt ≤ 17
  dep : o.dep ≤ 5
  no : o ≠ .word "other"
def S_outcome : ASp := fun ds ms Q _ => ∃ (ns : List Str) (z : Int), ds = [.ptr 0, nsD ns, .int z] ∧ Gn ms ns z ∧ ∀ o, OcN ns o → Q o.d ms
theorem Gn.outcome {t : Tag Q E} (g : Gn ms ns z) (k : ∀ o, OcN ns o → Q o.d ms) : DoCall (S_outcome) [.ptr 0, .tup (ns.map D.str), .int z] ms Q E t := ⟨ns, z, rfl, g, k⟩
theorem pts_of {ys : List D} {ns : List Str} {n : Nat} (h : ∀ y ∈ ys, ∃ p, y = Pa.d p ∧ PtN ns n p) : ∃ ps : List Pa, ys = ps.map Pa.d ∧ ∀ p ∈ ps, PtN ns n p := by
  induction ys with
  | nil => exact ⟨[], rfl, fun _ h => nomatch h⟩
  | cons y r ih =>
    obtain ⟨p, rfl, hp⟩ := h y List.mem_cons_self
    obtain ⟨ps, rfl, hps⟩ := ih fun y hy => h y (List.mem_cons_of_mem _ hy)
    exact ⟨p :: ps, rfl, fun q hq => (List.mem_cons.mp hq).elim (fun e => e ▸ hp) (hps q)⟩
theorem sum_le {ps : List Pa} {m : Nat} (h : ∀ p ∈ ps, p.cnt ≤ m) : sumN ps ≤ m * ps.length := by
  induction ps with
  | nil => exact Nat.zero_le _
  | cons p r ih =>
    have h1 := h p List.mem_cons_self
    have h2 := ih fun q hq => h q (List.mem_cons_of_mem _ hq)
    simp only [sumN, List.map_cons, List.sum_cons, List.length_cons, Nat.mul_add] at *
    omega
theorem max_le {ps : List Pa} {m : Nat} (h : ∀ p ∈ ps, p.dep ≤ m) : maxN ps ≤ m := by
  induction ps with
  | nil => exact Nat.zero_le _
  | cons p r ih => exact Nat.max_le.mpr ⟨h p List.mem_cons_self, ih fun q hq => h q (List.mem_cons_of_mem _ hq)⟩
theorem ga__law_outcome (T : Txt K mg) : HX.GFn P w K mg base "_law_outcome" 9 ["_law_d", "_law_names_here", "_law_size"] (spA K S_outcome) := by
  have g__law_below := ga__law_below (P := P) (w := w) (base := base) T
  have g__law_pick := ga__law_pick (P := P) (w := w) (base := base) T
  have g__law_point := ga__law_point (P := P) (w := w) (base := base) T 3
  have g__law_span := ga__law_span (P := P) (w := w) (base := base) T
  refine LA.gfn_of T.d__law_outcome T.g__law_outcome sc__law_outcome (by intro ds ms Q E h; unfold S_outcome at h; repeat (first | (obtain ⟨rfl, _⟩ := h; rfl) | obtain ⟨_, h⟩ := h)) (fun _ _ _ _ _ _ us hl => match us, hl with | [_, _, _], _ => rfl) fun cdv A outer s H E hr => ⟨_, (LA.ass_cons (LA.as_set (i := 3) sc__law_outcome.nd rfl (Or.inl rfl) (LA.ae_call HX.takesO g__law_below (hr.mono (by first | decide | omega)) rfl (LA.aa_cons (LA.ae_var (pv 0)) (LA.aa_cons LA.ae_int LA.aa_nil))))
  (LA.ass_cons (LA.as_if (LA.at_cmp LA.oa_lt (LA.ae_var (pv 3)) LA.ae_int (nomark _)) (LA.ass_one (LA.as_ret (LA.ae_tup (LA.aa_cons LA.ae_str (LA.aa_cons (LA.ae_call HX.takesO g__law_pick (hr.mono (by first | decide | omega)) rfl (LA.aa_cons (LA.ae_var (pv 0)) (LA.aa_cons (LA.ae_lst (LA.aa_cons LA.ae_str (LA.aa_cons LA.ae_str (LA.aa_cons LA.ae_str LA.aa_nil)))) LA.aa_nil))) LA.aa_nil))))) LA.ass_nil)
  (LA.ass_cons (LA.as_if (LA.at_cmp (LA.oa_eq hr.units) (LA.ae_var (pv 3)) LA.ae_int (nomark _)) (LA.ass_one (LA.as_ret (LA.ae_tup (LA.aa_cons LA.ae_str (LA.aa_cons (LA.ae_call HX.takesO g__law_point (hr.mono (by first | decide | omega)) rfl (LA.aa_cons (LA.ae_var (pv 0)) (LA.aa_cons (LA.ae_var (pv 1)) (LA.aa_cons (LA.ae_var (pv 2)) (LA.aa_cons LA.ae_int LA.aa_nil))))) LA.aa_nil))))) LA.ass_nil)
  (LA.ass_cons (LA.as_if (LA.at_cmp LA.oa_lt (LA.ae_var (pv 3)) LA.ae_int (nomark _)) (LA.ass_one (LA.as_ret (LA.ae_tup (LA.aa_cons LA.ae_str (LA.aa_cons (LA.ae_call HX.takesO g__law_span (hr.mono (by first | decide | omega)) rfl (LA.aa_cons (LA.ae_var (pv 0)) (LA.aa_cons (LA.ae_var (pv 1)) (LA.aa_cons (LA.ae_var (pv 2)) LA.aa_nil)))) LA.aa_nil))))) LA.ass_nil)
  (LA.ass_cons (LA.as_if (LA.at_cmp (LA.oa_eq hr.units) (LA.ae_var (pv 3)) LA.ae_int (nomark _)) (LA.ass_cons (LA.as_set (i := 4) sc__law_outcome.nd rfl (Or.inl rfl) (LA.ae_lst (LA.aa_cons (LA.ae_call HX.takesO g__law_span (hr.mono (by first | decide | omega)) rfl (LA.aa_cons (LA.ae_var (pv 0)) (LA.aa_cons (LA.ae_var (pv 1)) (LA.aa_cons (LA.ae_var (pv 2)) LA.aa_nil)))) (LA.aa_cons (LA.ae_call HX.takesO g__law_point (hr.mono (by first | decide | omega)) rfl (LA.aa_cons (LA.ae_var (pv 0)) (LA.aa_cons (LA.ae_var (pv 1)) (LA.aa_cons (LA.ae_var (pv 2)) (LA.aa_cons LA.ae_int LA.aa_nil))))) (LA.aa_cons (LA.ae_call HX.takesO g__law_span (hr.mono (by first | decide | omega)) rfl (LA.aa_cons (LA.ae_var (pv 0)) (LA.aa_cons (LA.ae_var (pv 1)) (LA.aa_cons (LA.ae_var (pv 2)) LA.aa_nil)))) LA.aa_nil)))))
  (LA.ass_one (LA.as_ret (LA.ae_tup (LA.aa_cons LA.ae_str (LA.aa_cons (LA.ae_callTy LA.ca_tuple rfl T.n_tuple (by decide +kernel) (LA.aa_cons (LA.ae_slice (LA.ae_var (pv 4)) LA.ao_none (LA.ao_some (LA.ae_bin LA.oa_add LA.ae_int (LA.ae_call HX.takesO g__law_below (hr.mono (by first | decide | omega)) rfl (LA.aa_cons (LA.ae_var (pv 0)) (LA.aa_cons LA.ae_int LA.aa_nil)))))) LA.aa_nil)) LA.aa_nil)))))) LA.ass_nil)
  (LA.ass_cons (LA.as_setLc (i := 5) (own := [("_law_k", 6)]) rfl sc__law_outcome.nd rfl rfl (sw_true rfl rfl rfl (by decide +kernel)) (LA.ai_range1 rfl T.n_range (LA.ae_bin LA.oa_add LA.ae_int (LA.ae_call HX.takesO g__law_below (hr.mono (by first | decide | omega)) rfl (LA.aa_cons (LA.ae_var (pv 0)) (LA.aa_cons LA.ae_int LA.aa_nil))))) (blkOk_by (own := [("_law_k", 6)]) (N := ["_law_d", "_law_names_here", "_law_size", "_law_chance", "_law_parts", "_law_points", "_law_k"]) (sc := defScope s__law_outcome) (by decide +kernel)) (by decide) (fun _ _ _ _ _ => (LA.ag_name (pg_name (i := 6) sc__law_outcome.nd rfl (Or.inl rfl)))) (fun _ _ _ _ _ => LA.ats_nil) (fun _ _ _ _ _ => (LA.ae_call HX.takes0N g__law_point (hr.mono (by first | decide | omega)) rfl (LA.aa_cons (LA.ae_var (pv 0)) (LA.aa_cons (LA.ae_var (pv 1)) (LA.aa_cons (LA.ae_var (pv 2)) (LA.aa_cons LA.ae_int LA.aa_nil)))))))
  (LA.ass_one (LA.as_ret (LA.ae_tup (LA.aa_cons LA.ae_str (LA.aa_cons (LA.ae_call HX.takesO g__law_point (hr.mono (by first | decide | omega)) rfl (LA.aa_cons (LA.ae_var (pv 0)) (LA.aa_cons (LA.ae_var (pv 1)) (LA.aa_cons (LA.ae_var (pv 2)) (LA.aa_cons LA.ae_int LA.aa_nil))))) (LA.aa_cons (LA.ae_callTy LA.ca_tuple rfl T.n_tuple (by decide +kernel) (LA.aa_cons (LA.ae_var (pv 5)) LA.aa_nil)) LA.aa_nil)))))))))))), fun ds ms Q E h => ?_⟩
  obtain ⟨ns, z, rfl, hg, k⟩ := h
  simp only [nsD_list] at *
  walk_at "b"
  refine below_i hg.hm (by decide) (by decide) fun r r0 r1 => ?_
  walk_at "d"
  · refine pick_i hg.hm (by simp) (by simp) fun x hx => ?_
    simp only [List.mem_cons, List.not_mem_nil, or_false] at hx
    rcases hx with rfl | rfl | rfl <;> walk_at "b"
    · exact k (.word "yes") ⟨by simp [Oc.wf, good], by simp [Oc.cnt], by simp [Oc.dep], by simp [LA.str_eq]⟩
    · exact k (.word "no") ⟨by simp [Oc.wf, good], by simp [Oc.cnt], by simp [Oc.dep], by simp [LA.str_eq]⟩
    · exact k (.word "late") ⟨by simp [Oc.wf, good], by simp [Oc.cnt], by simp [Oc.dep], by simp [LA.str_eq]⟩
  · refine hg.point (by decide) (by decide) fun p hp => ?_
    walk_at "b"
    refine k (.value p) ⟨hp.1.2, ?_, ?_, nofun⟩
    · have := hp.2.1; simp at this; simp only [Oc.cnt]; omega
    · have := hp.2.2; simp at this; simp only [Oc.dep]; omega
  · refine hg.span fun p hp => ?_
    walk_at "b"
    refine k (.value p) ⟨hp.1.2, ?_, ?_, nofun⟩
    · have := hp.2.1; simp only [Oc.cnt]; omega
    · have := hp.2.2; simp only [Oc.dep]; omega
  · refine hg.span fun p hp => ?_
    walk_at "b"
    refine hg.point (by decide) (by decide) fun q hq => ?_
    walk_at "b"
    refine hg.span fun r hr => ?_
    walk_at "b"
    refine below_i hg.hm (by decide) (by decide) fun t t0 t1 => ?_
    have h1 := hp.2
    have h2 := hq.b
    have h3 := hr.2
    have ht : t = 0 ∨ t = 1 ∨ t = 2 := by omega
    rcases ht with rfl | rfl | rfl <;> walk_at "b"
    · exact k (.total [p]) ⟨⟨by simp, by simp, by simp; exact hp.1.2⟩, by simp [Oc.cnt, sumN]; omega, by simp [Oc.dep, maxN]; omega, nofun⟩
    · exact k (.total [p, q]) ⟨⟨by simp, by simp, by simp; exact ⟨hp.1.2, hq.1.2⟩⟩, by simp [Oc.cnt, sumN]; omega, by simp [Oc.dep, maxN]; omega, nofun⟩
    · exact k (.total [p, q, r]) ⟨⟨by simp, by simp, by simp; exact ⟨hp.1.2, hq.1.2, hr.1.2⟩⟩, by simp [Oc.cnt, sumN]; omega, by simp [Oc.dep, maxN]; omega, nofun⟩
  · refine below_i hg.hm (by decide) (by decide) fun t t0 t1 => ?_
    walk_at "b"
    refine ⟨by omega, by omega, ?_⟩
    refine lcL_all (fun d => ∃ p, d = Pa.d p ∧ PtN ns 1 p) (by simp [rangeD, PySem.sizeLine]; omega) (fun d hd N hN => ?_) fun ys h3 hy => ?_
    · walk_at "b"
      exact hg.point (by decide) (by decide) fun p hp => by walk_at "b"; exact hN _ ⟨p, rfl, hp⟩
    · walk_at "b"
      obtain ⟨ps, rfl, hps⟩ := pts_of hy
      rw [List.length_map] at h3
      simp only [rangeD, List.length_map, List.length_range] at h3
      refine hg.point (by decide) (by decide) fun p hp => ?_
      walk_at "b"
      refine k (.first p ps) ⟨⟨hp.1, by omega, by omega, fun q hq => (hps q hq).1⟩, ?_, ?_, nofun⟩
      · have h1 := hp.b
        have h2 := sum_le (m := 2) fun q hq => (hps q hq).b.1
        simp only [Oc.cnt]; omega
      · have h1 := hp.b
        have h2 := max_le (m := 1) fun q hq => (hps q hq).b.2
        simp only [Oc.dep]; omega
structure RuN (ns : List Str) (r : Ru) : Prop where
  c : r.1.wf ns
  o : r.2.wf ns
  cnt : r.1.cnt + r.2.cnt ≤ 40
  d1 : r.1.dep ≤ 6
  d2 : r.2.dep ≤ 5
def S_rule : ASp := fun ds ms Q _ => ∃ (ns : List Str) (z : Int), ds = [.ptr 0, nsD ns, .int z] ∧ Gn ms ns z ∧ ∀ r, RuN ns r → Q (Ru.d r) ms
theorem Gn.rule {t : Tag Q E} (g : Gn ms ns z) (k : ∀ r, RuN ns r → Q (Ru.d r) ms) : DoCall (S_rule) [.ptr 0, .tup (ns.map D.str), .int z] ms Q E t := ⟨ns, z, rfl, g, k⟩
theorem ga__law_rule (T : Txt K mg) : HX.GFn P w K mg base "_law_rule" 12 ["_law_d", "_law_names_here", "_law_size"] (spA K S_rule) := by
  have g__law_condition := ga__law_condition (P := P) (w := w) (base := base) T 2
  have g__law_point := ga__law_point (P := P) (w := w) (base := base) T 3
  have g__law_outcome := ga__law_outcome (P := P) (w := w) (base := base) T
  refine LA.gfn_of T.d__law_rule T.g__law_rule sc__law_rule (by intro ds ms Q E h; unfold S_rule at h; repeat (first | (obtain ⟨rfl, _⟩ := h; rfl) | obtain ⟨_, h⟩ := h)) (fun _ _ _ _ _ _ us hl => match us, hl with | [_, _, _], _ => rfl) fun cdv A outer s H E hr => ⟨_, (LA.ass_cons (LA.as_set (i := 3) sc__law_rule.nd rfl (Or.inl rfl) (LA.ae_call HX.takesO g__law_condition (hr.mono (by first | decide | omega)) rfl (LA.aa_cons (LA.ae_var (pv 0)) (LA.aa_cons (LA.ae_var (pv 1)) (LA.aa_cons (LA.ae_var (pv 2)) (LA.aa_cons LA.ae_int LA.aa_nil))))))
  (LA.ass_cons (LA.as_if (LA.at_cmp LA.oa_in (LA.ae_ix LA.ia_any (LA.ae_var (pv 3)) LA.ae_int (fun _ _ => rfl)) (LA.ae_tup (LA.aa_cons LA.ae_str (LA.aa_cons LA.ae_str LA.aa_nil))) rfl) (LA.ass_one (LA.as_ret (LA.ae_tup (LA.aa_cons (LA.ae_var (pv 3)) (LA.aa_cons (LA.ae_tup (LA.aa_cons LA.ae_str (LA.aa_cons (LA.ae_call HX.takesO g__law_point (hr.mono (by first | decide | omega)) rfl (LA.aa_cons (LA.ae_var (pv 0)) (LA.aa_cons (LA.ae_var (pv 1)) (LA.aa_cons (LA.ae_var (pv 2)) (LA.aa_cons LA.ae_int LA.aa_nil))))) LA.aa_nil))) LA.aa_nil))))) LA.ass_nil)
  (LA.ass_one (LA.as_ret (LA.ae_tup (LA.aa_cons (LA.ae_var (pv 3)) (LA.aa_cons (LA.ae_call HX.takesO g__law_outcome (hr.mono (by first | decide | omega)) rfl (LA.aa_cons (LA.ae_var (pv 0)) (LA.aa_cons (LA.ae_var (pv 1)) (LA.aa_cons (LA.ae_var (pv 2)) LA.aa_nil)))) LA.aa_nil))))))), fun ds ms Q E h => ?_⟩
  obtain ⟨ns, z, rfl, hg, k⟩ := h
  simp only [nsD_list] at *
  walk_at "b"
  refine hg.condition (by decide) (by decide) (by decide) fun c hc => ?_
  have hv : c.two = true → ∀ p, PtN ns 1 p → RuN ns (c, .value p) := fun e p hp => by
    have := hc.ctw e
    have := hc.dep
    have := hp.b
    simp at *
    exact ⟨hc.wf, hp.1.2, by simp only [Oc.cnt]; omega, by dsimp only; omega, by simp only [Oc.dep]; omega⟩
  have ho : c.two = false → ∀ o, OcN ns o → RuN ns (c, o) := fun e o h => by
    have := hc.con e
    have := hc.dep
    have := h.cnt
    simp at *
    exact ⟨hc.wf, h.wf, by dsimp only; omega, by dsimp only; omega, h.dep⟩
  cases c <;> simp only [Co.d] at * <;> walk_at "b" <;> first
    | exact hg.point (by decide) (by decide) fun p hp => by walk_at "b"; exact k (_, _) (hv rfl p hp)
    | exact hg.outcome fun o h => by walk_at "b"; exact k (_, _) (ho rfl o h)
def S_rules : ASp := fun ds ms Q _ => ∃ (ns : List Str) (z m : Int), ds = [.ptr 0, nsD ns, .int z, .int m] ∧ Gn ms ns z ∧ 0 ≤ m ∧ m ≤ 12 ∧ ∀ rs : List Ru, rs.length ≤ m.toNat → (∀ r ∈ rs, RuN ns r) → Q (.tup (rs.map Ru.d)) ms
theorem Gn.rules {t : Tag Q E} {m : Int} (g : Gn ms ns z) (h0 : 0 ≤ m) (h1 : m ≤ 12) (k : ∀ rs : List Ru, rs.length ≤ m.toNat → (∀ r ∈ rs, RuN ns r) → Q (.tup (rs.map Ru.d)) ms) : DoCall (S_rules) [.ptr 0, .tup (ns.map D.str), .int z, .int m] ms Q E t := ⟨ns, z, m, rfl, g, h0, h1, k⟩
theorem rus_of {ys : List D} {ns : List Str} (h : ∀ y ∈ ys, ∃ p, y = Ru.d p ∧ RuN ns p) : ∃ ps : List Ru, ys = ps.map Ru.d ∧ ∀ p ∈ ps, RuN ns p := by
  induction ys with
  | nil => exact ⟨[], rfl, fun _ h => nomatch h⟩
  | cons y r ih =>
    obtain ⟨p, rfl, hp⟩ := h y List.mem_cons_self
    obtain ⟨ps, rfl, hps⟩ := ih fun y hy => h y (List.mem_cons_of_mem _ hy)
    exact ⟨p :: ps, rfl, fun q hq => (List.mem_cons.mp hq).elim (fun e => e ▸ hp) (hps q)⟩
theorem ga__law_rules (T : Txt K mg) : HX.GFn P w K mg base "_law_rules" 13 ["_law_d", "_law_names_here", "_law_size", "_law_many"] (spA K S_rules) := by
  have g__law_below := ga__law_below (P := P) (w := w) (base := base) T
  have g__law_rule := ga__law_rule (P := P) (w := w) (base := base) T
  refine LA.gfn_of T.d__law_rules T.g__law_rules sc__law_rules (by intro ds ms Q E h; unfold S_rules at h; repeat (first | (obtain ⟨rfl, _⟩ := h; rfl) | obtain ⟨_, h⟩ := h)) (fun _ _ _ _ _ _ us hl => match us, hl with | [_, _, _, _], _ => rfl) fun cdv A outer s H E hr => ⟨_, (LA.ass_one (LA.as_ret (LA.ae_callTy LA.ca_tuple rfl T.n_tuple (by decide +kernel) (LA.aa_cons (LA.ae_new (LA.fe_lc (own := [("_law_k", 4)]) rfl sc__law_rules.nd (LA.ai_range1 rfl T.n_range (LA.ae_call HX.takesO g__law_below (hr.mono (by first | decide | omega)) rfl (LA.aa_cons (LA.ae_var (pv 0)) (LA.aa_cons (LA.ae_bin LA.oa_add (LA.ae_var (pv 3)) LA.ae_int) LA.aa_nil)))) (blkOk_by (own := [("_law_k", 4)]) (N := ["_law_d", "_law_names_here", "_law_size", "_law_many", "_law_k"]) (sc := defScope s__law_rules) (by decide +kernel)) (by decide) (fun _ _ _ _ _ => (LA.ag_name (pg_name (i := 4) sc__law_rules.nd rfl (Or.inl rfl)))) (fun _ _ _ _ _ => LA.ats_nil) (fun _ _ _ _ _ => (LA.ae_call HX.takes0N g__law_rule (hr.mono (by first | decide | omega)) rfl (LA.aa_cons (LA.ae_var (pv 0)) (LA.aa_cons (LA.ae_var (pv 1)) (LA.aa_cons (LA.ae_var (pv 2)) LA.aa_nil))))))) LA.aa_nil)))), fun ds ms Q E h => ?_⟩
  obtain ⟨ns, z, m, rfl, hg, m0, m1, k⟩ := h
  simp only [nsD_list] at *
  walk_at "b"
  refine below_i hg.hm (by omega) (by omega) fun t t0 t1 => ?_
  walk_at "b"
  refine ⟨by omega, by omega, ?_⟩
  refine lcL_all (fun d => ∃ p, d = Ru.d p ∧ RuN ns p) (by simp [rangeD, PySem.sizeLine]; omega) (fun d hd N hN => ?_) fun ys h3 hy => ?_
  · walk_at "b"
    exact hg.rule fun r hr => by walk_at "b"; exact hN _ ⟨r, rfl, hr⟩
  · walk_at "b"
    obtain ⟨ps, rfl, hps⟩ := rus_of hy
    rw [List.length_map] at h3
    simp only [rangeD, List.length_map, List.length_range] at h3
    exact k ps (by omega) hps
end

end LW
namespace LW
open PySem PySem.Spec PyProof.Rows L2
open LA
/-! programs are made: the checks -/
inductive Nd where
  | pa (x : Pa) | co (x : Co) | oc (x : Oc)
def Nd.d : Nd → D
  | .pa x => x.d
  | .co x => x.d
  | .oc x => x.d
def Nd.inner : Nd → List Nd
  | .pa (.plus p _) => [.pa p]
  | .pa (.wrap p) => [.pa p]
  | .pa (.minus p q) => [.pa p, .pa q]
  | .pa (.time _) => []
  | .pa .mid => []
  | .pa (.at _) => []
  | .pa (.spn _) => []
  | .co (.before p q) => [.pa p, .pa q]
  | .co (.same p q) => [.pa p, .pa q]
  | .co (.betw p q r) => [.pa p, .pa q, .pa r]
  | .co (.within p q r) => [.pa p, .pa q, .pa r]
  | .co (.shorter p q) => [.pa p, .pa q]
  | .co (.not c) => [.co c]
  | .co (.and c e) => [.co c, .co e]
  | .co (.or c e) => [.co c, .co e]
  | .oc (.word _) => []
  | .oc (.value p) => [.pa p]
  | .oc (.total ps) => ps.map .pa
  | .oc (.first p ps) => .pa p :: ps.map .pa
def Nd.dep : Nd → Nat
  | .pa x => x.dep
  | .co x => x.dep
  | .oc x => x.dep
def Nd.cnt : Nd → Nat
  | .pa x => x.cnt
  | .co x => x.cnt
  | .oc x => x.cnt
def Nd.wf (ns : List Str) : Nd → Prop
  | .pa x => x.wf ns
  | .co x => x.wf ns
  | .oc x => x.wf ns
theorem mapNd (ps : List Pa) : (ps.map Nd.pa).map Nd.d = ps.map Pa.d := by rw [List.map_map]; rfl
theorem Pa.cnt1 : ∀ p : Pa, 1 ≤ p.cnt
  | .time _ => Nat.le_refl _ | .mid => Nat.le_refl _ | .at _ => Nat.le_refl _ | .spn _ => Nat.le_refl _ | .plus _ _ => Nat.le_add_left _ _ | .wrap _ => Nat.le_add_left _ _ | .minus _ _ => Nat.le_add_left _ _
theorem maxN_mem {ps : List Pa} {p : Pa} (h : p ∈ ps) : p.dep ≤ maxN ps := by
  induction ps with
  | nil => cases h
  | cons q r ih =>
    rcases List.mem_cons.mp h with rfl | h
    · exact Nat.le_max_left _ _
    · exact Nat.le_trans (ih h) (Nat.le_max_right _ _)
theorem dep_mem {ps : List Pa} {p : Pa} {n : Nat} (h : maxN ps ≤ n) (hp : p ∈ ps) : p.dep ≤ n := Nat.le_trans (maxN_mem hp) h
theorem cnt_mem {ps : List Pa} {p : Pa} (h : p ∈ ps) : p.cnt ≤ sumN ps := by
  induction ps with
  | nil => cases h
  | cons y r ih =>
    simp only [sumN, List.map_cons, List.sum_cons] at ih ⊢
    rcases List.mem_cons.mp h with rfl | h
    · omega
    · have := ih h; omega
theorem Nd.inner_dep (nd x : Nd) (h : x ∈ nd.inner) : x.dep < nd.dep := by
  cases nd with
  | pa y => cases y <;> simp only [Nd.inner, List.mem_cons, List.not_mem_nil, or_false] at h <;> first | exact h.elim | (rcases h with rfl | rfl <;> simp only [Nd.dep, Pa.dep] <;> omega) | (subst h; simp only [Nd.dep, Pa.dep]; omega)
  | co y => cases y <;> simp only [Nd.inner, List.mem_cons, List.not_mem_nil, or_false] at h <;> first | (rcases h with rfl | rfl | rfl <;> simp only [Nd.dep, Co.dep] <;> omega) | (rcases h with rfl | rfl <;> simp only [Nd.dep, Co.dep] <;> omega) | (subst h; simp only [Nd.dep, Co.dep]; omega)
  | oc y =>
    cases y with
    | word _ => simp [Nd.inner] at h
    | value p => simp only [Nd.inner, List.mem_cons, List.not_mem_nil, or_false] at h; subst h; simp only [Nd.dep, Oc.dep]; omega
    | total ps => obtain ⟨p, hp, rfl⟩ := List.mem_map.mp h; have := maxN_mem hp; simp only [Nd.dep, Oc.dep]; omega
    | first q ps =>
      rcases List.mem_cons.mp h with rfl | h
      · simp only [Nd.dep, Oc.dep]; omega
      · obtain ⟨p, hp, rfl⟩ := List.mem_map.mp h; have := maxN_mem hp; simp only [Nd.dep, Oc.dep]; omega
theorem sum_p (ps : List Pa) : ((ps.map Nd.pa).map Nd.cnt).sum = sumN ps := by rw [List.map_map]; rfl
theorem Nd.inner_cnt (nd : Nd) : nd.cnt = 1 + (nd.inner.map Nd.cnt).sum := by
  cases nd with
  | pa y => cases y <;> simp only [Nd.inner, Nd.cnt, Pa.cnt, List.map_cons, List.map_nil, List.sum_cons, List.sum_nil] <;> omega
  | co y => cases y <;> simp only [Nd.inner, Nd.cnt, Co.cnt, List.map_cons, List.map_nil, List.sum_cons, List.sum_nil] <;> omega
  | oc y =>
    cases y with
    | word _ => rfl
    | value p => simp only [Nd.inner, Nd.cnt, Oc.cnt, List.map_cons, List.map_nil, List.sum_cons, List.sum_nil]; omega
    | total ps => simp only [Nd.inner, Nd.cnt, Oc.cnt, sum_p]; omega
    | first q ps => simp only [Nd.inner, Nd.cnt, Oc.cnt, List.map_cons, List.sum_cons, sum_p]; omega
theorem Nd.inner_wf {ns : List Str} (nd x : Nd) (w : nd.wf ns) (h : x ∈ nd.inner) : x.wf ns := by
  cases nd with
  | pa y => cases y <;> simp only [Nd.inner, List.mem_cons, List.not_mem_nil, or_false] at h <;> first | exact h.elim | (rcases h with rfl | rfl <;> simp only [Nd.wf, Pa.wf] at w ⊢ <;> simp [w]) | (subst h; simp only [Nd.wf, Pa.wf] at w ⊢; simp [w])
  | co y => cases y <;> simp only [Nd.inner, List.mem_cons, List.not_mem_nil, or_false] at h <;> first | (rcases h with rfl | rfl | rfl <;> simp only [Nd.wf, Co.wf, Pa.pt] at w ⊢ <;> simp [w]) | (rcases h with rfl | rfl <;> simp only [Nd.wf, Co.wf, Pa.pt, Pa.sp] at w ⊢ <;> simp [w]) | (subst h; simp only [Nd.wf, Co.wf] at w ⊢; simp [w])
  | oc y =>
    cases y with
    | word _ => simp [Nd.inner] at h
    | value p => simp only [Nd.inner, List.mem_cons, List.not_mem_nil, or_false] at h; subst h; exact w
    | total ps => obtain ⟨p, hp, rfl⟩ := List.mem_map.mp h; exact w.2.2 p hp
    | first q ps =>
      rcases List.mem_cons.mp h with rfl | h
      · exact w.1.2
      · obtain ⟨p, hp, rfl⟩ := List.mem_map.mp h; exact (w.2.2.2 p hp).2
/-- the rows of all_parts, by the depth that is left -/
def rowsF : Nat → Nd → Int → List (Nd × Int)
  | 0, _, _ => []
  | n + 1, nd, k => (nd, k) :: nd.inner.flatMap fun x => rowsF n x (k + 1)
def rowsD (r : List (Nd × Int)) : List D := r.map fun p => .tup [p.1.d, .int p.2]
theorem rowsF_len : ∀ (n : Nat) (nd : Nd) (k : Int), (rowsF n nd k).length ≤ nd.cnt
  | 0, nd, _ => Nat.zero_le _
  | n + 1, nd, k => by
    rw [nd.inner_cnt]
    simp only [rowsF, List.length_cons, List.length_flatMap]
    have : ∀ l : List Nd, (l.map fun x => (rowsF n x (k + 1)).length).sum ≤ (l.map Nd.cnt).sum := fun l => by
      induction l with
      | nil => exact Nat.le_refl _
      | cons x r ih => have := rowsF_len n x (k + 1); simp only [List.map_cons, List.sum_cons]; omega
    have := this nd.inner
    omega
theorem rowsF_wf {ns : List Str} : ∀ (n : Nat) (nd : Nd) (k : Int), nd.wf ns → ∀ r ∈ rowsF n nd k, r.1.wf ns
  | 0, nd, _, _, r, h => nomatch h
  | n + 1, nd, k, w, r, h => by
    simp only [rowsF, List.mem_cons, List.mem_flatMap] at h
    rcases h with rfl | ⟨x, hx, h⟩
    · exact w
    · exact rowsF_wf n x (k + 1) (nd.inner_wf x w hx) r h
theorem rowsF_dep : ∀ (n : Nat) (nd : Nd) (k : Int), ∀ r ∈ rowsF n nd k, r.2 ≤ k + nd.dep
  | 0, nd, _, r, h => nomatch h
  | n + 1, nd, k, r, h => by
    simp only [rowsF, List.mem_cons, List.mem_flatMap] at h
    rcases h with rfl | ⟨x, hx, h⟩
    · dsimp only; omega
    · have := rowsF_dep n x (k + 1) r h
      have := nd.inner_dep x hx
      omega
section
variable {P : Program} {w : World} {K : PySem.W.Frag} {mg : Str → Option Value} {base : Heap}
theorem len_sum : ∀ ps : List Pa, ps.length ≤ sumN ps
  | [] => Nat.le_refl _
  | p :: r => by have := len_sum r; have := p.cnt1; simp only [sumN, List.map_cons, List.sum_cons, List.length_cons] at *; omega
def S_inner : ASp := fun ds ms Q _ => ∃ nd : Nd, ds = [nd.d] ∧ nd.cnt ≤ 1000 ∧ Q (.lst (nd.inner.map Nd.d)) ms
theorem ga_inner_of (T : Txt K mg) : HX.GFn P w K mg base "inner_of" 1 ["part"] (spA K S_inner) := by
  refine LA.gfn_of T.d_inner_of T.g_inner_of sc_inner_of (by intro ds ms Q E h; unfold S_inner at h; repeat (first | (obtain ⟨rfl, _⟩ := h; rfl) | obtain ⟨_, h⟩ := h)) (fun _ _ _ _ _ _ us hl => match us, hl with | [_], _ => rfl) fun cdv A outer s H E hr => ⟨_, (LA.ass_cons (LA.as_set (i := 1) sc_inner_of.nd rfl (Or.inl rfl) (LA.ae_ix LA.ia_any (LA.ae_var (pv 0)) LA.ae_int (fun _ _ => rfl)))
  (LA.ass_cons (LA.as_if (LA.at_cmp LA.oa_in (LA.ae_var (pv 1)) (LA.ae_tup (LA.aa_cons LA.ae_str (LA.aa_cons LA.ae_str (LA.aa_cons LA.ae_str LA.aa_nil)))) rfl) (LA.ass_one (LA.as_ret (LA.ae_lst (LA.aa_cons (LA.ae_ix LA.ia_any (LA.ae_var (pv 0)) LA.ae_int (fun _ _ => rfl)) LA.aa_nil)))) LA.ass_nil)
  (LA.ass_cons (LA.as_if (LA.at_bool (LA.aw_or (LA.at_inC rfl T.k_OF_POINTS (LA.ae_var (pv 1)) rfl) (LA.aw_or1 (LA.at_cmp LA.oa_in (LA.ae_var (pv 1)) (LA.ae_tup (LA.aa_cons LA.ae_str (LA.aa_cons LA.ae_str (LA.aa_cons LA.ae_str (LA.aa_cons LA.ae_str LA.aa_nil))))) rfl)))) (LA.ass_one (LA.as_ret (LA.ae_callTy LA.ca_list rfl T.n_list (by decide +kernel) (LA.aa_cons (LA.ae_slice (LA.ae_var (pv 0)) (LA.ao_some LA.ae_int) LA.ao_none) LA.aa_nil)))) LA.ass_nil)
  (LA.ass_cons (LA.as_if (LA.at_cmp (LA.oa_eq hr.units) (LA.ae_var (pv 1)) LA.ae_str (nomark _)) (LA.ass_one (LA.as_ret (LA.ae_callTy LA.ca_list rfl T.n_list (by decide +kernel) (LA.aa_cons (LA.ae_ix LA.ia_any (LA.ae_var (pv 0)) LA.ae_int (fun _ _ => rfl)) LA.aa_nil)))) LA.ass_nil)
  (LA.ass_cons (LA.as_if (LA.at_cmp (LA.oa_eq hr.units) (LA.ae_var (pv 1)) LA.ae_str (nomark _)) (LA.ass_one (LA.as_ret (LA.ae_bin LA.oa_add (LA.ae_lst (LA.aa_cons (LA.ae_ix LA.ia_any (LA.ae_var (pv 0)) LA.ae_int (fun _ _ => rfl)) LA.aa_nil)) (LA.ae_callTy LA.ca_list rfl T.n_list (by decide +kernel) (LA.aa_cons (LA.ae_ix LA.ia_any (LA.ae_var (pv 0)) LA.ae_int (fun _ _ => rfl)) LA.aa_nil))))) LA.ass_nil)
  (LA.ass_one (LA.as_ret (LA.ae_lst LA.aa_nil)))))))), fun ds ms Q E h => ?_⟩
  obtain ⟨nd, rfl, hc, k⟩ := h
  rcases nd with (x | x | x)
  · cases x <;> simp only [Nd.d, Pa.d] <;> walk_at "b" <;> exact k
  · cases x <;> simp only [Nd.d, Co.d] <;> walk_at "b" <;> exact k
  · cases x <;> simp only [Nd.d, Oc.d] <;> walk_at "b"
    · exact k
    · exact k
    · simp only [Nd.inner, mapNd] at k; exact k
    · simp only [Nd.inner, List.map_cons, mapNd] at k
      simp only [Nd.cnt, Oc.cnt] at hc
      rename_i p ps
      have := len_sum ps
      exact ⟨by omega, k⟩
def S_point1 : ASp := fun ds ms Q _ => ∃ p : Pa, ds = [p.d] ∧ Q (.bl p.kp) ms
def S_span1 : ASp := fun ds ms Q _ => ∃ p : Pa, ds = [p.d] ∧ Q (.bl (!p.kp)) ms
theorem ga_is_point (T : Txt K mg) : HX.GFn P w K mg base "is_point" 1 ["part"] (spA K S_point1) := by
  refine LA.gfn_of T.d_is_point T.g_is_point sc_is_point (by intro ds ms Q E h; unfold S_point1 at h; repeat (first | (obtain ⟨rfl, _⟩ := h; rfl) | obtain ⟨_, h⟩ := h)) (fun _ _ _ _ _ _ us hl => match us, hl with | [_], _ => rfl) fun cdv A outer s H E hr => ⟨_, (LA.ass_cons (LA.as_while (passes_of rfl) (LA.at_cmp LA.oa_in (LA.ae_ix LA.ia_any (LA.ae_var (pv 0)) LA.ae_int (fun _ _ => rfl)) (LA.ae_tup (LA.aa_cons LA.ae_str (LA.aa_cons LA.ae_str LA.aa_nil))) rfl) (LA.ass_one (LA.as_set (i := 0) sc_is_point.nd rfl (Or.inl rfl) (LA.ae_ix LA.ia_any (LA.ae_var (pv 0)) LA.ae_int (fun _ _ => rfl)))))
  (LA.ass_one (LA.as_ret (LA.ae_inC rfl T.k_POINTS (LA.ae_ix LA.ia_any (LA.ae_var (pv 0)) LA.ae_int (fun _ _ => rfl)) rfl)))), fun ds ms Q E h => ?_⟩
  obtain ⟨p, rfl, k⟩ := h
  walk_at "b"
  refine ⟨?_⟩
  induction p with
  | plus p z ih => obtain ⟨n, hn⟩ := ih k; exact ⟨n + 1, by simp only [LA.aWh, Pa.d]; walk_at "b"; exact hn⟩
  | wrap p ih => obtain ⟨n, hn⟩ := ih k; exact ⟨n + 1, by simp only [LA.aWh, Pa.d]; walk_at "b"; exact hn⟩
  | _ => exact ⟨1, by simp only [LA.aWh, Pa.d]; walk_at "b"; exact k⟩
theorem ga_is_span (T : Txt K mg) : HX.GFn P w K mg base "is_span" 1 ["part"] (spA K S_span1) := by
  refine LA.gfn_of T.d_is_span T.g_is_span sc_is_span (by intro ds ms Q E h; unfold S_span1 at h; repeat (first | (obtain ⟨rfl, _⟩ := h; rfl) | obtain ⟨_, h⟩ := h)) (fun _ _ _ _ _ _ us hl => match us, hl with | [_], _ => rfl) fun cdv A outer s H E hr => ⟨_, (LA.ass_cons (LA.as_while (passes_of rfl) (LA.at_cmp LA.oa_in (LA.ae_ix LA.ia_any (LA.ae_var (pv 0)) LA.ae_int (fun _ _ => rfl)) (LA.ae_tup (LA.aa_cons LA.ae_str (LA.aa_cons LA.ae_str LA.aa_nil))) rfl) (LA.ass_one (LA.as_set (i := 0) sc_is_span.nd rfl (Or.inl rfl) (LA.ae_ix LA.ia_any (LA.ae_var (pv 0)) LA.ae_int (fun _ _ => rfl)))))
  (LA.ass_one (LA.as_ret (LA.ae_inC rfl T.k_SPANS (LA.ae_ix LA.ia_any (LA.ae_var (pv 0)) LA.ae_int (fun _ _ => rfl)) rfl)))), fun ds ms Q E h => ?_⟩
  obtain ⟨p, rfl, k⟩ := h
  walk_at "b"
  refine ⟨?_⟩
  induction p with
  | plus p z ih => obtain ⟨n, hn⟩ := ih k; exact ⟨n + 1, by simp only [LA.aWh, Pa.d]; walk_at "b"; exact hn⟩
  | wrap p ih => obtain ⟨n, hn⟩ := ih k; exact ⟨n + 1, by simp only [LA.aWh, Pa.d]; walk_at "b"; exact hn⟩
  | _ => exact ⟨1, by simp only [LA.aWh, Pa.d]; walk_at "b"; exact k⟩
theorem le_sum {l : List Nd} {x : Nd} (h : x ∈ l) : x.cnt ≤ (l.map Nd.cnt).sum := by
  induction l with
  | nil => cases h
  | cons y r ih =>
    rw [List.map_cons, List.sum_cons]
    rcases List.mem_cons.mp h with rfl | h
    · omega
    · have := ih h; omega
theorem take_sum {n : Nat} {k : Int} : ∀ (l : List Nd) (i : Nat), ((l.take i).flatMap fun x => rowsF n x (k + 1)).length ≤ (l.map Nd.cnt).sum
  | [], i => by simp
  | x :: r, 0 => by simp
  | x :: r, i + 1 => by
    have h1 := take_sum (n := n) (k := k) r i
    have h2 := rowsF_len n x (k + 1)
    simp only [List.take_succ_cons, List.flatMap_cons, List.length_append, List.map_cons, List.sum_cons]
    omega
theorem take_snoc {α : Type} {l : List α} {i : Nat} {x : α} (h : l[i]? = some x) : l.take i ++ [x] = l.take (i + 1) := by
  rw [List.take_succ, h]; rfl
def S_all (n : Nat) : ASp := fun ds ms Q _ => 0 < n ∧ ∃ (nd : Nd) (k : Int), ds = [nd.d, .int k] ∧ nd.dep < n ∧ nd.cnt ≤ 1000 ∧ Q (.lst (rowsD (rowsF n nd k))) ms
theorem ga_all_parts (T : Txt K mg) : ∀ n : Nat, HX.GFn P w K mg base "all_parts" (n + 2) ["part", "depth"] (spA K (S_all n))
  | 0 => LA.gfn_none T.d_all_parts T.g_all_parts sc_all_parts (fun _ _ _ _ _ _ us hl => match us, hl with | [_, _], _ => rfl) (fun ds ms Q E h => Nat.lt_irrefl 0 h.1)
  | n + 1 => by
    have g_all_parts := ga_all_parts T n
    have g_inner_of := ga_inner_of (P := P) (w := w) (base := base) T
    refine LA.gfn_of T.d_all_parts T.g_all_parts sc_all_parts (by intro ds ms Q E h; unfold S_all at h; repeat (first | (obtain ⟨rfl, _⟩ := h; rfl) | obtain ⟨_, h⟩ := h)) (fun _ _ _ _ _ _ us hl => match us, hl with | [_, _], _ => rfl) fun cdv A outer s H E hr => ⟨_, (LA.ass_cons (LA.as_own (i := 2) (by decide) sc_all_parts.nd rfl (Or.inl rfl) (LA.fe_lst (LA.aa_cons (LA.ae_tup (LA.aa_cons (LA.ae_var (pv 0)) (LA.aa_cons (LA.ae_var (pv 1)) LA.aa_nil))) LA.aa_nil)))
  (LA.ass_cons (LA.as_for (passes_of rfl) rfl (LA.ai_items (LA.ae_call HX.takesO g_inner_of (hr.mono (by first | decide | omega)) rfl (LA.aa_cons (LA.ae_var (pv 0)) LA.aa_nil))) (LA.ag_name (pg_name (i := 3) sc_all_parts.nd rfl (Or.inl rfl))) (LA.ass_one (LA.as_ext (i := 2) (fun h => pe_bm PySem.F.plainAttrs_list PySem.F.slot_list_extend PySem.F.type_list_extend mt_extend (pv 2) (pa_cons h pa_nil)) (LA.ae_call HX.takesO g_all_parts (hr.mono (by first | decide | omega)) rfl (LA.aa_cons (LA.ae_var (pv 3)) (LA.aa_cons (LA.ae_bin LA.oa_add (LA.ae_var (pv 1)) LA.ae_int) LA.aa_nil))))))
  (LA.ass_one (LA.as_fz (i := 2) (LA.as_ret (LA.ae_var (pv 2))))))), fun ds ms Q E h => ?_⟩
    obtain ⟨_, nd, k, rfl, hd, hc, q⟩ := h
    walk_at "b"
    refine ⟨nd, rfl, hc, ?_⟩
    walk_at "b"
    have hi := nd.inner_cnt
    refine forL_at (fun i s ms' => ms' = ms ∧ ∃ v, s = [some (.fr nd.d), some (.fr (.int k)), some (.ow (.lst (rowsD ((nd, k) :: (nd.inner.take i).flatMap fun x => rowsF n x (k + 1))))), v]) ⟨rfl, none, rfl⟩ ?_ ?_
    · rintro i d s _ hx ⟨rfl, v, rfl⟩ N hN
      rw [List.getElem?_map] at hx
      cases e : nd.inner[i]? with
      | none => rw [e] at hx; cases hx
      | some x =>
        rw [e] at hx; cases hx
        have hm : x ∈ nd.inner := List.mem_of_getElem? e
        have h1 := nd.inner_dep x hm
        have h2 := le_sum hm
        have h3 := take_sum (n := n) (k := k) nd.inner i
        have h4 := rowsF_len n x (k + 1)
        walk_at "b"
        refine ⟨by omega, x, k + 1, rfl, by omega, by omega, ?_⟩
        walk_at "b"
        refine ⟨by simp only [rowsD, List.length_map, List.length_cons] at *; omega, hN _ _ ⟨rfl, some (.fr x.d), ?_⟩⟩
        rw [← take_snoc e]
        simp only [rowsD, List.flatMap_append, List.map_append, List.flatMap_cons, List.flatMap_nil, List.append_nil, List.map_cons, List.cons_append]
    · rintro s _ ⟨rfl, v, rfl⟩
      walk_at "b"
      rw [List.take_of_length_le (Nat.le_refl _)]
      exact q
end

end LW
namespace LW
open PySem PySem.Spec PyProof.Rows L2
open LA
section
variable {P : Program} {w : World} {K : PySem.W.Frag} {mg : Str → Option Value} {base : Heap}
def rdD (r : Rd) : D := .dk (r.map fun p => (.inr p.1, .int p.2))
theorem valD_rd (r : Rd) (x : Str) : (valD (r.map fun p => ((.inr p.1 : Key), D.int p.2)) (.inr x)).getD (.int 0) = .int (r.get x) := by
  unfold Rd.get valD
  induction r with
  | nil => rfl
  | cons p r ih =>
    obtain ⟨y, z⟩ := p
    simp only [List.map_cons, List.find?_cons, List.lookup_cons]
    by_cases h : y = x
    · subst h; simp
    · have h1 : (decide ((Sum.inr y : Key) = Sum.inr x)) = false := decide_eq_false fun e => h (Sum.inr.inj e)
      have h2 : (x == y) = false := beq_eq_false_iff_ne.mpr fun e => h e.symm
      rw [h1, h2]; exact ih
theorem put_rd (r : Rd) (x : Str) (z : Int) : putDK (r.map fun p => ((.inr p.1 : Key), D.int p.2)) (.inr x) (.int z) = (r.put x z).map fun p => ((.inr p.1 : Key), D.int p.2) := by
  unfold putDK Rd.put
  have e : ((r.map fun p => ((.inr p.1 : Key), D.int p.2)).any fun kv => decide (kv.1 = .inr x)) = r.any fun p => p.1 == x := by
    rw [List.any_map]
    congr 1
    funext p
    show decide ((Sum.inr p.1 : Key) = Sum.inr x) = (p.1 == x)
    by_cases h : p.1 = x
    · rw [h]; simp
    · rw [decide_eq_false fun e => h (Sum.inr.inj e), beq_eq_false_iff_ne.mpr h]
  rw [e]
  split
  · rw [List.map_map, List.map_map]
    congr 1
    funext p
    show (if (Sum.inr p.1 : Key) = Sum.inr x then _ else _) = _
    by_cases h : p.1 = x
    · rw [if_pos (by rw [h])]
      show _ = ((Sum.inr (if (p.1 == x) = true then (x, z) else p).1 : Key), D.int (if (p.1 == x) = true then (x, z) else p).2)
      rw [if_pos (beq_iff_eq.mpr h)]
      show ((Sum.inr p.1 : Key), D.int z) = _
      rw [h]
    · rw [if_neg fun e => h (Sum.inr.inj e)]
      show _ = ((Sum.inr (if (p.1 == x) = true then (x, z) else p).1 : Key), D.int (if (p.1 == x) = true then (x, z) else p).2)
      rw [if_neg (by rw [beq_iff_eq]; exact h)]
  · rw [List.map_append]; rfl
theorem put_len (r : Rd) (x : Str) (z : Int) : (r.put x z).length ≤ r.length + 1 := by
  unfold Rd.put
  split
  · rw [List.length_map]; omega
  · rw [List.length_append]; exact Nat.le_refl _
def S_less : ASp := fun ds ms Q _ => ∃ a b : Rd, ds = [rdD a, rdD b] ∧ a.length ≤ 1000 ∧ b.length ≤ 1000 ∧ Q (rdD (a.less b)) ms
theorem ga_less (T : Txt K mg) : HX.GFn P w K mg base "less" 1 ["one", "other"] (spA K S_less) := by
  refine LA.gfn_of T.d_less T.g_less sc_less (by intro ds ms Q E h; unfold S_less at h; repeat (first | (obtain ⟨rfl, _⟩ := h; rfl) | obtain ⟨_, h⟩ := h)) (fun _ _ _ _ _ _ us hl => match us, hl with | [_, _], _ => rfl) fun cdv A outer s H E hr => ⟨_, (LA.ass_cons (LA.as_own (i := 2) (by decide) sc_less.nd rfl (Or.inl rfl) LA.fe_dk)
  (LA.ass_cons (LA.as_for (passes_of rfl) rfl (LA.ai_items (LA.ae_bin LA.oa_add (LA.ae_callTy (LA.ca_listD rfl) rfl T.n_list (by decide +kernel) (LA.aa_cons (LA.ae_var (pv 0)) LA.aa_nil)) (LA.ae_callTy (LA.ca_listD rfl) rfl T.n_list (by decide +kernel) (LA.aa_cons (LA.ae_var (pv 1)) LA.aa_nil)))) (LA.ag_name (pg_name (i := 3) sc_less.nd rfl (Or.inl rfl))) (LA.ass_cons (LA.as_set (i := 4) sc_less.nd rfl (Or.inl rfl) (LA.ae_bin LA.oa_sub (LA.ae_get (hu_of hr) (LA.ae_var (pv 0)) (LA.ae_var (pv 3)) LA.ae_int ⟨rfl, rfl, rfl, rfl⟩) (LA.ae_get (hu_of hr) (LA.ae_var (pv 1)) (LA.ae_var (pv 3)) LA.ae_int ⟨rfl, rfl, rfl, rfl⟩)))
  (LA.ass_one (LA.as_if (LA.at_cmp (LA.oa_ne hr.units) (LA.ae_var (pv 4)) LA.ae_int (nomark _)) (LA.ass_one (LA.as_putO (hu_of hr) (pv 2) (LA.ae_var (pv 3)) (LA.ae_var (pv 4)) rfl)) LA.ass_nil))))
  (LA.ass_one (LA.as_fz (i := 2) (LA.as_ret (LA.ae_var (pv 2))))))), fun ds ms Q E h => ?_⟩
  obtain ⟨a, b, rfl, ha, hb, q⟩ := h
  simp only [rdD] at *
  walk_at "b"
  refine ⟨by omega, ?_⟩
  have e0 : ∀ r : Rd, ((fun p : Str × Int => keyD ((Sum.inr p.1 : Key), D.int p.2).1) : Str × Int → D) = fun p => .str p.1 := fun _ => rfl
  simp only [List.map_map]
  refine forL_at (fun i s ms' => ms' = ms ∧ ∃ (f : Rd) (v u : Option AV), Rd.lessL a b ((a.map (·.1) ++ b.map (·.1)).drop i) f = a.less b ∧ f.length ≤ i ∧ s = [some (.fr (.dk (a.map fun p => (.inr p.1, .int p.2)))), some (.fr (.dk (b.map fun p => (.inr p.1, .int p.2)))), some (.ow (.dk (f.map fun p => (.inr p.1, .int p.2)))), v, u]) ⟨rfl, [], none, none, rfl, Nat.le_refl _, rfl⟩ ?_ ?_
  · rintro i d s _ hx ⟨rfl, f, v, u, hf, hl, rfl⟩ N hN
    have hx : ((a.map (·.1) ++ b.map (·.1)).map D.str)[i]? = some d := by
      rw [← hx]; congr 1; simp only [List.map_append, List.map_map]; rfl
    rw [List.getElem?_map] at hx
    cases e : (a.map (·.1) ++ b.map (·.1))[i]? with
    | none => rw [e] at hx; cases hx
    | some x =>
      rw [e] at hx; cases hx
      have hi := (List.getElem?_eq_some_iff.mp e).1
      simp only [List.length_append, List.length_map] at hi
      have e2 : (a.map (·.1) ++ b.map (·.1)).drop i = x :: (a.map (·.1) ++ b.map (·.1)).drop (i + 1) := by
        rw [List.drop_eq_getElem_cons (by simp; omega)]
        congr 1
        exact (List.getElem?_eq_some_iff.mp e).2
      rw [e2, Rd.lessL] at hf
      walk_at "b"
      simp only [valD_rd]
      refine br_n (fun h0 => ?_) (fun h0 => ?_)
      · rw [if_neg h0] at hf
        walk_at "b"
        have := put_len f x (a.get x - b.get x)
        refine ⟨by omega, hN _ _ ⟨rfl, f.put x (a.get x - b.get x), some (.fr (.str x)), some (.fr (.int (a.get x - b.get x))), hf, by omega, ?_⟩⟩
        rw [← put_rd]
      · rw [if_pos h0] at hf
        walk_at "b"
        exact hN _ _ ⟨rfl, f, some (.fr (.str x)), some (.fr (.int (a.get x - b.get x))), hf, by omega, rfl⟩
  · rintro s _ ⟨rfl, f, v, u, hf, hl, rfl⟩
    walk_at "b"
    rw [List.drop_of_length_le (by simp), Rd.lessL] at hf
    rw [hf]; exact q
theorem lessL_len (a b : Rd) : ∀ (l : List Str) (f : Rd), (Rd.lessL a b l f).length ≤ f.length + l.length
  | [], f => Nat.le_refl _
  | x :: l, f => by
    unfold Rd.lessL
    split
    · have := lessL_len a b l f; simp only [List.length_cons]; omega
    · have := lessL_len a b l (f.put x (a.get x - b.get x)); have := put_len f x (a.get x - b.get x); simp only [List.length_cons]; omega
theorem less_len (a b : Rd) : (a.less b).length ≤ a.length + b.length := by
  have := lessL_len a b (a.map (·.1) ++ b.map (·.1)) []
  simp only [List.length_append, List.length_map, List.length_nil] at this
  unfold Rd.less; omega
theorem rd_len : ∀ p : Pa, p.rd.length ≤ p.cnt
  | .time _ => Nat.le_refl _
  | .mid => Nat.zero_le _
  | .at _ => Nat.zero_le _
  | .spn _ => Nat.zero_le _
  | .plus p _ => Nat.le_trans (rd_len p) (Nat.le_add_right _ _)
  | .wrap p => Nat.le_trans (rd_len p) (Nat.le_add_right _ _)
  | .minus p q => by have := less_len p.rd q.rd; have := rd_len p; have := rd_len q; simp only [Pa.rd, Pa.cnt]; omega
def S_reading (n : Nat) : ASp := fun ds ms Q _ => 0 < n ∧ ∃ p : Pa, ds = [p.d] ∧ p.dep < n ∧ p.cnt ≤ 1000 ∧ Q (rdD p.rd) ms
theorem ga_reading_of (T : Txt K mg) : ∀ n : Nat, HX.GFn P w K mg base "reading_of" (n + 2) ["part"] (spA K (S_reading n))
  | 0 => LA.gfn_none T.d_reading_of T.g_reading_of sc_reading_of (fun _ _ _ _ _ _ us hl => match us, hl with | [_], _ => rfl) (fun ds ms Q E h => Nat.lt_irrefl 0 h.1)
  | n + 1 => by
    have g_reading_of := ga_reading_of T n
    have g_less := ga_less (P := P) (w := w) (base := base) T
    refine LA.gfn_of T.d_reading_of T.g_reading_of sc_reading_of (by intro ds ms Q E h; unfold S_reading at h; repeat (first | (obtain ⟨rfl, _⟩ := h; rfl) | obtain ⟨_, h⟩ := h)) (fun _ _ _ _ _ _ us hl => match us, hl with | [_], _ => rfl) fun cdv A outer s H E hr => ⟨_, (LA.ass_cons (LA.as_while (passes_of rfl) (LA.at_cmp LA.oa_in (LA.ae_ix LA.ia_any (LA.ae_var (pv 0)) LA.ae_int (fun _ _ => rfl)) (LA.ae_tup (LA.aa_cons LA.ae_str (LA.aa_cons LA.ae_str LA.aa_nil))) rfl) (LA.ass_one (LA.as_set (i := 0) sc_reading_of.nd rfl (Or.inl rfl) (LA.ae_ix LA.ia_any (LA.ae_var (pv 0)) LA.ae_int (fun _ _ => rfl)))))
  (LA.ass_cons (LA.as_own (i := 1) (by decide) sc_reading_of.nd rfl (Or.inl rfl) LA.fe_dk)
  (LA.ass_cons (LA.as_if (LA.at_cmp (LA.oa_eq hr.units) (LA.ae_ix LA.ia_any (LA.ae_var (pv 0)) LA.ae_int (fun _ _ => rfl)) LA.ae_str (nomark _)) (LA.ass_one (LA.as_putO (hu_of hr) (pv 1) (LA.ae_ix LA.ia_any (LA.ae_var (pv 0)) LA.ae_int (fun _ _ => rfl)) LA.ae_int rfl)) LA.ass_nil)
  (LA.ass_cons (LA.as_if (LA.at_cmp (LA.oa_eq hr.units) (LA.ae_ix LA.ia_any (LA.ae_var (pv 0)) LA.ae_int (fun _ _ => rfl)) LA.ae_str (nomark _)) (LA.ass_one (LA.as_set (i := 1) sc_reading_of.nd rfl (Or.inl rfl) (LA.ae_call HX.takesO g_less (hr.mono (by first | decide | omega)) rfl (LA.aa_cons (LA.ae_call HX.takesO g_reading_of (hr.mono (by first | decide | omega)) rfl (LA.aa_cons (LA.ae_ix LA.ia_any (LA.ae_var (pv 0)) LA.ae_int (fun _ _ => rfl)) LA.aa_nil)) (LA.aa_cons (LA.ae_call HX.takesO g_reading_of (hr.mono (by first | decide | omega)) rfl (LA.aa_cons (LA.ae_ix LA.ia_any (LA.ae_var (pv 0)) LA.ae_int (fun _ _ => rfl)) LA.aa_nil)) LA.aa_nil))))) LA.ass_nil)
  (LA.ass_one (LA.as_fz (i := 1) (LA.as_ret (LA.ae_var (pv 1))))))))), fun ds ms Q E h => ?_⟩
    obtain ⟨_, p, rfl, hd, hc, q⟩ := h
    walk_at "b"
    refine ⟨?_⟩
    induction p with
    | plus p z ih => obtain ⟨m, hm⟩ := ih (by simp only [Pa.dep] at hd; omega) (by simp only [Pa.cnt] at hc; omega) q; exact ⟨m + 1, by simp only [LA.aWh, Pa.d]; walk_at "b"; exact hm⟩
    | wrap p ih => obtain ⟨m, hm⟩ := ih (by simp only [Pa.dep] at hd; omega) (by simp only [Pa.cnt] at hc; omega) q; exact ⟨m + 1, by simp only [LA.aWh, Pa.d]; walk_at "b"; exact hm⟩
    | minus a b _ _ =>
      simp only [Pa.dep, Pa.cnt] at hd hc
      refine ⟨1, ?_⟩
      simp only [LA.aWh, Pa.d]
      walk_at "b"
      refine ⟨by omega, a, rfl, by omega, by omega, ?_⟩
      walk_at "b"
      refine ⟨by omega, b, rfl, by omega, by omega, ?_⟩
      walk_at "b"
      refine ⟨a.rd, b.rd, rfl, by have := rd_len a; omega, by have := rd_len b; omega, ?_⟩
      walk_at "b"
      exact q
    | time x =>
      refine ⟨1, ?_⟩
      simp only [LA.aWh, Pa.d]
      walk_at "b"
      first | exact q | exact ⟨by decide, q⟩
    | _ => exact ⟨1, by simp only [LA.aWh, Pa.d]; walk_at "b"; exact q⟩
/-- the readings' counts -/
def isSimple (l : List Int) : Bool := ([[], [1], [-1], [-1, 1], [2], [-2], [-2, 2]] : List (List Int)).any fun x => decide (x = l)
def S_simple : ASp := fun ds ms Q _ => ∃ r : Rd, ds = [rdD r] ∧ Simp r ∧ Q (.bl true) ms
theorem get_self {r : Rd} (h : (r.map (·.1)).Nodup) : r.map (fun p => r.get p.1) = r.map (·.2) := by
  induction r with
  | nil => rfl
  | cons p r ih =>
    obtain ⟨x, z⟩ := p
    simp only [List.map_cons, List.nodup_cons] at h
    simp only [List.map_cons]
    have e : ∀ q ∈ r, Rd.get ((x, z) :: r) q.1 = Rd.get r q.1 := fun q hq => by
      unfold Rd.get
      rw [List.lookup_cons]
      have : (q.1 == x) = false := beq_eq_false_iff_ne.mpr fun e => h.1 (List.mem_map.mpr ⟨q, hq, e⟩)
      rw [this]
    rw [List.map_congr_left e, ih h.2]
    congr 1
    unfold Rd.get
    simp [List.lookup_cons]
theorem valD_mem {r : Rd} {x : Str} (h : x ∈ r.map (·.1)) : valD (r.map fun p => ((.inr p.1 : Key), D.int p.2)) (.inr x) = some (.int (r.get x)) := by
  have e := valD_rd r x
  cases q : valD (r.map fun p => ((.inr p.1 : Key), D.int p.2)) (.inr x) with
  | some y => rw [q] at e; rw [← e]; rfl
  | none =>
    unfold valD at q
    rw [Option.map_eq_none_iff, List.find?_eq_none] at q
    obtain ⟨p, hp, rfl⟩ := List.mem_map.mp h
    exact absurd (decide_eq_true rfl) (q _ (List.mem_map.mpr ⟨p, hp, rfl⟩))
theorem in_simple {l : List Int} {Q : D → Prop} (h : l = [] ∨ l = [1] ∨ l = [-1] ∨ l = [-1, 1] ∨ l = [2] ∨ l = [-2] ∨ l = [-2, 2]) (q : Q (.bl true)) : fInT (.lst (l.map D.int)) (.tup [.lst [], .lst [.int 1], .lst [.int (-1)], .lst [.int (-1), .int 1], .lst [.int 2], .lst [.int (-2)], .lst [.int (-2), .int 2]]) Q := by
  have t : ∀ {a : D} {b : PyData} {x : List D} {y : List PyData}, PyOf a b → PyOf (.tup x) (.tuple y) → PyOf (.tup (a :: x)) (.tuple (b :: y)) := fun h k => .tcons h k
  have tt : PyOf (.tup [.lst [], .lst [.int 1], .lst [.int (-1)], .lst [.int (-1), .int 1], .lst [.int 2], .lst [.int (-2)], .lst [.int (-2), .int 2]]) (.tuple [.list [], .list [.int 1], .list [.int (-1)], .list [.int (-1), .int 1], .list [.int 2], .list [.int (-2)], .list [.int (-2), .int 2]]) :=
    t .lnil (t (.lcons (.int _) .lnil) (t (.lcons (.int _) .lnil) (t (.lcons (.int _) (.lcons (.int _) .lnil)) (t (.lcons (.int _) .lnil) (t (.lcons (.int _) .lnil) (t (.lcons (.int _) (.lcons (.int _) .lnil)) .tnil))))))
  rcases h with rfl | rfl | rfl | rfl | rfl | rfl | rfl
  · exact ⟨.list [], _, .lnil, tt, by decide +kernel, by decide +kernel, by rw [show (List.any _ _) = true from by decide +kernel]; exact q⟩
  · exact ⟨.list [.int 1], _, .lcons (.int _) .lnil, tt, by decide +kernel, by decide +kernel, by rw [show (List.any _ _) = true from by decide +kernel]; exact q⟩
  · exact ⟨.list [.int (-1)], _, .lcons (.int _) .lnil, tt, by decide +kernel, by decide +kernel, by rw [show (List.any _ _) = true from by decide +kernel]; exact q⟩
  · exact ⟨.list [.int (-1), .int 1], _, .lcons (.int _) (.lcons (.int _) .lnil), tt, by decide +kernel, by decide +kernel, by rw [show (List.any _ _) = true from by decide +kernel]; exact q⟩
  · exact ⟨.list [.int 2], _, .lcons (.int _) .lnil, tt, by decide +kernel, by decide +kernel, by rw [show (List.any _ _) = true from by decide +kernel]; exact q⟩
  · exact ⟨.list [.int (-2)], _, .lcons (.int _) .lnil, tt, by decide +kernel, by decide +kernel, by rw [show (List.any _ _) = true from by decide +kernel]; exact q⟩
  · exact ⟨.list [.int (-2), .int 2], _, .lcons (.int _) (.lcons (.int _) .lnil), tt, by decide +kernel, by decide +kernel, by rw [show (List.any _ _) = true from by decide +kernel]; exact q⟩
theorem perm2 {l : List Int} {a b : Int} (h : l.Perm [a, b]) (p : l.Pairwise (· ≤ ·)) (hab : a < b) : l = [a, b] := by
  match l, h.length_eq with
  | [x, y], _ =>
    have h1 := (h.mem_iff (a := x)).mp (by simp)
    have h2 := (h.mem_iff (a := y)).mp (by simp)
    have h3 := (h.mem_iff (a := a)).mpr (by simp)
    have h4 := (h.mem_iff (a := b)).mpr (by simp)
    have h5 : x ≤ y := by simpa using p
    simp only [List.mem_cons, List.not_mem_nil, or_false] at h1 h2 h3 h4
    have e1 : x = a := by omega
    have e2 : y = b := by omega
    rw [e1, e2]
theorem simp_list {r : Rd} (h : Simp r) {l : List Int} (p : l.Perm (r.map (·.2))) (s : l.Pairwise (· ≤ ·)) : l = [] ∨ l = [1] ∨ l = [-1] ∨ l = [-1, 1] ∨ l = [2] ∨ l = [-2] ∨ l = [-2, 2] := by
  cases h with
  | nil => exact .inl (List.perm_nil.mp p)
  | one x z h =>
    have := List.perm_singleton.mp p
    subst this
    rcases h with rfl | rfl | rfl | rfl <;> simp
  | two x y z h n =>
    rcases h with rfl | rfl | rfl | rfl
    · have := perm2 (a := -1) (b := 1) (p.trans (List.Perm.swap _ _ _)) s (by decide); simp [this]
    · have := perm2 (a := -1) (b := 1) p s (by decide); simp [this]
    · have := perm2 (a := -2) (b := 2) (p.trans (List.Perm.swap _ _ _)) s (by decide); simp [this]
    · have := perm2 (a := -2) (b := 2) p s (by decide); simp [this]
theorem intsD_of_map : ∀ (ns : List Int), intsD (ns.map D.int) = some ns
  | [] => rfl
  | i :: r => by rw [List.map_cons, intsD, intsD_of_map r]; rfl
theorem Simp.len {r : Rd} (h : Simp r) : r.length ≤ 2 := by cases h <;> simp
theorem Simp.nd {r : Rd} (h : Simp r) : (r.map (·.1)).Nodup := by
  cases h with
  | nil => exact .nil
  | one x z h => simp
  | two x y z h n => simp [n]
theorem ga_is_simple (T : Txt K mg) : HX.GFn P w K mg base "is_simple" 1 ["reading"] (spA K S_simple) := by
  refine LA.gfn_of T.d_is_simple T.g_is_simple sc_is_simple (by intro ds ms Q E h; unfold S_simple at h; repeat (first | (obtain ⟨rfl, _⟩ := h; rfl) | obtain ⟨_, h⟩ := h)) (fun _ _ _ _ _ _ us hl => match us, hl with | [_], _ => rfl) fun cdv A outer s H E hr => ⟨_, (LA.ass_cons (LA.as_set (i := 1) sc_is_simple.nd rfl (Or.inl rfl) (LA.ae_callB LA.ca_sort rfl T.n_sorted (by decide +kernel) (LA.aa_cons (LA.ae_new (LA.fe_lcK (i := 0) (own := [("name", 2)]) rfl sc_is_simple.nd (pv 0) (blkOk_by (own := [("name", 2)]) (N := ["reading", "counts", "name"]) (sc := defScope s_is_simple) (by decide +kernel)) (by decide) (fun _ _ _ _ _ => (LA.ag_name (pg_name (i := 2) sc_is_simple.nd rfl (Or.inl rfl)))) (fun _ _ _ _ _ => LA.ats_nil) (fun _ _ _ _ _ => (LA.ae_dget (hu_of hr) (LA.ae_var (pv 0)) (LA.ae_var (pv 2)) (fun _ _ => rfl))))) LA.aa_nil)))
  (LA.ass_one (LA.as_ret (LA.ae_cmp (LA.oa_inT (LA.u65_of hr)) (LA.ae_var (pv 1)) (LA.ae_tup (LA.aa_cons (LA.ae_lst LA.aa_nil) (LA.aa_cons (LA.ae_lst (LA.aa_cons LA.ae_int LA.aa_nil)) (LA.aa_cons (LA.ae_lst (LA.aa_cons (LA.ae_un LA.ua_neg LA.ae_int) LA.aa_nil)) (LA.aa_cons (LA.ae_lst (LA.aa_cons (LA.ae_un LA.ua_neg LA.ae_int) (LA.aa_cons LA.ae_int LA.aa_nil))) (LA.aa_cons (LA.ae_lst (LA.aa_cons LA.ae_int LA.aa_nil)) (LA.aa_cons (LA.ae_lst (LA.aa_cons (LA.ae_un LA.ua_neg LA.ae_int) LA.aa_nil)) (LA.aa_cons (LA.ae_lst (LA.aa_cons (LA.ae_un LA.ua_neg LA.ae_int) (LA.aa_cons LA.ae_int LA.aa_nil))) LA.aa_nil)))))))) rfl)))), fun ds ms Q E h => ?_⟩
  obtain ⟨r, rfl, hs, q⟩ := h
  simp only [rdD] at *
  walk_at "b"
  have hl := hs.len
  rw [show (List.map (fun kv => keyD kv.fst) (List.map (fun p => ((Sum.inr p.fst : Key), D.int p.snd)) r)) = (r.map (·.1)).map D.str by rw [List.map_map, List.map_map]; rfl]
  refine lcL_map (fun d => match d with | .str x => .int (r.get x) | d => d) (by rw [List.length_map, List.length_map]; unfold PySem.sizeLine; omega) (fun d hd N hN => ?_) ?_
  · obtain ⟨x, hx, rfl⟩ := List.mem_map.mp hd
    walk_at "b"
    rw [valD_mem hx]
    exact hN
  · have e : (((r.map (·.1)).map D.str).map fun d => match d with | .str x => .int (r.get x) | d => d) = (r.map (·.2)).map D.int := by
      rw [← get_self hs.nd, List.map_map, List.map_map, List.map_map]; rfl
    rw [e]
    walk_at "b"
    exact ⟨by omega, fun ns' hp hw => in_simple (simp_list hs hp hw) q⟩
end

end LW
namespace LW
open PySem PySem.Spec PyProof.Rows L2
open LA
section
variable {P : Program} {w : World} {K : PySem.W.Frag} {mg : Str → Option Value} {base : Heap}
/-- is it an int and no bool -/
def intD : D → Option Bool
  | .int _ => some true
  | .bl _ => some false
  | .str _ => some false
  | .non => some false
  | .tup _ => some false
  | .lst _ => some false
  | .dk _ => some false
  | _ => none
def S_isint : ASp := fun ds ms Q _ => ∃ (d : D) (b : Bool), ds = [d] ∧ intD d = some b ∧ Q (.bl b) ms
theorem ga_is_integer (T : Txt K mg) : HX.GFn P w K mg base "is_integer" 1 ["value"] (spA K S_isint) := by
  refine LA.gfn_of T.d_is_integer T.g_is_integer sc_is_integer (by intro ds ms Q E h; unfold S_isint at h; repeat (first | (obtain ⟨rfl, _⟩ := h; rfl) | obtain ⟨_, h⟩ := h)) (fun _ _ _ _ _ _ us hl => match us, hl with | [_], _ => rfl) fun cdv A outer s H E hr => ⟨_, (LA.ass_one (LA.as_ret (LA.ae_and (LA.ae_callB LA.ca_isTy rfl T.n_isinstance (by decide +kernel) (LA.aa_cons (LA.ae_var (pv 0)) (LA.aa_cons (LA.ae_c (pe_bltn (v := .ty "int") (u := .type "int") rfl T.n_int (by decide +kernel) rfl) (fun _ => .ty _)) LA.aa_nil))) (LA.ae_one (LA.ae_not (LA.ae_callB LA.ca_isTy rfl T.n_isinstance (by decide +kernel) (LA.aa_cons (LA.ae_var (pv 0)) (LA.aa_cons (LA.ae_c (pe_bltn (v := .ty "bool") (u := .type "bool") rfl T.n_bool (by decide +kernel) rfl) (fun _ => .ty _)) LA.aa_nil)))))))), fun ds ms Q E h => ?_⟩
  obtain ⟨d, b, rfl, hb, q⟩ := h
  cases d <;> simp only [intD, Option.some.injEq, reduceCtorEq] at hb <;> subst hb <;> walk_at "b" <;> exact q
def letters : Str := "abcdefghijklmnopqrstuvwxyz"
/-- is it a name -/
def okN (z : Str) : Bool := decide (1 ≤ z.length) && (decide (z.length ≤ 8) && z.cps.toList.all fun c => subStr ⟨#[c]⟩ letters)
def S_isname : ASp := fun ds ms Q _ => ∃ (z : Str), ds = [.str z] ∧ z.length ≤ PySem.sizeLine ∧ Q (.bl (okN z)) ms
theorem inFlat_map (x : Str) (ns : List Str) : inFlat (.str x) (ns.map D.str) = decide (x ∈ ns) := by
  induction ns with
  | nil => rfl
  | cons y r ih =>
    rw [List.map_cons, LA.s_if1, ih, LA.s_ef1]
    by_cases h : y = x
    · subst h; simp
    · have h' : ¬ x = y := fun e => h e.symm
      simp [h, h']
theorem flat_map (ns : List Str) : (ns.map D.str).all flatD = true := by
  rw [List.all_map, List.all_eq_true]; exact fun _ _ => rfl
theorem ga_is_name (T : Txt K mg) : HX.GFn P w K mg base "is_name" 1 ["value"] (spA K S_isname) := by
  refine LA.gfn_of T.d_is_name T.g_is_name sc_is_name (by intro ds ms Q E h; unfold S_isname at h; repeat (first | (obtain ⟨rfl, _⟩ := h; rfl) | obtain ⟨_, h⟩ := h)) (fun _ _ _ _ _ _ us hl => match us, hl with | [_], _ => rfl) fun cdv A outer s H E hr => ⟨_, (LA.ass_cons (LA.as_if (LA.at_bool (LA.aw_or (LA.at_not (LA.at_val (LA.ae_callB LA.ca_isTy rfl T.n_isinstance (by decide +kernel) (LA.aa_cons (LA.ae_var (pv 0)) (LA.aa_cons (LA.ae_c (pe_bltn (v := .ty "str") (u := .type "str") rfl T.n_str (by decide +kernel) rfl) (fun _ => .ty _)) LA.aa_nil))))) (LA.aw_or1 (LA.at_not (LA.at_chain LA.oa_le LA.oa_le LA.ae_int (LA.ae_callB LA.ca_len rfl T.n_len (by decide +kernel) (LA.aa_cons (LA.ae_var (pv 0)) LA.aa_nil)) (LA.ae_gint rfl T.k_LONGEST)))))) (LA.ass_one (LA.as_ret LA.ae_bl)) LA.ass_nil)
  (LA.ass_cons (LA.as_for (passes_of rfl) rfl (LA.ai_str (LA.ae_var (pv 0))) (LA.ag_name (pg_name (i := 1) sc_is_name.nd rfl (Or.inl rfl))) (LA.ass_one (LA.as_if (LA.at_cmp LA.oa_notin (LA.ae_var (pv 1)) (LA.ae_gstr rfl T.k_LETTERS) rfl) (LA.ass_one (LA.as_ret LA.ae_bl)) LA.ass_nil)))
  (LA.ass_one (LA.as_ret LA.ae_bl)))), fun ds ms Q E h => ?_⟩
  obtain ⟨z, rfl, hz, q⟩ := h
  unfold PySem.sizeLine at hz
  walk_at "b"
  refine ⟨hz, ?_⟩
  have hno : okN z = false → Q (.bl false) ms := fun e => by rw [e] at q; exact q
  refine br_d (fun h1 => ?_) (fun h1 => ?_)
  · walk_at "b"
    refine br_n (fun h2 => ?_) (fun h2 => ?_)
    · walk_at "b"
      exact hno (by unfold okN; rw [show decide (z.length ≤ 8) = false from decide_eq_false (by omega)]; simp)
    · walk_at "b"
      refine forL_at (fun i s ms' => ms' = ms ∧ ∃ v, s = [some (.fr (.str z)), v] ∧ ∀ c ∈ z.cps.toList.take i, subStr ⟨#[c]⟩ letters = true) ⟨rfl, none, rfl, fun _ h => by simp at h⟩ ?_ ?_
      · rintro i d s _ hx ⟨rfl, v, rfl, hi⟩ N hN
        unfold LA.signs at hx
        rw [List.getElem?_map] at hx
        cases e : z.cps.toList[i]? with
        | none => rw [e] at hx; cases hx
        | some c =>
          rw [e] at hx; cases hx
          walk_at "b"
          refine br_b (fun h => ?_) (fun h => ?_)
          · walk_at "b"
            refine hno ?_
            have hf : subStr ⟨#[c]⟩ letters = false := by simpa [letters] using h
            have : (z.cps.toList.all fun c => subStr ⟨#[c]⟩ letters) = false := by
              rw [List.all_eq_false]
              exact ⟨c, List.mem_of_getElem? e, by rw [hf]; exact Bool.false_ne_true⟩
            unfold okN; rw [this]; simp
          · walk_at "b"
            have ht : subStr ⟨#[c]⟩ letters = true := by simpa [letters] using h
            refine hN _ _ ⟨rfl, some (.fr (.str ⟨#[c]⟩)), rfl, fun x hx => ?_⟩
            rw [← take_snoc e] at hx
            rcases List.mem_append.mp hx with hx | hx
            · exact hi x hx
            · rw [List.mem_singleton.mp hx]; exact ht
      · rintro s _ ⟨rfl, v, rfl, hi⟩
        walk_at "b"
        have : okN z = true := by
          unfold okN
          rw [Bool.and_eq_true, Bool.and_eq_true]
          refine ⟨decide_eq_true (by omega), decide_eq_true (by omega), ?_⟩
          rw [List.all_eq_true]
          exact fun c hc => hi c (by rw [List.take_of_length_le (by simp [LA.signs])]; exact hc)
        rw [this] at q; exact q
  · walk_at "b"
    exact hno (by unfold okN; rw [show decide (1 ≤ z.length) = false from decide_eq_false (by omega)]; simp)
theorem okN_good : ∀ z ∈ good, okN z = true ∧ z.length ≤ PySem.sizeLine := by
  have h : (good.all fun z => okN z && decide (z.length ≤ 8)) = true := by decide +kernel
  intro z hz
  have := List.all_eq_true.mp h z hz
  rw [Bool.and_eq_true, decide_eq_true_eq] at this
  exact ⟨this.1, by have := this.2; unfold PySem.sizeLine; omega⟩
theorem bls_true (l : List D) : blsD (l.map fun _ => D.bl true) = some (l.map fun _ => true) := by
  induction l with
  | nil => rfl
  | cons p r ih => rw [List.map_cons, blsD, ih]; rfl
theorem all_true (l : List D) : (l.map fun _ => true).all id = true := by
  rw [List.all_map, List.all_eq_true]; exact fun _ _ => rfl
def S_bad : ASp := fun ds ms Q _ => ∃ (nd : Nd) (ns : List Str), ds = [nd.d] ∧ nd.wf ns ∧ nd.cnt ≤ 1000 ∧ Q (.bl false) ms
theorem ga_is_bad_kind (T : Txt K mg) : HX.GFn P w K mg base "is_bad_kind" 2 ["part"] (spA K S_bad) := by
  have g_inner_of := ga_inner_of (P := P) (w := w) (base := base) T
  have g_is_point := ga_is_point (P := P) (w := w) (base := base) T
  have g_is_span := ga_is_span (P := P) (w := w) (base := base) T
  refine LA.gfn_of T.d_is_bad_kind T.g_is_bad_kind sc_is_bad_kind (by intro ds ms Q E h; unfold S_bad at h; repeat (first | (obtain ⟨rfl, _⟩ := h; rfl) | obtain ⟨_, h⟩ := h)) (fun _ _ _ _ _ _ us hl => match us, hl with | [_], _ => rfl) fun cdv A outer s H E hr => ⟨_, (LA.ass_cons (LA.as_set (i := 1) sc_is_bad_kind.nd rfl (Or.inl rfl) (LA.ae_ix LA.ia_any (LA.ae_var (pv 0)) LA.ae_int (fun _ _ => rfl)))
  (LA.ass_cons (LA.as_if (LA.at_bool (LA.aw_or (LA.at_inC rfl T.k_OF_POINTS (LA.ae_var (pv 1)) rfl) (LA.aw_or1 (LA.at_cmp (LA.oa_eq hr.units) (LA.ae_var (pv 1)) LA.ae_str (nomark _))))) (LA.ass_one (LA.as_ret (LA.ae_not (LA.ae_callB (LA.ca_all rfl) rfl T.n_all (by decide +kernel) (LA.aa_cons (LA.ae_new (LA.fe_lc (own := [("inner", 2)]) rfl sc_is_bad_kind.nd (LA.ai_items (LA.ae_call HX.takesO g_inner_of (hr.mono (by first | decide | omega)) rfl (LA.aa_cons (LA.ae_var (pv 0)) LA.aa_nil))) (blkOk_by (own := [("inner", 2)]) (N := ["part", "word", "inner"]) (sc := defScope s_is_bad_kind) (by decide +kernel)) (by decide) (fun _ _ _ _ _ => (LA.ag_name (pg_name (i := 2) sc_is_bad_kind.nd rfl (Or.inl rfl)))) (fun _ _ _ _ _ => LA.ats_nil) (fun _ _ _ _ _ => (LA.ae_call HX.takes0N g_is_point (hr.mono (by first | decide | omega)) rfl (LA.aa_cons (LA.ae_var (pv 2)) LA.aa_nil))))) LA.aa_nil))))) LA.ass_nil)
  (LA.ass_one (LA.as_ret (LA.ae_and (LA.ae_cmp (LA.oa_eq hr.units) (LA.ae_var (pv 1)) LA.ae_str (nomark _)) (LA.ae_one (LA.ae_not (LA.ae_callB (LA.ca_all rfl) rfl T.n_all (by decide +kernel) (LA.aa_cons (LA.ae_new (LA.fe_lc (own := [("inner", 2)]) rfl sc_is_bad_kind.nd (LA.ai_items (LA.ae_call HX.takesO g_inner_of (hr.mono (by first | decide | omega)) rfl (LA.aa_cons (LA.ae_var (pv 0)) LA.aa_nil))) (blkOk_by (own := [("inner", 2)]) (N := ["part", "word", "inner"]) (sc := defScope s_is_bad_kind) (by decide +kernel)) (by decide) (fun _ _ _ _ _ => (LA.ag_name (pg_name (i := 2) sc_is_bad_kind.nd rfl (Or.inl rfl)))) (fun _ _ _ _ _ => LA.ats_nil) (fun _ _ _ _ _ => (LA.ae_call HX.takes0N g_is_span (hr.mono (by first | decide | omega)) rfl (LA.aa_cons (LA.ae_var (pv 2)) LA.aa_nil))))) LA.aa_nil))))))))), fun ds ms Q E h => ?_⟩
  obtain ⟨nd, ns, rfl, hw, hc, q⟩ := h
  have kps : ∀ {x : Nd}, x ∈ nd.inner → (match nd with | .co (.shorter _ _) => ∃ p, x = .pa p ∧ p.kp = false | .pa (.minus _ _) => ∃ p, x = .pa p ∧ p.kp = true | .co (.before _ _) => ∃ p, x = .pa p ∧ p.kp = true | .co (.same _ _) => ∃ p, x = .pa p ∧ p.kp = true | .co (.betw _ _ _) => ∃ p, x = .pa p ∧ p.kp = true | .co (.within _ _ _) => ∃ p, x = .pa p ∧ p.kp = true | .oc (.first _ _) => ∃ p, x = .pa p ∧ p.kp = true | _ => True) := fun {x} hx => by
    rcases nd with (y | y | y)
    · cases y <;> try trivial
      simp only [Nd.inner, List.mem_cons, List.not_mem_nil, or_false] at hx
      simp only [Nd.wf, Pa.wf] at hw
      rcases hx with rfl | rfl
      · exact ⟨_, rfl, hw.1⟩
      · exact ⟨_, rfl, hw.2.1⟩
    · cases y <;> try trivial
      all_goals simp only [Nd.inner, List.mem_cons, List.not_mem_nil, or_false] at hx
      all_goals simp only [Nd.wf, Co.wf, Pa.pt, Pa.sp] at hw
      · rcases hx with rfl | rfl
        · exact ⟨_, rfl, hw.1.1⟩
        · exact ⟨_, rfl, hw.2.1⟩
      · rcases hx with rfl | rfl
        · exact ⟨_, rfl, hw.1.1⟩
        · exact ⟨_, rfl, hw.2.1⟩
      · rcases hx with rfl | rfl | rfl
        · exact ⟨_, rfl, hw.1.1⟩
        · exact ⟨_, rfl, hw.2.1.1⟩
        · exact ⟨_, rfl, hw.2.2.1⟩
      · rcases hx with rfl | rfl | rfl
        · exact ⟨_, rfl, hw.1.1⟩
        · exact ⟨_, rfl, hw.2.1.1⟩
        · exact ⟨_, rfl, hw.2.2.1⟩
      · rcases hx with rfl | rfl
        · exact ⟨_, rfl, hw.1.1⟩
        · exact ⟨_, rfl, hw.2.1.1⟩
    · cases y <;> try trivial
      simp only [Nd.wf, Oc.wf] at hw
      rcases List.mem_cons.mp hx with rfl | hx
      · exact ⟨_, rfl, hw.1.1⟩
      · obtain ⟨p, hp, rfl⟩ := List.mem_map.mp hx
        exact ⟨p, rfl, (hw.2.2.2 p hp).1⟩
  have len : ∀ (x : Nd), x.cnt ≤ 1000 → (x.inner.map Nd.d).length ≤ PySem.sizeLine := fun x h => by
    have h1 := x.inner_cnt
    have h2 : ∀ l : List Nd, l.length ≤ (l.map Nd.cnt).sum := fun l => by
      induction l with
      | nil => exact Nat.le_refl _
      | cons y r ih =>
        have : 1 ≤ y.cnt := by have := y.inner_cnt; omega
        simp only [List.length_cons, List.map_cons, List.sum_cons]; omega
    have := h2 x.inner
    rw [List.length_map]; unfold PySem.sizeLine; omega
  rcases nd with (x | x | x)
  · cases x <;> simp only [Nd.d, Pa.d] <;> walk_at "b" <;> first
      | exact q
      | (refine ⟨.pa (.minus _ _), rfl, hc, ?_⟩
         simp only [LA.s_itL]
         refine lcL_map (fun _ => .bl true) (len _ hc) (fun d hd N hN => ?_) ?_
         · obtain ⟨x, hx, rfl⟩ := List.mem_map.mp hd
           obtain ⟨p, rfl, hk⟩ := kps hx
           walk_at "b"
           exact ⟨p, rfl, by rw [hk]; exact hN⟩
         · walk_at "b"
           rw [all_true]
           exact q)
  · cases x <;> simp only [Nd.d, Co.d] <;> walk_at "b" <;> first
      | exact q
      | (refine ⟨.co (.before _ _), rfl, hc, ?_⟩
         simp only [LA.s_itL]
         refine lcL_map (fun _ => .bl true) (len _ hc) (fun d hd N hN => ?_) ?_
         · obtain ⟨x, hx, rfl⟩ := List.mem_map.mp hd
           obtain ⟨p, rfl, hk⟩ := kps hx
           walk_at "b"
           exact ⟨p, rfl, by rw [hk]; exact hN⟩
         · walk_at "b"
           rw [all_true]
           exact q)
      | (refine ⟨.co (.same _ _), rfl, hc, ?_⟩
         simp only [LA.s_itL]
         refine lcL_map (fun _ => .bl true) (len _ hc) (fun d hd N hN => ?_) ?_
         · obtain ⟨x, hx, rfl⟩ := List.mem_map.mp hd
           obtain ⟨p, rfl, hk⟩ := kps hx
           walk_at "b"
           exact ⟨p, rfl, by rw [hk]; exact hN⟩
         · walk_at "b"
           rw [all_true]
           exact q)
      | (refine ⟨.co (.betw _ _ _), rfl, hc, ?_⟩
         simp only [LA.s_itL]
         refine lcL_map (fun _ => .bl true) (len _ hc) (fun d hd N hN => ?_) ?_
         · obtain ⟨x, hx, rfl⟩ := List.mem_map.mp hd
           obtain ⟨p, rfl, hk⟩ := kps hx
           walk_at "b"
           exact ⟨p, rfl, by rw [hk]; exact hN⟩
         · walk_at "b"
           rw [all_true]
           exact q)
      | (refine ⟨.co (.within _ _ _), rfl, hc, ?_⟩
         simp only [LA.s_itL]
         refine lcL_map (fun _ => .bl true) (len _ hc) (fun d hd N hN => ?_) ?_
         · obtain ⟨x, hx, rfl⟩ := List.mem_map.mp hd
           obtain ⟨p, rfl, hk⟩ := kps hx
           walk_at "b"
           exact ⟨p, rfl, by rw [hk]; exact hN⟩
         · walk_at "b"
           rw [all_true]
           exact q)
      | (refine ⟨.co (.shorter _ _), rfl, hc, ?_⟩
         simp only [LA.s_itL]
         refine lcL_map (fun _ => .bl true) (len _ hc) (fun d hd N hN => ?_) ?_
         · obtain ⟨x, hx, rfl⟩ := List.mem_map.mp hd
           obtain ⟨p, rfl, hk⟩ := kps hx
           walk_at "b"
           exact ⟨p, rfl, by rw [hk]; exact hN⟩
         · walk_at "b"
           rw [all_true]
           exact q)
  · cases x <;> simp only [Nd.d, Oc.d] <;> walk_at "b" <;> first
      | exact q
      | (refine ⟨.oc (.first _ _), rfl, hc, ?_⟩
         simp only [LA.s_itL]
         refine lcL_map (fun _ => .bl true) (len _ hc) (fun d hd N hN => ?_) ?_
         · obtain ⟨x, hx, rfl⟩ := List.mem_map.mp hd
           obtain ⟨p, rfl, hk⟩ := kps hx
           walk_at "b"
           exact ⟨p, rfl, by rw [hk]; exact hN⟩
         · walk_at "b"
           rw [all_true]
           exact q)
theorem atI_m1 {x : D} {xs : List D} : atI (x :: xs) (-1) = (x :: xs).getLast? := by
  have := atI_neg (x :: xs) 1 (by decide) (by simp)
  rw [List.getLast?_eq_getElem?]
  exact this
def S_fault : ASp := fun ds ms Q _ => ∃ (nd : Nd) (ns : List Str), ds = [nd.d, nsD ns] ∧ nd.wf ns ∧ nd.cnt ≤ 1000 ∧ ns.length ≤ 1000 ∧ Q .non ms
theorem ga_fault_of (T : Txt K mg) : HX.GFn P w K mg base "fault_of" 3 ["part", "times"] (spA K S_fault) := by
  have g_is_name := ga_is_name (P := P) (w := w) (base := base) T
  have g_is_integer := ga_is_integer (P := P) (w := w) (base := base) T
  have g_is_bad_kind := ga_is_bad_kind (P := P) (w := w) (base := base) T
  refine LA.gfn_of T.d_fault_of T.g_fault_of sc_fault_of (by intro ds ms Q E h; unfold S_fault at h; repeat (first | (obtain ⟨rfl, _⟩ := h; rfl) | obtain ⟨_, h⟩ := h)) (fun _ _ _ _ _ _ us hl => match us, hl with | [_, _], _ => rfl) fun cdv A outer s H E hr => ⟨_, (LA.ass_cons (LA.as_set (i := 2) sc_fault_of.nd rfl (Or.inl rfl) (LA.ae_ix LA.ia_any (LA.ae_var (pv 0)) LA.ae_int (fun _ _ => rfl)))
  (LA.ass_cons (LA.as_if (LA.at_bool (LA.aw_or (LA.at_bool (LA.aw_and (LA.at_cmp (LA.oa_eq hr.units) (LA.ae_var (pv 2)) LA.ae_str (nomark _)) (LA.aw_and1 (LA.at_cmp LA.oa_notin (LA.ae_ix LA.ia_any (LA.ae_var (pv 0)) LA.ae_int (fun _ _ => rfl)) (LA.ae_var (pv 1)) rfl)))) (LA.aw_or1 (LA.at_bool (LA.aw_and (LA.at_cmp (LA.oa_eq hr.units) (LA.ae_var (pv 2)) LA.ae_str (nomark _)) (LA.aw_and1 (LA.at_not (LA.at_val (LA.ae_call HX.takesO g_is_name (hr.mono (by first | decide | omega)) rfl (LA.aa_cons (LA.ae_ix LA.ia_any (LA.ae_var (pv 0)) LA.ae_int (fun _ _ => rfl)) LA.aa_nil)))))))))) (LA.ass_one (LA.as_ret LA.ae_str)) LA.ass_nil)
  (LA.ass_cons (LA.as_if (LA.at_bool (LA.aw_and (LA.at_inC rfl T.k_NUMBERED (LA.ae_var (pv 2)) rfl) (LA.aw_and1 (LA.at_not (LA.at_val (LA.ae_call HX.takesO g_is_integer (hr.mono (by first | decide | omega)) rfl (LA.aa_cons (LA.ae_ix LA.ia_any (LA.ae_var (pv 0)) (LA.ae_un LA.ua_neg LA.ae_int) (fun _ _ => rfl)) LA.aa_nil))))))) (LA.ass_one (LA.as_ret LA.ae_str)) LA.ass_nil)
  (LA.ass_cons (LA.as_if (LA.at_bool (LA.aw_or (LA.at_bool (LA.aw_and (LA.at_cmp (LA.oa_eq hr.units) (LA.ae_var (pv 2)) LA.ae_str (nomark _)) (LA.aw_and1 (LA.at_not (LA.at_chain LA.oa_le LA.oa_le LA.ae_int (LA.ae_callB LA.ca_len rfl T.n_len (by decide +kernel) (LA.aa_cons (LA.ae_ix LA.ia_any (LA.ae_var (pv 0)) LA.ae_int (fun _ _ => rfl)) LA.aa_nil)) LA.ae_int))))) (LA.aw_or1 (LA.at_bool (LA.aw_and (LA.at_cmp (LA.oa_eq hr.units) (LA.ae_var (pv 2)) LA.ae_str (nomark _)) (LA.aw_and1 (LA.at_not (LA.at_chain LA.oa_le LA.oa_le LA.ae_int (LA.ae_callB LA.ca_len rfl T.n_len (by decide +kernel) (LA.aa_cons (LA.ae_ix LA.ia_any (LA.ae_var (pv 0)) LA.ae_int (fun _ _ => rfl)) LA.aa_nil)) LA.ae_int)))))))) (LA.ass_one (LA.as_ret LA.ae_str)) LA.ass_nil)
  (LA.ass_cons (LA.as_if (LA.at_val (LA.ae_call HX.takesO g_is_bad_kind (hr.mono (by first | decide | omega)) rfl (LA.aa_cons (LA.ae_var (pv 0)) LA.aa_nil))) (LA.ass_one (LA.as_ret LA.ae_str)) LA.ass_nil)
  (LA.ass_one (LA.as_ret LA.ae_non))))))), fun ds ms Q E h => ?_⟩
  obtain ⟨nd, ns, rfl, hw, hc, hn, q⟩ := h
  simp only [nsD_list] at *
  have hbad : ∀ (x : Nd) (Q' : D → MS → Prop) E' (t : Tag Q' E'), x.wf ns → x.cnt ≤ 1000 → Q' (.bl false) ms → DoCall S_bad [x.d] ms Q' E' t := fun x Q' E' t h1 h2 h3 => ⟨x, ns, rfl, h1, h2, h3⟩
  rcases nd with (x | x | x)
  · cases x with
    | time n =>
      simp only [Nd.d, Pa.d]
      walk_at "b"
      have hm : n ∈ ns := hw
      refine ⟨flat_map ns, ?_⟩
      rw [inFlat_map, decide_eq_true hm]
      walk_at "b"
      exact hbad (.pa (.time n)) _ _ _ hw hc (by walk_at "b"; exact q)
    | mid => simp only [Nd.d, Pa.d]; walk_at "b"; exact hbad (.pa .mid) _ _ _ hw hc (by walk_at "b"; exact q)
    | «at» z =>
      simp only [Nd.d, Pa.d]
      walk_at "b"
      rw [atI_m1]
      refine ⟨.int z, true, rfl, rfl, ?_⟩
      walk_at "b"
      exact hbad (.pa (.at z)) _ _ _ hw hc (by walk_at "b"; exact q)
    | spn z =>
      simp only [Nd.d, Pa.d]
      walk_at "b"
      rw [atI_m1]
      refine ⟨.int z, true, rfl, rfl, ?_⟩
      walk_at "b"
      exact hbad (.pa (.spn z)) _ _ _ hw hc (by walk_at "b"; exact q)
    | plus p z =>
      simp only [Nd.d, Pa.d]
      walk_at "b"
      rw [atI_m1]
      refine ⟨.int z, true, rfl, rfl, ?_⟩
      walk_at "b"
      exact hbad (.pa (.plus p z)) _ _ _ hw hc (by walk_at "b"; exact q)
    | wrap p => simp only [Nd.d, Pa.d]; walk_at "b"; exact hbad (.pa (.wrap p)) _ _ _ hw hc (by walk_at "b"; exact q)
    | minus a b => simp only [Nd.d, Pa.d]; walk_at "b"; exact hbad (.pa (.minus a b)) _ _ _ hw hc (by walk_at "b"; exact q)
  · cases x with
    | before a b => simp only [Nd.d, Co.d]; walk_at "b"; exact hbad (.co (.before a b)) _ _ _ hw hc (by walk_at "b"; exact q)
    | same a b => simp only [Nd.d, Co.d]; walk_at "b"; exact hbad (.co (.same a b)) _ _ _ hw hc (by walk_at "b"; exact q)
    | betw a b c => simp only [Nd.d, Co.d]; walk_at "b"; exact hbad (.co (.betw a b c)) _ _ _ hw hc (by walk_at "b"; exact q)
    | within a b c => simp only [Nd.d, Co.d]; walk_at "b"; exact hbad (.co (.within a b c)) _ _ _ hw hc (by walk_at "b"; exact q)
    | shorter a b => simp only [Nd.d, Co.d]; walk_at "b"; exact hbad (.co (.shorter a b)) _ _ _ hw hc (by walk_at "b"; exact q)
    | not a => simp only [Nd.d, Co.d]; walk_at "b"; exact hbad (.co (.not a)) _ _ _ hw hc (by walk_at "b"; exact q)
    | and a b => simp only [Nd.d, Co.d]; walk_at "b"; exact hbad (.co (.and a b)) _ _ _ hw hc (by walk_at "b"; exact q)
    | or a b => simp only [Nd.d, Co.d]; walk_at "b"; exact hbad (.co (.or a b)) _ _ _ hw hc (by walk_at "b"; exact q)
  · cases x with
    | word z =>
      simp only [Nd.d, Oc.d]
      walk_at "b"
      have hz : z ∈ good := hw
      obtain ⟨h1, h2⟩ := okN_good z hz
      refine ⟨z, rfl, h2, ?_⟩
      rw [h1]
      walk_at "b"
      exact hbad (.oc (.word z)) _ _ _ hw hc (by walk_at "b"; exact q)
    | value p => simp only [Nd.d, Oc.d]; walk_at "b"; exact hbad (.oc (.value p)) _ _ _ hw hc (by walk_at "b"; exact q)
    | total ps =>
      simp only [Nd.d, Oc.d]
      walk_at "b"
      have hw' : 1 ≤ ps.length ∧ ps.length ≤ 3 := ⟨hw.1, hw.2.1⟩
      rw [decide_eq_true (show (1 : Int) ≤ (ps.length : Int) by omega)]
      walk_at "b"
      rw [decide_eq_true (show (ps.length : Int) ≤ 3 by omega)]
      walk_at "b"
      exact hbad (.oc (.total ps)) _ _ _ hw hc (by walk_at "b"; exact q)
    | first p ps =>
      simp only [Nd.d, Oc.d]
      walk_at "b"
      have hw' : 2 ≤ ps.length ∧ ps.length ≤ 4 := ⟨hw.2.1, hw.2.2.1⟩
      rw [decide_eq_true (show (2 : Int) ≤ (ps.length : Int) by omega)]
      walk_at "b"
      rw [decide_eq_true (show (ps.length : Int) ≤ 4 by omega)]
      walk_at "b"
      exact hbad (.oc (.first p ps)) _ _ _ hw hc (by walk_at "b"; exact q)
end

end LW
namespace LW
open PySem PySem.Spec PyProof.Rows L2
open LA
section
variable {P : Program} {w : World} {K : PySem.W.Frag} {mg : Str → Option Value} {base : Heap}
theorem lcL_list0 {α : Type} {gg : aG} {tt : aT} {te : aE} {s : ASt} {ms : MS} {Q : List D → MS → Prop} (g f : α → D) : ∀ (l : List α) (acc : List D), acc.length + l.length ≤ PySem.sizeLine →
    (∀ a ∈ l, ∀ (acc : List D) (N : List D → MS → Prop), acc.length < PySem.sizeLine → N (acc ++ [f a]) ms → gg (g a) s ms fun s2 ms2 => tt s2 ms2 (fun b ms3 => Br b (fun ms3 => te s2 ms3 (fun y ms4 => acc.length < PySem.sizeLine ∧ N (acc ++ [y]) ms4) fun _ _ => False) (fun ms3 => N acc ms3) ms3) fun _ _ => False) →
    Q (acc ++ l.map f) ms → aLcL gg tt te s (l.map g) acc ms Q
  | [], acc, _, _, k => by rw [List.map_nil, List.append_nil] at k; exact k
  | a :: l, acc, hl, st, k => by
    rw [List.length_cons] at hl
    refine st a List.mem_cons_self acc (fun acc' ms' => aLcL gg tt te s (l.map g) acc' ms' Q) (by omega) ?_
    refine lcL_list0 g f l (acc ++ [f a]) (by rw [List.length_append, List.length_singleton]; omega) (fun b hb => st b (List.mem_cons_of_mem _ hb)) ?_
    rw [List.append_assoc]; exact k
theorem lcL_list {α : Type} {gg : aG} {tt : aT} {te : aE} {s : ASt} {ms : MS} {Q : List D → MS → Prop} {tg : Tag Q Q} (g f : α → D) (l : List α) (acc : List D) (hl : acc.length + l.length ≤ PySem.sizeLine)
    (st : ∀ a ∈ l, ∀ (acc : List D) (N : List D → MS → Prop), acc.length < PySem.sizeLine → N (acc ++ [f a]) ms → gg (g a) s ms fun s2 ms2 => tt s2 ms2 (fun b ms3 => Br b (fun ms3 => te s2 ms3 (fun y ms4 => acc.length < PySem.sizeLine ∧ N (acc ++ [y]) ms4) fun _ _ => False) (fun ms3 => N acc ms3) ms3) fun _ _ => False)
    (k : Q (acc ++ l.map f) ms) : LcL gg tt te s (l.map g) acc ms Q tg := ⟨lcL_list0 g f l acc hl st k⟩
theorem lcO_list0 {α : Type} {i j : Nat} {ri1 : aI} {s : ASt} {ms : MS} {Q : List D → MS → Prop} (g : α → D) (f : α → List D) (hj : j < s.length) : ∀ (l : List α) (acc : List D), acc.length + (l.flatMap f).length ≤ PySem.sizeLine →
    (∀ a ∈ l, ∀ N : List D → MS → Prop, N (f a) ms → ri1 (s.set i (some (.fr (g a)))) ms N fun _ _ => False) →
    Q (acc ++ l.flatMap f) ms → aLcO (aName i) aYes ri1 (aName j) aYes (aVar j) [j] s (l.map g) acc ms Q
  | [], acc, _, _, k => by rw [List.flatMap_nil, List.append_nil] at k; exact k
  | a :: l, acc, hl, st, k => by
    rw [List.flatMap_cons, List.length_append] at hl
    refine st a List.mem_cons_self _ ?_
    have e : f a = (f a).map id := (List.map_id _).symm
    rw [e]
    refine lcL_list0 id id (f a) acc (by omega) (fun b _ acc N ha hN => ?_) ?_
    · simp only [LA.aName, LA.aYes, LA.s_brt, LA.s_var, LA.wipeA]
      rw [List.getElem?_set_self (by rw [List.length_set, List.length_set]; exact hj)]
      exact ⟨ha, hN⟩
    · rw [List.map_id]
      refine lcO_list0 g f hj l (acc ++ f a) (by rw [List.length_append]; omega) (fun b hb => st b (List.mem_cons_of_mem _ hb)) ?_
      rw [List.append_assoc]; exact k
theorem lcO_list {α : Type} {i j : Nat} {ri1 : aI} {s : ASt} {ms : MS} {Q : List D → MS → Prop} {tg : Tag Q Q} (g : α → D) (f : α → List D) (hj : j < s.length) (l : List α) (acc : List D) (hl : acc.length + (l.flatMap f).length ≤ PySem.sizeLine)
    (st : ∀ a ∈ l, ∀ N : List D → MS → Prop, N (f a) ms → ri1 (s.set i (some (.fr (g a)))) ms N fun _ _ => False) (k : Q (acc ++ l.flatMap f) ms) :
    LcO (aName i) aYes ri1 (aName j) aYes (aVar j) [j] s (l.map g) acc ms Q tg := ⟨lcO_list0 g f hj l acc hl st k⟩
def rowD (r : Nd × Int) : D := .tup [r.1.d, .int r.2]
def S_check : ASp := fun ds ms Q _ => ∃ (x : D) (nds : List Nd) (ns : List Str) (r : Int), ds = [x, nsD ns, .int r] ∧ (x = .tup (nds.map Nd.d) ∨ x = .lst (nds.map Nd.d)) ∧ nds ≠ [] ∧ (∀ nd ∈ nds, nd.wf ns ∧ nd.dep ≤ 7) ∧ (nds.map Nd.cnt).sum ≤ 40 ∧ ns.length ≤ 1000 ∧ Q .non ms
theorem flat_len (n : Nat) (k : Int) : ∀ l : List Nd, (l.flatMap fun x => rowsF n x k).length ≤ (l.map Nd.cnt).sum
  | [] => by simp
  | x :: r => by
    have h1 := flat_len n k r
    have h2 := rowsF_len n x k
    simp only [List.flatMap_cons, List.length_append, List.map_cons, List.sum_cons]
    omega
theorem rowsF_cnt : ∀ (n : Nat) (nd : Nd) (k : Int), ∀ r ∈ rowsF n nd k, r.1.cnt ≤ nd.cnt
  | 0, nd, _, r, h => nomatch h
  | n + 1, nd, k, r, h => by
    simp only [rowsF, List.mem_cons, List.mem_flatMap] at h
    rcases h with rfl | ⟨x, hx, h⟩
    · exact Nat.le_refl _
    · have := rowsF_cnt n x (k + 1) r h
      have := le_sum hx
      have := nd.inner_cnt
      omega
theorem rowsF_d1 : ∀ (n : Nat) (nd : Nd) (k : Int), ∀ r ∈ rowsF n nd k, r.1.dep ≤ nd.dep
  | 0, nd, _, r, h => nomatch h
  | n + 1, nd, k, r, h => by
    simp only [rowsF, List.mem_cons, List.mem_flatMap] at h
    rcases h with rfl | ⟨x, hx, h⟩
    · exact Nat.le_refl _
    · have := rowsF_d1 n x (k + 1) r h
      have := nd.inner_dep x hx
      omega
theorem ga_check_parts (T : Txt K mg) : HX.GFn P w K mg base "check_parts" 12 ["parts", "times", "rule"] (spA K S_check) := by
  have g_all_parts := ga_all_parts (P := P) (w := w) (base := base) T 9
  have g_fault_of := ga_fault_of (P := P) (w := w) (base := base) T
  have g_is_simple := ga_is_simple (P := P) (w := w) (base := base) T
  have g_less := ga_less (P := P) (w := w) (base := base) T
  have g_reading_of := ga_reading_of (P := P) (w := w) (base := base) T 9
  refine LA.gfn_of T.d_check_parts T.g_check_parts sc_check_parts (by intro ds ms Q E h; unfold S_check at h; repeat (first | (obtain ⟨rfl, _⟩ := h; rfl) | obtain ⟨_, h⟩ := h)) (fun _ _ _ _ _ _ us hl => match us, hl with | [_, _, _], _ => rfl) fun cdv A outer s H E hr => ⟨_, (LA.ass_cons (LA.as_setLc2 (i := 3) (own := [("part", 4), ("row", 7)]) (vs1 := [7]) rfl sc_check_parts.nd rfl rfl (sw_true rfl rfl rfl (by decide +kernel)) (LA.ai_items (LA.ae_var (pv 0))) (blkOk_by (own := [("part", 4), ("row", 7)]) (N := ["parts", "times", "rule", "rows", "part", "depth", "reason", "row"]) (sc := defScope s_check_parts) (by decide +kernel)) (by decide) (by decide) (by decide) (fun _ _ _ _ _ => (LA.ag_name (pg_name (i := 4) sc_check_parts.nd rfl (Or.inl rfl)))) (fun _ _ _ _ _ => LA.ats_nil) (fun _ _ _ _ _ => (LA.ai_items (LA.ae_call HX.takes0N g_all_parts (hr.mono (by first | decide | omega)) rfl (LA.aa_cons (LA.ae_var (pv 4)) (LA.aa_cons LA.ae_int LA.aa_nil))))) (fun _ _ _ _ _ => (LA.ag_name (pg_name (i := 7) sc_check_parts.nd rfl (Or.inl rfl)))) (fun _ _ _ _ _ => LA.ats_nil) (fun _ _ _ _ _ => (LA.ae_var (pv 7))))
  (LA.ass_cons (LA.as_if (LA.at_bool (LA.aw_or (LA.at_cmp LA.oa_gt (LA.ae_callB LA.ca_len rfl T.n_len (by decide +kernel) (LA.aa_cons (LA.ae_var (pv 3)) LA.aa_nil)) (LA.ae_gint rfl T.k_MOST_TUPLES) (nomark _)) (LA.aw_or1 (LA.at_cmp LA.oa_gt (LA.ae_callB (LA.ca_max rfl) rfl T.n_max (by decide +kernel) (LA.aa_cons (LA.ae_new (LA.fe_lc (own := [("part", 4), ("depth", 5)]) rfl sc_check_parts.nd (LA.ai_items (LA.ae_var (pv 3))) (blkOk_by (own := [("part", 4), ("depth", 5)]) (N := ["parts", "times", "rule", "rows", "part", "depth", "reason", "row"]) (sc := defScope s_check_parts) (by decide +kernel)) (by decide) (fun _ _ _ _ _ => (LA.ag_tup (n := 2) rfl (LA.ags_cons (LA.ag_name (pg_name (i := 4) sc_check_parts.nd rfl (Or.inl rfl))) (LA.ags_cons (LA.ag_name (pg_name (i := 5) sc_check_parts.nd rfl (Or.inl rfl))) LA.ags_nil)))) (fun _ _ _ _ _ => LA.ats_nil) (fun _ _ _ _ _ => (LA.ae_var (pv 5))))) LA.aa_nil)) (LA.ae_gint rfl T.k_MOST_DEPTH) (nomark _))))) LA.ass_never LA.ass_nil)
  (LA.ass_cons (LA.as_for (passes_of rfl) rfl (LA.ai_items (LA.ae_var (pv 3))) (LA.ag_tup (n := 2) rfl (LA.ags_cons (LA.ag_name (pg_name (i := 4) sc_check_parts.nd rfl (Or.inl rfl))) (LA.ags_cons (LA.ag_name (pg_name (i := 5) sc_check_parts.nd rfl (Or.inl rfl))) LA.ags_nil))) (LA.ass_cons (LA.as_set (i := 6) sc_check_parts.nd rfl (Or.inl rfl) (LA.ae_call HX.takesO g_fault_of (hr.mono (by first | decide | omega)) rfl (LA.aa_cons (LA.ae_var (pv 4)) (LA.aa_cons (LA.ae_var (pv 1)) LA.aa_nil))))
  (LA.ass_one (LA.as_if (LA.at_cmp LA.oa_isnot (LA.ae_var (pv 6)) LA.ae_non (nomark _)) LA.ass_never LA.ass_nil))))
  (LA.ass_one (LA.as_for (passes_of rfl) rfl (LA.ai_items (LA.ae_var (pv 3))) (LA.ag_tup (n := 2) rfl (LA.ags_cons (LA.ag_name (pg_name (i := 4) sc_check_parts.nd rfl (Or.inl rfl))) (LA.ags_cons (LA.ag_name (pg_name (i := 5) sc_check_parts.nd rfl (Or.inl rfl))) LA.ags_nil))) (LA.ass_one (LA.as_if (LA.at_bool (LA.aw_and (LA.at_cmp (LA.oa_eq hr.units) (LA.ae_ix LA.ia_any (LA.ae_var (pv 4)) LA.ae_int (fun _ _ => rfl)) LA.ae_str (nomark _)) (LA.aw_and1 (LA.at_not (LA.at_val (LA.ae_call HX.takesO g_is_simple (hr.mono (by first | decide | omega)) rfl (LA.aa_cons (LA.ae_call HX.takesO g_less (hr.mono (by first | decide | omega)) rfl (LA.aa_cons (LA.ae_call HX.takesO g_reading_of (hr.mono (by first | decide | omega)) rfl (LA.aa_cons (LA.ae_ix LA.ia_any (LA.ae_var (pv 4)) LA.ae_int (fun _ _ => rfl)) LA.aa_nil)) (LA.aa_cons (LA.ae_call HX.takesO g_reading_of (hr.mono (by first | decide | omega)) rfl (LA.aa_cons (LA.ae_ix LA.ia_any (LA.ae_var (pv 4)) LA.ae_int (fun _ _ => rfl)) LA.aa_nil)) LA.aa_nil))) LA.aa_nil))))))) LA.ass_never LA.ass_nil))))))), fun ds ms Q E h => ?_⟩
  obtain ⟨x, nds, ns, rl, rfl, hx, hne, hw, hc, hn, q⟩ := h
  have hrow : ∀ R : List (Nd × Int), rowsD R = R.map rowD := fun _ => rfl
  have hcnt : ∀ nd ∈ nds, nd.cnt ≤ 40 := fun nd h => by have := le_sum h; omega
  let R : List (Nd × Int) := nds.flatMap fun nd => rowsF 9 nd 0
  have hRl : R.length ≤ 40 := by have := flat_len 9 0 nds; show (nds.flatMap fun nd => rowsF 9 nd 0).length ≤ 40; omega
  have hR : ∀ r ∈ R, r.1.wf ns ∧ r.2 ≤ 7 ∧ r.1.cnt ≤ 40 ∧ r.1.dep ≤ 7 := fun r hr => by
    obtain ⟨nd, h1, h2⟩ := List.mem_flatMap.mp hr
    have h3 := rowsF_dep 9 nd 0 r h2
    have h4 := (hw nd h1).2
    have h5 := rowsF_cnt 9 nd 0 r h2
    have h6 := hcnt nd h1
    have h7 := rowsF_d1 9 nd 0 r h2
    exact ⟨rowsF_wf 9 nd 0 (hw nd h1).1 r h2, by omega, by omega, by omega⟩
  have hR0 : 0 < R.length := by
    cases nds with
    | nil => exact (hne rfl).elim
    | cons nd r => show 0 < (rowsF 9 nd 0 ++ _).length; rw [List.length_append]; show 0 < (_ :: _).length + _; rw [List.length_cons]; omega
  have hfl : nds.flatMap (fun nd => rowsD (rowsF 9 nd 0)) = R.map rowD := by
    show nds.flatMap (fun nd => (rowsF 9 nd 0).map rowD) = _
    rw [List.map_flatMap]
  simp only [nsD_list] at *
  have hints : (R.map fun r => D.int r.2) = (R.map (·.2)).map D.int := by rw [List.map_map]; rfl
  have hfault : ∀ (r : Nd × Int) (Q' : D → MS → Prop) E' (t : Tag Q' E'), r ∈ R → Q' .non ms → DoCall S_fault [r.1.d, .tup (ns.map D.str)] ms Q' E' t := fun r Q' E' t hr hq => ⟨r.1, ns, rfl, (hR r hr).1, by have := (hR r hr).2.2.1; omega, hn, hq⟩
  rcases hx with rfl | rfl <;> walk_at "b"
  all_goals
    refine lcO_list Nd.d (fun nd => rowsD (rowsF 9 nd 0)) (by simp) nds [] ?_ (fun nd h N hN => ?_) ?_
    · rw [hfl, List.length_map]; unfold PySem.sizeLine; simp; omega
    · walk_at "b"
      refine ⟨by decide, nd, 0, rfl, by have := (hw nd h).2; omega, by have := hcnt nd h; omega, ?_⟩
      walk_at "b"
      exact hN
    rw [hfl]
    walk_at "b"
    rw [decide_eq_false (show ¬ (40 : Int) < (R.length : Int) by omega)]
    walk_at "b"
    refine lcL_list rowD (fun r => .int r.2) R [] (by unfold PySem.sizeLine; simp; omega) (fun r hr acc N ha hN => ?_) ?_
    · simp only [rowD]
      walk_at "b"
      exact ⟨by unfold PySem.sizeLine at ha; exact ha, hN⟩
    rw [List.nil_append, hints]
    walk_at "b"
    refine ⟨hR0, fun m hm _ => ?_⟩
    obtain ⟨r, hr, rfl⟩ := List.mem_map.mp hm
    walk_at "b"
    rw [decide_eq_false (show ¬ (7 : Int) < r.2 by have := (hR r hr).2.1; omega)]
    walk_at "b"
    refine forL_inv (fun s ms' => ms = ms' ∧ ∃ a b c, s = [some (.fr _), some (.fr (.tup (ns.map D.str))), some (.fr (.int rl)), some (.fr (.lst (R.map rowD))), a, b, c, none]) _ _ _ ⟨rfl, none, none, none, rfl⟩ ?_ ?_
    · rintro d hd s _ ⟨rfl, a, b, c, rfl⟩ N hN
      obtain ⟨r, hr, rfl⟩ := List.mem_map.mp hd
      simp only [rowD]
      walk_at "b"
      refine hfault r _ _ _ hr ?_
      walk_at "b"
      exact hN _ _ ⟨rfl, _, _, _, rfl⟩
    rintro s _ ⟨rfl, a, b, c, rfl⟩
    walk_at "b"
    refine forL_inv (fun s ms' => ms = ms' ∧ ∃ a b c, s = [some (.fr _), some (.fr (.tup (ns.map D.str))), some (.fr (.int rl)), some (.fr (.lst (R.map rowD))), a, b, c, none]) _ _ _ ⟨rfl, _, _, _, rfl⟩ ?_ ?_
    · rintro d hd s _ ⟨rfl, a, b, c, rfl⟩ N hN
      obtain ⟨⟨nd, dp⟩, hr, rfl⟩ := List.mem_map.mp hd
      have hh := hR _ hr
      simp only [rowD]
      walk_at "b"
      have hN' := hN [some (.fr _), some (.fr (.tup (ns.map D.str))), some (.fr (.int rl)), some (.fr (.lst (R.map rowD))), some (.fr nd.d), some (.fr (.int dp)), c, none] ms ⟨rfl, _, _, _, rfl⟩
      dsimp only at hh
      obtain ⟨h1, _, h3, h4⟩ := hh
      rcases nd with (y | y | y)
      · cases y <;> simp only [Nd.d, Pa.d] at hN' ⊢ <;> walk_at "b" <;> exact hN'
      · cases y with
        | shorter p1 p2 =>
          simp only [Nd.d, Co.d] at hN' ⊢
          walk_at "b"
          simp only [Nd.cnt, Co.cnt, Nd.dep, Co.dep] at h3 h4
          refine ⟨by decide, p1, rfl, by omega, by omega, ?_⟩
          walk_at "b"
          refine ⟨by decide, p2, rfl, by omega, by omega, ?_⟩
          walk_at "b"
          have := rd_len p1
          have := rd_len p2
          refine ⟨p1.rd, p2.rd, rfl, by omega, by omega, ?_⟩
          walk_at "b"
          refine ⟨_, rfl, h1.2.2, ?_⟩
          walk_at "b"
          exact hN'
        | _ => simp only [Nd.d, Co.d] at hN' ⊢; walk_at "b"; exact hN'
      · cases y <;> simp only [Nd.d, Oc.d] at hN' ⊢ <;> walk_at "b" <;> exact hN'
    · rintro s _ ⟨rfl, a, b, c, rfl⟩
      walk_at "b"
      exact q
end

end LW
namespace LW
open PySem PySem.Spec PyProof.Rows L2
open LA
section
variable {P : Program} {w : World} {K : PySem.W.Frag} {mg : Str → Option Value} {base : Heap}
def S_chkT : ASp := fun ds ms Q _ => ∃ (ns : List Str), ds = [nsD ns] ∧ 1 ≤ ns.length ∧ ns.length ≤ 4 ∧ ns.Nodup ∧ (∀ n ∈ ns, okN n = true ∧ n.length ≤ PySem.sizeLine) ∧ Q .non ms
theorem ga_check_times (T : Txt K mg) : HX.GFn P w K mg base "check_times" 2 ["times"] (spA K S_chkT) := by
  have g_is_name := ga_is_name (P := P) (w := w) (base := base) T
  refine LA.gfn_of T.d_check_times T.g_check_times sc_check_times (by intro ds ms Q E h; unfold S_chkT at h; repeat (first | (obtain ⟨rfl, _⟩ := h; rfl) | obtain ⟨_, h⟩ := h)) (fun _ _ _ _ _ _ us hl => match us, hl with | [_], _ => rfl) fun cdv A outer s H E hr => ⟨_, (LA.ass_cons (LA.as_if (LA.at_bool (LA.aw_or (LA.at_not (LA.at_chain LA.oa_le LA.oa_le LA.ae_int (LA.ae_callB LA.ca_len rfl T.n_len (by decide +kernel) (LA.aa_cons (LA.ae_var (pv 0)) LA.aa_nil)) (LA.ae_gint rfl T.k_MOST_TIMES))) (LA.aw_or1 (LA.at_not (LA.at_val (LA.ae_callB (LA.ca_all rfl) rfl T.n_all (by decide +kernel) (LA.aa_cons (LA.ae_new (LA.fe_lc (own := [("name", 1)]) rfl sc_check_times.nd (LA.ai_items (LA.ae_var (pv 0))) (blkOk_by (own := [("name", 1)]) (N := ["times", "name"]) (sc := defScope s_check_times) (by decide +kernel)) (by decide) (fun _ _ _ _ _ => (LA.ag_name (pg_name (i := 1) sc_check_times.nd rfl (Or.inl rfl)))) (fun _ _ _ _ _ => LA.ats_nil) (fun _ _ _ _ _ => (LA.ae_call HX.takes0N g_is_name (hr.mono (by first | decide | omega)) rfl (LA.aa_cons (LA.ae_var (pv 1)) LA.aa_nil))))) LA.aa_nil))))))) LA.ass_never LA.ass_nil)
  (LA.ass_one (LA.as_if (LA.at_cmp LA.oa_lt (LA.ae_lenSet rfl rfl T.n_len rfl T.n_set (LA.ae_var (pv 0))) (LA.ae_callB LA.ca_len rfl T.n_len (by decide +kernel) (LA.aa_cons (LA.ae_var (pv 0)) LA.aa_nil)) (nomark _)) LA.ass_never LA.ass_nil))), fun ds ms Q E h => ?_⟩
  obtain ⟨ns, rfl, h1, h2, hd, hn, q⟩ := h
  simp only [nsD_list] at *
  walk_at "b"
  rw [decide_eq_true (show (1 : Int) ≤ (ns.length : Int) by omega)]
  walk_at "b"
  rw [decide_eq_true (show (ns.length : Int) ≤ 4 by omega)]
  walk_at "b"
  refine lcL_map (fun _ => .bl true) (by rw [List.length_map]; unfold PySem.sizeLine; omega) (fun d hd N hN => ?_) ?_
  · obtain ⟨n, hm, rfl⟩ := List.mem_map.mp hd
    walk_at "b"
    exact ⟨n, rfl, (hn n hm).2, by rw [(hn n hm).1]; walk_at "b"; exact hN⟩
  walk_at "b"
  rw [all_true]
  walk_at "b"
  refine ⟨by omega, hd, ?_⟩
  rw [decide_eq_false (show ¬ (ns.length : Int) < (ns.length : Int) by omega)]
  exact q
/-- a program as data -/
def prD (ns : List Str) (rs : List Ru) (o : Oc) : List (Str × D) := [("times", nsD ns), ("rules", .tup (rs.map Ru.d)), ("last", o.d)]
def prO (ns : List Str) (rs : List Ru) (o : Oc) : D := .ins "Program" (prD ns rs o)
def dayO (L : Int) : D := .ins "Day" [("ticks_of_day", .int L)]
def S_Program : ISp := fun ds ms Q E => ∃ (ns : List Str) (rs : List Ru) (o : Oc), ds = [nsD ns, .tup (rs.map Ru.d), o.d] ∧ NsOk ns ∧ rs.length ≤ 1000 ∧ (∀ r ∈ rs, r.wf ns) ∧ o.wf ns ∧ o.cnt ≤ 40 ∧ o.dep ≤ 7 ∧ (rs.length ≤ 12 → Q (prD ns rs o) ms) ∧ (12 < rs.length → E ("InvalidProgram", [("reason", .str "limit"), ("rule", .int (-1))]) ms)
theorem mk_ok {ns : List Str} {rs : List Ru} {o : Oc} {ms : MS} {Q : List (Str × D) → MS → Prop} {E : XD → MS → Prop} {t : Tag Q E} (hN : NsOk ns) (h12 : rs.length ≤ 12) (hr : ∀ r ∈ rs, r.wf ns) (ho : o.wf ns) (hc : o.cnt ≤ 40) (hd : o.dep ≤ 7) (q : Q (prD ns rs o) ms) : DoMake S_Program [nsD ns, .tup (rs.map Ru.d), o.d] ms Q E t :=
  ⟨ns, rs, o, rfl, hN, by omega, hr, ho, hc, hd, fun _ => q, fun h => by omega⟩
theorem gk_Program (T : Txt K mg) : HX.GMk P w K mg base "Program" 13 ["self", "times", "rules", "last"] (spI K "Program" S_Program) := by
  have g_check_times := ga_check_times (P := P) (w := w) (base := base) T
  have g_check_parts := ga_check_parts (P := P) (w := w) (base := base) T
  have r_InvalidProgram := gr_InvalidProgram (P := P) (w := w) (base := base) T
  refine LA.gmk_of T.mk_Program T.g_Program T.d_Program_init sc_Program_init (by intro ds ms Q E h; unfold S_Program at h; repeat (first | (obtain ⟨rfl, _⟩ := h; rfl) | obtain ⟨_, h⟩ := h)) (fun _ _ _ _ _ _ us hl => match us, hl with | [_, _, _, _], _ => rfl) fun cdv A outer s H E hr => ⟨_, (LA.ass_cons (LA.as_expr (LA.ae_call HX.takesO g_check_times (hr.mono (by first | decide | omega)) rfl (LA.aa_cons (LA.ae_var (pv 1)) LA.aa_nil)))
  (LA.ass_cons (LA.as_if (LA.at_cmp LA.oa_gt (LA.ae_callB LA.ca_len rfl T.n_len (by decide +kernel) (LA.aa_cons (LA.ae_var (pv 2)) LA.aa_nil)) (LA.ae_gint rfl T.k_MOST_RULES) (nomark _)) (LA.ass_one (LA.as_raise rfl HX.takesO r_InvalidProgram (hr.mono (by first | decide | omega)) (LA.aa_cons (LA.ae_un LA.ua_neg LA.ae_int) (LA.aa_cons LA.ae_str LA.aa_nil)))) LA.ass_nil)
  (LA.ass_cons (LA.as_for (passes_of rfl) rfl (LA.ai_enum rfl T.n_enumerate (LA.ae_var (pv 2))) (LA.ag_tup (n := 2) rfl (LA.ags_cons (LA.ag_name (pg_name (i := 4) sc_Program_init.nd rfl (Or.inl rfl))) (LA.ags_cons (LA.ag_name (pg_name (i := 5) sc_Program_init.nd rfl (Or.inl rfl))) LA.ags_nil))) (LA.ass_one (LA.as_expr (LA.ae_call HX.takesO g_check_parts (hr.mono (by first | decide | omega)) rfl (LA.aa_cons (LA.ae_var (pv 5)) (LA.aa_cons (LA.ae_var (pv 1)) (LA.aa_cons (LA.ae_var (pv 4)) LA.aa_nil)))))))
  (LA.ass_cons (LA.as_expr (LA.ae_call HX.takesO g_check_parts (hr.mono (by first | decide | omega)) rfl (LA.aa_cons (LA.ae_lst (LA.aa_cons (LA.ae_var (pv 3)) LA.aa_nil)) (LA.aa_cons (LA.ae_var (pv 1)) (LA.aa_cons (LA.ae_callB LA.ca_len rfl T.n_len (by decide +kernel) (LA.aa_cons (LA.ae_var (pv 2)) LA.aa_nil)) LA.aa_nil)))))
  (LA.ass_cons (LA.as_fldO (c := "Program") ⟨T.c_Program, T.a_Program_times⟩ (pv 0) (LA.ae_var (pv 1)) rfl)
  (LA.ass_cons (LA.as_fldO (c := "Program") ⟨T.c_Program, T.a_Program_rules⟩ (pv 0) (LA.ae_var (pv 2)) rfl)
  (LA.ass_one (LA.as_fldO (c := "Program") ⟨T.c_Program, T.a_Program_last⟩ (pv 0) (LA.ae_var (pv 3)) rfl)))))))), fun ds ms Q E h => ?_⟩
  obtain ⟨ns, rs, o, rfl, hN, hl, hr, ho, hc, hd, q, qe⟩ := h
  simp only [nsD_list] at *
  walk_at "b"
  have hgood : ∀ n ∈ ns, okN n = true ∧ n.length ≤ PySem.sizeLine := fun n h => okN_good n (hN.2.2.2 n h)
  refine ⟨ns, rfl, hN.1, hN.2.1, hN.2.2.1, hgood, ?_⟩
  walk_at "b"
  by_cases h12 : 12 < rs.length
  · rw [decide_eq_true (show (12 : Int) < (rs.length : Int) by omega)]
    walk_at "b"
    exact qe h12
  rw [decide_eq_false (show ¬ (12 : Int) < (rs.length : Int) by omega)]
  walk_at "b"
  have q := q (by omega)
  have hlen := hN.2.1
  refine forL_at (fun i s ms' => ms = ms' ∧ ∃ a b, s = [some (.ow (.ins "Program" [])), some (.fr (.tup (ns.map D.str))), some (.fr (.tup (rs.map Ru.d))), some (.fr o.d), a, b]) ⟨rfl, none, none, rfl⟩ ?_ ?_
  · rintro i d s _ hx ⟨rfl, a, b, rfl⟩ N hN'
    rw [LA.enumD_at, List.getElem?_map] at hx
    cases e : rs[i]? with
    | none => rw [e] at hx; cases hx
    | some r =>
      rw [e] at hx; cases hx
      have hrw := hr r (List.mem_of_getElem? e)
      walk_at "b"
      refine ⟨_, [.co r.1, .oc r.2], ns, _, rfl, .inl rfl, by simp, fun nd h => ?_, ?_, by omega, ?_⟩
      · simp only [List.mem_cons, List.not_mem_nil, or_false] at h
        rcases h with rfl | rfl
        · exact ⟨hrw.1, hrw.2.2.2.1⟩
        · exact ⟨hrw.2.1, hrw.2.2.2.2⟩
      · have := hrw.2.2.1
        simp only [List.map_cons, List.map_nil, List.sum_cons, List.sum_nil, Nd.cnt]; omega
      · walk_at "b"
        exact hN' _ _ ⟨rfl, _, _, rfl⟩
  · rintro s _ ⟨rfl, a, b, rfl⟩
    walk_at "b"
    refine ⟨_, [.oc o], ns, _, rfl, .inr rfl, by simp, fun nd h => ?_, ?_, by omega, ?_⟩
    · simp only [List.mem_cons, List.not_mem_nil, or_false] at h
      subst h; exact ⟨ho, hd⟩
    · simp only [List.map_cons, List.map_nil, List.sum_cons, List.sum_nil, Nd.cnt]; omega
    · walk_at "b"
      exact q
end

end LW
namespace LW
open PySem PySem.Spec PyProof.Rows L2
open LA
/-! the law's equality of equal data; programs that are equal -/
/-- plain data, nested n deep at most -/
def Eqd : Nat → D → Prop
  | _, .non => True
  | _, .bl _ => True
  | _, .int _ => True
  | _, .str _ => True
  | n + 1, .lst xs => xs.length ≤ 1000 ∧ ∀ x ∈ xs, Eqd n x
  | n + 1, .tup xs => xs.length ≤ 1000 ∧ ∀ x ∈ xs, Eqd n x
  | _, _ => False
theorem rangeD_at {lo : Int} {n i : Nat} {d : D} (h : (rangeD lo n)[i]? = some d) : i < n ∧ d = .int (lo + (i : Nat)) := by
  unfold rangeD at h
  rw [List.getElem?_map] at h
  by_cases hi : i < n
  · rw [List.getElem?_range hi] at h; cases h; exact ⟨hi, rfl⟩
  · rw [List.getElem?_eq_none (by simp; omega)] at h; cases h
theorem rangeD_len {lo : Int} {n : Nat} : (rangeD lo n).length = n := by simp [rangeD]
theorem rangeD_mem {lo : Int} {n : Nat} {d : D} (h : d ∈ rangeD lo n) : ∃ i, i < n ∧ d = .int (lo + (i : Nat)) := by
  obtain ⟨i, hi⟩ := List.mem_iff_getElem?.mp h
  exact ⟨i, rangeD_at hi⟩
section
variable {P : Program} {w : World} {K : PySem.W.Frag} {mg : Str → Option Value} {base : Heap}
def S_equal (n : Nat) : ASp := fun ds ms Q _ => 0 < n ∧ ∃ x : D, ds = [x, x] ∧ Eqd (n - 1) x ∧ Q (.bl true) ms
theorem ga__law_equal (T : Txt K mg) : ∀ n : Nat, HX.GFn P w K mg base "_law_equal" (n + 1) ["_law_actual", "_law_expected"] (spA K (S_equal n))
  | 0 => LA.gfn_none T.d__law_equal T.g__law_equal sc__law_equal (fun _ _ _ _ _ _ us hl => match us, hl with | [_, _], _ => rfl) (fun ds ms Q E h => Nat.lt_irrefl 0 h.1)
  | n + 1 => by
    have g__law_equal := ga__law_equal T n
    refine LA.gfn_of T.d__law_equal T.g__law_equal sc__law_equal (by intro ds ms Q E h; unfold S_equal at h; repeat (first | (obtain ⟨rfl, _⟩ := h; rfl) | obtain ⟨_, h⟩ := h)) (fun _ _ _ _ _ _ us hl => match us, hl with | [_, _], _ => rfl) fun cdv A outer s H E hr => ⟨_, (LA.ass_cons (LA.as_if (LA.at_cmp LA.oa_is (LA.ae_var (pv 1)) LA.ae_non (nomark _)) (LA.ass_one (LA.as_ret (LA.ae_cmp LA.oa_is (LA.ae_var (pv 0)) LA.ae_non (nomark _)))) LA.ass_nil)
  (LA.ass_cons (LA.as_if (LA.at_val (LA.ae_callB LA.ca_isTy rfl T.n_isinstance (by decide +kernel) (LA.aa_cons (LA.ae_var (pv 1)) (LA.aa_cons (LA.ae_c (pe_bltn (v := .ty "bool") (u := .type "bool") rfl T.n_bool (by decide +kernel) rfl) (fun _ => .ty _)) LA.aa_nil)))) (LA.ass_one (LA.as_ret (LA.ae_and (LA.ae_callB LA.ca_isTy rfl T.n_isinstance (by decide +kernel) (LA.aa_cons (LA.ae_var (pv 0)) (LA.aa_cons (LA.ae_c (pe_bltn (v := .ty "bool") (u := .type "bool") rfl T.n_bool (by decide +kernel) rfl) (fun _ => .ty _)) LA.aa_nil))) (LA.ae_one (LA.ae_cmp (LA.oa_eq hr.units) (LA.ae_var (pv 0)) (LA.ae_var (pv 1)) (nomark _)))))) LA.ass_nil)
  (LA.ass_cons (LA.as_if (LA.at_val (LA.ae_callB LA.ca_isTy rfl T.n_isinstance (by decide +kernel) (LA.aa_cons (LA.ae_var (pv 1)) (LA.aa_cons (LA.ae_c (pe_bltn (v := .ty "int") (u := .type "int") rfl T.n_int (by decide +kernel) rfl) (fun _ => .ty _)) LA.aa_nil)))) (LA.ass_one (LA.as_ret (LA.ae_and (LA.ae_callB LA.ca_isTy rfl T.n_isinstance (by decide +kernel) (LA.aa_cons (LA.ae_var (pv 0)) (LA.aa_cons (LA.ae_c (pe_bltn (v := .ty "int") (u := .type "int") rfl T.n_int (by decide +kernel) rfl) (fun _ => .ty _)) LA.aa_nil))) (LA.ae_and (LA.ae_not (LA.ae_callB LA.ca_isTy rfl T.n_isinstance (by decide +kernel) (LA.aa_cons (LA.ae_var (pv 0)) (LA.aa_cons (LA.ae_c (pe_bltn (v := .ty "bool") (u := .type "bool") rfl T.n_bool (by decide +kernel) rfl) (fun _ => .ty _)) LA.aa_nil)))) (LA.ae_one (LA.ae_cmp (LA.oa_eq hr.units) (LA.ae_var (pv 0)) (LA.ae_var (pv 1)) (nomark _))))))) LA.ass_nil)
  (LA.ass_cons (LA.as_if (LA.at_val (LA.ae_callB LA.ca_isTy rfl T.n_isinstance (by decide +kernel) (LA.aa_cons (LA.ae_var (pv 1)) (LA.aa_cons (LA.ae_c (pe_bltn (v := .ty "str") (u := .type "str") rfl T.n_str (by decide +kernel) rfl) (fun _ => .ty _)) LA.aa_nil)))) (LA.ass_one (LA.as_ret (LA.ae_and (LA.ae_callB LA.ca_isTy rfl T.n_isinstance (by decide +kernel) (LA.aa_cons (LA.ae_var (pv 0)) (LA.aa_cons (LA.ae_c (pe_bltn (v := .ty "str") (u := .type "str") rfl T.n_str (by decide +kernel) rfl) (fun _ => .ty _)) LA.aa_nil))) (LA.ae_one (LA.ae_cmp (LA.oa_eq hr.units) (LA.ae_var (pv 0)) (LA.ae_var (pv 1)) (nomark _)))))) LA.ass_nil)
  (LA.ass_cons (LA.as_if (LA.at_val (LA.ae_callB LA.ca_isTy rfl T.n_isinstance (by decide +kernel) (LA.aa_cons (LA.ae_var (pv 1)) (LA.aa_cons (LA.ae_c (pe_bltn (v := .ty "dict") (u := .type "dict") rfl T.n_dict (by decide +kernel) rfl) (fun _ => .ty _)) LA.aa_nil)))) (LA.ass_cons (LA.as_if (LA.at_bool (LA.aw_or (LA.at_not (LA.at_val (LA.ae_callB LA.ca_isTy rfl T.n_isinstance (by decide +kernel) (LA.aa_cons (LA.ae_var (pv 0)) (LA.aa_cons (LA.ae_c (pe_bltn (v := .ty "dict") (u := .type "dict") rfl T.n_dict (by decide +kernel) rfl) (fun _ => .ty _)) LA.aa_nil))))) (LA.aw_or1 (LA.at_cmp (LA.oa_ne hr.units) (LA.ae_callTy LA.ca_list rfl T.n_list (by decide +kernel) (LA.aa_cons (LA.ae_var (pv 0)) LA.aa_nil)) (LA.ae_callB LA.ca_sort rfl T.n_sorted (by decide +kernel) (LA.aa_cons (LA.ae_callTy LA.ca_list rfl T.n_list (by decide +kernel) (LA.aa_cons (LA.ae_var (pv 1)) LA.aa_nil)) LA.aa_nil)) (nomark _))))) (LA.ass_one (LA.as_ret LA.ae_bl)) LA.ass_nil)
  (LA.ass_one (LA.as_ret (LA.ae_callB (LA.ca_all rfl) rfl T.n_all (by decide +kernel) (LA.aa_cons (LA.ae_new (LA.fe_lc (own := [("_law_key", 2)]) rfl sc__law_equal.nd (LA.ai_items (LA.ae_callTy LA.ca_list rfl T.n_list (by decide +kernel) (LA.aa_cons (LA.ae_var (pv 0)) LA.aa_nil))) (blkOk_by (own := [("_law_key", 2)]) (N := ["_law_actual", "_law_expected", "_law_key", "_law_k"]) (sc := defScope s__law_equal) (by decide +kernel)) (by decide) (fun _ _ _ _ _ => (LA.ag_name (pg_name (i := 2) sc__law_equal.nd rfl (Or.inl rfl)))) (fun _ _ _ _ _ => LA.ats_nil) (fun _ _ _ _ _ => (LA.ae_call HX.takes0N g__law_equal (hr.mono (by first | decide | omega)) rfl (LA.aa_cons (LA.ae_ix LA.ia_any (LA.ae_var (pv 0)) (LA.ae_var (pv 2)) (fun _ _ => rfl)) (LA.aa_cons (LA.ae_ix LA.ia_any (LA.ae_var (pv 1)) (LA.ae_var (pv 2)) (fun _ _ => rfl)) LA.aa_nil)))))) LA.aa_nil))))) LA.ass_nil)
  (LA.ass_cons (LA.as_if (LA.at_cmp (LA.oa_ne hr.units) (LA.ae_callB LA.ca_isTy rfl T.n_isinstance (by decide +kernel) (LA.aa_cons (LA.ae_var (pv 1)) (LA.aa_cons (LA.ae_c (pe_bltn (v := .ty "tuple") (u := .type "tuple") rfl T.n_tuple (by decide +kernel) rfl) (fun _ => .ty _)) LA.aa_nil))) (LA.ae_callB LA.ca_isTy rfl T.n_isinstance (by decide +kernel) (LA.aa_cons (LA.ae_var (pv 0)) (LA.aa_cons (LA.ae_c (pe_bltn (v := .ty "tuple") (u := .type "tuple") rfl T.n_tuple (by decide +kernel) rfl) (fun _ => .ty _)) LA.aa_nil))) (nomark _)) (LA.ass_one (LA.as_ret LA.ae_bl)) LA.ass_nil)
  (LA.ass_cons (LA.as_if (LA.at_cmp (LA.oa_ne hr.units) (LA.ae_callB LA.ca_isTy rfl T.n_isinstance (by decide +kernel) (LA.aa_cons (LA.ae_var (pv 1)) (LA.aa_cons (LA.ae_c (pe_bltn (v := .ty "list") (u := .type "list") rfl T.n_list (by decide +kernel) rfl) (fun _ => .ty _)) LA.aa_nil))) (LA.ae_callB LA.ca_isTy rfl T.n_isinstance (by decide +kernel) (LA.aa_cons (LA.ae_var (pv 0)) (LA.aa_cons (LA.ae_c (pe_bltn (v := .ty "list") (u := .type "list") rfl T.n_list (by decide +kernel) rfl) (fun _ => .ty _)) LA.aa_nil))) (nomark _)) (LA.ass_one (LA.as_ret LA.ae_bl)) LA.ass_nil)
  (LA.ass_cons (LA.as_if (LA.at_cmp (LA.oa_ne hr.units) (LA.ae_callB LA.ca_len rfl T.n_len (by decide +kernel) (LA.aa_cons (LA.ae_var (pv 0)) LA.aa_nil)) (LA.ae_callB LA.ca_len rfl T.n_len (by decide +kernel) (LA.aa_cons (LA.ae_var (pv 1)) LA.aa_nil)) (nomark _)) (LA.ass_one (LA.as_ret LA.ae_bl)) LA.ass_nil)
  (LA.ass_one (LA.as_ret (LA.ae_callB (LA.ca_all rfl) rfl T.n_all (by decide +kernel) (LA.aa_cons (LA.ae_new (LA.fe_lc (own := [("_law_k", 3)]) rfl sc__law_equal.nd (LA.ai_range1 rfl T.n_range (LA.ae_callB LA.ca_len rfl T.n_len (by decide +kernel) (LA.aa_cons (LA.ae_var (pv 1)) LA.aa_nil))) (blkOk_by (own := [("_law_k", 3)]) (N := ["_law_actual", "_law_expected", "_law_key", "_law_k"]) (sc := defScope s__law_equal) (by decide +kernel)) (by decide) (fun _ _ _ _ _ => (LA.ag_name (pg_name (i := 3) sc__law_equal.nd rfl (Or.inl rfl)))) (fun _ _ _ _ _ => LA.ats_nil) (fun _ _ _ _ _ => (LA.ae_call HX.takes0N g__law_equal (hr.mono (by first | decide | omega)) rfl (LA.aa_cons (LA.ae_ix LA.ia_any (LA.ae_var (pv 0)) (LA.ae_var (pv 3)) (fun _ _ => rfl)) (LA.aa_cons (LA.ae_ix LA.ia_any (LA.ae_var (pv 1)) (LA.ae_var (pv 3)) (fun _ _ => rfl)) LA.aa_nil)))))) LA.aa_nil)))))))))))), fun ds ms Q E h => ?_⟩
    obtain ⟨_, x, rfl, he, q⟩ := h
    have he : Eqd n x := he
    cases x with
    | non => walk_at "b"; exact q
    | bl b => walk_at "b"; exact q
    | int b => walk_at "b"; exact q
    | str b => walk_at "b"; exact q
    | tup xs =>
      obtain ⟨m, rfl⟩ : ∃ m, n = m + 1 := by cases n with | zero => exact he.elim | succ m => exact ⟨m, rfl⟩
      obtain ⟨hl, hx⟩ := he
      walk_at "b"
      refine ⟨by omega, by omega, ?_⟩
      refine lcL_map (fun _ => .bl true) (by rw [rangeD_len]; unfold PySem.sizeLine; omega) (fun d hd N hN => ?_) ?_
      · obtain ⟨i, hi, rfl⟩ := rangeD_mem hd
        have hi' : i < xs.length := by omega
        walk_at "b"
        rw [show (0 : Int) + (i : Nat) = (i : Nat) by omega, LA.atI_nat, List.getElem?_eq_getElem hi']
        walk_at "b"
        rw [LA.atI_nat, List.getElem?_eq_getElem hi']
        walk_at "b"
        exact ⟨by omega, xs[i], rfl, hx _ (List.getElem_mem hi'), hN⟩
      · walk_at "b"
        rw [all_true]
        exact q
    | lst xs =>
      obtain ⟨m, rfl⟩ : ∃ m, n = m + 1 := by cases n with | zero => exact he.elim | succ m => exact ⟨m, rfl⟩
      obtain ⟨hl, hx⟩ := he
      walk_at "b"
      refine ⟨by omega, by omega, ?_⟩
      refine lcL_map (fun _ => .bl true) (by rw [rangeD_len]; unfold PySem.sizeLine; omega) (fun d hd N hN => ?_) ?_
      · obtain ⟨i, hi, rfl⟩ := rangeD_mem hd
        have hi' : i < xs.length := by omega
        walk_at "b"
        rw [show (0 : Int) + (i : Nat) = (i : Nat) by omega, LA.atI_nat, List.getElem?_eq_getElem hi']
        walk_at "b"
        rw [LA.atI_nat, List.getElem?_eq_getElem hi']
        walk_at "b"
        exact ⟨by omega, xs[i], rfl, hx _ (List.getElem_mem hi'), hN⟩
      · walk_at "b"
        rw [all_true]
        exact q
    | _ => cases n <;> exact he.elim
end

end LW
namespace LW
open PySem PySem.Spec PyProof.Rows L2
open LA
/-! running -/
/-- the times -/
abbrev Tm := Str → Int
def tmD (ns : List Str) (t : Tm) : D := .dk (ns.map fun n => (.inr n, .int (t n)))
/-- a dict with the times t -/
def Agr (kvs : List (Key × D)) (ns : List Str) (t : Tm) : Prop := ∀ n ∈ ns, valD kvs (.inr n) = some (.int (t n))
def Pa.num (L : Int) (t : Tm) : Pa → Int
  | .time n => t n
  | .mid => L
  | .at z => z
  | .spn z => z
  | .plus p z => p.num L t + z
  | .wrap p => p.num L t % L
  | .minus p q => p.num L t - q.num L t
def Co.tru (L : Int) (t : Tm) : Co → Bool
  | .before p q => decide (p.num L t < q.num L t)
  | .same p q => decide (p.num L t = q.num L t)
  | .betw p q r => decide (q.num L t ≤ p.num L t) && decide (p.num L t < r.num L t)
  | .within p q r => decide ((p.num L t - q.num L t) % L < (r.num L t - q.num L t) % L)
  | .shorter p q => decide (p.num L t < q.num L t)
  | .not c => !c.tru L t
  | .and c e => c.tru L t && e.tru L t
  | .or c e => c.tru L t || e.tru L t
/-- the first place of the least -/
def firstMin : List Int → Nat
  | [] => 0
  | x :: r => if r.all (fun y => decide (x ≤ y)) then 0 else firstMin r + 1
inductive Wh where | word (w : Str) | val (z : Int)
def Wh.ds : Wh → List D
  | .word w => [.str "word", .str w]
  | .val z => [.str "value", .int z]
def Oc.wh (L : Int) (t : Tm) : Oc → Wh
  | .word w => .word w
  | .value p => .val (p.num L t)
  | .total ps => .val (ps.map (Pa.num L t)).sum
  | .first p ps => .val (firstMin (ps.map fun q => (q.num L t - p.num L t) % L))
section
variable {P : Program} {w : World} {K : PySem.W.Frag} {mg : Str → Option Value} {base : Heap}
theorem valD_tm {ns : List Str} {t : Tm} {n : Str} (h : n ∈ ns) : valD (ns.map fun n => ((.inr n : Key), D.int (t n))) (.inr n) = some (.int (t n)) := by
  unfold valD
  induction ns with
  | nil => cases h
  | cons y r ih =>
    simp only [List.map_cons, List.find?_cons]
    by_cases e : y = n
    · subst e; simp
    · rw [decide_eq_false fun z => e (Sum.inr.inj z)]
      exact ih ((List.mem_cons.mp h).resolve_left fun z => e z.symm)
def S_num (n : Nat) : ASp := fun ds ms Q _ => 0 < n ∧ ∃ (p : Pa) (L : Int) (ns : List Str) (t : Tm) (kvs : List (Key × D)), ds = [p.d, .int L, .dk kvs] ∧ Agr kvs ns t ∧ p.wf ns ∧ 0 < L ∧ p.dep < n ∧ Q (.int (p.num L t)) ms
theorem ga_number_of (T : Txt K mg) : ∀ n : Nat, HX.GFn P w K mg base "number_of" (n + 1) ["part", "length", "times"] (spA K (S_num n))
  | 0 => LA.gfn_none T.d_number_of T.g_number_of sc_number_of (fun _ _ _ _ _ _ us hl => match us, hl with | [_, _, _], _ => rfl) (fun ds ms Q E h => Nat.lt_irrefl 0 h.1)
  | n + 1 => by
    have g_number_of := ga_number_of T n
    refine LA.gfn_of T.d_number_of T.g_number_of sc_number_of (by intro ds ms Q E h; unfold S_num at h; repeat (first | (obtain ⟨rfl, _⟩ := h; rfl) | obtain ⟨_, h⟩ := h)) (fun _ _ _ _ _ _ us hl => match us, hl with | [_, _, _], _ => rfl) fun cdv A outer s H E hr => ⟨_, (LA.ass_cons (LA.as_set (i := 3) sc_number_of.nd rfl (Or.inl rfl) (LA.ae_ix LA.ia_any (LA.ae_var (pv 0)) LA.ae_int (fun _ _ => rfl)))
  (LA.ass_cons (LA.as_if (LA.at_cmp (LA.oa_eq hr.units) (LA.ae_var (pv 3)) LA.ae_str (nomark _)) (LA.ass_one (LA.as_ret (LA.ae_dget (hu_of hr) (LA.ae_var (pv 2)) (LA.ae_ix LA.ia_any (LA.ae_var (pv 0)) LA.ae_int (fun _ _ => rfl)) (fun _ _ => rfl)))) LA.ass_nil)
  (LA.ass_cons (LA.as_if (LA.at_cmp (LA.oa_eq hr.units) (LA.ae_var (pv 3)) LA.ae_str (nomark _)) (LA.ass_one (LA.as_ret (LA.ae_var (pv 1)))) LA.ass_nil)
  (LA.ass_cons (LA.as_if (LA.at_cmp (LA.oa_eq hr.units) (LA.ae_var (pv 3)) LA.ae_str (nomark _)) (LA.ass_one (LA.as_ret (LA.ae_bin LA.oa_add (LA.ae_call HX.takesO g_number_of (hr.mono (by first | decide | omega)) rfl (LA.aa_cons (LA.ae_ix LA.ia_any (LA.ae_var (pv 0)) LA.ae_int (fun _ _ => rfl)) (LA.aa_cons (LA.ae_var (pv 1)) (LA.aa_cons (LA.ae_var (pv 2)) LA.aa_nil)))) (LA.ae_ix LA.ia_any (LA.ae_var (pv 0)) LA.ae_int (fun _ _ => rfl))))) LA.ass_nil)
  (LA.ass_cons (LA.as_if (LA.at_cmp (LA.oa_eq hr.units) (LA.ae_var (pv 3)) LA.ae_str (nomark _)) (LA.ass_one (LA.as_ret (LA.ae_bin LA.oa_mod (LA.ae_call HX.takesO g_number_of (hr.mono (by first | decide | omega)) rfl (LA.aa_cons (LA.ae_ix LA.ia_any (LA.ae_var (pv 0)) LA.ae_int (fun _ _ => rfl)) (LA.aa_cons (LA.ae_var (pv 1)) (LA.aa_cons (LA.ae_var (pv 2)) LA.aa_nil)))) (LA.ae_var (pv 1))))) LA.ass_nil)
  (LA.ass_cons (LA.as_if (LA.at_cmp (LA.oa_eq hr.units) (LA.ae_var (pv 3)) LA.ae_str (nomark _)) (LA.ass_one (LA.as_ret (LA.ae_bin LA.oa_sub (LA.ae_call HX.takesO g_number_of (hr.mono (by first | decide | omega)) rfl (LA.aa_cons (LA.ae_ix LA.ia_any (LA.ae_var (pv 0)) LA.ae_int (fun _ _ => rfl)) (LA.aa_cons (LA.ae_var (pv 1)) (LA.aa_cons (LA.ae_var (pv 2)) LA.aa_nil)))) (LA.ae_call HX.takesO g_number_of (hr.mono (by first | decide | omega)) rfl (LA.aa_cons (LA.ae_ix LA.ia_any (LA.ae_var (pv 0)) LA.ae_int (fun _ _ => rfl)) (LA.aa_cons (LA.ae_var (pv 1)) (LA.aa_cons (LA.ae_var (pv 2)) LA.aa_nil))))))) LA.ass_nil)
  (LA.ass_one (LA.as_ret (LA.ae_ix LA.ia_any (LA.ae_var (pv 0)) LA.ae_int (fun _ _ => rfl)))))))))), fun ds ms Q E h => ?_⟩
    obtain ⟨_, p, L, ns, t, kvs, rfl, hk, hw, hL, hd, q⟩ := h
    cases p with
    | time x => simp only [Pa.d]; walk_at "b"; rw [hk _ hw]; walk_at "b"; exact q
    | mid => simp only [Pa.d]; walk_at "b"; exact q
    | «at» z => simp only [Pa.d]; walk_at "b"; exact q
    | spn z => simp only [Pa.d]; walk_at "b"; exact q
    | plus p z =>
      simp only [Pa.dep] at hd
      simp only [Pa.d]; walk_at "b"
      refine ⟨by omega, p, L, ns, t, kvs, rfl, hk, hw.1, hL, by omega, ?_⟩
      walk_at "b"; exact q
    | wrap p =>
      simp only [Pa.dep] at hd
      simp only [Pa.d]; walk_at "b"
      refine ⟨by omega, p, L, ns, t, kvs, rfl, hk, hw, hL, by omega, ?_⟩
      walk_at "b"; exact ⟨hL, q⟩
    | minus a b =>
      simp only [Pa.dep] at hd
      simp only [Pa.d]; walk_at "b"
      refine ⟨by omega, a, L, ns, t, kvs, rfl, hk, hw.2.2.1, hL, by omega, ?_⟩
      walk_at "b"
      refine ⟨by omega, b, L, ns, t, kvs, rfl, hk, hw.2.2.2, hL, by omega, ?_⟩
      walk_at "b"; exact q
def S_holds (n : Nat) : ASp := fun ds ms Q _ => 0 < n ∧ ∃ (c : Co) (L : Int) (ns : List Str) (t : Tm) (kvs : List (Key × D)), ds = [c.d, .int L, .dk kvs] ∧ Agr kvs ns t ∧ c.wf ns ∧ 0 < L ∧ c.dep < n ∧ c.dep ≤ 7 ∧ Q (.bl (c.tru L t)) ms
theorem ga_holds_for (T : Txt K mg) : ∀ n : Nat, HX.GFn P w K mg base "holds_for" (n + 10) ["condition", "length", "times"] (spA K (S_holds n))
  | 0 => LA.gfn_none T.d_holds_for T.g_holds_for sc_holds_for (fun _ _ _ _ _ _ us hl => match us, hl with | [_, _, _], _ => rfl) (fun ds ms Q E h => Nat.lt_irrefl 0 h.1)
  | n + 1 => by
    have g_holds_for := ga_holds_for T n
    have g_number_of := ga_number_of (P := P) (w := w) (base := base) T 9
    refine LA.gfn_of T.d_holds_for T.g_holds_for sc_holds_for (by intro ds ms Q E h; unfold S_holds at h; repeat (first | (obtain ⟨rfl, _⟩ := h; rfl) | obtain ⟨_, h⟩ := h)) (fun _ _ _ _ _ _ us hl => match us, hl with | [_, _, _], _ => rfl) fun cdv A outer s H E hr => ⟨_, (LA.ass_cons (LA.as_set (i := 3) sc_holds_for.nd rfl (Or.inl rfl) (LA.ae_ix LA.ia_any (LA.ae_var (pv 0)) LA.ae_int (fun _ _ => rfl)))
  (LA.ass_cons (LA.as_if (LA.at_cmp (LA.oa_eq hr.units) (LA.ae_var (pv 3)) LA.ae_str (nomark _)) (LA.ass_one (LA.as_ret (LA.ae_not (LA.ae_call HX.takesO g_holds_for (hr.mono (by first | decide | omega)) rfl (LA.aa_cons (LA.ae_ix LA.ia_any (LA.ae_var (pv 0)) LA.ae_int (fun _ _ => rfl)) (LA.aa_cons (LA.ae_var (pv 1)) (LA.aa_cons (LA.ae_var (pv 2)) LA.aa_nil))))))) LA.ass_nil)
  (LA.ass_cons (LA.as_if (LA.at_cmp (LA.oa_eq hr.units) (LA.ae_var (pv 3)) LA.ae_str (nomark _)) (LA.ass_one (LA.as_ret (LA.ae_and (LA.ae_call HX.takesO g_holds_for (hr.mono (by first | decide | omega)) rfl (LA.aa_cons (LA.ae_ix LA.ia_any (LA.ae_var (pv 0)) LA.ae_int (fun _ _ => rfl)) (LA.aa_cons (LA.ae_var (pv 1)) (LA.aa_cons (LA.ae_var (pv 2)) LA.aa_nil)))) (LA.ae_one (LA.ae_call HX.takesO g_holds_for (hr.mono (by first | decide | omega)) rfl (LA.aa_cons (LA.ae_ix LA.ia_any (LA.ae_var (pv 0)) LA.ae_int (fun _ _ => rfl)) (LA.aa_cons (LA.ae_var (pv 1)) (LA.aa_cons (LA.ae_var (pv 2)) LA.aa_nil)))))))) LA.ass_nil)
  (LA.ass_cons (LA.as_if (LA.at_cmp (LA.oa_eq hr.units) (LA.ae_var (pv 3)) LA.ae_str (nomark _)) (LA.ass_one (LA.as_ret (LA.ae_or (LA.ae_call HX.takesO g_holds_for (hr.mono (by first | decide | omega)) rfl (LA.aa_cons (LA.ae_ix LA.ia_any (LA.ae_var (pv 0)) LA.ae_int (fun _ _ => rfl)) (LA.aa_cons (LA.ae_var (pv 1)) (LA.aa_cons (LA.ae_var (pv 2)) LA.aa_nil)))) (LA.ae_one (LA.ae_call HX.takesO g_holds_for (hr.mono (by first | decide | omega)) rfl (LA.aa_cons (LA.ae_ix LA.ia_any (LA.ae_var (pv 0)) LA.ae_int (fun _ _ => rfl)) (LA.aa_cons (LA.ae_var (pv 1)) (LA.aa_cons (LA.ae_var (pv 2)) LA.aa_nil)))))))) LA.ass_nil)
  (LA.ass_cons (LA.as_setLc (i := 4) (own := [("part", 5)]) rfl sc_holds_for.nd rfl rfl (sw_true rfl rfl rfl (by decide +kernel)) (LA.ai_items (LA.ae_slice (LA.ae_var (pv 0)) (LA.ao_some LA.ae_int) LA.ao_none)) (blkOk_by (own := [("part", 5)]) (N := ["condition", "length", "times", "word", "numbers", "part"]) (sc := defScope s_holds_for) (by decide +kernel)) (by decide) (fun _ _ _ _ _ => (LA.ag_name (pg_name (i := 5) sc_holds_for.nd rfl (Or.inl rfl)))) (fun _ _ _ _ _ => LA.ats_nil) (fun _ _ _ _ _ => (LA.ae_call HX.takes0N g_number_of (hr.mono (by first | decide | omega)) rfl (LA.aa_cons (LA.ae_var (pv 5)) (LA.aa_cons (LA.ae_var (pv 1)) (LA.aa_cons (LA.ae_var (pv 2)) LA.aa_nil))))))
  (LA.ass_cons (LA.as_if (LA.at_cmp (LA.oa_eq hr.units) (LA.ae_var (pv 3)) LA.ae_str (nomark _)) (LA.ass_one (LA.as_ret (LA.ae_cmp (LA.oa_eq hr.units) (LA.ae_ix LA.ia_any (LA.ae_var (pv 4)) LA.ae_int (fun _ _ => rfl)) (LA.ae_ix LA.ia_any (LA.ae_var (pv 4)) LA.ae_int (fun _ _ => rfl)) (nomark _)))) LA.ass_nil)
  (LA.ass_cons (LA.as_if (LA.at_cmp (LA.oa_eq hr.units) (LA.ae_var (pv 3)) LA.ae_str (nomark _)) (LA.ass_one (LA.as_ret (LA.ae_chain LA.oa_le LA.oa_lt (LA.ae_ix LA.ia_any (LA.ae_var (pv 4)) LA.ae_int (fun _ _ => rfl)) (LA.ae_ix LA.ia_any (LA.ae_var (pv 4)) LA.ae_int (fun _ _ => rfl)) (LA.ae_ix LA.ia_any (LA.ae_var (pv 4)) LA.ae_int (fun _ _ => rfl))))) LA.ass_nil)
  (LA.ass_cons (LA.as_if (LA.at_cmp (LA.oa_eq hr.units) (LA.ae_var (pv 3)) LA.ae_str (nomark _)) (LA.ass_one (LA.as_ret (LA.ae_cmp LA.oa_lt (LA.ae_bin LA.oa_mod (LA.ae_bin LA.oa_sub (LA.ae_ix LA.ia_any (LA.ae_var (pv 4)) LA.ae_int (fun _ _ => rfl)) (LA.ae_ix LA.ia_any (LA.ae_var (pv 4)) LA.ae_int (fun _ _ => rfl))) (LA.ae_var (pv 1))) (LA.ae_bin LA.oa_mod (LA.ae_bin LA.oa_sub (LA.ae_ix LA.ia_any (LA.ae_var (pv 4)) LA.ae_int (fun _ _ => rfl)) (LA.ae_ix LA.ia_any (LA.ae_var (pv 4)) LA.ae_int (fun _ _ => rfl))) (LA.ae_var (pv 1))) (nomark _)))) LA.ass_nil)
  (LA.ass_one (LA.as_ret (LA.ae_cmp LA.oa_lt (LA.ae_ix LA.ia_any (LA.ae_var (pv 4)) LA.ae_int (fun _ _ => rfl)) (LA.ae_ix LA.ia_any (LA.ae_var (pv 4)) LA.ae_int (fun _ _ => rfl)) (nomark _)))))))))))), fun ds ms Q E h => ?_⟩
    obtain ⟨_, c, L, ns, t, kvs, rfl, hk, hw, hL, hd, h7, q⟩ := h
    cases c with
    | not c =>
      simp only [Co.dep] at hd h7
      simp only [Co.d]; walk_at "b"
      refine ⟨by omega, c, L, ns, t, kvs, rfl, hk, hw, hL, by omega, by omega, ?_⟩
      walk_at "b"; exact q
    | and c e =>
      simp only [Co.dep] at hd h7
      simp only [Co.d]; walk_at "b"
      refine ⟨by omega, c, L, ns, t, kvs, rfl, hk, hw.1, hL, by omega, by omega, ?_⟩
      simp only [Co.tru] at q
      walk_at "b"
      refine br_b (fun h => ?_) (fun h => ?_)
      · rw [h] at q
        refine ⟨by omega, e, L, ns, t, kvs, rfl, hk, hw.2, hL, by omega, by omega, q⟩
      · rw [h] at q; exact q
    | or c e =>
      simp only [Co.dep] at hd h7
      simp only [Co.d]; walk_at "b"
      refine ⟨by omega, c, L, ns, t, kvs, rfl, hk, hw.1, hL, by omega, by omega, ?_⟩
      simp only [Co.tru] at q
      walk_at "b"
      refine br_b (fun h => ?_) (fun h => ?_)
      · rw [h] at q; exact q
      · rw [h] at q
        refine ⟨by omega, e, L, ns, t, kvs, rfl, hk, hw.2, hL, by omega, by omega, q⟩
    | before a b =>
      simp only [Co.dep] at hd h7
      simp only [Co.d]; walk_at "b"
      refine lcL_list Pa.d (fun p => .int (p.num L t)) [a, b] [] (by simp [PySem.sizeLine]) (fun p hp acc N ha hN => ?_) ?_
      · have hp' : p.wf ns ∧ p.dep < 9 := by
          simp only [List.mem_cons, List.not_mem_nil, or_false] at hp
          rcases hp with rfl | rfl
          · exact ⟨hw.1.2, by omega⟩
          · exact ⟨hw.2.2, by omega⟩
        walk_at "b"
        refine ⟨by decide, p, L, ns, t, kvs, rfl, hk, hp'.1, hL, hp'.2, ?_⟩
        walk_at "b"
        exact ⟨ha, hN⟩
      · simp only [Co.tru] at q
        walk_at "b"
        exact q
    | same a b =>
      simp only [Co.dep] at hd h7
      simp only [Co.d]; walk_at "b"
      refine lcL_list Pa.d (fun p => .int (p.num L t)) [a, b] [] (by simp [PySem.sizeLine]) (fun p hp acc N ha hN => ?_) ?_
      · have hp' : p.wf ns ∧ p.dep < 9 := by
          simp only [List.mem_cons, List.not_mem_nil, or_false] at hp
          rcases hp with rfl | rfl
          · exact ⟨hw.1.2, by omega⟩
          · exact ⟨hw.2.2, by omega⟩
        walk_at "b"
        refine ⟨by decide, p, L, ns, t, kvs, rfl, hk, hp'.1, hL, hp'.2, ?_⟩
        walk_at "b"
        exact ⟨ha, hN⟩
      · simp only [Co.tru] at q
        walk_at "b"
        exact q
    | shorter a b =>
      simp only [Co.dep] at hd h7
      simp only [Co.d]; walk_at "b"
      refine lcL_list Pa.d (fun p => .int (p.num L t)) [a, b] [] (by simp [PySem.sizeLine]) (fun p hp acc N ha hN => ?_) ?_
      · have hp' : p.wf ns ∧ p.dep < 9 := by
          simp only [List.mem_cons, List.not_mem_nil, or_false] at hp
          rcases hp with rfl | rfl
          · exact ⟨hw.1.2, by omega⟩
          · exact ⟨hw.2.1.2, by omega⟩
        walk_at "b"
        refine ⟨by decide, p, L, ns, t, kvs, rfl, hk, hp'.1, hL, hp'.2, ?_⟩
        walk_at "b"
        exact ⟨ha, hN⟩
      · simp only [Co.tru] at q
        walk_at "b"
        exact q
    | betw a b c =>
      simp only [Co.dep] at hd h7
      simp only [Co.d]; walk_at "b"
      refine lcL_list Pa.d (fun p => .int (p.num L t)) [a, b, c] [] (by simp [PySem.sizeLine]) (fun p hp acc N ha hN => ?_) ?_
      · have hp' : p.wf ns ∧ p.dep < 9 := by
          simp only [List.mem_cons, List.not_mem_nil, or_false] at hp
          rcases hp with rfl | rfl | rfl
          · exact ⟨hw.1.2, by omega⟩
          · exact ⟨hw.2.1.2, by omega⟩
          · exact ⟨hw.2.2.2, by omega⟩
        walk_at "b"
        refine ⟨by decide, p, L, ns, t, kvs, rfl, hk, hp'.1, hL, hp'.2, ?_⟩
        walk_at "b"
        exact ⟨ha, hN⟩
      · simp only [Co.tru] at q
        walk_at "b"
        refine br_d (fun h => ?_) (fun h => ?_)
        · rw [decide_eq_true h, Bool.true_and] at q
          walk_at "b"; exact q
        · rw [decide_eq_false h, Bool.false_and] at q
          walk_at "b"; exact q
    | within a b c =>
      simp only [Co.dep] at hd h7
      simp only [Co.d]; walk_at "b"
      refine lcL_list Pa.d (fun p => .int (p.num L t)) [a, b, c] [] (by simp [PySem.sizeLine]) (fun p hp acc N ha hN => ?_) ?_
      · have hp' : p.wf ns ∧ p.dep < 9 := by
          simp only [List.mem_cons, List.not_mem_nil, or_false] at hp
          rcases hp with rfl | rfl | rfl
          · exact ⟨hw.1.2, by omega⟩
          · exact ⟨hw.2.1.2, by omega⟩
          · exact ⟨hw.2.2.2, by omega⟩
        walk_at "b"
        refine ⟨by decide, p, L, ns, t, kvs, rfl, hk, hp'.1, hL, hp'.2, ?_⟩
        walk_at "b"
        exact ⟨ha, hN⟩
      · simp only [Co.tru] at q
        walk_at "b"
        exact ⟨hL, hL, q⟩
end

end LW
namespace LW
open PySem PySem.Spec PyProof.Rows L2
open LA
section
variable {P : Program} {w : World} {K : PySem.W.Frag} {mg : Str → Option Value} {base : Heap}
/-- of a list's least the first place -/
theorem firstMin_idx : ∀ (l : List Int) (m : Int), m ∈ l → (∀ y ∈ l, m ≤ y) → (l.map D.int).findIdx? (fun z => eqFlat z (.int m)) = some (firstMin l)
  | x :: r, m, hm, hl => by
    rw [List.map_cons, List.findIdx?_cons]
    rw [show eqFlat (D.int x) (.int m) = decide (x = m) from rfl]
    unfold firstMin
    by_cases e : x = m
    · subst e
      rw [decide_eq_true rfl, if_pos rfl, if_pos]
      rw [List.all_eq_true]
      exact fun y hy => decide_eq_true (hl y (List.mem_cons_of_mem _ hy))
    · have hr : m ∈ r := (List.mem_cons.mp hm).resolve_left fun z => e z.symm
      have hx := hl x List.mem_cons_self
      rw [decide_eq_false e, if_neg Bool.false_ne_true, if_neg, firstMin_idx r m hr fun y hy => hl y (List.mem_cons_of_mem _ hy)]
      · rfl
      · intro h
        have := of_decide_eq_true (List.all_eq_true.mp h m hr)
        omega
theorem flat_ints (l : List Int) : (l.map D.int).all flatD = true := by
  rw [List.all_map, List.all_eq_true]; exact fun _ _ => rfl
def S_first : ASp := fun ds ms Q _ => ∃ (p : Pa) (ps : List Pa) (L : Int) (ns : List Str) (t : Tm) (kvs : List (Key × D)), ds = [(Oc.first p ps).d, .int L, .dk kvs] ∧ Agr kvs ns t ∧ (Oc.first p ps).wf ns ∧ 0 < L ∧ (Oc.first p ps).dep ≤ 7 ∧ Q (.int (firstMin (ps.map fun q => (q.num L t - p.num L t) % L))) ms
theorem ga_first_of (T : Txt K mg) : HX.GFn P w K mg base "first_of" 11 ["outcome", "length", "times"] (spA K S_first) := by
  have g_number_of := ga_number_of (P := P) (w := w) (base := base) T 9
  refine LA.gfn_of T.d_first_of T.g_first_of sc_first_of (by intro ds ms Q E h; unfold S_first at h; repeat (first | (obtain ⟨rfl, _⟩ := h; rfl) | obtain ⟨_, h⟩ := h)) (fun _ _ _ _ _ _ us hl => match us, hl with | [_, _, _], _ => rfl) fun cdv A outer s H E hr => ⟨_, (LA.ass_cons (LA.as_set (i := 3) sc_first_of.nd rfl (Or.inr rfl) (LA.ae_call HX.takesO g_number_of (hr.mono (by first | decide | omega)) rfl (LA.aa_cons (LA.ae_ix LA.ia_any (LA.ae_var (pv 0)) LA.ae_int (fun _ _ => rfl)) (LA.aa_cons (LA.ae_var (pv 1)) (LA.aa_cons (LA.ae_var (pv 2)) LA.aa_nil)))))
  (LA.ass_cons (LA.as_setLc (i := 4) (own := [("part", 5)]) rfl sc_first_of.nd rfl rfl (sw_true rfl rfl rfl (by decide +kernel)) (LA.ai_items (LA.ae_ix LA.ia_any (LA.ae_var (pv 0)) LA.ae_int (fun _ _ => rfl))) (blkOk_by (own := [("part", 5)]) (N := ["outcome", "length", "times", "now", "waits", "part"]) (sc := defScope s_first_of) (by decide +kernel)) (by decide) (fun _ _ _ _ _ => (LA.ag_name (pg_name (i := 5) sc_first_of.nd rfl (Or.inl rfl)))) (fun _ _ _ _ _ => LA.ats_nil) (fun _ _ _ _ _ => (LA.ae_bin LA.oa_mod (LA.ae_bin LA.oa_sub (LA.ae_call HX.takes0N g_number_of (hr.mono (by first | decide | omega)) rfl (LA.aa_cons (LA.ae_var (pv 5)) (LA.aa_cons (LA.ae_var (pv 1)) (LA.aa_cons (LA.ae_var (pv 2)) LA.aa_nil)))) (LA.ae_var (pv 3))) (LA.ae_var (pv 1)))))
  (LA.ass_one (LA.as_ret (LA.ae_bm (fun h1 h2 => pe_bm PySem.F.plainAttrs_list PySem.F.slot_list_index PySem.F.type_list_index mt_index h1 h2) LA.index_ok (LA.ae_var (pv 4)) (LA.aa_cons (LA.ae_callB (LA.ca_min rfl) rfl T.n_min (by decide +kernel) (LA.aa_cons (LA.ae_var (pv 4)) LA.aa_nil)) LA.aa_nil)))))), fun ds ms Q E h => ?_⟩
  obtain ⟨p, ps, L, ns, t, kvs, rfl, hk, hw, hL, hd, q⟩ := h
  simp only [Oc.dep] at hd
  simp only [Oc.d]
  walk_at "b"
  refine ⟨by decide, p, L, ns, t, kvs, rfl, hk, hw.1.2, hL, by omega, ?_⟩
  walk_at "b"
  have h2 := hw.2.1
  have h4 := hw.2.2.1
  refine lcL_list Pa.d (fun q => .int ((q.num L t - p.num L t) % L)) ps [] (by simp [PySem.sizeLine]; omega) (fun x hx acc N ha hN => ?_) ?_
  · walk_at "b"
    refine ⟨by decide, x, L, ns, t, kvs, rfl, hk, (hw.2.2.2 x hx).2, hL, by have := dep_mem (Nat.le_refl _) hx; omega, ?_⟩
    walk_at "b"
    exact ⟨hL, ha, hN⟩
  · have e : (ps.map fun q => D.int ((q.num L t - p.num L t) % L)) = (ps.map fun q => (q.num L t - p.num L t) % L).map D.int := by rw [List.map_map]; rfl
    rw [List.nil_append, e]
    walk_at "b"
    refine ⟨by omega, fun m hm hl => ?_⟩
    walk_at "b"
    refine ⟨flat_ints _, ?_⟩
    rw [firstMin_idx _ m hm hl]
    walk_at "b"
    exact q
def S_reck : ASp := fun ds ms Q _ => ∃ (o : Oc) (L : Int) (ns : List Str) (t : Tm) (kvs : List (Key × D)), ds = [o.d, .int L, .dk kvs] ∧ Agr kvs ns t ∧ o.wf ns ∧ 0 < L ∧ o.dep ≤ 7 ∧ Q (.tup (o.wh L t).ds) ms
theorem ga_reckoned (T : Txt K mg) : HX.GFn P w K mg base "reckoned" 12 ["outcome", "length", "times"] (spA K S_reck) := by
  have g_number_of := ga_number_of (P := P) (w := w) (base := base) T 9
  have g_first_of := ga_first_of (P := P) (w := w) (base := base) T
  refine LA.gfn_of T.d_reckoned T.g_reckoned sc_reckoned (by intro ds ms Q E h; unfold S_reck at h; repeat (first | (obtain ⟨rfl, _⟩ := h; rfl) | obtain ⟨_, h⟩ := h)) (fun _ _ _ _ _ _ us hl => match us, hl with | [_, _, _], _ => rfl) fun cdv A outer s H E hr => ⟨_, (LA.ass_cons (LA.as_if (LA.at_cmp (LA.oa_eq hr.units) (LA.ae_ix LA.ia_any (LA.ae_var (pv 0)) LA.ae_int (fun _ _ => rfl)) LA.ae_str (nomark _)) (LA.ass_one (LA.as_ret (LA.ae_tup (LA.aa_cons LA.ae_str (LA.aa_cons (LA.ae_ix LA.ia_any (LA.ae_var (pv 0)) LA.ae_int (fun _ _ => rfl)) LA.aa_nil))))) LA.ass_nil)
  (LA.ass_cons (LA.as_if (LA.at_cmp (LA.oa_eq hr.units) (LA.ae_ix LA.ia_any (LA.ae_var (pv 0)) LA.ae_int (fun _ _ => rfl)) LA.ae_str (nomark _)) (LA.ass_one (LA.as_ret (LA.ae_tup (LA.aa_cons LA.ae_str (LA.aa_cons (LA.ae_call HX.takesO g_number_of (hr.mono (by first | decide | omega)) rfl (LA.aa_cons (LA.ae_ix LA.ia_any (LA.ae_var (pv 0)) LA.ae_int (fun _ _ => rfl)) (LA.aa_cons (LA.ae_var (pv 1)) (LA.aa_cons (LA.ae_var (pv 2)) LA.aa_nil)))) LA.aa_nil))))) LA.ass_nil)
  (LA.ass_cons (LA.as_if (LA.at_cmp (LA.oa_eq hr.units) (LA.ae_ix LA.ia_any (LA.ae_var (pv 0)) LA.ae_int (fun _ _ => rfl)) LA.ae_str (nomark _)) (LA.ass_one (LA.as_ret (LA.ae_tup (LA.aa_cons LA.ae_str (LA.aa_cons (LA.ae_callB (LA.ca_sum rfl) rfl T.n_sum (by decide +kernel) (LA.aa_cons (LA.ae_new (LA.fe_lc (own := [("part", 3)]) rfl sc_reckoned.nd (LA.ai_items (LA.ae_ix LA.ia_any (LA.ae_var (pv 0)) LA.ae_int (fun _ _ => rfl))) (blkOk_by (own := [("part", 3)]) (N := ["outcome", "length", "times", "part"]) (sc := defScope s_reckoned) (by decide +kernel)) (by decide) (fun _ _ _ _ _ => (LA.ag_name (pg_name (i := 3) sc_reckoned.nd rfl (Or.inl rfl)))) (fun _ _ _ _ _ => LA.ats_nil) (fun _ _ _ _ _ => (LA.ae_call HX.takes0N g_number_of (hr.mono (by first | decide | omega)) rfl (LA.aa_cons (LA.ae_var (pv 3)) (LA.aa_cons (LA.ae_var (pv 1)) (LA.aa_cons (LA.ae_var (pv 2)) LA.aa_nil))))))) LA.aa_nil)) LA.aa_nil))))) LA.ass_nil)
  (LA.ass_one (LA.as_ret (LA.ae_tup (LA.aa_cons LA.ae_str (LA.aa_cons (LA.ae_call HX.takesO g_first_of (hr.mono (by first | decide | omega)) rfl (LA.aa_cons (LA.ae_var (pv 0)) (LA.aa_cons (LA.ae_var (pv 1)) (LA.aa_cons (LA.ae_var (pv 2)) LA.aa_nil)))) LA.aa_nil)))))))), fun ds ms Q E h => ?_⟩
  obtain ⟨o, L, ns, t, kvs, rfl, hk, hw, hL, hd, q⟩ := h
  cases o with
  | word x => simp only [Oc.d]; walk_at "b"; exact q
  | value p =>
    simp only [Oc.dep] at hd
    simp only [Oc.d]; walk_at "b"
    refine ⟨by decide, p, L, ns, t, kvs, rfl, hk, hw, hL, by omega, ?_⟩
    walk_at "b"; exact q
  | total ps =>
    simp only [Oc.dep] at hd
    have h4 := hw.2.1
    simp only [Oc.d]; walk_at "b"
    refine lcL_list Pa.d (fun q => .int (q.num L t)) ps [] (by simp [PySem.sizeLine]; omega) (fun x hx acc N ha hN => ?_) ?_
    · walk_at "b"
      refine ⟨by decide, x, L, ns, t, kvs, rfl, hk, hw.2.2 x hx, hL, by have := dep_mem (Nat.le_refl _) hx; omega, ?_⟩
      walk_at "b"
      exact ⟨ha, hN⟩
    · rw [List.nil_append]
      walk_at "b"
      exact q
  | first p ps =>
    simp only [Oc.d]; walk_at "b"
    refine ⟨p, ps, L, ns, t, kvs, rfl, hk, hw, hL, hd, ?_⟩
    walk_at "b"; exact q
end

end LW
namespace LW
open PySem PySem.Spec PyProof.Rows L2
open LA
/-- the first rule that holds, from a place on -/
def runK (L : Int) (t : Tm) (o : Oc) : List Ru → Nat → Wh × Nat
  | [], i => (o.wh L t, i)
  | r :: rs, i => if r.1.tru L t then (r.2.wh L t, i) else runK L t o rs (i + 1)
def runD (L : Int) (t : Tm) (o : Oc) (rs : List Ru) : D := .tup ((runK L t o rs 0).1.ds ++ [.int (runK L t o rs 0).2])
/-- are these times of the day for the names -/
def okT (kvs : List (Key × D)) (ns : List Str) (L : Int) : Prop := kvs.length = ns.length ∧ ∀ n ∈ ns, ∃ v : Int, valD kvs (.inr n) = some (.int v) ∧ 0 ≤ v ∧ v < L


section
variable {P : Program} {w : World} {K : PySem.W.Frag} {mg : Str → Option Value} {base : Heap}
def S_Day : ISp := fun ds ms Q _ => ∃ L : Int, ds = [.int L] ∧ 1 ≤ L ∧ Q [("ticks_of_day", .int L)] ms
theorem gk_Day (T : Txt K mg) : HX.GMk P w K mg base "Day" 2 ["self", "length"] (spI K "Day" S_Day) := by
  have g_is_integer := ga_is_integer (P := P) (w := w) (base := base) T
  refine LA.gmk_of T.mk_Day T.g_Day T.d_Day_init sc_Day_init (by intro ds ms Q E h; unfold S_Day at h; repeat (first | (obtain ⟨rfl, _⟩ := h; rfl) | obtain ⟨_, h⟩ := h)) (fun _ _ _ _ _ _ us hl => match us, hl with | [_, _], _ => rfl) fun cdv A outer s H E hr => ⟨_, (LA.ass_cons (LA.as_if (LA.at_bool (LA.aw_or (LA.at_not (LA.at_val (LA.ae_call HX.takesO g_is_integer (hr.mono (by first | decide | omega)) rfl (LA.aa_cons (LA.ae_var (pv 1)) LA.aa_nil)))) (LA.aw_or1 (LA.at_cmp LA.oa_lt (LA.ae_var (pv 1)) LA.ae_int (nomark _))))) (LA.ass_one (LA.as_raise0 rfl HX.takesO T.x_InvalidLength rfl)) LA.ass_nil)
  (LA.ass_one (LA.as_fldO (c := "Day") ⟨T.c_Day, T.a_Day_ticks_of_day⟩ (pv 0) (LA.ae_var (pv 1)) rfl))), fun ds ms Q E h => ?_⟩
  obtain ⟨L, rfl, h1, q⟩ := h
  walk_at "b"
  refine ⟨.int L, true, rfl, rfl, ?_⟩
  walk_at "b"
  rw [decide_eq_false (show ¬ L < 1 by omega)]
  walk_at "b"
  exact q
def S_dlen : ASp := fun ds ms Q _ => ∃ L : Int, ds = [dayO L] ∧ Q (.int L) ms
theorem gp_Day_length (T : Txt K mg) : HX.GPr P w K mg base "Day" "length" 1 (spA K S_dlen) := by
  refine ⟨T.po_Day_length, T.c_Day, LA.fn_of T.d_Day_length sc_Day_length (by intro ds ms Q E h; unfold S_dlen at h; repeat (first | (obtain ⟨rfl, _⟩ := h; rfl) | obtain ⟨_, h⟩ := h)) (fun _ _ _ _ _ _ us hl => match us, hl with | [_], _ => rfl) fun cdv A outer s H E hr => ⟨_, (LA.ass_one (LA.as_ret (LA.ae_fld (cs := ["Day"]) (LA.fc_cons ⟨T.c_Day, T.a_Day_ticks_of_day⟩ LA.fc_nil) (LA.ae_var (pv 0)) rfl))), fun ds ms Q E h => ?_⟩⟩
  obtain ⟨L, rfl, q⟩ := h
  simp only [dayO] at *
  walk_at "b"
  exact q
def S_given : ASp := fun ds ms Q E => ∃ (ns : List Str) (rs : List Ru) (o : Oc) (L : Int) (kvs : List (Key × D)), ds = [prO ns rs o, .int L, .dk kvs] ∧ ns.length ≤ 1000 ∧ (∀ n ∈ ns, ∀ v, valD kvs (.inr n) = some v → (intD v).isSome = true) ∧ (okT kvs ns L → Q .non ms) ∧ (¬ okT kvs ns L → E ("InvalidTimes", []) ms)
theorem ga_check_given (T : Txt K mg) : HX.GFn P w K mg base "check_given" 2 ["program", "length", "times"] (spA K S_given) := by
  have g_is_integer := ga_is_integer (P := P) (w := w) (base := base) T
  refine LA.gfn_of T.d_check_given T.g_check_given sc_check_given (by intro ds ms Q E h; unfold S_given at h; repeat (first | (obtain ⟨rfl, _⟩ := h; rfl) | obtain ⟨_, h⟩ := h)) (fun _ _ _ _ _ _ us hl => match us, hl with | [_, _, _], _ => rfl) fun cdv A outer s H E hr => ⟨_, (LA.ass_cons (LA.as_if (LA.at_cmp (LA.oa_ne hr.units) (LA.ae_callB LA.ca_len rfl T.n_len (by decide +kernel) (LA.aa_cons (LA.ae_var (pv 2)) LA.aa_nil)) (LA.ae_callB LA.ca_len rfl T.n_len (by decide +kernel) (LA.aa_cons (LA.ae_fld (cs := ["Program"]) (LA.fc_cons ⟨T.c_Program, T.a_Program_times⟩ LA.fc_nil) (LA.ae_var (pv 0)) rfl) LA.aa_nil)) (nomark _)) (LA.ass_one (LA.as_raise0 rfl HX.takesO T.x_InvalidTimes rfl)) LA.ass_nil)
  (LA.ass_one (LA.as_for (passes_of rfl) rfl (LA.ai_items (LA.ae_fld (cs := ["Program"]) (LA.fc_cons ⟨T.c_Program, T.a_Program_times⟩ LA.fc_nil) (LA.ae_var (pv 0)) rfl)) (LA.ag_name (pg_name (i := 3) sc_check_given.nd rfl (Or.inl rfl))) (LA.ass_one (LA.as_if (LA.at_bool (LA.aw_or (LA.at_dnotin (hu_of hr) (LA.ae_var (pv 3)) (LA.ae_var (pv 2)) rfl) (LA.aw_or (LA.at_not (LA.at_val (LA.ae_call HX.takesO g_is_integer (hr.mono (by first | decide | omega)) rfl (LA.aa_cons (LA.ae_dget (hu_of hr) (LA.ae_var (pv 2)) (LA.ae_var (pv 3)) (fun _ _ => rfl)) LA.aa_nil)))) (LA.aw_or1 (LA.at_not (LA.at_chain LA.oa_le LA.oa_lt LA.ae_int (LA.ae_dget (hu_of hr) (LA.ae_var (pv 2)) (LA.ae_var (pv 3)) (fun _ _ => rfl)) (LA.ae_var (pv 1)))))))) (LA.ass_one (LA.as_raise0 rfl HX.takesO T.x_InvalidTimes rfl)) LA.ass_nil))))), fun ds ms Q E h => ?_⟩
  obtain ⟨ns, rs, o, L, kvs, rfl, hl, hv, q, e⟩ := h
  simp only [prO, prD, nsD_list] at *
  walk_at "b"
  by_cases h1 : kvs.length = ns.length
  · rw [decide_eq_true (show (kvs.length : Int) = (ns.length : Int) by omega)]
    walk_at "b"
    refine forL_at (fun i s ms' => ms' = ms ∧ (∀ n ∈ ns.take i, ∃ v : Int, valD kvs (.inr n) = some (.int v) ∧ 0 ≤ v ∧ v < L) ∧ ∃ v, s = [some (.fr (.ins "Program" [("times", .tup (ns.map D.str)), ("rules", .tup (rs.map Ru.d)), ("last", o.d)])), some (.fr (.int L)), some (.fr (.dk kvs)), v]) ⟨rfl, fun _ h => by simp at h, none, rfl⟩ ?_ ?_
    · rintro i d s _ hx ⟨rfl, hi, v, rfl⟩ N hN
      rw [List.getElem?_map] at hx
      cases en : ns[i]? with
      | none => rw [en] at hx; cases hx
      | some n =>
        rw [en] at hx; cases hx
        have hm := List.mem_of_getElem? en
        have hno : (∀ v : Int, valD kvs (.inr n) = some (.int v) → ¬ (0 ≤ v ∧ v < L)) → ¬ okT kvs ns L := fun h k => by
          obtain ⟨v, h1, h2⟩ := k.2 n hm
          exact h v h1 h2
        walk_at "b"
        cases ev : valD kvs (.inr n) with
        | none =>
          walk_at "b"
          exact e (hno fun v hv => by rw [ev] at hv; cases hv)
        | some v =>
          walk_at "b"
          rw [ev]
          walk_at "b"
          have hb := hv n hm v ev
          cases eb : intD v with
          | none => rw [eb] at hb; cases hb
          | some b =>
            refine ⟨v, b, rfl, eb, ?_⟩
            walk_at "b"
            cases b with
            | false =>
              walk_at "b"
              exact e (hno fun z hz => by rw [ev] at hz; cases hz; cases eb)
            | true =>
              have hz : ∃ z, v = .int z := by cases v <;> simp [intD] at eb; exact ⟨_, rfl⟩
              obtain ⟨z, rfl⟩ := hz
              walk_at "b"
              rw [ev]
              walk_at "b"
              refine br_d (fun h2 => ?_) (fun h2 => ?_)
              · walk_at "b"
                refine br_n (fun h3 => ?_) (fun h3 => ?_)
                · walk_at "b"
                  exact e (hno fun y hy => by rw [ev] at hy; cases hy; omega)
                · walk_at "b"
                  refine hN _ _ ⟨rfl, fun x hx => ?_, _, rfl⟩
                  rw [← take_snoc en] at hx
                  rcases List.mem_append.mp hx with hx | hx
                  · exact hi x hx
                  · rw [List.mem_singleton.mp hx]; exact ⟨z, ev, h2, h3⟩
              · walk_at "b"
                exact e (hno fun y hy => by rw [ev] at hy; cases hy; omega)
    · rintro s _ ⟨rfl, hi, v, rfl⟩
      walk_at "b"
      refine q ⟨h1, fun n hn => hi n ?_⟩
      rw [List.take_of_length_le (by simp)]; exact hn
  · rw [decide_eq_false (show ¬ (kvs.length : Int) = (ns.length : Int) by omega)]
    walk_at "b"
    exact e fun h => h1 h.1
def S_run : ASp := fun ds ms Q E => ∃ (ns : List Str) (rs : List Ru) (o : Oc) (L : Int) (t : Tm) (kvs : List (Key × D)), ds = [prO ns rs o, dayO L, .dk kvs] ∧ ns.length ≤ 1000 ∧ rs.length ≤ 1000 ∧ 0 < L ∧ (∀ r ∈ rs, r.wf ns) ∧ o.wf ns ∧ o.dep ≤ 7 ∧ (∀ n ∈ ns, ∀ v, valD kvs (.inr n) = some v → (intD v).isSome = true) ∧
  (okT kvs ns L → Agr kvs ns t ∧ Q (runD L t o rs) ms) ∧ (¬ okT kvs ns L → E ("InvalidTimes", []) ms)
theorem okT.agr {kvs : List (Key × D)} {ns : List Str} {L : Int} (h : okT kvs ns L) : ∃ t, Agr kvs ns t := by
  refine ⟨fun n => match valD kvs (.inr n) with | some (.int v) => v | _ => 0, fun n hn => ?_⟩
  obtain ⟨v, e, _⟩ := h.2 n hn
  simp only [e]
theorem runK_drop {L : Int} {t : Tm} {o : Oc} : ∀ (rs : List Ru) (i k : Nat), (∀ r ∈ rs.take i, r.1.tru L t = false) → runK L t o rs k = runK L t o (rs.drop i) (k + min i rs.length)
  | rs, 0, k, _ => by simp
  | [], i + 1, k, _ => by simp
  | r :: rs, i + 1, k, h => by
    have h1 := h r (by simp)
    rw [runK, h1, if_neg Bool.false_ne_true, List.drop_succ_cons, runK_drop rs i (k + 1) fun r hr => h r (by rw [List.take_succ_cons]; exact List.mem_cons_of_mem _ hr)]
    congr 1
    simp only [List.length_cons]; omega
theorem ga_run (T : Txt K mg) : HX.GFn P w K mg base "run" 20 ["program", "day", "times"] (spA K S_run) := by
  have g_check_given := ga_check_given (P := P) (w := w) (base := base) T
  have g_holds_for := ga_holds_for (P := P) (w := w) (base := base) T 9
  have g_reckoned := ga_reckoned (P := P) (w := w) (base := base) T
  have p_Day_length := gp_Day_length (P := P) (w := w) (base := base) T
  refine LA.gfn_of T.d_run T.g_run sc_run (by intro ds ms Q E h; unfold S_run at h; repeat (first | (obtain ⟨rfl, _⟩ := h; rfl) | obtain ⟨_, h⟩ := h)) (fun _ _ _ _ _ _ us hl => match us, hl with | [_, _, _], _ => rfl) fun cdv A outer s H E hr => ⟨_, (LA.ass_cons (LA.as_expr (LA.ae_call HX.takesO g_check_given (hr.mono (by first | decide | omega)) rfl (LA.aa_cons (LA.ae_var (pv 0)) (LA.aa_cons (LA.ae_prop p_Day_length (LA.ae_var (pv 1)) (hr.mono (by first | decide | omega)) rfl) (LA.aa_cons (LA.ae_var (pv 2)) LA.aa_nil)))))
  (LA.ass_cons (LA.as_for (passes_of rfl) rfl (LA.ai_enum rfl T.n_enumerate (LA.ae_fld (cs := ["Program"]) (LA.fc_cons ⟨T.c_Program, T.a_Program_rules⟩ LA.fc_nil) (LA.ae_var (pv 0)) rfl)) (LA.ag_tup (n := 2) rfl (LA.ags_cons (LA.ag_name (pg_name (i := 3) sc_run.nd rfl (Or.inl rfl))) (LA.ags_cons (LA.ag_name (pg_name (i := 4) sc_run.nd rfl (Or.inl rfl))) LA.ags_nil))) (LA.ass_one (LA.as_if (LA.at_val (LA.ae_call HX.takesO g_holds_for (hr.mono (by first | decide | omega)) rfl (LA.aa_cons (LA.ae_ix LA.ia_any (LA.ae_var (pv 4)) LA.ae_int (fun _ _ => rfl)) (LA.aa_cons (LA.ae_prop p_Day_length (LA.ae_var (pv 1)) (hr.mono (by first | decide | omega)) rfl) (LA.aa_cons (LA.ae_var (pv 2)) LA.aa_nil))))) (LA.ass_one (LA.as_ret (LA.ae_bin LA.oa_add (LA.ae_call HX.takesO g_reckoned (hr.mono (by first | decide | omega)) rfl (LA.aa_cons (LA.ae_ix LA.ia_any (LA.ae_var (pv 4)) LA.ae_int (fun _ _ => rfl)) (LA.aa_cons (LA.ae_prop p_Day_length (LA.ae_var (pv 1)) (hr.mono (by first | decide | omega)) rfl) (LA.aa_cons (LA.ae_var (pv 2)) LA.aa_nil)))) (LA.ae_tup (LA.aa_cons (LA.ae_var (pv 3)) LA.aa_nil))))) LA.ass_nil)))
  (LA.ass_one (LA.as_ret (LA.ae_bin LA.oa_add (LA.ae_call HX.takesO g_reckoned (hr.mono (by first | decide | omega)) rfl (LA.aa_cons (LA.ae_fld (cs := ["Program"]) (LA.fc_cons ⟨T.c_Program, T.a_Program_last⟩ LA.fc_nil) (LA.ae_var (pv 0)) rfl) (LA.aa_cons (LA.ae_prop p_Day_length (LA.ae_var (pv 1)) (hr.mono (by first | decide | omega)) rfl) (LA.aa_cons (LA.ae_var (pv 2)) LA.aa_nil)))) (LA.ae_tup (LA.aa_cons (LA.ae_callB LA.ca_len rfl T.n_len (by decide +kernel) (LA.aa_cons (LA.ae_fld (cs := ["Program"]) (LA.fc_cons ⟨T.c_Program, T.a_Program_rules⟩ LA.fc_nil) (LA.ae_var (pv 0)) rfl) LA.aa_nil)) LA.aa_nil))))))), fun ds ms Q E h => ?_⟩
  obtain ⟨ns, rs, o, L, t, kvs, rfl, hl, hl2, hL, hr', ho, hd, hv, q, e⟩ := h
  by_cases hk : okT kvs ns L
  · obtain ⟨ht, q⟩ := q hk
    simp only [prO, prD, dayO, nsD_list] at *
    walk_at "b"
    refine ⟨L, rfl, ?_⟩
    walk_at "b"
    refine ⟨ns, rs, o, L, kvs, rfl, hl, hv, fun _ => ?_, fun h => (h hk).elim⟩
    walk_at "b"
    refine forL_at (fun i s ms' => ms' = ms ∧ (∀ r ∈ rs.take i, r.1.tru L t = false) ∧ ∃ u v, s = [some (.fr (.ins "Program" [("times", .tup (ns.map D.str)), ("rules", .tup (rs.map Ru.d)), ("last", o.d)])), some (.fr (.ins "Day" [("ticks_of_day", .int L)])), some (.fr (.dk kvs)), u, v]) ⟨rfl, fun _ h => by simp at h, none, none, rfl⟩ ?_ ?_
    · rintro i d s _ hx ⟨rfl, hi, u, v, rfl⟩ N hN
      rw [LA.enumD_at, List.getElem?_map] at hx
      cases er : rs[i]? with
      | none => rw [er] at hx; cases hx
      | some r =>
        rw [er] at hx; cases hx
        have hm := hr' r (List.mem_of_getElem? er)
        have hlt := (List.getElem?_eq_some_iff.mp er).1
        simp only [Ru.d]
        walk_at "b"
        refine ⟨L, rfl, ?_⟩
        walk_at "b"
        refine ⟨by decide, r.1, L, ns, t, kvs, rfl, ht, hm.1, hL, by have := hm.2.2.2.1; omega, hm.2.2.2.1, ?_⟩
        walk_at "b"
        refine br_b (fun h => ?_) (fun h => ?_)
        · walk_at "b"
          refine ⟨L, rfl, ?_⟩
          walk_at "b"
          refine ⟨r.2, L, ns, t, kvs, rfl, ht, hm.2.1, hL, hm.2.2.2.2, ?_⟩
          have hq : runK L t o rs 0 = (r.2.wh L t, i) := by
            rw [runK_drop rs i 0 hi, List.drop_eq_getElem_cons hlt]
            have : rs[i] = r := by rw [List.getElem?_eq_getElem hlt] at er; exact Option.some.inj er
            rw [this, runK, h, if_pos rfl]
            congr 1; omega
          walk_at "b"
          unfold runD at q
          rw [hq] at q
          cases hw : r.2.wh L t <;> rw [hw] at q <;> simp only [Wh.ds] at q ⊢ <;> walk_at "b" <;> simpa using q
        · walk_at "b"
          refine hN _ _ ⟨rfl, fun x hx => ?_, _, _, rfl⟩
          rw [← take_snoc er] at hx
          rcases List.mem_append.mp hx with hx | hx
          · exact hi x hx
          · rw [List.mem_singleton.mp hx]; exact h
    · rintro s _ ⟨rfl, hi, u, v, rfl⟩
      walk_at "b"
      refine ⟨L, rfl, ?_⟩
      walk_at "b"
      refine ⟨o, L, ns, t, kvs, rfl, ht, ho, hL, hd, ?_⟩
      have hq : runK L t o rs 0 = (o.wh L t, rs.length) := by
        have hi' : ∀ r ∈ rs.take rs.length, r.1.tru L t = false := fun r hr => hi r (by rw [List.take_of_length_le (Nat.le_refl _)] at hr; rw [List.take_of_length_le (by simp [LA.enumD_length])]; exact hr)
        rw [runK_drop rs rs.length 0 hi', List.drop_length, runK]
        congr 1; omega
      walk_at "b"
      unfold runD at q
      rw [hq] at q
      cases hw : o.wh L t <;> rw [hw] at q <;> simp only [Wh.ds] at q ⊢ <;> walk_at "b" <;> simpa using q
  · have e := e hk
    simp only [prO, prD, dayO, nsD_list] at *
    walk_at "b"
    refine ⟨L, rfl, ?_⟩
    walk_at "b"
    refine ⟨ns, rs, o, L, kvs, rfl, hl, hv, fun h => (hk h).elim, fun _ => ?_⟩
    walk_at "b"
    exact e
end

end LW
namespace LW
open PySem PySem.Spec PyProof.Rows L2
open LA
/-! the law's own reckoning -/
structure Bd (L : Int) (ns : List Str) (t : Tm) : Prop where
  p : 0 < L
  m : L ≤ 10 ^ 41
  t : ∀ n ∈ ns, 0 ≤ t n ∧ t n < L
theorem num_bd {L : Int} {ns : List Str} {t : Tm} (b : Bd L ns t) : ∀ p : Pa, p.wf ns → (p.num L t).natAbs ≤ p.cnt * 2 ^ 161
  | .time n, h => by have := b.t n h; have := b.m; simp only [Pa.num, Pa.cnt]; omega
  | .mid, _ => by have := b.p; have := b.m; simp only [Pa.num, Pa.cnt]; omega
  | .at z, h => by have h : z.natAbs < big := h; unfold big at h; simp only [Pa.num, Pa.cnt]; omega
  | .spn z, h => by have h : z.natAbs < big := h; unfold big at h; simp only [Pa.num, Pa.cnt]; omega
  | .plus p z, h => by
    have h1 := num_bd b p h.1
    have h2 := h.2
    unfold big at h2
    simp only [Pa.num, Pa.cnt]; omega
  | .wrap p, h => by
    have := b.p
    have := b.m
    have h1 := Int.emod_nonneg (p.num L t) (show L ≠ 0 by omega)
    have h2 := Int.emod_lt_of_pos (p.num L t) b.p
    simp only [Pa.num, Pa.cnt]; omega
  | .minus p q, h => by
    have h1 := num_bd b p h.2.2.1
    have h2 := num_bd b q h.2.2.2
    simp only [Pa.num, Pa.cnt]; omega
theorem log_lt {n k : Nat} (h : n < 2 ^ k) (k0 : 0 < k) : n.log2 < k := by
  by_cases e : n = 0
  · subst e; simpa using k0
  · exact (Nat.log2_lt e).mpr h
theorem divL {n L : Int} (h : 0 < L) (m : L ≤ 10 ^ 41) : DivOk n L := ⟨h, Nat.lt_of_lt_of_le (log_lt (k := 200) (by omega) (by decide)) (by decide)⟩
theorem mulL {n L : Int} (h : 0 < L) (m : L ≤ 10 ^ 41) (hn : n.natAbs < 2 ^ 300) : MulOk (n / L) L := by
  refine .inr ?_
  show (n / L).natAbs.log2 + L.natAbs.log2 < 1000000
  have h1 := log_lt (n := L.natAbs) (k := 200) (by omega) (by decide)
  have h2 : (n / L).natAbs ≤ n.natAbs + L.natAbs := by
    have e := Int.mul_ediv_add_emod n L
    have e1 := Int.emod_nonneg n (show L ≠ 0 by omega)
    have e2 := Int.emod_lt_of_pos n h
    rcases Int.lt_or_le (n / L) 0 with hq | hq
    · have : L * (n / L) ≤ 1 * (n / L) := Int.mul_le_mul_of_nonpos_right (by omega) (by omega)
      omega
    · have : 1 * (n / L) ≤ L * (n / L) := Int.mul_le_mul_of_nonneg_right (by omega) hq
      omega
  have h3 := log_lt (n := (n / L).natAbs) (k := 301) (by omega) (by decide)
  omega
theorem own_mod (n L : Int) : n - n / L * L = n % L := by
  have := Int.emod_def n L
  rw [Int.mul_comm] at this; omega
theorem atI_ints {ws : List Int} {b : Nat} (h : b < ws.length) : atI (ws.map D.int) (b : Int) = some (.int ws[b]) := by
  rw [LA.atI_nat, List.getElem?_map, List.getElem?_eq_getElem h]; rfl
section
variable {P : Program} {w : World} {K : PySem.W.Frag} {mg : Str → Option Value} {base : Heap}
def S_lnum (n : Nat) : ASp := fun ds ms Q _ => 0 < n ∧ ∃ (p : Pa) (L : Int) (ns : List Str) (t : Tm) (kvs : List (Key × D)), ds = [p.d, .int L, .dk kvs] ∧ Agr kvs ns t ∧ p.wf ns ∧ Bd L ns t ∧ p.dep < n ∧ p.cnt ≤ 1000 ∧ Q (.int (p.num L t)) ms
theorem ga__law_number (T : Txt K mg) : ∀ n : Nat, HX.GFn P w K mg base "_law_number" (n + 1) ["_law_part", "_law_size", "_law_times"] (spA K (S_lnum n))
  | 0 => LA.gfn_none T.d__law_number T.g__law_number sc__law_number (fun _ _ _ _ _ _ us hl => match us, hl with | [_, _, _], _ => rfl) (fun ds ms Q E h => Nat.lt_irrefl 0 h.1)
  | n + 1 => by
    have g__law_number := ga__law_number T n
    refine LA.gfn_of T.d__law_number T.g__law_number sc__law_number (by intro ds ms Q E h; unfold S_lnum at h; repeat (first | (obtain ⟨rfl, _⟩ := h; rfl) | obtain ⟨_, h⟩ := h)) (fun _ _ _ _ _ _ us hl => match us, hl with | [_, _, _], _ => rfl) fun cdv A outer s H E hr => ⟨_, (LA.ass_cons (LA.as_set (i := 3) sc__law_number.nd rfl (Or.inl rfl) (LA.ae_ix LA.ia_any (LA.ae_var (pv 0)) LA.ae_int (fun _ _ => rfl)))
  (LA.ass_cons (LA.as_if (LA.at_cmp (LA.oa_eq hr.units) (LA.ae_var (pv 3)) LA.ae_str (nomark _)) (LA.ass_one (LA.as_ret (LA.ae_dget (hu_of hr) (LA.ae_var (pv 2)) (LA.ae_ix LA.ia_any (LA.ae_var (pv 0)) LA.ae_int (fun _ _ => rfl)) (fun _ _ => rfl)))) LA.ass_nil)
  (LA.ass_cons (LA.as_if (LA.at_cmp (LA.oa_eq hr.units) (LA.ae_var (pv 3)) LA.ae_str (nomark _)) (LA.ass_one (LA.as_ret (LA.ae_var (pv 1)))) LA.ass_nil)
  (LA.ass_cons (LA.as_if (LA.at_cmp (LA.oa_eq hr.units) (LA.ae_var (pv 3)) LA.ae_str (nomark _)) (LA.ass_one (LA.as_ret (LA.ae_bin LA.oa_add (LA.ae_call HX.takesO g__law_number (hr.mono (by first | decide | omega)) rfl (LA.aa_cons (LA.ae_ix LA.ia_any (LA.ae_var (pv 0)) LA.ae_int (fun _ _ => rfl)) (LA.aa_cons (LA.ae_var (pv 1)) (LA.aa_cons (LA.ae_var (pv 2)) LA.aa_nil)))) (LA.ae_ix LA.ia_any (LA.ae_var (pv 0)) LA.ae_int (fun _ _ => rfl))))) LA.ass_nil)
  (LA.ass_cons (LA.as_if (LA.at_cmp (LA.oa_eq hr.units) (LA.ae_var (pv 3)) LA.ae_str (nomark _)) (LA.ass_cons (LA.as_set (i := 4) sc__law_number.nd rfl (Or.inl rfl) (LA.ae_call HX.takesO g__law_number (hr.mono (by first | decide | omega)) rfl (LA.aa_cons (LA.ae_ix LA.ia_any (LA.ae_var (pv 0)) LA.ae_int (fun _ _ => rfl)) (LA.aa_cons (LA.ae_var (pv 1)) (LA.aa_cons (LA.ae_var (pv 2)) LA.aa_nil)))))
  (LA.ass_one (LA.as_ret (LA.ae_bin LA.oa_sub (LA.ae_var (pv 4)) (LA.ae_bin LA.oa_mul (LA.ae_bin LA.oa_div (LA.ae_var (pv 4)) (LA.ae_var (pv 1))) (LA.ae_var (pv 1))))))) LA.ass_nil)
  (LA.ass_cons (LA.as_if (LA.at_cmp (LA.oa_eq hr.units) (LA.ae_var (pv 3)) LA.ae_str (nomark _)) (LA.ass_one (LA.as_ret (LA.ae_bin LA.oa_sub (LA.ae_call HX.takesO g__law_number (hr.mono (by first | decide | omega)) rfl (LA.aa_cons (LA.ae_ix LA.ia_any (LA.ae_var (pv 0)) LA.ae_int (fun _ _ => rfl)) (LA.aa_cons (LA.ae_var (pv 1)) (LA.aa_cons (LA.ae_var (pv 2)) LA.aa_nil)))) (LA.ae_call HX.takesO g__law_number (hr.mono (by first | decide | omega)) rfl (LA.aa_cons (LA.ae_ix LA.ia_any (LA.ae_var (pv 0)) LA.ae_int (fun _ _ => rfl)) (LA.aa_cons (LA.ae_var (pv 1)) (LA.aa_cons (LA.ae_var (pv 2)) LA.aa_nil))))))) LA.ass_nil)
  (LA.ass_one (LA.as_ret (LA.ae_ix LA.ia_any (LA.ae_var (pv 0)) LA.ae_int (fun _ _ => rfl)))))))))), fun ds ms Q E h => ?_⟩
    obtain ⟨_, p, L, ns, t, kvs, rfl, hk, hw, hb, hd, hc, q⟩ := h
    cases p with
    | time x => simp only [Pa.d]; walk_at "b"; rw [hk _ hw]; walk_at "b"; exact q
    | mid => simp only [Pa.d]; walk_at "b"; exact q
    | «at» z => simp only [Pa.d]; walk_at "b"; exact q
    | spn z => simp only [Pa.d]; walk_at "b"; exact q
    | plus p z =>
      simp only [Pa.dep, Pa.cnt] at hd hc
      simp only [Pa.d]; walk_at "b"
      refine ⟨by omega, p, L, ns, t, kvs, rfl, hk, hw.1, hb, by omega, by omega, ?_⟩
      walk_at "b"; exact q
    | wrap p =>
      simp only [Pa.dep, Pa.cnt] at hd hc
      simp only [Pa.d]; walk_at "b"
      refine ⟨by omega, p, L, ns, t, kvs, rfl, hk, hw, hb, by omega, by omega, ?_⟩
      walk_at "b"
      have h1 := num_bd hb p hw
      refine ⟨divL hb.p hb.m, mulL hb.p hb.m ?_, ?_⟩
      · have : p.cnt * 2 ^ 161 ≤ 1000 * 2 ^ 161 := Nat.mul_le_mul_right _ (by omega)
        omega
      · rw [own_mod]; exact q
    | minus a b =>
      simp only [Pa.dep, Pa.cnt] at hd hc
      simp only [Pa.d]; walk_at "b"
      refine ⟨by omega, a, L, ns, t, kvs, rfl, hk, hw.2.2.1, hb, by omega, by omega, ?_⟩
      walk_at "b"
      refine ⟨by omega, b, L, ns, t, kvs, rfl, hk, hw.2.2.2, hb, by omega, by omega, ?_⟩
      walk_at "b"; exact q
def S_later : ASp := fun ds ms Q _ => ∃ (a b L : Int), ds = [.int a, .int b, .int L] ∧ 0 < L ∧ L ≤ 10 ^ 41 ∧ (b - a).natAbs < 2 ^ 300 ∧ Q (.int ((b - a) % L)) ms
theorem ga__law_later (T : Txt K mg) : HX.GFn P w K mg base "_law_later" 1 ["_law_start", "_law_end", "_law_size"] (spA K S_later) := by
  refine LA.gfn_of T.d__law_later T.g__law_later sc__law_later (by intro ds ms Q E h; unfold S_later at h; repeat (first | (obtain ⟨rfl, _⟩ := h; rfl) | obtain ⟨_, h⟩ := h)) (fun _ _ _ _ _ _ us hl => match us, hl with | [_, _, _], _ => rfl) fun cdv A outer s H E hr => ⟨_, (LA.ass_cons (LA.as_set (i := 3) sc__law_later.nd rfl (Or.inl rfl) (LA.ae_bin LA.oa_sub (LA.ae_var (pv 1)) (LA.ae_var (pv 0))))
  (LA.ass_one (LA.as_ret (LA.ae_bin LA.oa_sub (LA.ae_var (pv 3)) (LA.ae_bin LA.oa_mul (LA.ae_bin LA.oa_div (LA.ae_var (pv 3)) (LA.ae_var (pv 2))) (LA.ae_var (pv 2))))))), fun ds ms Q E h => ?_⟩
  obtain ⟨a, b, L, rfl, h0, h1, h2, q⟩ := h
  walk_at "b"
  refine ⟨divL h0 h1, mulL h0 h1 h2, ?_⟩
  rw [own_mod]; exact q
theorem num_300 {L : Int} {ns : List Str} {t : Tm} (b : Bd L ns t) {p : Pa} (h : p.wf ns) (hc : p.cnt ≤ 1000) : (p.num L t).natAbs < 2 ^ 200 := by
  have h1 := num_bd b p h
  have : p.cnt * 2 ^ 161 ≤ 1000 * 2 ^ 161 := Nat.mul_le_mul_right _ hc
  omega
def S_true (n : Nat) : ASp := fun ds ms Q _ => 0 < n ∧ ∃ (c : Co) (L : Int) (ns : List Str) (t : Tm) (kvs : List (Key × D)), ds = [c.d, .int L, .dk kvs] ∧ Agr kvs ns t ∧ c.wf ns ∧ Bd L ns t ∧ c.dep < n ∧ c.dep ≤ 7 ∧ c.cnt ≤ 1000 ∧ Q (.bl (c.tru L t)) ms
theorem ga__law_true (T : Txt K mg) : ∀ n : Nat, HX.GFn P w K mg base "_law_true" (n + 12) ["_law_condition_here", "_law_size", "_law_times"] (spA K (S_true n))
  | 0 => LA.gfn_none T.d__law_true T.g__law_true sc__law_true (fun _ _ _ _ _ _ us hl => match us, hl with | [_, _, _], _ => rfl) (fun ds ms Q E h => Nat.lt_irrefl 0 h.1)
  | n + 1 => by
    have g__law_true := ga__law_true T n
    have g__law_number := ga__law_number (P := P) (w := w) (base := base) T 9
    have g__law_later := ga__law_later (P := P) (w := w) (base := base) T
    refine LA.gfn_of T.d__law_true T.g__law_true sc__law_true (by intro ds ms Q E h; unfold S_true at h; repeat (first | (obtain ⟨rfl, _⟩ := h; rfl) | obtain ⟨_, h⟩ := h)) (fun _ _ _ _ _ _ us hl => match us, hl with | [_, _, _], _ => rfl) fun cdv A outer s H E hr => ⟨_, (LA.ass_cons (LA.as_set (i := 3) sc__law_true.nd rfl (Or.inl rfl) (LA.ae_ix LA.ia_any (LA.ae_var (pv 0)) LA.ae_int (fun _ _ => rfl)))
  (LA.ass_cons (LA.as_if (LA.at_cmp (LA.oa_eq hr.units) (LA.ae_var (pv 3)) LA.ae_str (nomark _)) (LA.ass_one (LA.as_ret (LA.ae_not (LA.ae_call HX.takesO g__law_true (hr.mono (by first | decide | omega)) rfl (LA.aa_cons (LA.ae_ix LA.ia_any (LA.ae_var (pv 0)) LA.ae_int (fun _ _ => rfl)) (LA.aa_cons (LA.ae_var (pv 1)) (LA.aa_cons (LA.ae_var (pv 2)) LA.aa_nil))))))) LA.ass_nil)
  (LA.ass_cons (LA.as_if (LA.at_cmp (LA.oa_eq hr.units) (LA.ae_var (pv 3)) LA.ae_str (nomark _)) (LA.ass_one (LA.as_ret (LA.ae_callB (LA.ca_all rfl) rfl T.n_all (by decide +kernel) (LA.aa_cons (LA.ae_new (LA.fe_lc (own := [("_law_one", 5)]) rfl sc__law_true.nd (LA.ai_items (LA.ae_slice (LA.ae_var (pv 0)) (LA.ao_some LA.ae_int) LA.ao_none)) (blkOk_by (own := [("_law_one", 5)]) (N := ["_law_condition_here", "_law_size", "_law_times", "_law_word", "_law_numbers", "_law_one", "_law_part"]) (sc := defScope s__law_true) (by decide +kernel)) (by decide) (fun _ _ _ _ _ => (LA.ag_name (pg_name (i := 5) sc__law_true.nd rfl (Or.inl rfl)))) (fun _ _ _ _ _ => LA.ats_nil) (fun _ _ _ _ _ => (LA.ae_call HX.takes0N g__law_true (hr.mono (by first | decide | omega)) rfl (LA.aa_cons (LA.ae_var (pv 5)) (LA.aa_cons (LA.ae_var (pv 1)) (LA.aa_cons (LA.ae_var (pv 2)) LA.aa_nil))))))) LA.aa_nil)))) LA.ass_nil)
  (LA.ass_cons (LA.as_if (LA.at_cmp (LA.oa_eq hr.units) (LA.ae_var (pv 3)) LA.ae_str (nomark _)) (LA.ass_one (LA.as_ret (LA.ae_callB (LA.ca_any rfl) rfl T.n_any (by decide +kernel) (LA.aa_cons (LA.ae_new (LA.fe_lc (own := [("_law_one", 5)]) rfl sc__law_true.nd (LA.ai_items (LA.ae_slice (LA.ae_var (pv 0)) (LA.ao_some LA.ae_int) LA.ao_none)) (blkOk_by (own := [("_law_one", 5)]) (N := ["_law_condition_here", "_law_size", "_law_times", "_law_word", "_law_numbers", "_law_one", "_law_part"]) (sc := defScope s__law_true) (by decide +kernel)) (by decide) (fun _ _ _ _ _ => (LA.ag_name (pg_name (i := 5) sc__law_true.nd rfl (Or.inl rfl)))) (fun _ _ _ _ _ => LA.ats_nil) (fun _ _ _ _ _ => (LA.ae_call HX.takes0N g__law_true (hr.mono (by first | decide | omega)) rfl (LA.aa_cons (LA.ae_var (pv 5)) (LA.aa_cons (LA.ae_var (pv 1)) (LA.aa_cons (LA.ae_var (pv 2)) LA.aa_nil))))))) LA.aa_nil)))) LA.ass_nil)
  (LA.ass_cons (LA.as_setLc (i := 4) (own := [("_law_part", 6)]) rfl sc__law_true.nd rfl rfl (sw_true rfl rfl rfl (by decide +kernel)) (LA.ai_items (LA.ae_slice (LA.ae_var (pv 0)) (LA.ao_some LA.ae_int) LA.ao_none)) (blkOk_by (own := [("_law_part", 6)]) (N := ["_law_condition_here", "_law_size", "_law_times", "_law_word", "_law_numbers", "_law_one", "_law_part"]) (sc := defScope s__law_true) (by decide +kernel)) (by decide) (fun _ _ _ _ _ => (LA.ag_name (pg_name (i := 6) sc__law_true.nd rfl (Or.inl rfl)))) (fun _ _ _ _ _ => LA.ats_nil) (fun _ _ _ _ _ => (LA.ae_call HX.takes0N g__law_number (hr.mono (by first | decide | omega)) rfl (LA.aa_cons (LA.ae_var (pv 6)) (LA.aa_cons (LA.ae_var (pv 1)) (LA.aa_cons (LA.ae_var (pv 2)) LA.aa_nil))))))
  (LA.ass_cons (LA.as_if (LA.at_cmp (LA.oa_eq hr.units) (LA.ae_var (pv 3)) LA.ae_str (nomark _)) (LA.ass_one (LA.as_ret (LA.ae_cmp (LA.oa_eq hr.units) (LA.ae_ix LA.ia_any (LA.ae_var (pv 4)) LA.ae_int (fun _ _ => rfl)) (LA.ae_ix LA.ia_any (LA.ae_var (pv 4)) LA.ae_int (fun _ _ => rfl)) (nomark _)))) LA.ass_nil)
  (LA.ass_cons (LA.as_if (LA.at_cmp (LA.oa_eq hr.units) (LA.ae_var (pv 3)) LA.ae_str (nomark _)) (LA.ass_one (LA.as_ret (LA.ae_and (LA.ae_cmp LA.oa_ge (LA.ae_ix LA.ia_any (LA.ae_var (pv 4)) LA.ae_int (fun _ _ => rfl)) (LA.ae_ix LA.ia_any (LA.ae_var (pv 4)) LA.ae_int (fun _ _ => rfl)) (nomark _)) (LA.ae_one (LA.ae_cmp LA.oa_lt (LA.ae_ix LA.ia_any (LA.ae_var (pv 4)) LA.ae_int (fun _ _ => rfl)) (LA.ae_ix LA.ia_any (LA.ae_var (pv 4)) LA.ae_int (fun _ _ => rfl)) (nomark _)))))) LA.ass_nil)
  (LA.ass_cons (LA.as_if (LA.at_cmp (LA.oa_eq hr.units) (LA.ae_var (pv 3)) LA.ae_str (nomark _)) (LA.ass_one (LA.as_ret (LA.ae_cmp LA.oa_lt (LA.ae_call HX.takesO g__law_later (hr.mono (by first | decide | omega)) rfl (LA.aa_cons (LA.ae_ix LA.ia_any (LA.ae_var (pv 4)) LA.ae_int (fun _ _ => rfl)) (LA.aa_cons (LA.ae_ix LA.ia_any (LA.ae_var (pv 4)) LA.ae_int (fun _ _ => rfl)) (LA.aa_cons (LA.ae_var (pv 1)) LA.aa_nil)))) (LA.ae_call HX.takesO g__law_later (hr.mono (by first | decide | omega)) rfl (LA.aa_cons (LA.ae_ix LA.ia_any (LA.ae_var (pv 4)) LA.ae_int (fun _ _ => rfl)) (LA.aa_cons (LA.ae_ix LA.ia_any (LA.ae_var (pv 4)) LA.ae_int (fun _ _ => rfl)) (LA.aa_cons (LA.ae_var (pv 1)) LA.aa_nil)))) (nomark _)))) LA.ass_nil)
  (LA.ass_one (LA.as_ret (LA.ae_cmp LA.oa_lt (LA.ae_ix LA.ia_any (LA.ae_var (pv 4)) LA.ae_int (fun _ _ => rfl)) (LA.ae_ix LA.ia_any (LA.ae_var (pv 4)) LA.ae_int (fun _ _ => rfl)) (nomark _)))))))))))), fun ds ms Q E h => ?_⟩
    obtain ⟨_, c, L, ns, t, kvs, rfl, hk, hw, hb, hd, h7, hc, q⟩ := h
    cases c with
    | not c =>
      simp only [Co.dep, Co.cnt] at hd h7 hc
      simp only [Co.d]; walk_at "b"
      refine ⟨by omega, c, L, ns, t, kvs, rfl, hk, hw, hb, by omega, by omega, by omega, ?_⟩
      walk_at "b"; exact q
    | and c e =>
      simp only [Co.dep, Co.cnt] at hd h7 hc
      simp only [Co.d]; walk_at "b"
      refine lcL_list Co.d (fun c => .bl (c.tru L t)) [c, e] [] (by simp [PySem.sizeLine]) (fun x hx acc N ha hN => ?_) ?_
      · have hp' : x.wf ns ∧ x.dep < n ∧ x.dep ≤ 7 ∧ x.cnt ≤ 1000 := by
          simp only [List.mem_cons, List.not_mem_nil, or_false] at hx
          rcases hx with rfl | rfl
          · exact ⟨hw.1, by omega, by omega, by omega⟩
          · exact ⟨hw.2, by omega, by omega, by omega⟩
        walk_at "b"
        refine ⟨by omega, x, L, ns, t, kvs, rfl, hk, hp'.1, hb, hp'.2.1, hp'.2.2.1, hp'.2.2.2, ?_⟩
        walk_at "b"
        exact ⟨ha, hN⟩
      · simp only [Co.tru] at q
        walk_at "b"
        exact q
    | or c e =>
      simp only [Co.dep, Co.cnt] at hd h7 hc
      simp only [Co.d]; walk_at "b"
      refine lcL_list Co.d (fun c => .bl (c.tru L t)) [c, e] [] (by simp [PySem.sizeLine]) (fun x hx acc N ha hN => ?_) ?_
      · have hp' : x.wf ns ∧ x.dep < n ∧ x.dep ≤ 7 ∧ x.cnt ≤ 1000 := by
          simp only [List.mem_cons, List.not_mem_nil, or_false] at hx
          rcases hx with rfl | rfl
          · exact ⟨hw.1, by omega, by omega, by omega⟩
          · exact ⟨hw.2, by omega, by omega, by omega⟩
        walk_at "b"
        refine ⟨by omega, x, L, ns, t, kvs, rfl, hk, hp'.1, hb, hp'.2.1, hp'.2.2.1, hp'.2.2.2, ?_⟩
        walk_at "b"
        exact ⟨ha, hN⟩
      · simp only [Co.tru] at q
        walk_at "b"
        exact q
    | before a b =>
      simp only [Co.dep, Co.cnt] at hd h7 hc
      simp only [Co.d]; walk_at "b"
      refine lcL_list Pa.d (fun p => .int (p.num L t)) [a, b] [] (by simp [PySem.sizeLine]) (fun p hp acc N ha hN => ?_) ?_
      · have hp' : p.wf ns ∧ p.dep < 9 ∧ p.cnt ≤ 1000 := by
          simp only [List.mem_cons, List.not_mem_nil, or_false] at hp
          rcases hp with rfl | rfl
          · exact ⟨hw.1.2, by omega, by omega⟩
          · exact ⟨hw.2.2, by omega, by omega⟩
        walk_at "b"
        refine ⟨by decide, p, L, ns, t, kvs, rfl, hk, hp'.1, hb, hp'.2.1, hp'.2.2, ?_⟩
        walk_at "b"
        exact ⟨ha, hN⟩
      · simp only [Co.tru] at q
        walk_at "b"
        exact q
    | same a b =>
      simp only [Co.dep, Co.cnt] at hd h7 hc
      simp only [Co.d]; walk_at "b"
      refine lcL_list Pa.d (fun p => .int (p.num L t)) [a, b] [] (by simp [PySem.sizeLine]) (fun p hp acc N ha hN => ?_) ?_
      · have hp' : p.wf ns ∧ p.dep < 9 ∧ p.cnt ≤ 1000 := by
          simp only [List.mem_cons, List.not_mem_nil, or_false] at hp
          rcases hp with rfl | rfl
          · exact ⟨hw.1.2, by omega, by omega⟩
          · exact ⟨hw.2.2, by omega, by omega⟩
        walk_at "b"
        refine ⟨by decide, p, L, ns, t, kvs, rfl, hk, hp'.1, hb, hp'.2.1, hp'.2.2, ?_⟩
        walk_at "b"
        exact ⟨ha, hN⟩
      · simp only [Co.tru] at q
        walk_at "b"
        exact q
    | shorter a b =>
      simp only [Co.dep, Co.cnt] at hd h7 hc
      simp only [Co.d]; walk_at "b"
      refine lcL_list Pa.d (fun p => .int (p.num L t)) [a, b] [] (by simp [PySem.sizeLine]) (fun p hp acc N ha hN => ?_) ?_
      · have hp' : p.wf ns ∧ p.dep < 9 ∧ p.cnt ≤ 1000 := by
          simp only [List.mem_cons, List.not_mem_nil, or_false] at hp
          rcases hp with rfl | rfl
          · exact ⟨hw.1.2, by omega, by omega⟩
          · exact ⟨hw.2.1.2, by omega, by omega⟩
        walk_at "b"
        refine ⟨by decide, p, L, ns, t, kvs, rfl, hk, hp'.1, hb, hp'.2.1, hp'.2.2, ?_⟩
        walk_at "b"
        exact ⟨ha, hN⟩
      · simp only [Co.tru] at q
        walk_at "b"
        exact q
    | betw a b c =>
      simp only [Co.dep, Co.cnt] at hd h7 hc
      simp only [Co.d]; walk_at "b"
      refine lcL_list Pa.d (fun p => .int (p.num L t)) [a, b, c] [] (by simp [PySem.sizeLine]) (fun p hp acc N ha hN => ?_) ?_
      · have hp' : p.wf ns ∧ p.dep < 9 ∧ p.cnt ≤ 1000 := by
          simp only [List.mem_cons, List.not_mem_nil, or_false] at hp
          rcases hp with rfl | rfl | rfl
          · exact ⟨hw.1.2, by omega, by omega⟩
          · exact ⟨hw.2.1.2, by omega, by omega⟩
          · exact ⟨hw.2.2.2, by omega, by omega⟩
        walk_at "b"
        refine ⟨by decide, p, L, ns, t, kvs, rfl, hk, hp'.1, hb, hp'.2.1, hp'.2.2, ?_⟩
        walk_at "b"
        exact ⟨ha, hN⟩
      · simp only [Co.tru] at q
        walk_at "b"
        refine br_d (fun h => ?_) (fun h => ?_)
        · rw [decide_eq_true h, Bool.true_and] at q
          walk_at "b"; exact q
        · rw [decide_eq_false h, Bool.false_and] at q
          walk_at "b"; exact q
    | within a b c =>
      simp only [Co.dep, Co.cnt] at hd h7 hc
      simp only [Co.d]; walk_at "b"
      refine lcL_list Pa.d (fun p => .int (p.num L t)) [a, b, c] [] (by simp [PySem.sizeLine]) (fun p hp acc N ha hN => ?_) ?_
      · have hp' : p.wf ns ∧ p.dep < 9 ∧ p.cnt ≤ 1000 := by
          simp only [List.mem_cons, List.not_mem_nil, or_false] at hp
          rcases hp with rfl | rfl | rfl
          · exact ⟨hw.1.2, by omega, by omega⟩
          · exact ⟨hw.2.1.2, by omega, by omega⟩
          · exact ⟨hw.2.2.2, by omega, by omega⟩
        walk_at "b"
        refine ⟨by decide, p, L, ns, t, kvs, rfl, hk, hp'.1, hb, hp'.2.1, hp'.2.2, ?_⟩
        walk_at "b"
        exact ⟨ha, hN⟩
      · simp only [Co.tru] at q
        walk_at "b"
        have na := num_300 hb hw.1.2 (show a.cnt ≤ 1000 by omega)
        have nb := num_300 hb hw.2.1.2 (show b.cnt ≤ 1000 by omega)
        have nc := num_300 hb hw.2.2.2 (show c.cnt ≤ 1000 by omega)
        refine ⟨b.num L t, a.num L t, L, rfl, hb.p, hb.m, by omega, ?_⟩
        walk_at "b"
        refine ⟨b.num L t, c.num L t, L, rfl, hb.p, hb.m, by omega, ?_⟩
        walk_at "b"
        exact q
theorem firstMin_eq : ∀ (w : List Int) (b : Nat) (hb : b < w.length), (∀ j (h : j < w.length), w[b] ≤ w[j]) → (∀ j (h : j < b), w[b] < w[j]) → firstMin w = b
  | x :: r, 0, hb, h1, h2 => by
    unfold firstMin
    rw [if_pos]
    rw [List.all_eq_true]
    intro y hy
    obtain ⟨j, hj, rfl⟩ := List.mem_iff_getElem.mp hy
    have := h1 (j + 1) (by simp; omega)
    simpa using this
  | x :: r, b + 1, hb, h1, h2 => by
    unfold firstMin
    have hb' : b < r.length := by simpa using hb
    have h0 := h2 0 (by omega)
    rw [if_neg, firstMin_eq r b hb' (fun j h => by have := h1 (j + 1) (by simp; omega); simpa using this) (fun j h => by have := h2 (j + 1) (by omega); simpa using this)]
    intro h
    have := of_decide_eq_true (List.all_eq_true.mp h r[b] (List.getElem_mem hb'))
    simp at h0
    omega
def S_what : ASp := fun ds ms Q _ => ∃ (o : Oc) (L : Int) (ns : List Str) (t : Tm) (kvs : List (Key × D)), ds = [o.d, .int L, .dk kvs] ∧ Agr kvs ns t ∧ o.wf ns ∧ Bd L ns t ∧ o.dep ≤ 7 ∧ o.cnt ≤ 1000 ∧ Q (.tup (o.wh L t).ds) ms
theorem ga__law_what (T : Txt K mg) : HX.GFn P w K mg base "_law_what" 12 ["_law_outcome_here", "_law_size", "_law_times"] (spA K S_what) := by
  have g__law_number := ga__law_number (P := P) (w := w) (base := base) T 9
  have g__law_later := ga__law_later (P := P) (w := w) (base := base) T
  refine LA.gfn_of T.d__law_what T.g__law_what sc__law_what (by intro ds ms Q E h; unfold S_what at h; repeat (first | (obtain ⟨rfl, _⟩ := h; rfl) | obtain ⟨_, h⟩ := h)) (fun _ _ _ _ _ _ us hl => match us, hl with | [_, _, _], _ => rfl) fun cdv A outer s H E hr => ⟨_, (LA.ass_cons (LA.as_if (LA.at_cmp (LA.oa_eq hr.units) (LA.ae_ix LA.ia_any (LA.ae_var (pv 0)) LA.ae_int (fun _ _ => rfl)) LA.ae_str (nomark _)) (LA.ass_one (LA.as_ret (LA.ae_tup (LA.aa_cons LA.ae_str (LA.aa_cons (LA.ae_ix LA.ia_any (LA.ae_var (pv 0)) LA.ae_int (fun _ _ => rfl)) LA.aa_nil))))) LA.ass_nil)
  (LA.ass_cons (LA.as_if (LA.at_cmp (LA.oa_eq hr.units) (LA.ae_ix LA.ia_any (LA.ae_var (pv 0)) LA.ae_int (fun _ _ => rfl)) LA.ae_str (nomark _)) (LA.ass_one (LA.as_ret (LA.ae_tup (LA.aa_cons LA.ae_str (LA.aa_cons (LA.ae_call HX.takesO g__law_number (hr.mono (by first | decide | omega)) rfl (LA.aa_cons (LA.ae_ix LA.ia_any (LA.ae_var (pv 0)) LA.ae_int (fun _ _ => rfl)) (LA.aa_cons (LA.ae_var (pv 1)) (LA.aa_cons (LA.ae_var (pv 2)) LA.aa_nil)))) LA.aa_nil))))) LA.ass_nil)
  (LA.ass_cons (LA.as_if (LA.at_cmp (LA.oa_eq hr.units) (LA.ae_ix LA.ia_any (LA.ae_var (pv 0)) LA.ae_int (fun _ _ => rfl)) LA.ae_str (nomark _)) (LA.ass_one (LA.as_ret (LA.ae_tup (LA.aa_cons LA.ae_str (LA.aa_cons (LA.ae_callB (LA.ca_sum rfl) rfl T.n_sum (by decide +kernel) (LA.aa_cons (LA.ae_new (LA.fe_lc (own := [("_law_part", 7)]) rfl sc__law_what.nd (LA.ai_items (LA.ae_ix LA.ia_any (LA.ae_var (pv 0)) LA.ae_int (fun _ _ => rfl))) (blkOk_by (own := [("_law_part", 7)]) (N := ["_law_outcome_here", "_law_size", "_law_times", "_law_now", "_law_waits", "_law_best", "_law_k", "_law_part"]) (sc := defScope s__law_what) (by decide +kernel)) (by decide) (fun _ _ _ _ _ => (LA.ag_name (pg_name (i := 7) sc__law_what.nd rfl (Or.inl rfl)))) (fun _ _ _ _ _ => LA.ats_nil) (fun _ _ _ _ _ => (LA.ae_call HX.takes0N g__law_number (hr.mono (by first | decide | omega)) rfl (LA.aa_cons (LA.ae_var (pv 7)) (LA.aa_cons (LA.ae_var (pv 1)) (LA.aa_cons (LA.ae_var (pv 2)) LA.aa_nil))))))) LA.aa_nil)) LA.aa_nil))))) LA.ass_nil)
  (LA.ass_cons (LA.as_set (i := 3) sc__law_what.nd rfl (Or.inr rfl) (LA.ae_call HX.takesO g__law_number (hr.mono (by first | decide | omega)) rfl (LA.aa_cons (LA.ae_ix LA.ia_any (LA.ae_var (pv 0)) LA.ae_int (fun _ _ => rfl)) (LA.aa_cons (LA.ae_var (pv 1)) (LA.aa_cons (LA.ae_var (pv 2)) LA.aa_nil)))))
  (LA.ass_cons (LA.as_setLc (i := 4) (own := [("_law_part", 7)]) rfl sc__law_what.nd rfl rfl (sw_true rfl rfl rfl (by decide +kernel)) (LA.ai_items (LA.ae_ix LA.ia_any (LA.ae_var (pv 0)) LA.ae_int (fun _ _ => rfl))) (blkOk_by (own := [("_law_part", 7)]) (N := ["_law_outcome_here", "_law_size", "_law_times", "_law_now", "_law_waits", "_law_best", "_law_k", "_law_part"]) (sc := defScope s__law_what) (by decide +kernel)) (by decide) (fun _ _ _ _ _ => (LA.ag_name (pg_name (i := 7) sc__law_what.nd rfl (Or.inl rfl)))) (fun _ _ _ _ _ => LA.ats_nil) (fun _ _ _ _ _ => (LA.ae_call HX.takes0N g__law_later (hr.mono (by first | decide | omega)) rfl (LA.aa_cons (LA.ae_var (pv 3)) (LA.aa_cons (LA.ae_call HX.takes0N g__law_number (hr.mono (by first | decide | omega)) rfl (LA.aa_cons (LA.ae_var (pv 7)) (LA.aa_cons (LA.ae_var (pv 1)) (LA.aa_cons (LA.ae_var (pv 2)) LA.aa_nil)))) (LA.aa_cons (LA.ae_var (pv 1)) LA.aa_nil))))))
  (LA.ass_cons (LA.as_set (i := 5) sc__law_what.nd rfl (Or.inl rfl) LA.ae_int)
  (LA.ass_cons (LA.as_for (passes_of rfl) rfl (LA.ai_range1 rfl T.n_range (LA.ae_callB LA.ca_len rfl T.n_len (by decide +kernel) (LA.aa_cons (LA.ae_var (pv 4)) LA.aa_nil))) (LA.ag_name (pg_name (i := 6) sc__law_what.nd rfl (Or.inl rfl))) (LA.ass_one (LA.as_if (LA.at_cmp LA.oa_lt (LA.ae_ix LA.ia_any (LA.ae_var (pv 4)) (LA.ae_var (pv 6)) (fun _ _ => rfl)) (LA.ae_ix LA.ia_any (LA.ae_var (pv 4)) (LA.ae_var (pv 5)) (fun _ _ => rfl)) (nomark _)) (LA.ass_one (LA.as_set (i := 5) sc__law_what.nd rfl (Or.inl rfl) (LA.ae_var (pv 6)))) LA.ass_nil)))
  (LA.ass_one (LA.as_ret (LA.ae_tup (LA.aa_cons LA.ae_str (LA.aa_cons (LA.ae_var (pv 5)) LA.aa_nil)))))))))))), fun ds ms Q E h => ?_⟩
  obtain ⟨o, L, ns, t, kvs, rfl, hk, hw, hb, hd, hc, q⟩ := h
  cases o with
  | word x => simp only [Oc.d]; walk_at "b"; exact q
  | value p =>
    simp only [Oc.dep, Oc.cnt] at hd hc
    simp only [Oc.d]; walk_at "b"
    refine ⟨by decide, p, L, ns, t, kvs, rfl, hk, hw, hb, by omega, by omega, ?_⟩
    walk_at "b"; exact q
  | total ps =>
    simp only [Oc.dep, Oc.cnt] at hd hc
    have h4 := hw.2.1
    simp only [Oc.d]; walk_at "b"
    refine lcL_list Pa.d (fun q => .int (q.num L t)) ps [] (by simp [PySem.sizeLine]; omega) (fun x hx acc N ha hN => ?_) ?_
    · walk_at "b"
      refine ⟨by decide, x, L, ns, t, kvs, rfl, hk, hw.2.2 x hx, hb, by have := dep_mem (Nat.le_refl _) hx; omega, by have := cnt_mem hx; omega, ?_⟩
      walk_at "b"
      exact ⟨ha, hN⟩
    · rw [List.nil_append]
      walk_at "b"
      exact q
  | first p ps =>
    simp only [Oc.dep, Oc.cnt] at hd hc
    have h2 := hw.2.1
    have h4 := hw.2.2.1
    simp only [Oc.d]; walk_at "b"
    refine ⟨by decide, p, L, ns, t, kvs, rfl, hk, hw.1.2, hb, by omega, by omega, ?_⟩
    walk_at "b"
    have np := num_300 hb hw.1.2 (show p.cnt ≤ 1000 by omega)
    refine lcL_list Pa.d (fun q => .int ((q.num L t - p.num L t) % L)) ps [] (by simp [PySem.sizeLine]; omega) (fun x hx acc N ha hN => ?_) ?_
    · have hx' := (hw.2.2.2 x hx).2
      have hc' := cnt_mem hx
      walk_at "b"
      refine ⟨by decide, x, L, ns, t, kvs, rfl, hk, hx', hb, by have := dep_mem (Nat.le_refl _) hx; omega, by omega, ?_⟩
      walk_at "b"
      have nx := num_300 hb hx' (show x.cnt ≤ 1000 by omega)
      refine ⟨p.num L t, x.num L t, L, rfl, hb.p, hb.m, by omega, ?_⟩
      walk_at "b"
      exact ⟨ha, hN⟩
    · rw [List.nil_append]
      have e : (ps.map fun q => D.int ((q.num L t - p.num L t) % L)) = (ps.map fun q => (q.num L t - p.num L t) % L).map D.int := by rw [List.map_map]; rfl
      rw [e]
      have hq : (Oc.first p ps).wh L t = .val (firstMin (ps.map fun q => (q.num L t - p.num L t) % L)) := rfl
      rw [hq] at q
      have hwl : (ps.map fun q => (q.num L t - p.num L t) % L).length = ps.length := by simp
      generalize (ps.map fun q => (q.num L t - p.num L t) % L) = ws at q hwl
      walk_at "b"
      refine ⟨by omega, by omega, ?_⟩
      refine forL_at (fun i s ms' => ms' = ms ∧ ∃ (b : Nat) (hb : b < ws.length), b ≤ i ∧ (∀ j (h : j < ws.length), j < i → ws[b] ≤ ws[j]) ∧ (∀ j (h : j < b), ws[b] < ws[j]) ∧ ∃ v6 v7, s = [some (.fr (.tup [.str "first", p.d, .tup (ps.map Pa.d)])), some (.fr (.int L)), some (.fr (.dk kvs)), some (.fr (.int (p.num L t))), some (.fr (.lst (ws.map D.int))), some (.fr (.int (b : Nat))), v6, v7]) ?_ ?_ ?_
      · exact ⟨rfl, 0, by omega, Nat.le_refl _, fun _ _ h => by omega, fun _ h => by omega, none, none, rfl⟩
      · rintro i d s _ hx ⟨rfl, b, hbl, hbi, h1, h2, v6, v7, rfl⟩ N hN
        obtain ⟨hi, rfl⟩ := rangeD_at hx
        have hi' : i < ws.length := by omega
        walk_at "b"
        rw [show (0 : Int) + (i : Nat) = (i : Nat) by omega, atI_ints hi']
        walk_at "b"
        rw [atI_ints hbl]
        walk_at "b"
        refine br_d (fun h => ?_) (fun h => ?_)
        · walk_at "b"
          refine hN _ _ ⟨rfl, i, hi', by omega, fun j hj hji => ?_, fun j hj => ?_, _, _, rfl⟩
          · by_cases e : j = i
            · subst e; exact Int.le_refl _
            · have := h1 j hj (by omega); omega
          · have := h1 j (by omega) hj; omega
        · walk_at "b"
          refine hN _ _ ⟨rfl, b, hbl, by omega, fun j hj hji => ?_, h2, _, _, rfl⟩
          by_cases e : j = i
          · subst e; omega
          · exact h1 j hj (by omega)
      · rintro s _ ⟨rfl, b, hbl, hbi, h1, h2, v6, v7, rfl⟩
        walk_at "b"
        rw [rangeD_len] at h1
        rw [firstMin_eq ws b hbl (fun j h => h1 j h (by omega)) h2] at q
        exact q
def S_lrun : ASp := fun ds ms Q _ => ∃ (rs : List Ru) (o : Oc) (L : Int) (ns : List Str) (t : Tm) (kvs : List (Key × D)), ds = [.tup (rs.map Ru.d), o.d, .int L, .dk kvs] ∧ Agr kvs ns t ∧ Bd L ns t ∧ (∀ r ∈ rs, r.wf ns) ∧ o.wf ns ∧ o.dep ≤ 7 ∧ o.cnt ≤ 1000 ∧ rs.length ≤ 1000 ∧ Q (runD L t o rs) ms
theorem ga__law_run (T : Txt K mg) : HX.GFn P w K mg base "_law_run" 22 ["_law_rules_here", "_law_last", "_law_size", "_law_times"] (spA K S_lrun) := by
  have g__law_true := ga__law_true (P := P) (w := w) (base := base) T 9
  have g__law_what := ga__law_what (P := P) (w := w) (base := base) T
  refine LA.gfn_of T.d__law_run T.g__law_run sc__law_run (by intro ds ms Q E h; unfold S_lrun at h; repeat (first | (obtain ⟨rfl, _⟩ := h; rfl) | obtain ⟨_, h⟩ := h)) (fun _ _ _ _ _ _ us hl => match us, hl with | [_, _, _, _], _ => rfl) fun cdv A outer s H E hr => ⟨_, (LA.ass_cons (LA.as_for (passes_of rfl) rfl (LA.ai_range1 rfl T.n_range (LA.ae_callB LA.ca_len rfl T.n_len (by decide +kernel) (LA.aa_cons (LA.ae_var (pv 0)) LA.aa_nil))) (LA.ag_name (pg_name (i := 4) sc__law_run.nd rfl (Or.inl rfl))) (LA.ass_one (LA.as_if (LA.at_val (LA.ae_call HX.takesO g__law_true (hr.mono (by first | decide | omega)) rfl (LA.aa_cons (LA.ae_ix LA.ia_any (LA.ae_ix LA.ia_any (LA.ae_var (pv 0)) (LA.ae_var (pv 4)) (fun _ _ => rfl)) LA.ae_int (fun _ _ => rfl)) (LA.aa_cons (LA.ae_var (pv 2)) (LA.aa_cons (LA.ae_var (pv 3)) LA.aa_nil))))) (LA.ass_cons (LA.as_asg (LA.ae_call HX.takesO g__law_what (hr.mono (by first | decide | omega)) rfl (LA.aa_cons (LA.ae_ix LA.ia_any (LA.ae_ix LA.ia_any (LA.ae_var (pv 0)) (LA.ae_var (pv 4)) (fun _ _ => rfl)) LA.ae_int (fun _ _ => rfl)) (LA.aa_cons (LA.ae_var (pv 2)) (LA.aa_cons (LA.ae_var (pv 3)) LA.aa_nil)))) (LA.ag_tup (n := 2) rfl (LA.ags_cons (LA.ag_name (pg_name (i := 5) sc__law_run.nd rfl (Or.inl rfl))) (LA.ags_cons (LA.ag_name (pg_name (i := 6) sc__law_run.nd rfl (Or.inl rfl))) LA.ags_nil))))
  (LA.ass_one (LA.as_ret (LA.ae_tup (LA.aa_cons (LA.ae_var (pv 5)) (LA.aa_cons (LA.ae_var (pv 6)) (LA.aa_cons (LA.ae_var (pv 4)) LA.aa_nil))))))) LA.ass_nil)))
  (LA.ass_cons (LA.as_asg (LA.ae_call HX.takesO g__law_what (hr.mono (by first | decide | omega)) rfl (LA.aa_cons (LA.ae_var (pv 1)) (LA.aa_cons (LA.ae_var (pv 2)) (LA.aa_cons (LA.ae_var (pv 3)) LA.aa_nil)))) (LA.ag_tup (n := 2) rfl (LA.ags_cons (LA.ag_name (pg_name (i := 5) sc__law_run.nd rfl (Or.inl rfl))) (LA.ags_cons (LA.ag_name (pg_name (i := 6) sc__law_run.nd rfl (Or.inl rfl))) LA.ags_nil))))
  (LA.ass_one (LA.as_ret (LA.ae_tup (LA.aa_cons (LA.ae_var (pv 5)) (LA.aa_cons (LA.ae_var (pv 6)) (LA.aa_cons (LA.ae_callB LA.ca_len rfl T.n_len (by decide +kernel) (LA.aa_cons (LA.ae_var (pv 0)) LA.aa_nil)) LA.aa_nil)))))))), fun ds ms Q E h => ?_⟩
  obtain ⟨rs, o, L, ns, t, kvs, rfl, hk, hb, hr', ho, hd, hc, hl, q⟩ := h
  walk_at "b"
  refine ⟨by omega, by omega, ?_⟩
  refine forL_at (fun i s ms' => ms' = ms ∧ (∀ r ∈ rs.take i, r.1.tru L t = false) ∧ ∃ u v x, s = [some (.fr (.tup (rs.map Ru.d))), some (.fr o.d), some (.fr (.int L)), some (.fr (.dk kvs)), u, v, x]) ⟨rfl, fun _ h => by simp at h, none, none, none, rfl⟩ ?_ ?_
  · rintro i d s _ hx ⟨rfl, hi, u, v, x, rfl⟩ N hN
    obtain ⟨hlt, rfl⟩ := rangeD_at hx
    have hlt : i < rs.length := by omega
    have er : rs[i]? = some rs[i] := List.getElem?_eq_getElem hlt
    have hm := hr' rs[i] (List.getElem_mem hlt)
    have hat : atI (rs.map Ru.d) ((0 : Int) + (i : Nat)) = some (Ru.d rs[i]) := by
      rw [show (0 : Int) + (i : Nat) = (i : Nat) by omega, LA.atI_nat, List.getElem?_map, er]; rfl
    generalize rs[i] = r at er hm hat
    walk_at "b"
    rw [hat]
    simp only [Ru.d]
    walk_at "b"
    have hm3 := hm.2.2.1
    refine ⟨by decide, r.1, L, ns, t, kvs, rfl, hk, hm.1, hb, by have := hm.2.2.2.1; omega, hm.2.2.2.1, by omega, ?_⟩
    walk_at "b"
    refine br_b (fun h => ?_) (fun h => ?_)
    · walk_at "b"
      rw [hat]
      simp only [Ru.d]
      walk_at "b"
      refine ⟨r.2, L, ns, t, kvs, rfl, hk, hm.2.1, hb, hm.2.2.2.2, by omega, ?_⟩
      have hq : runK L t o rs 0 = (r.2.wh L t, i) := by
        rw [runK_drop rs i 0 hi, List.drop_eq_getElem_cons hlt]
        have : rs[i] = r := by rw [List.getElem?_eq_getElem hlt] at er; exact Option.some.inj er
        rw [this, runK, h, if_pos rfl]
        congr 1; omega
      unfold runD at q
      rw [hq] at q
      cases hw : r.2.wh L t <;> rw [hw] at q <;> simp only [Wh.ds] at q ⊢ <;> walk_at "b" <;> simpa using q
    · walk_at "b"
      refine hN _ _ ⟨rfl, fun x hx => ?_, _, _, _, rfl⟩
      rw [← take_snoc er] at hx
      rcases List.mem_append.mp hx with hx | hx
      · exact hi x hx
      · rw [List.mem_singleton.mp hx]; exact h
  · rintro s _ ⟨rfl, hi, u, v, x, rfl⟩
    walk_at "b"
    refine ⟨o, L, ns, t, kvs, rfl, hk, ho, hb, hd, hc, ?_⟩
    have hq : runK L t o rs 0 = (o.wh L t, rs.length) := by
      have hi' : ∀ r ∈ rs.take rs.length, r.1.tru L t = false := fun r hr => hi r (by rw [rangeD_len]; exact hr)
      rw [runK_drop rs rs.length 0 hi', List.drop_length, runK]
      congr 1; omega
    unfold runD at q
    rw [hq] at q
    cases hw : o.wh L t <;> rw [hw] at q <;> simp only [Wh.ds] at q ⊢ <;> walk_at "b" <;> simpa using q
end

end LW
namespace LW
open PySem PySem.Spec PyProof.Rows L2
open LA
section
variable {P : Program} {w : World} {K : PySem.W.Frag} {mg : Str → Option Value} {base : Heap}
def S_refused : ASp := fun ds ms Q _ => ∃ (ns : List Str) (rs : List Ru) (o : Oc) (L : Int) (kvs : List (Key × D)), ds = [prO ns rs o, dayO L, .dk kvs] ∧ ns.length ≤ 1000 ∧ rs.length ≤ 1000 ∧ 0 < L ∧ (∀ r ∈ rs, r.wf ns) ∧ o.wf ns ∧ o.dep ≤ 7 ∧ (∀ n ∈ ns, ∀ v, valD kvs (.inr n) = some v → (intD v).isSome = true) ∧ ¬ okT kvs ns L ∧ Q (.bl true) ms
theorem ga__law_refused (T : Txt K mg) : HX.GFn P w K mg base "_law_refused" 22 ["_law_program", "_law_day", "_law_times"] (spA K S_refused) := by
  have g_run := ga_run (P := P) (w := w) (base := base) T
  refine LA.gfn_of T.d__law_refused T.g__law_refused sc__law_refused (by intro ds ms Q E h; unfold S_refused at h; repeat (first | (obtain ⟨rfl, _⟩ := h; rfl) | obtain ⟨_, h⟩ := h)) (fun _ _ _ _ _ _ us hl => match us, hl with | [_, _, _], _ => rfl) fun cdv A outer s H E hr => ⟨_, (LA.ass_cons (LA.as_set (i := 3) sc__law_refused.nd rfl (Or.inl rfl) LA.ae_bl)
  (LA.ass_cut (LA.as_try rfl rfl sc__law_refused.nd HX.takesO (fun W pn xe tk po => (LA.ass_one (LA.as_expr (LA.ae_call tk g_run (hr.mono (by first | decide | omega)) rfl (LA.aa_cons (LA.ae_var (pv 0)) (LA.aa_cons (LA.ae_var (pv 1)) (LA.aa_cons (LA.ae_var (pv 2)) LA.aa_nil))))))) (LA.AHds.plain (x := "InvalidTimes") rfl (by decide) T.g_InvalidTimes (LA.tb_cons (c := "InvalidLength") (b := false) T.em_InvalidLength_InvalidTimes (LA.tb_cons (c := "InvalidNumber") (b := false) T.em_InvalidNumber_InvalidTimes (LA.tb_cons (c := "InvalidProgram") (b := false) T.em_InvalidProgram_InvalidTimes (LA.tb_cons (c := "InvalidTimes") (b := true) T.em_InvalidTimes_InvalidTimes (LA.tb_cons (c := "OtherDay") (b := false) T.em_OtherDay_InvalidTimes LA.tb_nil))))) (fun a oe cls d pn hz hf => (LA.ass_one (LA.as_set (i := 3) sc__law_refused.nd rfl (Or.inl rfl) LA.ae_bl))) LA.AHds.nil))
  (LA.ass_one (LA.as_ret (LA.ae_var (pv 3)))))), fun ds ms Q E h => ?_⟩
  obtain ⟨ns, rs, o, L, kvs, rfl, hl, hl2, hL, hr', ho, hd, hv, hn, q⟩ := h
  walk_at "b"
  refine ⟨fun s' ms' => ms' = ms ∧ s' = [some (.fr (prO ns rs o)), some (.fr (dayO L)), some (.fr (.dk kvs)), some (.fr (.bl true))], ?_, ?_⟩
  · walk_at "b"
    refine ⟨ns, rs, o, L, fun _ => 0, kvs, rfl, hl, hl2, hL, hr', ho, hd, hv, fun h => (hn h).elim, fun _ => ?_⟩
    walk_at "b"
  · rintro s' ms' ⟨rfl, rfl⟩
    walk_at "b"
    exact q
end

end LW
namespace LW
open PySem PySem.Spec PyProof.Rows L2
open LA
/-! drawn times -/
def updT (t : Tm) (x : Str) (v : Int) : Tm := fun y => if y = x then v else t y
def tmL (l : List Str) (t : Tm) : List (Key × D) := l.map fun n => (.inr n, .int (t n))
theorem put_old {l : List Str} {t : Tm} {x : Str} {v : Int} (h : x ∈ l) : putDK (tmL l t) (.inr x) (.int v) = tmL l (updT t x v) := by
  have h1 : ((tmL l t).any fun kv => decide (kv.1 = .inr x)) = true := by
    rw [List.any_eq_true]
    exact ⟨_, List.mem_map.mpr ⟨x, h, rfl⟩, decide_eq_true rfl⟩
  unfold putDK
  rw [if_pos h1]
  unfold tmL
  rw [List.map_map]
  apply List.map_congr_left
  intro n hn
  simp only [Function.comp, updT]
  by_cases e : n = x
  · rw [if_pos (by rw [e]), if_pos e]
  · rw [if_neg (fun z => e (Sum.inr.inj z)), if_neg e]
theorem put_new {l : List Str} {t : Tm} {x : Str} {v : Int} (h : x ∉ l) : putDK (tmL l t) (.inr x) (.int v) = tmL (l ++ [x]) (updT t x v) := by
  have h1 : ((tmL l t).any fun kv => decide (kv.1 = .inr x)) = false := by
    rw [List.any_eq_false]
    intro p hp
    obtain ⟨n, hn, rfl⟩ := List.mem_map.mp hp
    intro e
    exact h (Sum.inr.inj (of_decide_eq_true e) ▸ hn)
  unfold putDK
  rw [h1, if_neg Bool.false_ne_true]
  unfold tmL
  rw [List.map_append]
  congr 1
  · apply List.map_congr_left
    intro n hn
    simp only [updT]
    rw [if_neg (fun e : n = x => h (e ▸ hn))]
  · simp [updT]
theorem tmL_len {l : List Str} {t : Tm} : (tmL l t).length = l.length := by simp [tmL]
theorem tmD_tmL {ns : List Str} {t : Tm} : tmD ns t = .dk (tmL ns t) := rfl
theorem agr_tm {ns : List Str} {t : Tm} : Agr (tmL ns t) ns t := fun n hn => valD_tm hn
theorem okT_tm {ns : List Str} {t : Tm} {L : Int} (h : ∀ n ∈ ns, 0 ≤ t n ∧ t n < L) : okT (tmL ns t) ns L := ⟨tmL_len, fun n hn => ⟨t n, valD_tm hn, h n hn⟩⟩
theorem int_tm {ns : List Str} {t : Tm} : ∀ n ∈ ns, ∀ v, valD (tmL ns t) (.inr n) = some v → (intD v).isSome = true := fun n hn v h => by
  have := valD_tm (t := t) hn
  unfold tmL at h
  rw [this] at h; cases h; rfl

end LW
namespace LW
open PySem PySem.Spec PyProof.Rows L2
open LA
/-! drawn times, as an object that the law changes later: behind A_drawn's head A_drawn0 -/
section
variable {P : Program} {w : World} {K : PySem.W.Frag} {mg : Str → Option Value} {base : Heap}
def S_drawnC : ASp := fun ds ms Q _ => ∃ (ns : List Str) (L : Int), ds = [.ptr 0, nsD ns, .int L] ∧ ms[0]? = some .rng ∧ 1 ≤ L ∧ ns.Nodup ∧ ns.length ≤ 4 ∧ ∀ t : Tm, (∀ n ∈ ns, 0 ≤ t n ∧ t n < L) → Q (.ptr ms.length) (ms ++ [.dk (tmL ns t)])
theorem ga__law_drawn (T : Txt K mg) : HX.GFn P w K mg base "_law_drawn" 4 ["_law_d", "_law_names_here", "_law_size"] (spA K S_drawnC) := by
  have g__law_time := ga__law_time (P := P) (w := w) (base := base) T
  have g__law_below := ga__law_below (P := P) (w := w) (base := base) T
  have g__law_pick := ga__law_pick (P := P) (w := w) (base := base) T
  refine LA.gfn_of T.d__law_drawn T.g__law_drawn sc__law_drawn (by intro ds ms Q E h; unfold S_drawnC at h; repeat (first | (obtain ⟨rfl, _⟩ := h; rfl) | obtain ⟨_, h⟩ := h)) (fun _ _ _ _ _ _ us hl => match us, hl with | [_, _, _], _ => rfl) fun cdv A outer s H E hr => ⟨_, (LA.ass_cons (LA.as_own (i := 3) (by decide) sc__law_drawn.nd rfl (Or.inl rfl) LA.fe_dk)
  (LA.ass_cons (LA.as_set (i := 4) sc__law_drawn.nd rfl (Or.inl rfl) (LA.ae_call HX.takesO g__law_time (hr.mono (by first | decide | omega)) rfl (LA.aa_cons (LA.ae_var (pv 0)) (LA.aa_cons (LA.ae_var (pv 2)) LA.aa_nil))))
  (LA.ass_cons (LA.as_for (passes_of rfl) rfl (LA.ai_items (LA.ae_var (pv 1))) (LA.ag_name (pg_name (i := 5) sc__law_drawn.nd rfl (Or.inl rfl))) (LA.ass_cons (LA.as_putO (hu_of hr) (pv 3) (LA.ae_var (pv 5)) (LA.ae_call HX.takesO g__law_time (hr.mono (by first | decide | omega)) rfl (LA.aa_cons (LA.ae_var (pv 0)) (LA.aa_cons (LA.ae_var (pv 2)) LA.aa_nil))) rfl)
  (LA.ass_one (LA.as_if (LA.at_cmp (LA.oa_eq hr.units) (LA.ae_call HX.takesO g__law_below (hr.mono (by first | decide | omega)) rfl (LA.aa_cons (LA.ae_var (pv 0)) (LA.aa_cons LA.ae_int LA.aa_nil))) LA.ae_int (nomark _)) (LA.ass_one (LA.as_putO (hu_of hr) (pv 3) (LA.ae_var (pv 5)) (LA.ae_bin LA.oa_mod (LA.ae_bin LA.oa_add (LA.ae_var (pv 4)) (LA.ae_call HX.takesO g__law_pick (hr.mono (by first | decide | omega)) rfl (LA.aa_cons (LA.ae_var (pv 0)) (LA.aa_cons (LA.ae_lst (LA.aa_cons LA.ae_int (LA.aa_cons LA.ae_int (LA.aa_cons (LA.ae_un LA.ua_neg LA.ae_int) (LA.aa_cons LA.ae_int LA.aa_nil))))) LA.aa_nil)))) (LA.ae_var (pv 2))) rfl)) LA.ass_nil))))
  (LA.ass_one (LA.as_retC (pv 3)))))), fun ds ms Q E h => ?_⟩
  obtain ⟨ns, L, rfl, hm, h1, hd, h4, k⟩ := h
  simp only [nsD_list] at *
  walk_at "b"
  refine ⟨L, rfl, hm, h1, fun base b0 b1 => ?_⟩
  walk_at "b"
  refine forL_at (fun i s ms' => ms' = ms ∧ ∃ t : Tm, (∀ n ∈ ns.take i, 0 ≤ t n ∧ t n < L) ∧ ∃ v, s = [some (.fr (.ptr 0)), some (.fr (.tup (ns.map D.str))), some (.fr (.int L)), some (.ow (.dk (tmL (ns.take i) t))), some (.fr (.int base)), v]) ⟨rfl, fun _ => 0, fun _ h => by simp at h, none, rfl⟩ ?_ ?_
  · rintro i d s _ hx ⟨rfl, t, ht, v, rfl⟩ N hN
    rw [List.getElem?_map] at hx
    cases en : ns[i]? with
    | none => rw [en] at hx; cases hx
    | some n =>
      rw [en] at hx; cases hx
      have hlt := (List.getElem?_eq_some_iff.mp en).1
      have hnt : n ∉ ns.take i := fun h => by
        obtain ⟨j, hj, e⟩ := List.mem_take_iff_getElem.mp h
        have hj' : j < i := by omega
        have e2 : ns[i] = n := by rw [List.getElem?_eq_getElem hlt] at en; exact Option.some.inj en
        have := (List.getElem_inj (i := j) (j := i) (h₀ := by omega) (h₁ := hlt) hd).mp (e.trans e2.symm)
        omega
      have hmem : n ∈ ns.take (i + 1) := by rw [← take_snoc en]; simp
      have hl1 : (ns.take i).length ≤ 4 := by rw [List.length_take]; omega
      have hl2 : (ns.take (i + 1)).length ≤ 4 := by rw [List.length_take]; omega
      walk_at "b"
      refine ⟨L, rfl, hm, h1, fun x x0 x1 => ?_⟩
      walk_at "b"
      rw [put_new hnt, take_snoc en]
      refine ⟨by rw [tmL_len]; omega, ?_⟩
      refine below_i hm (by decide) (by decide) fun r r0 r1 => ?_
      have ht1 : ∀ z, 0 ≤ z → z < L → ∀ m ∈ ns.take (i + 1), 0 ≤ updT t n z m ∧ updT t n z m < L := fun z z0 z1 m hm' => by
        unfold updT
        by_cases e : m = n
        · rw [if_pos e]; exact ⟨z0, z1⟩
        · rw [if_neg e]
          rw [← take_snoc en] at hm'
          rcases List.mem_append.mp hm' with h | h
          · exact ht m h
          · exact (e (List.mem_singleton.mp h)).elim
      walk_at "b"
      refine br_d (fun hr => ?_) (fun hr => ?_)
      · walk_at "b"
        refine pick_i hm (by simp) (by simp) fun y hy => ?_
        have hy' : ∃ z : Int, y = .int z := by
          simp only [List.mem_cons, List.not_mem_nil, or_false] at hy
          rcases hy with h | h | h | h <;> exact ⟨_, h⟩
        obtain ⟨z, rfl⟩ := hy'
        walk_at "b"
        refine ⟨by omega, ?_⟩
        walk_at "b"
        rw [put_old hmem]
        refine ⟨by rw [tmL_len]; omega, hN _ _ ⟨rfl, _, ?_, _, rfl⟩⟩
        intro m hm'
        unfold updT
        by_cases e : m = n
        · rw [if_pos e]; exact ⟨Int.emod_nonneg _ (by omega), Int.emod_lt_of_pos _ (by omega)⟩
        · rw [if_neg e]; exact ht1 x x0 x1 m hm'
      · walk_at "b"
        exact hN _ _ ⟨rfl, _, ht1 x x0 x1, _, rfl⟩
  · rintro s _ ⟨rfl, t, ht, v, rfl⟩
    rw [show ns.take (ns.map D.str).length = ns by rw [List.length_map]; exact List.take_length] at ht ⊢
    walk_at "b"
    exact k t ht
end

end LW
namespace LW
open PySem PySem.Spec PyProof.Rows L2
open LA
/-! the law's start: the source of numbers is the only object -/
section
variable {P : Program} {w : World} {K : PySem.W.Frag} {mg : Str → Option Value} {base : Heap}
def sp_law (K : PySem.W.Frag) : Sp := fun vs H Q _ => ∃ (a : Addr) (ns : List Int), vs = [.ref a] ∧ SqL K H a (ns.map V.int) ∧ ns.length ≤ 63 ∧ ∀ H', Q (.bl true) H'
theorem law_start {W : WX} {a : aS} {H H' : Hp} {p : Addr} {n : Nat} {σ : L2.St} {Q : VK} {nx : L2.St → Hp → Prop} (hp : H p = none) (e : Same H H') (rg : Rg H' p) (hσ : σ[1]? = some (some (.ref p))) (hl : σ.length = n + 2) (k : ∀ H', Q (.bl true) H')
    (h : a { nx := fun _ _ => False, rt := fun d _ => d = .bl true } (none :: some (.fr (.ptr 0)) :: List.replicate n none) [.rng]) : cS K ⟨W, none⟩ a { nx := nx, rt := Q } σ H' := by
  have sl : ∀ (i : Nat) (av : AV), (none :: some (AV.fr (.ptr 0)) :: List.replicate n none : ASt)[i]? = some (some av) → i = 1 ∧ av = .fr (.ptr 0) := fun i av h => by
    match i with
    | 0 => cases h
    | 1 => exact ⟨rfl, by simpa using h.symm⟩
    | i + 2 =>
      have h : (List.replicate n (none : Option AV))[i]? = some (some av) := h
      have := List.eq_of_mem_replicate (List.mem_of_getElem? h)
      cases this
  refine ⟨(⟨H, [], fun _ => none, none⟩ : Bs none), ⟨fun _ => none, [p], none⟩, [.rng], _, { nx := fun _ _ => False, rt := fun d _ => d = .bl true }, ?_, h, ?_⟩
  · refine ⟨⟨fun _ _ h => (nomatch h), by simp, fun _ _ => rfl, fun j m hj => ?_, rfl⟩, fun b o _ hb => e b o hb, fun b hb => ?_, fun _ h => (nomatch h), fun _ _ h => (nomatch h), by simp [hl], fun i av hi => ?_, fun i j q mi mj h1 => ?_, fun _ _ h => (nomatch h), fun _ _ h => (nomatch h)⟩
    · match j, hj with
      | 0, hj =>
        have : m = .rng := by simpa using hj.symm
        subst this
        obtain ⟨ns, h1, h2⟩ := rg
        exact ⟨p, rfl, .rng h1 h2⟩
      | j + 1, hj => simp at hj
    · right
      have : b = p := by simpa using hb
      rw [this]; exact hp
    · obtain ⟨rfl, rfl⟩ := sl i av hi
      exact ⟨.ref p, hσ, .ptr rfl⟩
    · obtain ⟨_, h⟩ := sl i _ h1
      cases h
  · refine ⟨fun _ _ _ _ _ _ _ q => q.elim, fun _ _ _ _ _ _ _ q => q.elim, fun _ _ _ _ _ _ _ q => q.elim, fun w' ms' H2 s' σ' v d le L r q => ?_, fun _ _ _ _ _ _ _ _ _ _ _ q => q.elim⟩
    have q : d = .bl true := q
    subst q
    cases r
    exact k H2
end

end LW
namespace LW
open PySem PySem.Spec PyProof.Rows L2
open LA
theorem valD_in {kvs : List (Key × D)} {k : Key} {v : D} (h : valD kvs k = some v) : (k, v) ∈ kvs := by
  unfold valD at h
  rw [Option.map_eq_some_iff] at h
  obtain ⟨⟨k', v'⟩, h1, h2⟩ := h
  have h3 := List.find?_some h1
  have : k' = k := of_decide_eq_true h3
  subst this
  cases h2
  exact List.mem_of_find?_eq_some h1
theorem valD_put (kvs : List (Key × D)) (k : Key) (y : D) : valD (putDK kvs k y) k = some y := by
  unfold putDK
  split
  · rename_i h
    induction kvs with
    | nil => simp at h
    | cons p r ih =>
      obtain ⟨k', x⟩ := p
      unfold valD
      by_cases e : k' = k
      · simp [e]
      · simp only [List.map_cons, if_neg e, List.find?_cons, decide_eq_false e]
        refine ih ?_
        simpa [e] using h
  · rename_i h
    unfold valD
    rw [List.find?_append]
    rw [show List.find? (fun kv => decide (kv.1 = k)) kvs = none by
      rw [List.find?_eq_none]
      intro p hp e
      exact h (List.any_eq_true.mpr ⟨p, hp, e⟩)]
    simp
theorem put_mem {kvs : List (Key × D)} {k j : Key} {y v : D} (h : valD (putDK kvs k y) j = some v) : v = y ∨ ∃ i, (i, v) ∈ kvs := by
  have h := valD_in h
  unfold putDK at h
  split at h
  · obtain ⟨p, hp, e⟩ := List.mem_map.mp h
    split at e
    · left; cases e; rfl
    · right; exact ⟨j, e ▸ hp⟩
  · rcases List.mem_append.mp h with h | h
    · exact .inr ⟨j, h⟩
    · left
      have := List.mem_singleton.mp h
      cases this; rfl
theorem tm_mem {ns : List Str} {t : Tm} {k : Key} {v : D} (h : (k, v) ∈ tmL ns t) : ∃ z, v = .int z := by
  obtain ⟨n, _, e⟩ := List.mem_map.mp h
  cases e; exact ⟨_, rfl⟩
theorem put_bad {ns : List Str} {t : Tm} {L : Int} {x : Str} {y : D} (hb : ∀ z, y = .int z → ¬ (0 ≤ z ∧ z < L)) : ¬ okT (putDK (tmL ns t) (.inr x) y) ns L := by
  rintro ⟨h1, h2⟩
  by_cases hx : x ∈ ns
  · obtain ⟨v, e, h⟩ := h2 x hx
    rw [valD_put] at e
    cases e
    exact hb v rfl h
  · unfold putDK at h1
    rw [if_neg (fun z => ?_)] at h1
    · simp [tmL_len] at h1
    · rw [List.any_eq_true] at z
      obtain ⟨p, hp, e⟩ := z
      obtain ⟨n, hn, rfl⟩ := List.mem_map.mp hp
      exact hx (Sum.inr.inj (of_decide_eq_true e) ▸ hn)
theorem drop_bad {ns : List Str} {t : Tm} {L : Int} {x : Str} (hx : x ∈ ns) : ¬ okT (dropDK (tmL ns t) (.inr x)) ns L := by
  rintro ⟨h1, h2⟩
  obtain ⟨v, e, _⟩ := h2 x hx
  have := valD_in e
  unfold dropDK at this
  have := (List.mem_filter.mp this).2
  simp at this
theorem run_plain {L : Int} {t : Tm} {o : Oc} {rs : List Ru} : plainD (runD L t o rs) = true := by
  unfold runD
  cases (runK L t o rs 0).1 <;> simp [Wh.ds, plainD, plainL]
theorem run_eqd {L : Int} {t : Tm} {o : Oc} {rs : List Ru} : Eqd 2 (runD L t o rs) := by
  unfold runD
  cases (runK L t o rs 0).1 <;> simp [Wh.ds, Eqd]
theorem same_tm {ns : List Str} {t : Tm} : ∀ p ∈ tmL ns t, flatD p.2 = true ∧ valD (tmL ns t) p.1 = some p.2 := by
  intro p hp
  obtain ⟨n, hn, rfl⟩ := List.mem_map.mp hp
  exact ⟨rfl, valD_tm hn⟩
section
variable {P : Program} {w : World} {K : PySem.W.Frag} {mg : Str → Option Value} {base : Heap}
theorem ru_of {ns : List Str} {r : Ru} (h : RuN ns r) : r.wf ns := ⟨h.c, h.o, h.cnt, by have := h.d1; omega, by have := h.d2; omega⟩
theorem ok_law (T : Txt K mg) {fd : FuncData} (F : HX.FdAt K "law" "law" s_law (He.ga K "law") fd) : FnOk P w K mg base (L2N.CX P w) 30 (He.ga K "law") fd ["_law_script"] (sp_law K) := by
  have g__law_random := ok__law_random (P := P) (w := w) (base := base) T
  have g__law_length := ga__law_length (P := P) (w := w) (base := base) T
  have g__law_names := ga__law_names (P := P) (w := w) (base := base) T
  have g__law_below := ga__law_below (P := P) (w := w) (base := base) T
  have g__law_rules := ga__law_rules (P := P) (w := w) (base := base) T
  have g__law_outcome := ga__law_outcome (P := P) (w := w) (base := base) T
  have g__law_drawn := ga__law_drawn (P := P) (w := w) (base := base) T
  have g__law_run := ga__law_run (P := P) (w := w) (base := base) T
  have g__law_equal := ga__law_equal (P := P) (w := w) (base := base) T 3
  have g_run := ga_run (P := P) (w := w) (base := base) T
  have g__law_pick := ga__law_pick (P := P) (w := w) (base := base) T
  have g__law_refused := ga__law_refused (P := P) (w := w) (base := base) T
  have k_Program := gk_Program (P := P) (w := w) (base := base) T
  have k_Day := gk_Day (P := P) (w := w) (base := base) T
  refine HX.fnok_of F sc_law (fun vs H Q E h => ?_) (fun cdv A outer s H vs Q E hr h => ⟨_, pss_cons (ps_set (i := 1) sc_law.nd rfl (Or.inl rfl) (HX.pe_g g__law_random (hr.mono (by first | decide | omega)) (fun σ => L2N.passAt (W := fun cl ad _ H => E cl ad H) HX.takesO σ) rfl (pa_cons (pv 0) (pa_cons pe_int pa_nil)))) (show LA.ASs _ ⟨fun cl ad _ H => E cl ad H, none⟩ _ _ from (LA.ass_cons (LA.as_set (i := 2) sc_law.nd rfl (Or.inl rfl) (LA.ae_call HX.takesO g__law_length (hr.mono (by first | decide | omega)) rfl (LA.aa_cons (LA.ae_var (pv 1)) LA.aa_nil)))
  (LA.ass_cons (LA.as_set (i := 3) sc_law.nd rfl (Or.inl rfl) (LA.ae_call HX.takesO g__law_names (hr.mono (by first | decide | omega)) rfl (LA.aa_cons (LA.ae_var (pv 1)) (LA.aa_cons (LA.ae_bin LA.oa_add LA.ae_int (LA.ae_call HX.takesO g__law_below (hr.mono (by first | decide | omega)) rfl (LA.aa_cons (LA.ae_var (pv 1)) (LA.aa_cons LA.ae_int LA.aa_nil)))) LA.aa_nil))))
  (LA.ass_cons (LA.as_set (i := 4) sc_law.nd rfl (Or.inl rfl) (LA.ae_call HX.takesO g__law_rules (hr.mono (by first | decide | omega)) rfl (LA.aa_cons (LA.ae_var (pv 1)) (LA.aa_cons (LA.ae_var (pv 3)) (LA.aa_cons (LA.ae_var (pv 2)) (LA.aa_cons LA.ae_int LA.aa_nil))))))
  (LA.ass_cons (LA.as_set (i := 5) sc_law.nd rfl (Or.inl rfl) (LA.ae_call HX.takesO g__law_outcome (hr.mono (by first | decide | omega)) rfl (LA.aa_cons (LA.ae_var (pv 1)) (LA.aa_cons (LA.ae_var (pv 3)) (LA.aa_cons (LA.ae_var (pv 2)) LA.aa_nil)))))
  (LA.ass_cons (LA.as_set (i := 6) sc_law.nd rfl (Or.inl rfl) (LA.ae_make HX.takesO k_Program (hr.mono (by first | decide | omega)) rfl (LA.aa_cons (LA.ae_var (pv 3)) (LA.aa_cons (LA.ae_var (pv 4)) (LA.aa_cons (LA.ae_var (pv 5)) LA.aa_nil)))))
  (LA.ass_cons (LA.as_for (passes_of rfl) rfl (LA.ai_range1 rfl T.n_range LA.ae_int) (LA.ag_name (pg_name (i := 7) sc_law.nd rfl (Or.inl rfl))) (LA.ass_cons (LA.as_setCallC (j := 8) HX.takesO (by decide) sc_law.nd rfl (Or.inl rfl) g__law_drawn (hr.mono (by first | decide | omega)) rfl (LA.aa_cons (LA.ae_var (pv 1)) (LA.aa_cons (LA.ae_var (pv 3)) (LA.aa_cons (LA.ae_var (pv 2)) LA.aa_nil))))
  (LA.ass_cons (LA.as_own (i := 9) (by decide) sc_law.nd rfl (Or.inl rfl) (LA.fe_dictO (i := 8) rfl T.n_dict (pv 8)))
  (LA.ass_cons (LA.as_set (i := 10) sc_law.nd rfl (Or.inl rfl) (LA.ae_callO (i := 9) HX.takesO g__law_run (hr.mono (by first | decide | omega)) rfl (LA.aao_cons (LA.ae_var (pv 4)) (LA.aao_cons (LA.ae_var (pv 5)) (LA.aao_cons (LA.ae_var (pv 2)) (LA.aao_own (pv 9) LA.aao_nil))))))
  (LA.ass_one (LA.as_if (LA.at_bool (LA.aw_or (LA.at_not (LA.at_val (LA.ae_call HX.takesO g__law_equal (hr.mono (by first | decide | omega)) rfl (LA.aa_cons (LA.ae_callO (i := 8) HX.takesO g_run (hr.mono (by first | decide | omega)) rfl (LA.aao_cons (LA.ae_var (pv 6)) (LA.aao_cons (LA.ae_make HX.takesO k_Day (hr.mono (by first | decide | omega)) rfl (LA.aa_cons (LA.ae_var (pv 2)) LA.aa_nil)) (LA.aao_own (pv 8) LA.aao_nil)))) (LA.aa_cons (LA.ae_var (pv 10)) LA.aa_nil))))) (LA.aw_or1 (LA.at_sameO (Nat.lt_of_le_of_lt (Nat.le_add_right _ 64) hr.units) (pv 8) (pv 9))))) (LA.ass_one (LA.as_ret LA.ae_bl)) LA.ass_nil))))))
  (LA.ass_cons (LA.as_set (i := 11) sc_law.nd rfl (Or.inl rfl) (LA.ae_call HX.takesO g__law_pick (hr.mono (by first | decide | omega)) rfl (LA.aa_cons (LA.ae_var (pv 1)) (LA.aa_cons (LA.ae_lst (LA.aa_cons (LA.ae_ix LA.ia_any (LA.ae_var (pv 3)) LA.ae_int (fun _ _ => rfl)) (LA.aa_cons (LA.ae_ix LA.ia_any (LA.ae_var (pv 3)) (LA.ae_un LA.ua_neg LA.ae_int) (fun _ _ => rfl)) (LA.aa_cons LA.ae_str LA.aa_nil)))) LA.aa_nil))))
  (LA.ass_cons (LA.as_putO (hu_of hr) (pv 8) (LA.ae_var (pv 11)) (LA.ae_call HX.takesO g__law_pick (hr.mono (by first | decide | omega)) rfl (LA.aa_cons (LA.ae_var (pv 1)) (LA.aa_cons (LA.ae_lst (LA.aa_cons (LA.ae_un LA.ua_neg LA.ae_int) (LA.aa_cons (LA.ae_var (pv 2)) (LA.aa_cons LA.ae_bl (LA.aa_cons LA.ae_non (LA.aa_cons LA.ae_str LA.aa_nil)))))) LA.aa_nil))) rfl)
  (LA.ass_cons (LA.as_if (LA.at_not (LA.at_val (LA.ae_callO (i := 8) HX.takesO g__law_refused (hr.mono (by first | decide | omega)) rfl (LA.aao_cons (LA.ae_var (pv 6)) (LA.aao_cons (LA.ae_make HX.takesO k_Day (hr.mono (by first | decide | omega)) rfl (LA.aa_cons (LA.ae_var (pv 2)) LA.aa_nil)) (LA.aao_own (pv 8) LA.aao_nil)))))) (LA.ass_one (LA.as_ret LA.ae_bl)) LA.ass_nil)
  (LA.ass_cons (LA.as_dpop (pv 9) (LA.ae_ix LA.ia_any (LA.ae_var (pv 3)) LA.ae_int (fun _ _ => rfl)) ⟨rfl, rfl, rfl, rfl⟩)
  (LA.ass_one (LA.as_ret (LA.ae_and (LA.ae_callO (i := 9) HX.takesO g__law_refused (hr.mono (by first | decide | omega)) rfl (LA.aao_cons (LA.ae_var (pv 6)) (LA.aao_cons (LA.ae_make HX.takesO k_Day (hr.mono (by first | decide | omega)) rfl (LA.aa_cons (LA.ae_var (pv 2)) LA.aa_nil)) (LA.aao_own (pv 9) LA.aao_nil)))) (LA.ae_one (LA.ae_call HX.takesO g__law_refused (hr.mono (by first | decide | omega)) rfl (LA.aa_cons (LA.ae_var (pv 6)) (LA.aa_cons (LA.ae_make HX.takesO k_Day (hr.mono (by first | decide | omega)) rfl (LA.aa_cons (LA.ae_var (pv 2)) LA.aa_nil)) (LA.aa_cons (LA.ae_new LA.fe_dk) LA.aa_nil))))))))))))))))))), ?_⟩)
  · obtain ⟨a, ns, rfl, _⟩ := h
    rfl
  obtain ⟨a, ns, rfl, hS, h63, k⟩ := h
  refine ⟨.ref a, rfl, ?_⟩
  refine ⟨a, ns, _, rfl, hS, h63, fun p H1 hp e rg => ?_⟩
  refine law_start (n := 10) hp e rg rfl rfl k ?_
  walk_at "b"
  refine ⟨rfl, rfl, fun L h1 h2 => ?_⟩
  walk_at "b"
  refine below_i rfl (by decide) (by decide) fun r r0 r1 => ?_
  walk_at "b"
  refine ⟨1 + r, rfl, rfl, by omega, by omega, fun ns hN hx => ?_⟩
  have hg : Gn [.rng] ns L := ⟨rfl, hN, h1, h2⟩
  simp only [nsD_list]
  walk_at "b"
  refine hg.rules (by decide) (by decide) fun rs hl hr => ?_
  walk_at "b"
  refine hg.outcome fun o ho => ?_
  walk_at "b"
  have hrw : ∀ r ∈ rs, r.wf ns := fun r h => ru_of (hr r h)
  have hc := ho.cnt
  have hd := ho.dep
  have hl5 : rs.length ≤ 5 := by simpa using hl
  refine mk_ok hN (by omega) hrw ho.wf (by omega) (by omega) ?_
  walk_at "b"
  refine forL_at (fun i s ms' => ms' = [.rng] ∧ ∃ a b c d : Option AV, s = [none, some (.fr (.ptr 0)), some (.fr (.int L)), some (.fr (.tup (ns.map D.str))), some (.fr (.tup (rs.map Ru.d))), some (.fr o.d), some (.fr (prO ns rs o)), a, b, c, d, none] ∧ (0 < i → ∃ t : Tm, b = some (.ow (.dk (tmL ns t))) ∧ c = some (.ow (.dk (tmL ns t))))) ⟨rfl, none, none, none, none, rfl, fun h => absurd h (Nat.lt_irrefl 0)⟩ ?_ ?_
  · rintro i d s _ hd ⟨rfl, a, b, c, e, rfl, _⟩ N hN'
    walk_at "b"
    refine ⟨ns, L, rfl, rfl, h1, hN.2.2.1, hN.2.1, fun t ht => ⟨_, rfl, rfl, rfl, ?_, ?_⟩⟩
    · simp [flatM, tmL, flatD]
    walk_at "b"
    refine ⟨rs, o, L, ns, t, _, rfl, agr_tm, ⟨by omega, h2, ht⟩, hrw, ho.wf, by omega, by omega, by omega, run_plain, rfl, ?_⟩
    walk_at "b"
    refine ⟨L, rfl, h1, ?_⟩
    walk_at "b"
    refine ⟨ns, rs, o, L, t, _, rfl, by have := hN.2.1; omega, by omega, by omega, hrw, ho.wf, by omega, int_tm, fun _ => ⟨agr_tm, run_plain, rfl, ?_⟩, fun h => (h (okT_tm ht)).elim⟩
    walk_at "b"
    refine ⟨by decide, _, rfl, run_eqd, ?_⟩
    walk_at "b"
    refine ⟨same_tm, ?_⟩
    exact hN' _ _ ⟨rfl, _, _, _, _, rfl, fun _ => ⟨t, rfl, rfl⟩⟩
  · rintro s _ ⟨rfl, a, b, c, d, rfl, ht⟩
    obtain ⟨t, rfl, rfl⟩ := ht (by simp [rangeD_len])
    walk_at "b"
    have n0 : 0 < ns.length := hN.1
    have e0 : ns[0]? = some ns[0] := List.getElem?_eq_getElem n0
    rw [List.getElem?_map, e0]
    walk_at "b"
    obtain ⟨x, hx1, ex⟩ : ∃ x, x ∈ ns ∧ atI (ns.map D.str) (-1) = some (.str x) := by
      refine ⟨ns[ns.length - 1], List.getElem_mem _, ?_⟩
      have := LA.atI_neg (ns.map D.str) 1 (by decide) (by rw [List.length_map]; omega)
      rw [show (-((1 : Nat) : Int)) = -1 from rfl] at this
      rw [this, List.length_map, List.getElem?_map, List.getElem?_eq_getElem (by omega)]
      rfl
    rw [ex]
    walk_at "b"
    refine pick_i rfl (by simp) (by simp) fun x hx => ?_
    obtain ⟨x, rfl⟩ : ∃ z, x = .str z := by
      simp only [List.mem_cons, List.not_mem_nil, or_false] at hx
      rcases hx with h | h | h <;> exact ⟨_, h⟩
    walk_at "b"
    refine pick_i rfl (by simp) (by simp) fun y hy => ?_
    have hy2 : (intD y).isSome = true := by
      simp only [List.mem_cons, List.not_mem_nil, or_false] at hy
      rcases hy with rfl | rfl | rfl | rfl | rfl <;> rfl
    have hy3 : ∀ z, y = .int z → ¬ (0 ≤ z ∧ z < L) := by
      simp only [List.mem_cons, List.not_mem_nil, or_false] at hy
      rcases hy with rfl | rfl | rfl | rfl | rfl <;> intro z e <;> cases e <;> omega
    walk_at "b"
    refine ⟨by rw [tmL_len]; have := hN.2.1; omega, ?_⟩
    walk_at "b"
    refine ⟨L, rfl, h1, ?_⟩
    walk_at "b"
    refine ⟨ns, rs, o, L, _, rfl, by have := hN.2.1; omega, by omega, by omega, hrw, ho.wf, by omega, fun n hn v hv => ?_, put_bad hy3, rfl, rfl, ?_⟩
    · rcases put_mem hv with rfl | ⟨i, hi⟩
      · exact hy2
      · obtain ⟨z, rfl⟩ := tm_mem hi
        rfl
    walk_at "b"
    rw [List.getElem?_map, e0]
    walk_at "b"
    have hm0 : ns[0] ∈ ns := List.getElem_mem n0
    have hv0 : valD (tmL ns t) (.inr ns[0]) = some (.int (t ns[0])) := valD_tm hm0
    rw [hv0]
    walk_at "b"
    refine ⟨L, rfl, h1, ?_⟩
    walk_at "b"
    refine ⟨ns, rs, o, L, _, rfl, by have := hN.2.1; omega, by omega, by omega, hrw, ho.wf, by omega, fun n hn v hv => ?_, drop_bad hm0, rfl, rfl, ?_⟩
    · obtain ⟨z, rfl⟩ := tm_mem (List.mem_filter.mp (valD_in hv)).1
      rfl
    walk_at "b"
    refine ⟨L, rfl, h1, ?_⟩
    walk_at "b"
    refine ⟨ns, rs, o, L, _, rfl, by have := hN.2.1; omega, by omega, by omega, hrw, ho.wf, by omega, fun n hn v hv => ?_, fun h => ?_, ?_⟩
    · cases hv
    · have := h.1
      simp at this; omega
    walk_at "b"
    first | done | rfl
end

end LW
namespace LW
open PySem PySem.Spec PyProof.Rows L2
theorem txt_of {K : PySem.W.Frag} {h : Heap} {mg : Str → Option Value} (X : K.In h) (G : h.Ns mainGlobals mg) (c : HX.SaysX hfa hfn K) : Txt K mg :=
  ⟨He.free_ok X G (c.fact 0),
   He.free_ok X G (c.fact 1),
   He.free_ok X G (c.fact 2),
   LA.oe_ok (c.fact 3),
   He.glo_ok X G (c.fact 4),
   He.noat_ok (c.fact 5),
   He.noat_ok (c.fact 6),
   c.def_ 0,
   He.free_ok X G (c.fact 7),
   He.free_ok X G (c.fact 8),
   He.free_ok X G (c.fact 9),
   LA.strTup_ok X G (c.fact 10),
   LA.strTup_ok X G (c.fact 11),
   LA.strTup_ok X G (c.fact 12),
   He.free_ok X G (c.fact 13),
   He.free_ok X G (c.fact 14),
   He.free_ok X G (c.fact 15),
   He.str_ok X G (c.fact 16),
   He.int_ok X G (c.fact 17),
   He.free_ok X G (c.fact 18),
   He.free_ok X G (c.fact 19),
   LA.strTup_ok X G (c.fact 20),
   He.free_ok X G (c.fact 21),
   He.int_ok X G (c.fact 22),
   He.int_ok X G (c.fact 23),
   He.cls_ok (c.fact 24),
   He.noat_ok (c.fact 25),
   He.noat_ok (c.fact 26),
   He.noat_ok (c.fact 27),
   He.free_ok X G (c.fact 28),
   He.int_ok X G (c.fact 29),
   He.mkr_ok (c.fact 30),
   He.glo_ok X G (c.fact 31),
   He.free_ok X G (c.fact 32),
   He.int_ok X G (c.fact 33),
   He.free_ok X G (c.fact 34),
   He.free_ok X G (c.fact 35),
   He.free_ok X G (c.fact 36),
   He.cls_ok (c.fact 37),
   He.noat_ok (c.fact 38),
   HX.exk_ok X G (c.fact 39),
   He.mkr_ok (c.fact 40),
   He.glo_ok X G (c.fact 41),
   HX.exk_ok X G (c.fact 42),
   He.free_ok X G (c.fact 43),
   of_decide_eq_true (c.fact 44),
   of_decide_eq_true (c.fact 45),
   of_decide_eq_true (c.fact 46),
   of_decide_eq_true (c.fact 47),
   of_decide_eq_true (c.fact 48),
   He.glo_ok X G (c.fact 49),
   c.def_ 1,
   He.glo_ok X G (c.fact 50),
   c.def_ 2,
   He.glo_ok X G (c.fact 51),
   c.def_ 3,
   He.glo_ok X G (c.fact 52),
   c.def_ 4,
   He.glo_ok X G (c.fact 53),
   c.def_ 5,
   He.glo_ok X G (c.fact 54),
   c.def_ 6,
   He.glo_ok X G (c.fact 55),
   c.def_ 7,
   He.glo_ok X G (c.fact 56),
   c.def_ 8,
   He.glo_ok X G (c.fact 57),
   c.def_ 9,
   He.glo_ok X G (c.fact 58),
   c.def_ 10,
   He.glo_ok X G (c.fact 59),
   c.def_ 11,
   He.glo_ok X G (c.fact 60),
   c.def_ 12,
   He.glo_ok X G (c.fact 61),
   c.def_ 13,
   He.glo_ok X G (c.fact 62),
   c.def_ 14,
   He.glo_ok X G (c.fact 63),
   c.def_ 15,
   He.glo_ok X G (c.fact 64),
   c.def_ 16,
   He.glo_ok X G (c.fact 65),
   c.def_ 17,
   He.glo_ok X G (c.fact 66),
   c.def_ 18,
   He.glo_ok X G (c.fact 67),
   c.def_ 19,
   He.glo_ok X G (c.fact 68),
   c.def_ 20,
   He.glo_ok X G (c.fact 69),
   c.def_ 21,
   He.glo_ok X G (c.fact 70),
   c.def_ 22,
   He.glo_ok X G (c.fact 71),
   c.def_ 23,
   He.glo_ok X G (c.fact 72),
   c.def_ 24,
   He.glo_ok X G (c.fact 73),
   c.def_ 25,
   He.glo_ok X G (c.fact 74),
   c.def_ 26,
   He.glo_ok X G (c.fact 75),
   c.def_ 27,
   He.glo_ok X G (c.fact 76),
   c.def_ 28,
   c.def_ 29,
   He.glo_ok X G (c.fact 77),
   c.def_ 30,
   He.glo_ok X G (c.fact 78),
   c.def_ 31,
   He.glo_ok X G (c.fact 79),
   c.def_ 32,
   He.glo_ok X G (c.fact 80),
   c.def_ 33,
   He.glo_ok X G (c.fact 81),
   c.def_ 34,
   He.glo_ok X G (c.fact 82),
   HX.prop_ok (c.fact 83),
   c.def_ 35,
   c.def_ 36,
   c.def_ 37,
   He.glo_ok X G (c.fact 84),
   c.def_ 38,
   He.glo_ok X G (c.fact 85),
   c.def_ 39,
   He.glo_ok X G (c.fact 86),
   c.def_ 40,
   He.glo_ok X G (c.fact 87),
   c.def_ 41,
   He.glo_ok X G (c.fact 88),
   c.def_ 42,
   He.glo_ok X G (c.fact 89),
   c.def_ 43,
   He.glo_ok X G (c.fact 90),
   c.def_ 44,
   He.glo_ok X G (c.fact 91),
   c.def_ 45,
   He.glo_ok X G (c.fact 92),
   c.def_ 46,
   He.glo_ok X G (c.fact 93)⟩
theorem hall {P : Program} {w : World} {K : PySem.W.Frag} {h : Heap} {mg : Str → Option Value} {f : Addr} (X : K.In h) (G : h.Ns mainGlobals mg) (hlf : mg ("law" : Str) = some (.ref f)) (c : HX.SaysX hfa hfn K) :
    ∃ fd : FuncData, (∀ (s : Shared) (v : Value), BindsTo s fd ⟨[v], []⟩ [("_law_script", v)]) ∧ ∀ base : Heap, K.In base → base.Ns mainGlobals mg → FnOk P w K mg base CX0 30 f fd ["_law_script"] (sp_law K) := by
  have T := txt_of X G c
  have e := hlf.symm.trans T.g_law
  cases e
  obtain ⟨fd, F⟩ := T.d_law
  have b := FunD.bindsA (ps := ["_law_script"]) F fun _ _ _ _ _ _ us hl => match us, hl with | [_], _ => rfl
  exact ⟨fd, fun s v => b s [v] rfl, fun base _ _ => HX.fnok0 (ok_law (P := P) (w := w) (base := base) T F) (fun _ _ _ _ z => z)⟩
end LW
open PySem PySem.W PySem.Calls PyProof.Rows
set_option maxHeartbeats 0 in
theorem PySem.Challenge.cw_overmidnight_k08_whole_runs_holds : PySem.Challenge.rw_overmidnight_k08_whole_runs.Holds := by
  w_on; o_law
  refine HandSHeadRun.head_any (r := OpenLaw.row PySem.Challenge.rw_overmidnight_k08_whole_runs) (q := view (OpenLaw.row PySem.Challenge.rw_overmidnight_k08_whole_runs).prog [69]) (H := LW.hk) (ob := LW.ob) (M := 6000) (loose := LW.hnm) (d := HandSHeadRun.topDef (OpenLaw.row PySem.Challenge.rw_overmidnight_k08_whole_runs).prog 69) (kwd := []) LW.ob_eq
    (by kernel_rfl) (fun s => by kernel_rfl) LW.hrun (by kernel_rfl) (by kernel_rfl) (by kernel_rfl) (by rfl) (by first | assumption | decide +kernel) (by decide +kernel) ⟨rfl, rfl, rfl, rfl, rfl, by decide +kernel⟩ ?hw ?hc
  case hw => w_witness2
  case hc =>
    refine L2.walk_ofE (l := PySem.Challenge.rw_overmidnight_k08_whole_runs) (n := 63) (k := 30) (x := "_law_script") (CX := L2.CX0) rfl (by decide) (by kernel_rfl) ⟨rfl, by decide, by decide⟩ ?F (fun _ _ _ _ z => z)
    intro w mg fa h Y G hmg0
    obtain ⟨K, KX, c⟩ := Y
    have hmg : mg ("law" : PySem.Str) = some (.ref fa) := by
      rw [← show (HandSHeadRun.topDef (OpenLaw.row PySem.Challenge.rw_overmidnight_k08_whole_runs).prog 69).name = ("law" : PySem.Str) by kernel_rfl]
      exact hmg0
    obtain ⟨fd, hb, hF⟩ := LW.hall (P := (PySem.Challenge.rw_overmidnight_k08_whole_runs).prog) (w := w) KX G hmg c
    exact ⟨K, fd, LW.sp_law K, KX, hb, fun H a ns hl _ hS => ⟨a, ns, rfl, hS, hl, fun _ => rfl⟩, hF⟩
