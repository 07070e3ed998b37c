import PyProof.Rows.All
import Wide.All
import OpenK.AllK
import Wide.FinOn
import PyProof.EqAt
import PyProof.EqKinds
import PyProof.TupleCall
import Open.SpecLaws
import KE.OsGo
import PySem.Challenge.RW_eventsieve_s01_answers
import HandS.ForSpec
import HandS.Comp
import HandS.Dict
import HandS.Iter
import HandS.Walk
import HandS.SortKw
import HandS.NoneIn
import HandS.Text
import HandS.TupAny
import HandS.Conv
import HandS.ExcCtx
import HandS.SuiteRaise
import HandS.RaiseFrom
import HandS.ExcInit
import HandS.ExcInitHot
import HandS.ExcField
import HandS.CallLocal
import HandS.CallRecv
import HandS.Evl
import PyProof.ZipIter
import KE.KDictZip
import HandS.GenList
set_option Elab.async false
set_option linter.all false
set_option maxRecDepth 100000
set_option maxHeartbeats 4000000
/-! Eventsieve, the walk: the base -/
namespace Ev
open PySem PySem.Spec PyProof.Rows L2
/-- a whole number, a text, of the module's top -/
def GI (mg : Str → Option Value) (x : Str) (i : Int) : Prop := ∃ t, mg x = some (.int i t)
def GS (mg : Str → Option Value) (x z : Str) : Prop := ∃ t, mg x = some (.str z t)
/-- a tuple of the written part -/
def KTup (K : PySem.W.Frag) (a : Addr) (xs : List V) : Prop :=
  ∃ (t : Obj) (vs : Array Value) (m : Nat), K.lookup a = some t ∧ t.cls = .type "tuple" ∧ t.data = .seq vs m ∧ vs.size ≤ sizeLine ∧ Vals xs vs.toList
theorem KTup.sq {K : PySem.W.Frag} {H : Hp} {a : Addr} {xs : List V} (h : KTup K a xs) : SqT K H a xs := .inr h
/-- how the arguments of a def without defaults are bound -/
def BindF (x qual : Str) (st : Stmt) (ps : List Str) : Prop := ∀ (kV doc pm : Value) (an : Option Addr) (cdv ct : Value) (us : List Value), us.length = ps.length →
  bindArgs (PySem.W.fnOf x qual (defArgs st) (defBody st) (defScope st) .none kV doc pm an cdv ct) ⟨us, []⟩ = pure (ps.zip us)
structure DefTx (K : PySem.W.Frag) (mg : Str → Option Value) (x : Str) (st : Stmt) : Prop where
  ex : ∃ f fd, Fun K x x st f fd ∧ mg x = some (.ref f)
structure MetTx (K : PySem.W.Frag) (C : Addr) (m qual : Str) (st : Stmt) : Prop where
  ex : ∃ f fd, Fun K m qual st f fd ∧ Meth K C m f
structure IniTx (K : PySem.W.Frag) (mg : Str → Option Value) (x qual : Str) (C : Addr) (st : Stmt) : Prop where
  ex : ∃ f fd, Fun K "__init__" qual st f fd ∧ Mk K C f ∧ mg x = some (.ref C)

/-! ### defs by their promises -/
structure Cal (P : Program) (w : World) (K : PySem.W.Frag) (mg : Str → Option Value) (base : Heap) (CX : CXT) (k : Nat) (x : Str) (sp : Sp) : Prop where
  ex : ∃ (f : Addr) (fd : FuncData) (ps : List Str), FnOk P w K mg base CX k f fd ps sp ∧ mg x = some (.ref f) ∧ PySem.W.keepIn K (.ref f) = true ∧ Binds K fd ps []
structure Met (P : Program) (w : World) (K : PySem.W.Frag) (mg : Str → Option Value) (base : Heap) (CX : CXT) (k : Nat) (C : Addr) (m : Str) (sp : Sp) : Prop where
  ex : ∃ (f : Addr) (fd : FuncData) (ps : List Str), FnOk P w K mg base CX k f fd ps sp ∧ Meth K C m f ∧ Cls K C ∧ Binds K fd ps []
structure Mak (P : Program) (w : World) (K : PySem.W.Frag) (mg : Str → Option Value) (base : Heap) (CX : CXT) (k : Nat) (x : Str) (C : Addr) (sp : Sp) : Prop where
  ex : ∃ (f : Addr) (fd : FuncData) (ps : List Str), FnOk P w K mg base CX k f fd ps sp ∧ Mk K C f ∧ mg x = some (.ref C) ∧ Binds K fd ps []
abbrev BodyIs (CX : CXT) (P : Program) (w : World) (K : PySem.W.Frag) (mg : Str → Option Value) (base : Heap) (N : List Str) (qual : Str) (st : Stmt) (k : Nat) (sp : Sp) : Prop :=
  ∀ (f : Addr) (cdv : Value) (A : Around) (outer : List Env) (s : Shared) (H : Hp) (vs : List V) (Q : VK) (E : XK), Room k (A.deeper (envOfC qual (defScope st) s.heap.objs.size f cdv)) → sp vs H Q E →
    ∃ t, PSs (cxOf CX P w K mg base N qual (defScope st) f cdv A outer s H E) (defBody st) t ∧ t { nx := fun _ H' => Q .non H', rt := Q } (start N vs) H
abbrev BodyIs0 (P : Program) (w : World) (K : PySem.W.Frag) (mg : Str → Option Value) (base : Heap) (N : List Str) (qual : Str) (st : Stmt) (k : Nat) (sp : Sp) : Prop :=
  ∀ (f : Addr) (cdv : Value) (A : Around) (outer : List Env) (s : Shared) (H : Hp) (vs : List V) (Q : VK) (E : XK), Room k (A.deeper (envOfC qual (defScope st) s.heap.objs.size f cdv)) → sp vs H Q E →
    ∃ t, PSs (cxOf CX0 P w K mg base N qual (defScope st) f cdv A outer s H E).nox (defBody st) t ∧ t { nx := fun _ H' => Q .non H', rt := Q } (start N vs) H
section
variable {P : Program} {w : World} {K : PySem.W.Frag} {mg : Str → Option Value} {base : Heap} {CX : CXT} {k j : Nat} {x m qual : Str} {C : Addr} {st : Stmt} {sp sp' : Sp} {N ps : List Str}
theorem Cal.mono (c : Cal P w K mg base CX k x sp) (h : k ≤ j) : Cal P w K mg base CX j x sp := by
  obtain ⟨f, fd, ps, F, r⟩ := c.ex
  exact ⟨f, fd, ps, F.mono h, r⟩
theorem Cal.imp (c : Cal P w K mg base CX k x sp) (h : ∀ vs H Q E, sp' vs H Q E → sp vs H Q E) : Cal P w K mg base CX k x sp' := by
  obtain ⟨f, fd, ps, F, r⟩ := c.ex
  exact ⟨f, fd, ps, F.imp h, r⟩
theorem Met.imp (c : Met P w K mg base CX k C m sp) (h : ∀ vs H Q E, sp' vs H Q E → sp vs H Q E) : Met P w K mg base CX k C m sp' := by
  obtain ⟨f, fd, ps, F, r⟩ := c.ex
  exact ⟨f, fd, ps, F.imp h, r⟩
theorem Met.mono (c : Met P w K mg base CX k C m sp) (h : k ≤ j) : Met P w K mg base CX j C m sp := by
  obtain ⟨f, fd, ps, F, r⟩ := c.ex
  exact ⟨f, fd, ps, F.mono h, r⟩
theorem fn_body {f : Addr} {fd : FuncData} (F : Fun K x qual st f fd) (S : FnScope N ps (defScope st)) (len : ∀ vs H Q E, sp vs H Q E → vs.length = ps.length) (h : BodyIs CX P w K mg base N qual st k sp) : FnOk P w K mg base CX (k + 1) f fd ps sp := by
  obtain ⟨_, _, _, _, _, _, cdv, _, _, rfl, there, code⟩ := F.ex
  exact fn_of there code S len fun A outer s H vs Q E hr hsp => h _ cdv A outer s H vs Q E hr hsp
theorem body0 (h : BodyIs0 P w K mg base N qual st k sp) : BodyIs CX0 P w K mg base N qual st k sp := fun f cdv A outer s H vs Q E hr hsp => by
  obtain ⟨t, h, q⟩ := h f cdv A outer s H vs Q E hr hsp
  exact ⟨t, h.nox, q⟩
theorem cal_of (F : DefTx K mg x st) (S : FnScope N ps (defScope st)) (b : BindF x x st ps) (len : ∀ vs H Q E, sp vs H Q E → vs.length = ps.length) (h : BodyIs CX P w K mg base N x st k sp) : Cal P w K mg base CX (k + 1) x sp := by
  obtain ⟨f, fd, F, hm⟩ := F.ex
  exact ⟨f, fd, ps, fn_body F S len h, hm, F.kp, F.binds b⟩
theorem cal_of0 (F : DefTx K mg x st) (S : FnScope N ps (defScope st)) (b : BindF x x st ps) (len : ∀ vs H Q E, sp vs H Q E → vs.length = ps.length) (h : BodyIs0 P w K mg base N x st k sp) : Cal P w K mg base CX0 (k + 1) x sp := cal_of F S b len (body0 h)
theorem met_of (c : Cls K C) (F : MetTx K C m qual st) (S : FnScope N ps (defScope st)) (b : BindF m qual st ps) (len : ∀ vs H Q E, sp vs H Q E → vs.length = ps.length) (h : BodyIs CX P w K mg base N qual st k sp) : Met P w K mg base CX (k + 1) C m sp := by
  obtain ⟨f, fd, F, hm⟩ := F.ex
  exact ⟨f, fd, ps, fn_body F S len h, hm, c, F.binds b⟩
theorem met_of0 (c : Cls K C) (F : MetTx K C m qual st) (S : FnScope N ps (defScope st)) (b : BindF m qual st ps) (len : ∀ vs H Q E, sp vs H Q E → vs.length = ps.length) (h : BodyIs0 P w K mg base N qual st k sp) : Met P w K mg base CX0 (k + 1) C m sp := met_of c F S b len (body0 h)
theorem mak_of (F : IniTx K mg x qual C st) (S : FnScope N ps (defScope st)) (b : BindF "__init__" qual st ps) (len : ∀ vs H Q E, sp vs H Q E → vs.length = ps.length) (h : BodyIs CX P w K mg base N qual st k sp) : Mak P w K mg base CX (k + 1) x C sp := by
  obtain ⟨f, fd, F, hm, hg⟩ := F.ex
  exact ⟨f, fd, ps, fn_body F S len h, hm, hg, F.binds b⟩
theorem mak_of0 (F : IniTx K mg x qual C st) (S : FnScope N ps (defScope st)) (b : BindF "__init__" qual st ps) (len : ∀ vs H Q E, sp vs H Q E → vs.length = ps.length) (h : BodyIs0 P w K mg base N qual st k sp) : Mak P w K mg base CX0 (k + 1) x C sp := mak_of F S b len (body0 h)
end
/-- f(..), o.m(..), C(..) of these -/
def tCal (sp : Sp) (E : XK) (t : TA) : TE := fun σ H Q => t σ H fun vs H1 => sp vs H1 Q E
def tMet (C : Addr) (m : Str) (sp : Sp) (E : XK) (ta : TE) (t : TA) : TE := fun σ H Q => ta σ H fun x H1 => ∃ a dx fs, x = .ref a ∧ H1 a = some (.ins C dx fs) ∧ fs.lookup m = none ∧ t σ H1 fun vs H2 => sp (x :: vs) H2 Q E
def tMak (C : Addr) (sp : Sp) (E : XK) (t : TA) : TE := fun σ H Q => t σ H fun vs H1 => ∀ x dx, H1 x = none → H1 dx = none → dx ≠ x →
  sp (.ref x :: vs) (upd (upd H1 dx (.own x)) x (.ins C dx [])) (fun v H2 => v = .non ∧ Q (.ref x) H2) E
section
variable {X : Cx} {CX : CXT} {k j : Nat} {C : Addr} {x m : Str} {sp : Sp} {E : XK} {p pos apos : Pos} {e o : Expr} {es : List Expr} {ta : TE} {t : TA} {i : Int} {z : Str}
theorem TA.weak {X : Cx} {es : List Expr} {t t' : TA} (h : PA X es t) (q : ∀ σ H Q, t' σ H Q → t σ H Q) : PA X es t' := ⟨fun pos pins s σ H Q I w => h.run pos pins s σ H Q I (q σ H Q w)⟩
theorem TE.weak {X : Cx} {e : Expr} {t t' : TE} (h : PE X e t) (q : ∀ σ H Q, t' σ H Q → t σ H Q) : PE X e t' := ⟨fun pins s σ H Q I w => h.run pins s σ H Q I (q σ H Q w)⟩
theorem pe_gi (hg : Gl X x) (h : GI X.mg x i) (hd : (x == ("__debug__" : Str)) = false := by decide) : PE X (.Name x pos) (tC (.int i)) := by
  obtain ⟨t, h⟩ := h
  exact pe_glob hg h ⟨t, rfl⟩ hd
theorem pe_gs (hg : Gl X x) (h : GS X.mg x z) (hd : (x == ("__debug__" : Str)) = false := by decide) : PE X (.Name x pos) (tC (.str z)) := by
  obtain ⟨t, h⟩ := h
  exact pe_glob hg h ⟨t, rfl⟩ hd
theorem pe_cal (c : Cal X.prog X.w X.K X.mg X.base CX k x sp) (hr : Room j X.A) (hk : k ≤ j) (hg : Gl X x) (hx : Passes CX X E) (ha : PA X (e :: es) t)
    (hdb : (x == ("__debug__" : Str)) = false := by decide)
    (he : starEach (e :: es) X.env = (false, eval e X.env) :: starEach es X.env := by rfl) (plain : (backTo pos (starEach es X.env)).any (·.1) = false := by rfl) :
    PE X (.Call (.Name x p) (e :: es) [] pos) (tCal sp E t) := by
  obtain ⟨f, fd, ps, F, hm, kp, b⟩ := c.ex
  have e0 : tCall sp [] E t = tCal sp E t := by
    funext σ H Q
    unfold tCall tCal
    simp only [List.append_nil]
  rw [← e0]
  exact pe_call F (hr.mono hk) hg hm kp b .nil hx ha hdb he plain
theorem pe_cal0 (c : Cal X.prog X.w X.K X.mg X.base CX k x sp) (hr : Room j X.A) (hk : k ≤ j) (hg : Gl X x) (hx : Passes CX X E) (hdb : (x == ("__debug__" : Str)) = false := by decide) :
    PE X (.Call (.Name x p) [] [] pos) (tCal sp E tNil) := by
  obtain ⟨f, fd, ps, F, hm, kp, b⟩ := c.ex
  exact pe_call0 (dvs := []) F (hr.mono hk) hg hm kp b .nil hx hdb
theorem pe_met {pl : Sem Bool} (c : Met X.prog X.w X.K X.mg X.base CX k C m sp) (hr : Room j X.A) (hk : k ≤ j) (hx : Passes CX X E) (he : PE X o ta) (ha : PA X (e :: es) t)
    (hst : starEach (e :: es) X.env = (false, eval e X.env) :: starEach es X.env := by rfl) (hpl : (backTo pos (starEach es X.env)).any (·.1) = false := by rfl)
    (ht : eval (.Call (.Attribute o m apos) (e :: es) [] pos) X.env = (do
      let ov ← eval o X.env
      standAt apos.atName
      let (f, first) ← holding [ov] (getMethod ov m pl)
      callWith pos f first (backTo pos (starEach (e :: es) X.env)) (backToKw pos (keywordEach [] X.env))) := by rfl) :
    PE X (.Call (.Attribute o m apos) (e :: es) [] pos) (tMet C m sp E ta t) := by
  obtain ⟨f, fd, ps, F, hm, c, b⟩ := c.ex
  have e0 : tMeth C m sp [] E ta t = tMet C m sp E ta t := by
    funext σ H Q
    unfold tMeth tMet
    simp only [List.append_nil]
  rw [← e0]
  exact pe_meth (pl := pl) he c hm F (hr.mono hk) b .nil hx ha hst hpl ht
theorem pe_met0 {pl : Sem Bool} (c : Met X.prog X.w X.K X.mg X.base CX k C m sp) (hr : Room j X.A) (hk : k ≤ j) (hx : Passes CX X E) (he : PE X o ta)
    (ht : eval (.Call (.Attribute o m apos) [] [] pos) X.env =
      (eval o X.env >>= fun v => standAt apos.atName >>= fun _ => holding [v] (getMethod v m pl) >>= fun g =>
        callWith pos g.1 g.2 (backTo pos (starEach [] X.env)) (backToKw pos (keywordEach [] X.env))) := by rfl) :
    PE X (.Call (.Attribute o m apos) [] [] pos) (tMet C m sp E ta tNil) := by
  obtain ⟨f, fd, ps, F, hm, c, b⟩ := c.ex
  exact pe_meth0 (pl := pl) (dvs := []) he c hm F (hr.mono hk) b .nil hx ht
theorem pe_mak (c : Mak X.prog X.w X.K X.mg X.base CX k x C sp) (hr : Room j X.A) (hk : k + 1 ≤ j) (hg : Gl X x) (hx : Passes CX X E) (ha : PA X (e :: es) t)
    (hdb : (x == ("__debug__" : Str)) = false := by decide)
    (he : starEach (e :: es) X.env = (false, eval e X.env) :: starEach es X.env := by rfl) (plain : (backTo pos (starEach es X.env)).any (·.1) = false := by rfl) :
    PE X (.Call (.Name x p) (e :: es) [] pos) (tMak C sp E t) := by
  obtain ⟨f, fd, ps, F, M, hm, b⟩ := c.ex
  have e0 : tMake C sp [] E t = tMak C sp E t := by
    funext σ H Q
    unfold tMake tMak
    simp only [List.append_nil]
  rw [← e0]
  exact pe_make M F (hr.mono hk) hg hm b .nil hx ha hdb he plain
theorem pe_mak0 (c : Mak X.prog X.w X.K X.mg X.base CX k x C sp) (hr : Room j X.A) (hk : k + 1 ≤ j) (hg : Gl X x) (hx : Passes CX X E) (hdb : (x == ("__debug__" : Str)) = false := by decide) :
    PE X (.Call (.Name x p) [] [] pos) (tMak C sp E tNil) := by
  obtain ⟨f, fd, ps, F, M, hm, b⟩ := c.ex
  exact pe_make0 (dvs := []) M F (hr.mono hk) hg hm b .nil hx hdb
end
/-- all that was tracked stands, but what S tells -/
def But (S : Addr → Prop) (H H' : Hp) : Prop := ∀ b o, H b = some o → ¬ S b → H' b = some o
theorem But.refl {S : Addr → Prop} {H : Hp} : But S H H := fun _ _ h _ => h
theorem But.trans {S : Addr → Prop} {H H1 H2 : Hp} (a : But S H H1) (b : But S H1 H2) : But S H H2 := fun c o h n => b c o (a c o h n) n
theorem But.of {S : Addr → Prop} {H H' : Hp} (e : Same H H') : But S H H' := fun b o h _ => e b o h
theorem But.mono {S T : Addr → Prop} {H H' : Hp} (e : But S H H') (h : ∀ a, S a → T a) : But T H H' := fun b o q n => e b o q fun z => n (h b z)
theorem _root_.L2.Same.new {H : Hp} {p : Addr} {o : HO} (h : H p = none) : Same H (upd H p o) := fun b u e => by
  rw [upd_ne (ne_of_none e h)]
  exact e
theorem _root_.L2.Same.sqt {K : PySem.W.Frag} {H H' : Hp} {a : Addr} {xs : List V} (e : Same H H') (h : SqT K H a xs) : SqT K H' a xs := by
  exact h.imp (fun z => z.imp (e _ _) fun ⟨o, z⟩ => ⟨o, e _ _ z⟩) id
/-- what H does not know may be laid anew -/
theorem _root_.L2.Same.mut {H H' : Hp} {p : Addr} {o : HO} (e : Same H H') (h : H p = none) : Same H (upd H' p o) := fun a u ha => by
  rw [upd_ne (ne_of_none ha h)]
  exact e a u ha
theorem bt_len : bootBuiltins "len" = some (.builtin "len") := by decide +kernel
theorem bt_min : bootBuiltins "min" = some (.builtin "min") := by decide +kernel
theorem bt_max : bootBuiltins "max" = some (.builtin "max") := by decide +kernel
theorem bt_sum : bootBuiltins "sum" = some (.builtin "sum") := by decide +kernel
theorem bt_any : bootBuiltins "any" = some (.builtin "any") := by decide +kernel
theorem bt_all : bootBuiltins "all" = some (.builtin "all") := by decide +kernel
theorem bt_ord : bootBuiltins "ord" = some (.builtin "ord") := by decide +kernel
theorem bt_sorted : bootBuiltins "sorted" = some (.builtin "sorted") := by decide +kernel
theorem bt_list : bootBuiltins "list" = some (.type "list") := by decide +kernel
theorem bt_tuple : bootBuiltins "tuple" = some (.type "tuple") := by decide +kernel
theorem bt_int : bootBuiltins "int" = some (.type "int") := by decide +kernel
theorem bt_str : bootBuiltins "str" = some (.type "str") := by decide +kernel
/-- the context of a def that lets nothing out, of one that may let a BadLine out, of one that may let a BadMenu out -/
abbrev XO (P : Program) (w : World) (K : PySem.W.Frag) (mg : Str → Option Value) (base : Heap) (N : List Str) (q : Str) (st : Stmt) (f : Addr) (cdv : Value) (A : Around) (outer : List Env) (s : Shared) (H : Hp) (E : XK) : Cx := (cxOf CX0 P w K mg base N q (defScope st) f cdv A outer s H E).nox
abbrev XN (P : Program) (w : World) (K : PySem.W.Frag) (mg : Str → Option Value) (base : Heap) (N : List Str) (q : Str) (st : Stmt) (f : Addr) (cdv : Value) (A : Around) (outer : List Env) (s : Shared) (H : Hp) (E : XK) : Cx := cxOf (L2N.CX P w) P w K mg base N q (defScope st) f cdv A outer s H E
abbrev XM (P : Program) (w : World) (K : PySem.W.Frag) (mg : Str → Option Value) (base : Heap) (N : List Str) (q : Str) (st : Stmt) (f : Addr) (cdv : Value) (A : Around) (outer : List Env) (s : Shared) (H : Hp) (E : XK) : Cx := cxOf (L2.CX P w) P w K mg base N q (defScope st) f cdv A outer s H E
section
variable {P : Program} {w : World} {K : PySem.W.Frag} {mg : Str → Option Value} {base : Heap} {N : List Str} {q : Str} {sc : Scope} {f : Addr} {cdv : Value} {A : Around} {outer : List Env} {s : Shared} {H : Hp} {E : XK}
theorem passN : Passes (L2N.CX P w) (cxOf (L2N.CX P w) P w K mg base N q sc f cdv A outer s H E) E := L2N.passes_call (L2N.takes_of rfl rfl rfl rfl) fun _ _ _ _ h => h
theorem passM : Passes (L2.CX P w) (cxOf (L2.CX P w) P w K mg base N q sc f cdv A outer s H E) E := passes_call (takes_of rfl rfl rfl rfl) fun _ _ _ _ h => h
theorem ownN : PassesOwn (model P w) (cxOf (L2N.CX P w) P w K mg base N q sc f cdv A outer s H E).A (cxOf (L2N.CX P w) P w K mg base N q sc f cdv A outer s H E).env (cxOf (L2N.CX P w) P w K mg base N q sc f cdv A outer s H E).xe :=
  passes_of (X := cxOf (L2N.CX P w) P w K mg base N q sc f cdv A outer s H E) rfl
theorem ownM : PassesOwn (model P w) (cxOf (L2.CX P w) P w K mg base N q sc f cdv A outer s H E).A (cxOf (L2.CX P w) P w K mg base N q sc f cdv A outer s H E).env (cxOf (L2.CX P w) P w K mg base N q sc f cdv A outer s H E).xe :=
  passes_of (X := cxOf (L2.CX P w) P w K mg base N q sc f cdv A outer s H E) rfl
end
section
variable {X : Cx} {K : PySem.W.Frag}
theorem ix_listK (h : X.K = K) : IxR X (rIxL K) := h ▸ ix_list
theorem ix_tupK (h : X.K = K) : IxR X (rIxT K) := h ▸ ix_tup
theorem pe_fldK (h : X.K = K) {e : Expr} {f : Str} {pos : Pos} {ta : TE} (ha : PE X e ta) (hb : attributeBase e f X.env (eval e X.env) = eval e X.env) : PE X (.Attribute e f pos) (tFld K ta f) := h ▸ pe_fld ha hb
theorem pg_tupK (h : X.K = K) (hc : X.calm = true) {es : List Expr} {k : Nat} {pos : Pos} {t : TGs} {n : Nat} (hs : PGs X es t) (hn : (assignEach es X.env).length = n := by rfl) (hst : (assignEach es X.env).findIdx? (·.1) = none := by rfl) : PG X (.Tuple es k pos) (gTup K n t) := h ▸ pg_tup hc hs hn hst
end

/-! ### the text by places (printed) -/
def top (i : Nat) : Stmt := PySem.Challenge.pw_eventsieve_s01_answers.main.body.getD i (.Pass ⟨0, 0, 0, 0⟩)
abbrev s_objects_in : Stmt := top 8
abbrev s_amounts_of : Stmt := top 9
abbrev s_features_of : Stmt := top 10
abbrev s_distance : Stmt := top 11
abbrev s_nearest_of : Stmt := top 12
abbrev s_Net_init : Stmt := inClass (top 13) 0
abbrev s_Net_take_rows : Stmt := inClass (top 13) 1
abbrev s_Net_hidden_at : Stmt := inClass (top 13) 2
abbrev s_Net_score_of : Stmt := inClass (top 13) 3
abbrev s_Facts_init : Stmt := inClass (top 14) 0
abbrev s_denied : Stmt := top 25
abbrev s_joined : Stmt := top 26
abbrev s_does_simple_hold : Stmt := top 27
abbrev s_does_hold : Stmt := top 28
abbrev s_digits : Stmt := top 45
abbrev s_kind_letter : Stmt := top 46
abbrev s_simple_text : Stmt := top 47
abbrev s_part_text : Stmt := top 48
abbrev s_sequence_text : Stmt := top 49
abbrev s_condition_text : Stmt := top 50
abbrev s_line_text : Stmt := top 51
abbrev s_want : Stmt := top 63
abbrev s_is_letter : Stmt := top 64
abbrev s_is_digit : Stmt := top 65
abbrev s_name_end : Stmt := top 66
abbrev s_digits_end : Stmt := top 67
abbrev s_number_of : Stmt := top 68
abbrev s_token_at : Stmt := top 69
abbrev s_tokens_of : Stmt := top 70
abbrev s_BadMenu_init : Stmt := inClass (top 83) 0
abbrev s_Line_init : Stmt := inClass (top 84) 0
abbrev s_Menu_init : Stmt := inClass (top 85) 0
abbrev s_Menu_all_held : Stmt := inClass (top 85) 1
abbrev s_Menu_all_passing : Stmt := inClass (top 85) 2
abbrev s_Menu_note : Stmt := inClass (top 85) 3
abbrev s_Reader_init : Stmt := inClass (top 86) 0
abbrev s_Reader_is_next : Stmt := inClass (top 86) 1
abbrev s_Reader_passes : Stmt := inClass (top 86) 2
abbrev s_Reader_take_sign : Stmt := inClass (top 86) 3
abbrev s_Reader_take : Stmt := inClass (top 86) 4
abbrev s_Reader_take_number : Stmt := inClass (top 86) 5
abbrev s_Reader_take_kind : Stmt := inClass (top 86) 6
abbrev s_Reader_take_line : Stmt := inClass (top 86) 7
abbrev s_Reader_read_score : Stmt := inClass (top 86) 8
abbrev s_Reader_read_some : Stmt := inClass (top 86) 9
abbrev s_Reader_read_sum : Stmt := inClass (top 86) 10
abbrev s_Reader_read_kind : Stmt := inClass (top 86) 11
abbrev s_Reader_read_simple : Stmt := inClass (top 86) 12
abbrev s_Reader_read_unary : Stmt := inClass (top 86) 13
abbrev s_Reader_read_conjunction : Stmt := inClass (top 86) 14
abbrev s_Reader_read_condition : Stmt := inClass (top 86) 15
abbrev s_Reader_read_line : Stmt := inClass (top 86) 16
abbrev s_text_lines : Stmt := top 87
abbrev s_is_ignored : Stmt := top 88
abbrev s_line_told : Stmt := top 89
abbrev s_read_menu : Stmt := top 90
abbrev s_bits_of : Stmt := top 97
abbrev s_Trigger_init : Stmt := inClass (top 98) 0
abbrev s_Trigger_reason_at : Stmt := inClass (top 98) 1
abbrev s_Trigger_lines_before : Stmt := inClass (top 98) 2
abbrev s_Trigger_note_event : Stmt := inClass (top 98) 3
abbrev s_Trigger_decide : Stmt := inClass (top 98) 4
abbrev s_Trigger_has_line : Stmt := inClass (top 98) 5
abbrev s_Desk_init : Stmt := inClass (top 112) 0
abbrev s_is_within : Stmt := top 113
abbrev s_are_within : Stmt := top 114
abbrev s_is_object : Stmt := top 115
abbrev s_ask_open : Stmt := top 116
abbrev s_ask_menu : Stmt := top 117
abbrev s_are_parameters : Stmt := top 118
abbrev s_ask_net : Stmt := top 119
abbrev s_ask_event : Stmt := top 120
abbrev s_ask_counts : Stmt := top 121
abbrev s_ask_sums : Stmt := top 122
abbrev s_ask_features : Stmt := top 123
abbrev s_ask_line : Stmt := top 124
abbrev s_answer : Stmt := top 126
abbrev s_rows_at : Stmt := top 127
abbrev s_answers : Stmt := top 128
abbrev n_objects_in : List Str := ["row", "at"]
theorem sc_objects_in : FnScope n_objects_in ["row"] (defScope s_objects_in) := ⟨rfl, rfl, rfl, by decide +kernel, rfl, by decide +kernel, by decide +kernel⟩
theorem b_objects_in : BindF "objects_in" "objects_in" s_objects_in ["row"] := fun _ _ _ _ _ _ us hl => match us, hl with | [_], _ => rfl
abbrev n_amounts_of : List Str := ["objects", "kind", "own", "amount", "position"]
theorem sc_amounts_of : FnScope n_amounts_of ["objects", "kind"] (defScope s_amounts_of) := ⟨rfl, rfl, rfl, by decide +kernel, rfl, by decide +kernel, by decide +kernel⟩
theorem b_amounts_of : BindF "amounts_of" "amounts_of" s_amounts_of ["objects", "kind"] := fun _ _ _ _ _ _ us hl => match us, hl with | [_, _], _ => rfl
abbrev n_features_of : List Str := ["objects", "shift", "found", "kind", "amounts", "amount"]
theorem sc_features_of : FnScope n_features_of ["objects", "shift"] (defScope s_features_of) := ⟨rfl, rfl, rfl, by decide +kernel, rfl, by decide +kernel, by decide +kernel⟩
theorem b_features_of : BindF "features_of" "features_of" s_features_of ["objects", "shift"] := fun _ _ _ _ _ _ us hl => match us, hl with | [_, _], _ => rfl
abbrev n_distance : List Str := ["one", "other", "far"]
theorem sc_distance : FnScope n_distance ["one", "other"] (defScope s_distance) := ⟨rfl, rfl, rfl, by decide +kernel, rfl, by decide +kernel, by decide +kernel⟩
theorem b_distance : BindF "distance" "distance" s_distance ["one", "other"] := fun _ _ _ _ _ _ us hl => match us, hl with | [_, _], _ => rfl
abbrev n_nearest_of : List Str := ["objects", "found", "k", "kind", "amount", "position", "other", "more", "place", "far"]
theorem sc_nearest_of : FnScope n_nearest_of ["objects"] (defScope s_nearest_of) := ⟨rfl, rfl, rfl, by decide +kernel, rfl, by decide +kernel, by decide +kernel⟩
theorem b_nearest_of : BindF "nearest_of" "nearest_of" s_nearest_of ["objects"] := fun _ _ _ _ _ _ us hl => match us, hl with | [_], _ => rfl
abbrev n_Net_init : List Str := ["self", "shift", "mul", "down", "b2"]
theorem sc_Net_init : FnScope n_Net_init ["self", "shift", "mul", "down", "b2"] (defScope s_Net_init) := ⟨rfl, rfl, rfl, by decide +kernel, rfl, by decide +kernel, by decide +kernel⟩
theorem b_Net_init : BindF "__init__" "Net.__init__" s_Net_init ["self", "shift", "mul", "down", "b2"] := fun _ _ _ _ _ _ us hl => match us, hl with | [_, _, _, _, _], _ => rfl
abbrev n_Net_take_rows : List Str := ["self", "b1", "w1", "w2"]
theorem sc_Net_take_rows : FnScope n_Net_take_rows ["self", "b1", "w1", "w2"] (defScope s_Net_take_rows) := ⟨rfl, rfl, rfl, by decide +kernel, rfl, by decide +kernel, by decide +kernel⟩
theorem b_Net_take_rows : BindF "take_rows" "Net.take_rows" s_Net_take_rows ["self", "b1", "w1", "w2"] := fun _ _ _ _ _ _ us hl => match us, hl with | [_, _, _, _], _ => rfl
abbrev n_Net_hidden_at : List Str := ["self", "features", "j", "weights", "total", "feature", "weight"]
theorem sc_Net_hidden_at : FnScope n_Net_hidden_at ["self", "features", "j"] (defScope s_Net_hidden_at) := ⟨rfl, rfl, rfl, by decide +kernel, rfl, by decide +kernel, by decide +kernel⟩
theorem b_Net_hidden_at : BindF "hidden_at" "Net.hidden_at" s_Net_hidden_at ["self", "features", "j"] := fun _ _ _ _ _ _ us hl => match us, hl with | [_, _, _], _ => rfl
abbrev n_Net_score_of : List Str := ["self", "features", "j"]
theorem sc_Net_score_of : FnScope n_Net_score_of ["self", "features"] (defScope s_Net_score_of) := ⟨rfl, rfl, rfl, by decide +kernel, rfl, by decide +kernel, by decide +kernel⟩
theorem b_Net_score_of : BindF "score_of" "Net.score_of" s_Net_score_of ["self", "features"] := fun _ _ _ _ _ _ us hl => match us, hl with | [_, _], _ => rfl
abbrev n_Facts_init : List Str := ["self", "objects", "score", "before", "kind"]
theorem sc_Facts_init : FnScope n_Facts_init ["self", "objects", "score", "before"] (defScope s_Facts_init) := ⟨rfl, rfl, rfl, by decide +kernel, rfl, by decide +kernel, by decide +kernel⟩
theorem b_Facts_init : BindF "__init__" "Facts.__init__" s_Facts_init ["self", "objects", "score", "before"] := fun _ _ _ _ _ _ us hl => match us, hl with | [_, _, _, _], _ => rfl
abbrev n_denied : List Str := ["many", "condition"]
theorem sc_denied : FnScope n_denied ["many", "condition"] (defScope s_denied) := ⟨rfl, rfl, rfl, by decide +kernel, rfl, by decide +kernel, by decide +kernel⟩
theorem b_denied : BindF "denied" "denied" s_denied ["many", "condition"] := fun _ _ _ _ _ _ us hl => match us, hl with | [_, _], _ => rfl
abbrev n_joined : List Str := ["word", "conditions", "last"]
theorem sc_joined : FnScope n_joined ["word", "conditions"] (defScope s_joined) := ⟨rfl, rfl, rfl, by decide +kernel, rfl, by decide +kernel, by decide +kernel⟩
theorem b_joined : BindF "joined" "joined" s_joined ["word", "conditions"] := fun _ _ _ _ _ _ us hl => match us, hl with | [_, _], _ => rfl
abbrev n_does_simple_hold : List Str := ["condition", "facts", "word", "amount"]
theorem sc_does_simple_hold : FnScope n_does_simple_hold ["condition", "facts"] (defScope s_does_simple_hold) := ⟨rfl, rfl, rfl, by decide +kernel, rfl, by decide +kernel, by decide +kernel⟩
theorem b_does_simple_hold : BindF "does_simple_hold" "does_simple_hold" s_does_simple_hold ["condition", "facts"] := fun _ _ _ _ _ _ us hl => match us, hl with | [_, _], _ => rfl
abbrev n_does_hold : List Str := ["condition", "facts", "word", "part"]
theorem sc_does_hold : FnScope n_does_hold ["condition", "facts"] (defScope s_does_hold) := ⟨rfl, rfl, rfl, by decide +kernel, rfl, by decide +kernel, by decide +kernel⟩
theorem b_does_hold : BindF "does_hold" "does_hold" s_does_hold ["condition", "facts"] := fun _ _ _ _ _ _ us hl => match us, hl with | [_, _], _ => rfl
abbrev n_digits : List Str := ["number", "sign"]
theorem sc_digits : FnScope n_digits ["number"] (defScope s_digits) := ⟨rfl, rfl, rfl, by decide +kernel, rfl, by decide +kernel, by decide +kernel⟩
theorem b_digits : BindF "digits" "digits" s_digits ["number"] := fun _ _ _ _ _ _ us hl => match us, hl with | [_], _ => rfl
abbrev n_kind_letter : List Str := ["kind"]
theorem sc_kind_letter : FnScope n_kind_letter ["kind"] (defScope s_kind_letter) := ⟨rfl, rfl, rfl, by decide +kernel, rfl, by decide +kernel, by decide +kernel⟩
theorem b_kind_letter : BindF "kind_letter" "kind_letter" s_kind_letter ["kind"] := fun _ _ _ _ _ _ us hl => match us, hl with | [_], _ => rfl
abbrev n_simple_text : List Str := ["condition", "names", "word", "many"]
theorem sc_simple_text : FnScope n_simple_text ["condition", "names"] (defScope s_simple_text) := ⟨rfl, rfl, rfl, by decide +kernel, rfl, by decide +kernel, by decide +kernel⟩
theorem b_simple_text : BindF "simple_text" "simple_text" s_simple_text ["condition", "names"] := fun _ _ _ _ _ _ us hl => match us, hl with | [_, _], _ => rfl
abbrev n_part_text : List Str := ["condition", "words", "names", "found"]
theorem sc_part_text : FnScope n_part_text ["condition", "words", "names"] (defScope s_part_text) := ⟨rfl, rfl, rfl, by decide +kernel, rfl, by decide +kernel, by decide +kernel⟩
theorem b_part_text : BindF "part_text" "part_text" s_part_text ["condition", "words", "names"] := fun _ _ _ _ _ _ us hl => match us, hl with | [_, _, _], _ => rfl
abbrev n_sequence_text : List Str := ["conditions", "sign", "left", "right", "names", "found", "part"]
theorem sc_sequence_text : FnScope n_sequence_text ["conditions", "sign", "left", "right", "names"] (defScope s_sequence_text) := ⟨rfl, rfl, rfl, by decide +kernel, rfl, by decide +kernel, by decide +kernel⟩
theorem b_sequence_text : BindF "sequence_text" "sequence_text" s_sequence_text ["conditions", "sign", "left", "right", "names"] := fun _ _ _ _ _ _ us hl => match us, hl with | [_, _, _, _, _], _ => rfl
abbrev n_condition_text : List Str := ["condition", "names", "word"]
theorem sc_condition_text : FnScope n_condition_text ["condition", "names"] (defScope s_condition_text) := ⟨rfl, rfl, rfl, by decide +kernel, rfl, by decide +kernel, by decide +kernel⟩
theorem b_condition_text : BindF "condition_text" "condition_text" s_condition_text ["condition", "names"] := fun _ _ _ _ _ _ us hl => match us, hl with | [_, _], _ => rfl
abbrev n_line_text : List Str := ["line", "names", "found"]
theorem sc_line_text : FnScope n_line_text ["line", "names"] (defScope s_line_text) := ⟨rfl, rfl, rfl, by decide +kernel, rfl, by decide +kernel, by decide +kernel⟩
theorem b_line_text : BindF "line_text" "line_text" s_line_text ["line", "names"] := fun _ _ _ _ _ _ us hl => match us, hl with | [_, _], _ => rfl
abbrev n_want : List Str := ["is_so"]
theorem sc_want : FnScope n_want ["is_so"] (defScope s_want) := ⟨rfl, rfl, rfl, by decide +kernel, rfl, by decide +kernel, by decide +kernel⟩
theorem b_want : BindF "want" "want" s_want ["is_so"] := fun _ _ _ _ _ _ us hl => match us, hl with | [_], _ => rfl
abbrev n_is_letter : List Str := ["byte"]
theorem sc_is_letter : FnScope n_is_letter ["byte"] (defScope s_is_letter) := ⟨rfl, rfl, rfl, by decide +kernel, rfl, by decide +kernel, by decide +kernel⟩
theorem b_is_letter : BindF "is_letter" "is_letter" s_is_letter ["byte"] := fun _ _ _ _ _ _ us hl => match us, hl with | [_], _ => rfl
abbrev n_is_digit : List Str := ["byte"]
theorem sc_is_digit : FnScope n_is_digit ["byte"] (defScope s_is_digit) := ⟨rfl, rfl, rfl, by decide +kernel, rfl, by decide +kernel, by decide +kernel⟩
theorem b_is_digit : BindF "is_digit" "is_digit" s_is_digit ["byte"] := fun _ _ _ _ _ _ us hl => match us, hl with | [_], _ => rfl
abbrev n_name_end : List Str := ["line", "at"]
theorem sc_name_end : FnScope n_name_end ["line", "at"] (defScope s_name_end) := ⟨rfl, rfl, rfl, by decide +kernel, rfl, by decide +kernel, by decide +kernel⟩
theorem b_name_end : BindF "name_end" "name_end" s_name_end ["line", "at"] := fun _ _ _ _ _ _ us hl => match us, hl with | [_, _], _ => rfl
abbrev n_digits_end : List Str := ["line", "at"]
theorem sc_digits_end : FnScope n_digits_end ["line", "at"] (defScope s_digits_end) := ⟨rfl, rfl, rfl, by decide +kernel, rfl, by decide +kernel, by decide +kernel⟩
theorem b_digits_end : BindF "digits_end" "digits_end" s_digits_end ["line", "at"] := fun _ _ _ _ _ _ us hl => match us, hl with | [_, _], _ => rfl
abbrev n_number_of : List Str := ["digits", "found", "byte"]
theorem sc_number_of : FnScope n_number_of ["digits"] (defScope s_number_of) := ⟨rfl, rfl, rfl, by decide +kernel, rfl, by decide +kernel, by decide +kernel⟩
theorem b_number_of : BindF "number_of" "number_of" s_number_of ["digits"] := fun _ _ _ _ _ _ us hl => match us, hl with | [_], _ => rfl
abbrev n_token_at : List Str := ["line", "at", "byte", "end"]
theorem sc_token_at : FnScope n_token_at ["line", "at"] (defScope s_token_at) := ⟨rfl, rfl, rfl, by decide +kernel, rfl, by decide +kernel, by decide +kernel⟩
theorem b_token_at : BindF "token_at" "token_at" s_token_at ["line", "at"] := fun _ _ _ _ _ _ us hl => match us, hl with | [_, _], _ => rfl
abbrev n_tokens_of : List Str := ["line", "found", "at", "token"]
theorem sc_tokens_of : FnScope n_tokens_of ["line"] (defScope s_tokens_of) := ⟨rfl, rfl, rfl, by decide +kernel, rfl, by decide +kernel, by decide +kernel⟩
theorem b_tokens_of : BindF "tokens_of" "tokens_of" s_tokens_of ["line"] := fun _ _ _ _ _ _ us hl => match us, hl with | [_], _ => rfl
abbrev n_BadMenu_init : List Str := ["self", "place"]
theorem sc_BadMenu_init : FnScope n_BadMenu_init ["self", "place"] (defScope s_BadMenu_init) := ⟨rfl, rfl, rfl, by decide +kernel, rfl, by decide +kernel, by decide +kernel⟩
theorem b_BadMenu_init : BindF "__init__" "BadMenu.__init__" s_BadMenu_init ["self", "place"] := fun _ _ _ _ _ _ us hl => match us, hl with | [_, _], _ => rfl
abbrev n_Line_init : List Str := ["self", "name", "condition", "prescale"]
theorem sc_Line_init : FnScope n_Line_init ["self", "name", "condition", "prescale"] (defScope s_Line_init) := ⟨rfl, rfl, rfl, by decide +kernel, rfl, by decide +kernel, by decide +kernel⟩
theorem b_Line_init : BindF "__init__" "Line.__init__" s_Line_init ["self", "name", "condition", "prescale"] := fun _ _ _ _ _ _ us hl => match us, hl with | [_, _, _, _], _ => rfl
abbrev n_Menu_init : List Str := ["self", "lines"]
theorem sc_Menu_init : FnScope n_Menu_init ["self", "lines"] (defScope s_Menu_init) := ⟨rfl, rfl, rfl, by decide +kernel, rfl, by decide +kernel, by decide +kernel⟩
theorem b_Menu_init : BindF "__init__" "Menu.__init__" s_Menu_init ["self", "lines"] := fun _ _ _ _ _ _ us hl => match us, hl with | [_, _], _ => rfl
abbrev n_Menu_all_held : List Str := ["self", "facts", "line"]
theorem sc_Menu_all_held : FnScope n_Menu_all_held ["self", "facts"] (defScope s_Menu_all_held) := ⟨rfl, rfl, rfl, by decide +kernel, rfl, by decide +kernel, by decide +kernel⟩
theorem b_Menu_all_held : BindF "all_held" "Menu.all_held" s_Menu_all_held ["self", "facts"] := fun _ _ _ _ _ _ us hl => match us, hl with | [_, _], _ => rfl
abbrev n_Menu_all_passing : List Str := ["self", "held", "pairs", "line", "is_held"]
theorem sc_Menu_all_passing : FnScope n_Menu_all_passing ["self", "held"] (defScope s_Menu_all_passing) := ⟨rfl, rfl, rfl, by decide +kernel, rfl, by decide +kernel, by decide +kernel⟩
theorem b_Menu_all_passing : BindF "all_passing" "Menu.all_passing" s_Menu_all_passing ["self", "held"] := fun _ _ _ _ _ _ us hl => match us, hl with | [_, _], _ => rfl
abbrev n_Menu_note : List Str := ["self", "held", "passing", "is_kept", "line", "is_held", "does_pass"]
theorem sc_Menu_note : FnScope n_Menu_note ["self", "held", "passing", "is_kept"] (defScope s_Menu_note) := ⟨rfl, rfl, rfl, by decide +kernel, rfl, by decide +kernel, by decide +kernel⟩
theorem b_Menu_note : BindF "note" "Menu.note" s_Menu_note ["self", "held", "passing", "is_kept"] := fun _ _ _ _ _ _ us hl => match us, hl with | [_, _, _, _], _ => rfl
abbrev n_Reader_init : List Str := ["self", "line", "names"]
theorem sc_Reader_init : FnScope n_Reader_init ["self", "line", "names"] (defScope s_Reader_init) := ⟨rfl, rfl, rfl, by decide +kernel, rfl, by decide +kernel, by decide +kernel⟩
theorem b_Reader_init : BindF "__init__" "Reader.__init__" s_Reader_init ["self", "line", "names"] := fun _ _ _ _ _ _ us hl => match us, hl with | [_, _, _], _ => rfl
abbrev n_Reader_is_next : List Str := ["self", "sort"]
theorem sc_Reader_is_next : FnScope n_Reader_is_next ["self", "sort"] (defScope s_Reader_is_next) := ⟨rfl, rfl, rfl, by decide +kernel, rfl, by decide +kernel, by decide +kernel⟩
theorem b_Reader_is_next : BindF "is_next" "Reader.is_next" s_Reader_is_next ["self", "sort"] := fun _ _ _ _ _ _ us hl => match us, hl with | [_, _], _ => rfl
abbrev n_Reader_passes : List Str := ["self", "byte"]
theorem sc_Reader_passes : FnScope n_Reader_passes ["self", "byte"] (defScope s_Reader_passes) := ⟨rfl, rfl, rfl, by decide +kernel, rfl, by decide +kernel, by decide +kernel⟩
theorem b_Reader_passes : BindF "passes" "Reader.passes" s_Reader_passes ["self", "byte"] := fun _ _ _ _ _ _ us hl => match us, hl with | [_, _], _ => rfl
abbrev n_Reader_take_sign : List Str := ["self", "byte"]
theorem sc_Reader_take_sign : FnScope n_Reader_take_sign ["self", "byte"] (defScope s_Reader_take_sign) := ⟨rfl, rfl, rfl, by decide +kernel, rfl, by decide +kernel, by decide +kernel⟩
theorem b_Reader_take_sign : BindF "take_sign" "Reader.take_sign" s_Reader_take_sign ["self", "byte"] := fun _ _ _ _ _ _ us hl => match us, hl with | [_, _], _ => rfl
abbrev n_Reader_take : List Str := ["self", "sort"]
theorem sc_Reader_take : FnScope n_Reader_take ["self", "sort"] (defScope s_Reader_take) := ⟨rfl, rfl, rfl, by decide +kernel, rfl, by decide +kernel, by decide +kernel⟩
theorem b_Reader_take : BindF "take" "Reader.take" s_Reader_take ["self", "sort"] := fun _ _ _ _ _ _ us hl => match us, hl with | [_, _], _ => rfl
abbrev n_Reader_take_number : List Str := ["self", "least", "most", "found"]
theorem sc_Reader_take_number : FnScope n_Reader_take_number ["self", "least", "most"] (defScope s_Reader_take_number) := ⟨rfl, rfl, rfl, by decide +kernel, rfl, by decide +kernel, by decide +kernel⟩
theorem b_Reader_take_number : BindF "take_number" "Reader.take_number" s_Reader_take_number ["self", "least", "most"] := fun _ _ _ _ _ _ us hl => match us, hl with | [_, _, _], _ => rfl
abbrev n_Reader_take_kind : List Str := ["self", "name"]
theorem sc_Reader_take_kind : FnScope n_Reader_take_kind ["self"] (defScope s_Reader_take_kind) := ⟨rfl, rfl, rfl, by decide +kernel, rfl, by decide +kernel, by decide +kernel⟩
theorem b_Reader_take_kind : BindF "take_kind" "Reader.take_kind" s_Reader_take_kind ["self"] := fun _ _ _ _ _ _ us hl => match us, hl with | [_], _ => rfl
abbrev n_Reader_take_line : List Str := ["self", "name"]
theorem sc_Reader_take_line : FnScope n_Reader_take_line ["self"] (defScope s_Reader_take_line) := ⟨rfl, rfl, rfl, by decide +kernel, rfl, by decide +kernel, by decide +kernel⟩
theorem b_Reader_take_line : BindF "take_line" "Reader.take_line" s_Reader_take_line ["self"] := fun _ _ _ _ _ _ us hl => match us, hl with | [_], _ => rfl
abbrev n_Reader_read_score : List Str := ["self"]
theorem sc_Reader_read_score : FnScope n_Reader_read_score ["self"] (defScope s_Reader_read_score) := ⟨rfl, rfl, rfl, by decide +kernel, rfl, by decide +kernel, by decide +kernel⟩
theorem b_Reader_read_score : BindF "read_score" "Reader.read_score" s_Reader_read_score ["self"] := fun _ _ _ _ _ _ us hl => match us, hl with | [_], _ => rfl
abbrev n_Reader_read_some : List Str := ["self", "many", "kind"]
theorem sc_Reader_read_some : FnScope n_Reader_read_some ["self", "many"] (defScope s_Reader_read_some) := ⟨rfl, rfl, rfl, by decide +kernel, rfl, by decide +kernel, by decide +kernel⟩
theorem b_Reader_read_some : BindF "read_some" "Reader.read_some" s_Reader_read_some ["self", "many"] := fun _ _ _ _ _ _ us hl => match us, hl with | [_, _], _ => rfl
abbrev n_Reader_read_sum : List Str := ["self", "kind"]
theorem sc_Reader_read_sum : FnScope n_Reader_read_sum ["self"] (defScope s_Reader_read_sum) := ⟨rfl, rfl, rfl, by decide +kernel, rfl, by decide +kernel, by decide +kernel⟩
theorem b_Reader_read_sum : BindF "read_sum" "Reader.read_sum" s_Reader_read_sum ["self"] := fun _ _ _ _ _ _ us hl => match us, hl with | [_], _ => rfl
abbrev n_Reader_read_kind : List Str := ["self", "kind", "other"]
theorem sc_Reader_read_kind : FnScope n_Reader_read_kind ["self"] (defScope s_Reader_read_kind) := ⟨rfl, rfl, rfl, by decide +kernel, rfl, by decide +kernel, by decide +kernel⟩
theorem b_Reader_read_kind : BindF "read_kind" "Reader.read_kind" s_Reader_read_kind ["self"] := fun _ _ _ _ _ _ us hl => match us, hl with | [_], _ => rfl
abbrev n_Reader_read_simple : List Str := ["self"]
theorem sc_Reader_read_simple : FnScope n_Reader_read_simple ["self"] (defScope s_Reader_read_simple) := ⟨rfl, rfl, rfl, by decide +kernel, rfl, by decide +kernel, by decide +kernel⟩
theorem b_Reader_read_simple : BindF "read_simple" "Reader.read_simple" s_Reader_read_simple ["self"] := fun _ _ _ _ _ _ us hl => match us, hl with | [_], _ => rfl
abbrev n_Reader_read_unary : List Str := ["self", "many", "found"]
theorem sc_Reader_read_unary : FnScope n_Reader_read_unary ["self"] (defScope s_Reader_read_unary) := ⟨rfl, rfl, rfl, by decide +kernel, rfl, by decide +kernel, by decide +kernel⟩
theorem b_Reader_read_unary : BindF "read_unary" "Reader.read_unary" s_Reader_read_unary ["self"] := fun _ _ _ _ _ _ us hl => match us, hl with | [_], _ => rfl
abbrev n_Reader_read_conjunction : List Str := ["self", "found"]
theorem sc_Reader_read_conjunction : FnScope n_Reader_read_conjunction ["self"] (defScope s_Reader_read_conjunction) := ⟨rfl, rfl, rfl, by decide +kernel, rfl, by decide +kernel, by decide +kernel⟩
theorem b_Reader_read_conjunction : BindF "read_conjunction" "Reader.read_conjunction" s_Reader_read_conjunction ["self"] := fun _ _ _ _ _ _ us hl => match us, hl with | [_], _ => rfl
abbrev n_Reader_read_condition : List Str := ["self", "found"]
theorem sc_Reader_read_condition : FnScope n_Reader_read_condition ["self"] (defScope s_Reader_read_condition) := ⟨rfl, rfl, rfl, by decide +kernel, rfl, by decide +kernel, by decide +kernel⟩
theorem b_Reader_read_condition : BindF "read_condition" "Reader.read_condition" s_Reader_read_condition ["self"] := fun _ _ _ _ _ _ us hl => match us, hl with | [_], _ => rfl
abbrev n_Reader_read_line : List Str := ["self", "name", "condition", "prescale"]
theorem sc_Reader_read_line : FnScope n_Reader_read_line ["self"] (defScope s_Reader_read_line) := ⟨rfl, rfl, rfl, by decide +kernel, rfl, by decide +kernel, by decide +kernel⟩
theorem b_Reader_read_line : BindF "read_line" "Reader.read_line" s_Reader_read_line ["self"] := fun _ _ _ _ _ _ us hl => match us, hl with | [_], _ => rfl
abbrev n_text_lines : List Str := ["text", "found", "byte"]
theorem sc_text_lines : FnScope n_text_lines ["text"] (defScope s_text_lines) := ⟨rfl, rfl, rfl, by decide +kernel, rfl, by decide +kernel, by decide +kernel⟩
theorem b_text_lines : BindF "text_lines" "text_lines" s_text_lines ["text"] := fun _ _ _ _ _ _ us hl => match us, hl with | [_], _ => rfl
abbrev n_is_ignored : List Str := ["line", "byte"]
theorem sc_is_ignored : FnScope n_is_ignored ["line"] (defScope s_is_ignored) := ⟨rfl, rfl, rfl, by decide +kernel, rfl, by decide +kernel, by decide +kernel⟩
theorem b_is_ignored : BindF "is_ignored" "is_ignored" s_is_ignored ["line"] := fun _ _ _ _ _ _ us hl => match us, hl with | [_], _ => rfl
abbrev n_line_told : List Str := ["line", "place", "names", "found"]
theorem sc_line_told : FnScope n_line_told ["line", "place", "names"] (defScope s_line_told) := ⟨rfl, rfl, rfl, by decide +kernel, rfl, by decide +kernel, by decide +kernel⟩
theorem b_line_told : BindF "line_told" "line_told" s_line_told ["line", "place", "names"] := fun _ _ _ _ _ _ us hl => match us, hl with | [_, _, _], _ => rfl
abbrev n_read_menu : List Str := ["text", "found", "names", "place", "line", "told"]
theorem sc_read_menu : FnScope n_read_menu ["text"] (defScope s_read_menu) := ⟨rfl, rfl, rfl, by decide +kernel, rfl, by decide +kernel, by decide +kernel⟩
theorem b_read_menu : BindF "read_menu" "read_menu" s_read_menu ["text"] := fun _ _ _ _ _ _ us hl => match us, hl with | [_], _ => rfl
abbrev n_bits_of : List Str := ["truths", "found", "truth"]
theorem sc_bits_of : FnScope n_bits_of ["truths"] (defScope s_bits_of) := ⟨rfl, rfl, rfl, by decide +kernel, rfl, by decide +kernel, by decide +kernel⟩
theorem b_bits_of : BindF "bits_of" "bits_of" s_bits_of ["truths"] := fun _ _ _ _ _ _ us hl => match us, hl with | [_], _ => rfl
abbrev n_Trigger_init : List Str := ["self", "dead", "window", "most"]
theorem sc_Trigger_init : FnScope n_Trigger_init ["self", "dead", "window", "most"] (defScope s_Trigger_init) := ⟨rfl, rfl, rfl, by decide +kernel, rfl, by decide +kernel, by decide +kernel⟩
theorem b_Trigger_init : BindF "__init__" "Trigger.__init__" s_Trigger_init ["self", "dead", "window", "most"] := fun _ _ _ _ _ _ us hl => match us, hl with | [_, _, _, _], _ => rfl
abbrev n_Trigger_reason_at : List Str := ["self", "time", "does_pass", "kept"]
theorem sc_Trigger_reason_at : FnScope n_Trigger_reason_at ["self", "time", "does_pass"] (defScope s_Trigger_reason_at) := ⟨rfl, rfl, rfl, by decide +kernel, rfl, by decide +kernel, by decide +kernel⟩
theorem b_Trigger_reason_at : BindF "reason_at" "Trigger.reason_at" s_Trigger_reason_at ["self", "time", "does_pass"] := fun _ _ _ _ _ _ us hl => match us, hl with | [_, _, _], _ => rfl
abbrev n_Trigger_lines_before : List Str := ["self", "time"]
theorem sc_Trigger_lines_before : FnScope n_Trigger_lines_before ["self", "time"] (defScope s_Trigger_lines_before) := ⟨rfl, rfl, rfl, by decide +kernel, rfl, by decide +kernel, by decide +kernel⟩
theorem b_Trigger_lines_before : BindF "lines_before" "Trigger.lines_before" s_Trigger_lines_before ["self", "time"] := fun _ _ _ _ _ _ us hl => match us, hl with | [_, _], _ => rfl
abbrev n_Trigger_note_event : List Str := ["self", "time", "objects", "reason"]
theorem sc_Trigger_note_event : FnScope n_Trigger_note_event ["self", "time", "objects", "reason"] (defScope s_Trigger_note_event) := ⟨rfl, rfl, rfl, by decide +kernel, rfl, by decide +kernel, by decide +kernel⟩
theorem b_Trigger_note_event : BindF "note_event" "Trigger.note_event" s_Trigger_note_event ["self", "time", "objects", "reason"] := fun _ _ _ _ _ _ us hl => match us, hl with | [_, _, _, _], _ => rfl
abbrev n_Trigger_decide : List Str := ["self", "time", "objects", "score", "held", "passing", "reason"]
theorem sc_Trigger_decide : FnScope n_Trigger_decide ["self", "time", "objects"] (defScope s_Trigger_decide) := ⟨rfl, rfl, rfl, by decide +kernel, rfl, by decide +kernel, by decide +kernel⟩
theorem b_Trigger_decide : BindF "decide" "Trigger.decide" s_Trigger_decide ["self", "time", "objects"] := fun _ _ _ _ _ _ us hl => match us, hl with | [_, _, _], _ => rfl
abbrev n_Trigger_has_line : List Str := ["self", "number"]
theorem sc_Trigger_has_line : FnScope n_Trigger_has_line ["self", "number"] (defScope s_Trigger_has_line) := ⟨rfl, rfl, rfl, by decide +kernel, rfl, by decide +kernel, by decide +kernel⟩
theorem b_Trigger_has_line : BindF "has_line" "Trigger.has_line" s_Trigger_has_line ["self", "number"] := fun _ _ _ _ _ _ us hl => match us, hl with | [_, _], _ => rfl
abbrev n_Desk_init : List Str := ["self"]
theorem sc_Desk_init : FnScope n_Desk_init ["self"] (defScope s_Desk_init) := ⟨rfl, rfl, rfl, by decide +kernel, rfl, by decide +kernel, by decide +kernel⟩
theorem b_Desk_init : BindF "__init__" "Desk.__init__" s_Desk_init ["self"] := fun _ _ _ _ _ _ us hl => match us, hl with | [_], _ => rfl
abbrev n_is_within : List Str := ["number", "least", "most"]
theorem sc_is_within : FnScope n_is_within ["number", "least", "most"] (defScope s_is_within) := ⟨rfl, rfl, rfl, by decide +kernel, rfl, by decide +kernel, by decide +kernel⟩
theorem b_is_within : BindF "is_within" "is_within" s_is_within ["number", "least", "most"] := fun _ _ _ _ _ _ us hl => match us, hl with | [_, _, _], _ => rfl
abbrev n_are_within : List Str := ["numbers", "least", "most", "number"]
theorem sc_are_within : FnScope n_are_within ["numbers", "least", "most"] (defScope s_are_within) := ⟨rfl, rfl, rfl, by decide +kernel, rfl, by decide +kernel, by decide +kernel⟩
theorem b_are_within : BindF "are_within" "are_within" s_are_within ["numbers", "least", "most"] := fun _ _ _ _ _ _ us hl => match us, hl with | [_, _, _], _ => rfl
abbrev n_is_object : List Str := ["one", "kind", "amount", "position"]
theorem sc_is_object : FnScope n_is_object ["one"] (defScope s_is_object) := ⟨rfl, rfl, rfl, by decide +kernel, rfl, by decide +kernel, by decide +kernel⟩
theorem b_is_object : BindF "is_object" "is_object" s_is_object ["one"] := fun _ _ _ _ _ _ us hl => match us, hl with | [_], _ => rfl
abbrev n_ask_open : List Str := ["desk", "numbers", "rows", "dead", "window", "most"]
theorem sc_ask_open : FnScope n_ask_open ["desk", "numbers", "rows"] (defScope s_ask_open) := ⟨rfl, rfl, rfl, by decide +kernel, rfl, by decide +kernel, by decide +kernel⟩
theorem b_ask_open : BindF "ask_open" "ask_open" s_ask_open ["desk", "numbers", "rows"] := fun _ _ _ _ _ _ us hl => match us, hl with | [_, _, _], _ => rfl
abbrev n_ask_menu : List Str := ["desk", "numbers", "rows", "menu", "e"]
theorem sc_ask_menu : FnScope n_ask_menu ["desk", "numbers", "rows"] (defScope s_ask_menu) := ⟨rfl, rfl, rfl, by decide +kernel, rfl, by decide +kernel, by decide +kernel⟩
theorem b_ask_menu : BindF "ask_menu" "ask_menu" s_ask_menu ["desk", "numbers", "rows"] := fun _ _ _ _ _ _ us hl => match us, hl with | [_, _, _], _ => rfl
abbrev n_are_parameters : List Str := ["numbers", "rows", "shift", "mul", "down", "b2", "b1", "w1", "w2"]
theorem sc_are_parameters : FnScope n_are_parameters ["numbers", "rows"] (defScope s_are_parameters) := ⟨rfl, rfl, rfl, by decide +kernel, rfl, by decide +kernel, by decide +kernel⟩
theorem b_are_parameters : BindF "are_parameters" "are_parameters" s_are_parameters ["numbers", "rows"] := fun _ _ _ _ _ _ us hl => match us, hl with | [_, _], _ => rfl
abbrev n_ask_net : List Str := ["desk", "numbers", "rows", "net"]
theorem sc_ask_net : FnScope n_ask_net ["desk", "numbers", "rows"] (defScope s_ask_net) := ⟨rfl, rfl, rfl, by decide +kernel, rfl, by decide +kernel, by decide +kernel⟩
theorem b_ask_net : BindF "ask_net" "ask_net" s_ask_net ["desk", "numbers", "rows"] := fun _ _ _ _ _ _ us hl => match us, hl with | [_, _, _], _ => rfl
abbrev n_ask_event : List Str := ["desk", "numbers", "rows", "time", "many", "objects", "one"]
theorem sc_ask_event : FnScope n_ask_event ["desk", "numbers", "rows"] (defScope s_ask_event) := ⟨rfl, rfl, rfl, by decide +kernel, rfl, by decide +kernel, by decide +kernel⟩
theorem b_ask_event : BindF "ask_event" "ask_event" s_ask_event ["desk", "numbers", "rows"] := fun _ _ _ _ _ _ us hl => match us, hl with | [_, _, _], _ => rfl
abbrev n_ask_counts : List Str := ["desk", "numbers", "rows", "line"]
theorem sc_ask_counts : FnScope n_ask_counts ["desk", "numbers", "rows"] (defScope s_ask_counts) := ⟨rfl, rfl, rfl, by decide +kernel, rfl, by decide +kernel, by decide +kernel⟩
theorem b_ask_counts : BindF "ask_counts" "ask_counts" s_ask_counts ["desk", "numbers", "rows"] := fun _ _ _ _ _ _ us hl => match us, hl with | [_, _, _], _ => rfl
abbrev n_ask_sums : List Str := ["desk", "numbers", "rows", "reasons"]
theorem sc_ask_sums : FnScope n_ask_sums ["desk", "numbers", "rows"] (defScope s_ask_sums) := ⟨rfl, rfl, rfl, by decide +kernel, rfl, by decide +kernel, by decide +kernel⟩
theorem b_ask_sums : BindF "ask_sums" "ask_sums" s_ask_sums ["desk", "numbers", "rows"] := fun _ _ _ _ _ _ us hl => match us, hl with | [_, _, _], _ => rfl
abbrev n_ask_features : List Str := ["desk", "numbers", "rows"]
theorem sc_ask_features : FnScope n_ask_features ["desk", "numbers", "rows"] (defScope s_ask_features) := ⟨rfl, rfl, rfl, by decide +kernel, rfl, by decide +kernel, by decide +kernel⟩
theorem b_ask_features : BindF "ask_features" "ask_features" s_ask_features ["desk", "numbers", "rows"] := fun _ _ _ _ _ _ us hl => match us, hl with | [_, _, _], _ => rfl
abbrev n_ask_line : List Str := ["desk", "numbers", "rows", "lines", "found", "line"]
theorem sc_ask_line : FnScope n_ask_line ["desk", "numbers", "rows"] (defScope s_ask_line) := ⟨rfl, rfl, rfl, by decide +kernel, rfl, by decide +kernel, by decide +kernel⟩
theorem b_ask_line : BindF "ask_line" "ask_line" s_ask_line ["desk", "numbers", "rows"] := fun _ _ _ _ _ _ us hl => match us, hl with | [_, _, _], _ => rfl
abbrev n_answer : List Str := ["desk", "call", "numbers", "rows", "deed"]
theorem sc_answer : FnScope n_answer ["desk", "call", "numbers", "rows"] (defScope s_answer) := ⟨rfl, rfl, rfl, by decide +kernel, rfl, by decide +kernel, by decide +kernel⟩
theorem b_answer : BindF "answer" "answer" s_answer ["desk", "call", "numbers", "rows"] := fun _ _ _ _ _ _ us hl => match us, hl with | [_, _, _, _], _ => rfl
abbrev n_rows_at : List Str := ["calls", "at", "many", "found", "turn", "end"]
theorem sc_rows_at : FnScope n_rows_at ["calls", "at", "many"] (defScope s_rows_at) := ⟨rfl, rfl, rfl, by decide +kernel, rfl, by decide +kernel, by decide +kernel⟩
theorem b_rows_at : BindF "rows_at" "rows_at" s_rows_at ["calls", "at", "many"] := fun _ _ _ _ _ _ us hl => match us, hl with | [_, _, _], _ => rfl
abbrev n_answers : List Str := ["calls", "desk", "found", "at", "call", "many", "lists", "numbers", "rows", "told"]
theorem sc_answers : FnScope n_answers ["calls"] (defScope s_answers) := ⟨rfl, rfl, rfl, by decide +kernel, rfl, by decide +kernel, by decide +kernel⟩
theorem b_answers : BindF "answers" "answers" s_answers ["calls"] := fun _ _ _ _ _ _ us hl => match us, hl with | [_], _ => rfl
/-! ### what the top has written -/
structure Cs where
  net : Addr
  facts : Addr
  badLine : Addr
  badMenu : Addr
  line : Addr
  menu : Addr
  reader : Addr
  trigger : Addr
  desk : Addr
structure TxK (K : PySem.W.Frag) (mg : Str → Option Value) : Prop where
  k_KINDS_facts : GI mg "KINDS_facts" (8)
  k_PER_KIND : GI mg "PER_KIND" (4)
  k_WIDE : GI mg "WIDE" (32)
  k_HIDDEN : GI mg "HIDDEN" (16)
  k_MOST_FEATURE : GI mg "MOST_FEATURE" (255)
  k_RING : GI mg "RING" (1024)
  k_FAR : GI mg "FAR" (1024)
  k_SOME : GS mg "SOME" "some"
  k_SUM : GS mg "SUM" "sum"
  k_NEAR : GS mg "NEAR" "near"
  k_SCORE : GS mg "SCORE" "score"
  k_LINE : GS mg "LINE" "line"
  k_BEFORE : GS mg "BEFORE" "before"
  k_NOT : GS mg "NOT" "not"
  k_AND : GS mg "AND" "and"
  k_OR : GS mg "OR" "or"
  k_FIRST_KIND : GI mg "FIRST_KIND" (97)
  k_DENIED : GI mg "DENIED" (33)
  k_BOTH : GI mg "BOTH" (38)
  k_OPENING : GI mg "OPENING" (40)
  k_CLOSING : GI mg "CLOSING" (41)
  k_PLUS : GI mg "PLUS" (43)
  k_SLASH : GI mg "SLASH" (47)
  k_COLON : GI mg "COLON" (58)
  k_LESS : GI mg "LESS" (60)
  k_GREATER : GI mg "GREATER" (62)
  k_ASKED : GI mg "ASKED" (63)
  k_AT : GI mg "AT" (64)
  k_CARET : GI mg "CARET" (94)
  k_EITHER : GI mg "EITHER" (124)
  k_TILDE : GI mg "TILDE" (126)
  k_NAME : GS mg "NAME" "name"
  k_NUMBER : GS mg "NUMBER" "number"
  k_SIGN : GS mg "SIGN" "sign"
  k_END : GS mg "END" "end"
  k_SPACE : GI mg "SPACE" (32)
  k_ZERO : GI mg "ZERO" (48)
  k_LONGEST_NAME : GI mg "LONGEST_NAME" (16)
  k_MOST_DIGITS : GI mg "MOST_DIGITS" (5)
  k_MINUS : GI mg "MINUS" (45)
  k_LINE_END : GI mg "LINE_END" (10)
  k_KINDS_menus : GI mg "KINDS_menus" (8)
  k_MOST_LINES : GI mg "MOST_LINES" (64)
  k_MOST_DEEP : GI mg "MOST_DEEP" (16)
  k_MOST_MANY : GI mg "MOST_MANY" (16)
  k_MOST_VALUE : GI mg "MOST_VALUE" (65535)
  k_MOST_DISTANCE : GI mg "MOST_DISTANCE" (513)
  k_MOST_NUMBER : GI mg "MOST_NUMBER" (99999)
  k_MOST_PRESCALE : GI mg "MOST_PRESCALE" (65535)
  k_ROUND : GI mg "ROUND" (18446744073709551616)
  k_KEPT : GI mg "KEPT" (0)
  k_NONE_PASSES : GI mg "NONE_PASSES" (1)
  k_IS_DEAD : GI mg "IS_DEAD" (2)
  k_IS_FULL : GI mg "IS_FULL" (3)
  k_NO_TIME : GI mg "NO_TIME" (-2)
  k_NO_TRIGGER : GI mg "NO_TRIGGER" (-7)
  k_OUT_OF_RANGE : GI mg "OUT_OF_RANGE" (-2)
  k_NO_MENU : GI mg "NO_MENU" (-6)
  k_NOT_LATER : GI mg "NOT_LATER" (-3)
  k_WRONG_LINE : GI mg "WRONG_LINE" (-100)
  k_OPEN : GI mg "OPEN" (1)
  k_MOST_BYTES : GI mg "MOST_BYTES" (4096)
  k_MOST_OBJECTS : GI mg "MOST_OBJECTS" (64)
  k_MOST_KEPT : GI mg "MOST_KEPT" (64)
  k_MOST_WORD : GI mg "MOST_WORD" (65535)
  k_LAST_TIME : GI mg "LAST_TIME" (9223372036854775807)
  z_range : mg "range" = none
  z_len : mg "len" = none
  z_sorted : mg "sorted" = none
  z_min : mg "min" = none
  z_max : mg "max" = none
  z_sum : mg "sum" = none
  z_zip : mg "zip" = none
  z_enumerate : mg "enumerate" = none
  z_all : mg "all" = none
  z_any : mg "any" = none
  z_list : mg "list" = none
  z_tuple : mg "tuple" = none
  z_str : mg "str" = none
  z_ord : mg "ord" = none
  z_reversed : mg "reversed" = none
  z_int : mg "int" = none
  z_ValueError : mg "ValueError" = none
  t_SIGNS : ∃ a, mg "SIGNS" = some (.ref a) ∧ KTup K a [.int 33, .int 38, .int 40, .int 41, .int 43, .int 45, .int 47, .int 58, .int 60, .int 62, .int 63, .int 64, .int 94, .int 124, .int 126]
  t_SHAPES : ∃ a a0 a1 a2 a3 a4 a5 a6 a7 a8, mg "SHAPES" = some (.ref a) ∧ KTup K a [.ref a0, .ref a1, .ref a2, .ref a3, .ref a4, .ref a5, .ref a6, .ref a7, .ref a8] ∧ KTup K a0 [.int 0, .int 0] ∧ KTup K a1 [.int 3, .int 0] ∧ KTup K a2 [.int 1, .int 1] ∧ KTup K a3 [.int 4, .int 3] ∧ KTup K a4 [.int 2, .int 1] ∧ KTup K a5 [.int 1, .int 0] ∧ KTup K a6 [.int 0, .int 0] ∧ KTup K a7 [.int 0, .int 0] ∧ KTup K a8 [.int 1, .int 0]
structure TxF (K : PySem.W.Frag) (mg : Str → Option Value) : Prop where
  f_objects_in : DefTx K mg "objects_in" s_objects_in
  f_amounts_of : DefTx K mg "amounts_of" s_amounts_of
  f_features_of : DefTx K mg "features_of" s_features_of
  f_distance : DefTx K mg "distance" s_distance
  f_nearest_of : DefTx K mg "nearest_of" s_nearest_of
  f_denied : DefTx K mg "denied" s_denied
  f_joined : DefTx K mg "joined" s_joined
  f_does_simple_hold : DefTx K mg "does_simple_hold" s_does_simple_hold
  f_does_hold : DefTx K mg "does_hold" s_does_hold
  f_digits : DefTx K mg "digits" s_digits
  f_kind_letter : DefTx K mg "kind_letter" s_kind_letter
  f_simple_text : DefTx K mg "simple_text" s_simple_text
  f_part_text : DefTx K mg "part_text" s_part_text
  f_sequence_text : DefTx K mg "sequence_text" s_sequence_text
  f_condition_text : DefTx K mg "condition_text" s_condition_text
  f_line_text : DefTx K mg "line_text" s_line_text
  f_want : DefTx K mg "want" s_want
  f_is_letter : DefTx K mg "is_letter" s_is_letter
  f_is_digit : DefTx K mg "is_digit" s_is_digit
  f_name_end : DefTx K mg "name_end" s_name_end
  f_digits_end : DefTx K mg "digits_end" s_digits_end
  f_number_of : DefTx K mg "number_of" s_number_of
  f_token_at : DefTx K mg "token_at" s_token_at
  f_tokens_of : DefTx K mg "tokens_of" s_tokens_of
  f_text_lines : DefTx K mg "text_lines" s_text_lines
  f_is_ignored : DefTx K mg "is_ignored" s_is_ignored
  f_line_told : DefTx K mg "line_told" s_line_told
  f_read_menu : DefTx K mg "read_menu" s_read_menu
  f_bits_of : DefTx K mg "bits_of" s_bits_of
  f_is_within : DefTx K mg "is_within" s_is_within
  f_are_within : DefTx K mg "are_within" s_are_within
  f_is_object : DefTx K mg "is_object" s_is_object
  f_ask_open : DefTx K mg "ask_open" s_ask_open
  f_ask_menu : DefTx K mg "ask_menu" s_ask_menu
  f_are_parameters : DefTx K mg "are_parameters" s_are_parameters
  f_ask_net : DefTx K mg "ask_net" s_ask_net
  f_ask_event : DefTx K mg "ask_event" s_ask_event
  f_ask_counts : DefTx K mg "ask_counts" s_ask_counts
  f_ask_sums : DefTx K mg "ask_sums" s_ask_sums
  f_ask_features : DefTx K mg "ask_features" s_ask_features
  f_ask_line : DefTx K mg "ask_line" s_ask_line
  f_answer : DefTx K mg "answer" s_answer
  f_rows_at : DefTx K mg "rows_at" s_rows_at
  f_answers : DefTx K mg "answers" s_answers
structure TxM (K : PySem.W.Frag) (mg : Str → Option Value) (c : Cs) : Prop where
  m_Net_init : IniTx K mg "Net" "Net.__init__" c.net s_Net_init
  m_Net_take_rows : MetTx K c.net "take_rows" "Net.take_rows" s_Net_take_rows
  m_Net_hidden_at : MetTx K c.net "hidden_at" "Net.hidden_at" s_Net_hidden_at
  m_Net_score_of : MetTx K c.net "score_of" "Net.score_of" s_Net_score_of
  m_Facts_init : IniTx K mg "Facts" "Facts.__init__" c.facts s_Facts_init
  m_Line_init : IniTx K mg "Line" "Line.__init__" c.line s_Line_init
  m_Menu_init : IniTx K mg "Menu" "Menu.__init__" c.menu s_Menu_init
  m_Menu_all_held : MetTx K c.menu "all_held" "Menu.all_held" s_Menu_all_held
  m_Menu_all_passing : MetTx K c.menu "all_passing" "Menu.all_passing" s_Menu_all_passing
  m_Menu_note : MetTx K c.menu "note" "Menu.note" s_Menu_note
  m_Reader_init : IniTx K mg "Reader" "Reader.__init__" c.reader s_Reader_init
  m_Reader_is_next : MetTx K c.reader "is_next" "Reader.is_next" s_Reader_is_next
  m_Reader_passes : MetTx K c.reader "passes" "Reader.passes" s_Reader_passes
  m_Reader_take_sign : MetTx K c.reader "take_sign" "Reader.take_sign" s_Reader_take_sign
  m_Reader_take : MetTx K c.reader "take" "Reader.take" s_Reader_take
  m_Reader_take_number : MetTx K c.reader "take_number" "Reader.take_number" s_Reader_take_number
  m_Reader_take_kind : MetTx K c.reader "take_kind" "Reader.take_kind" s_Reader_take_kind
  m_Reader_take_line : MetTx K c.reader "take_line" "Reader.take_line" s_Reader_take_line
  m_Reader_read_score : MetTx K c.reader "read_score" "Reader.read_score" s_Reader_read_score
  m_Reader_read_some : MetTx K c.reader "read_some" "Reader.read_some" s_Reader_read_some
  m_Reader_read_sum : MetTx K c.reader "read_sum" "Reader.read_sum" s_Reader_read_sum
  m_Reader_read_kind : MetTx K c.reader "read_kind" "Reader.read_kind" s_Reader_read_kind
  m_Reader_read_simple : MetTx K c.reader "read_simple" "Reader.read_simple" s_Reader_read_simple
  m_Reader_read_unary : MetTx K c.reader "read_unary" "Reader.read_unary" s_Reader_read_unary
  m_Reader_read_conjunction : MetTx K c.reader "read_conjunction" "Reader.read_conjunction" s_Reader_read_conjunction
  m_Reader_read_condition : MetTx K c.reader "read_condition" "Reader.read_condition" s_Reader_read_condition
  m_Reader_read_line : MetTx K c.reader "read_line" "Reader.read_line" s_Reader_read_line
  m_Trigger_init : IniTx K mg "Trigger" "Trigger.__init__" c.trigger s_Trigger_init
  m_Trigger_reason_at : MetTx K c.trigger "reason_at" "Trigger.reason_at" s_Trigger_reason_at
  m_Trigger_lines_before : MetTx K c.trigger "lines_before" "Trigger.lines_before" s_Trigger_lines_before
  m_Trigger_note_event : MetTx K c.trigger "note_event" "Trigger.note_event" s_Trigger_note_event
  m_Trigger_decide : MetTx K c.trigger "decide" "Trigger.decide" s_Trigger_decide
  m_Trigger_has_line : MetTx K c.trigger "has_line" "Trigger.has_line" s_Trigger_has_line
  m_Desk_init : IniTx K mg "Desk" "Desk.__init__" c.desk s_Desk_init
structure TxC (K : PySem.W.Frag) (mg : Str → Option Value) (c : Cs) : Prop where
  c_Net : Cls K c.net
  a_Net_shift : NoAttr K c.net "shift"
  a_Net_mul : NoAttr K c.net "mul"
  a_Net_down : NoAttr K c.net "down"
  a_Net_b2 : NoAttr K c.net "b2"
  a_Net_b1 : NoAttr K c.net "b1"
  a_Net_w1 : NoAttr K c.net "w1"
  a_Net_w2 : NoAttr K c.net "w2"
  c_Facts : Cls K c.facts
  a_Facts_amounts : NoAttr K c.facts "amounts"
  a_Facts_nearest : NoAttr K c.facts "nearest"
  a_Facts_score : NoAttr K c.facts "score"
  a_Facts_before : NoAttr K c.facts "before"
  a_Facts_held : NoAttr K c.facts "held"
  c_Line : Cls K c.line
  a_Line_name : NoAttr K c.line "name"
  a_Line_condition : NoAttr K c.line "condition"
  a_Line_prescale : NoAttr K c.line "prescale"
  a_Line_held : NoAttr K c.line "held"
  a_Line_passed : NoAttr K c.line "passed"
  a_Line_kept : NoAttr K c.line "kept"
  c_Menu : Cls K c.menu
  a_Menu_lines : NoAttr K c.menu "lines"
  a_Menu_before : NoAttr K c.menu "before"
  c_Reader : Cls K c.reader
  a_Reader_tokens : NoAttr K c.reader "tokens"
  a_Reader_at : NoAttr K c.reader "at"
  a_Reader_names : NoAttr K c.reader "names"
  a_Reader_deep : NoAttr K c.reader "deep"
  c_Trigger : Cls K c.trigger
  a_Trigger_dead : NoAttr K c.trigger "dead"
  a_Trigger_window : NoAttr K c.trigger "window"
  a_Trigger_most : NoAttr K c.trigger "most"
  a_Trigger_net : NoAttr K c.trigger "net"
  a_Trigger_menu : NoAttr K c.trigger "menu"
  a_Trigger_last_time : NoAttr K c.trigger "last_time"
  a_Trigger_last_objects : NoAttr K c.trigger "last_objects"
  a_Trigger_kept_times : NoAttr K c.trigger "kept_times"
  a_Trigger_reasons : NoAttr K c.trigger "reasons"
  c_Desk : Cls K c.desk
  a_Desk_trigger : NoAttr K c.desk "trigger"
structure TxX (K : PySem.W.Frag) (mg : Str → Option Value) (c : Cs) : Prop where
  gL : mg "BadLine" = some (.ref c.badLine)
  xL : PySem.W.excIn K c.badLine [.type "ValueError", .type "Exception", .type "BaseException", .type "object"] "ValueError.__new__" = true
  kL : PySem.W.keepIn K (.ref c.badLine) = true
  sL : PySem.W.subIn K (.ref c.badLine) (.type "BaseException") = some true
  tL : PySem.W.typeIn K (.ref c.badLine) = some (.type "type")
  eL : PySem.W.exmOne K (.ref c.badLine) (.ref c.badLine) = some true
  gM : mg "BadMenu" = some (.ref c.badMenu)
  oM : OexC K c.badMenu
  fM : XfC K c.badMenu
  nM : PySem.W.findIn K (.ref c.badMenu) "place" = some none
  eM : PySem.W.exmOne K (.ref c.badMenu) (.ref c.badMenu) = some true
  iM : ∃ f fd, Fun K "__init__" "BadMenu.__init__" s_BadMenu_init f fd ∧ PySem.W.findIn K (.ref c.badMenu) "__init__" = some (some (.ref f)) ∧ PySem.W.typeIn K (.ref f) = some (.type "function")
  vV : PySem.W.findCls K (.type "ValueError") (.type "type") "__init__" = some (.val (.builtin "ValueError.__init__"))
structure Txt (K : PySem.W.Frag) (mg : Str → Option Value) (cs : Cs) : Prop where
  k : TxK K mg
  f : TxF K mg
  m : TxM K mg cs
  c : TxC K mg cs
  x : TxX K mg cs
end Ev
namespace Ev
open PySem PySem.Spec PyProof.Rows L2
section
variable {P : Program} {w : World} {K : PySem.W.Frag} {mg : Str → Option Value} {base : Heap} {c : Cs} {f : Addr} {cdv : Value} {A : Around} {outer : List Env} {s : Shared} {H : Hp} {E : XK} {j : Nat}
noncomputable def D_objects_in (T : Txt K mg c) (hr : Room j (A.deeper (envOfC "objects_in" (defScope s_objects_in) s.heap.objs.size f cdv))) : { t : TS // PSs (XO P w K mg base n_objects_in "objects_in" s_objects_in f cdv A outer s H E) (defBody s_objects_in) t } :=
  ⟨_, (pss_one (ps_ret (pe_lc (own := [("at", 1)]) rfl sc_objects_in.nd (pi_range3 rfl T.k.z_range (pa_cons pe_int (pa_cons (pe_callB call_len_seq (by rfl) T.k.z_len bt_len (pa_cons (pv 0) pa_nil)) (pa_cons pe_int pa_nil)))) (blkOk_by (own := [("at", 1)]) (N := n_objects_in) (sc := defScope s_objects_in) (by decide +kernel)) (fun _ _ _ _ _ => (pg_name (i := 1) sc_objects_in.nd rfl (Or.inl rfl))) (fun _ _ _ _ _ => pts_nil) (fun _ _ _ _ _ => (pe_tup (pa_cons (pe_ix (ix_listK (K := K) rfl) (pv 0) (pv 1) (fun _ _ => rfl)) (pa_cons (pe_ix (ix_listK (K := K) rfl) (pv 0) (pe_op op_add (pv 1) pe_int) (fun _ _ => rfl)) (pa_cons (pe_ix (ix_listK (K := K) rfl) (pv 0) (pe_op op_add (pv 1) pe_int) (fun _ _ => rfl)) pa_nil))))))))⟩
noncomputable def D_amounts_of (T : Txt K mg c) (hr : Room j (A.deeper (envOfC "amounts_of" (defScope s_amounts_of) s.heap.objs.size f cdv))) : { t : TS // PSs (XO P w K mg base n_amounts_of "amounts_of" s_amounts_of f cdv A outer s H E) (defBody s_amounts_of) t } :=
  ⟨_, (pss_one (ps_ret (pe_callBK (cr_sortedRev (b := true)) (by rfl) T.k.z_sorted bt_sorted (pa_cons (pe_lc (own := [("own", 2), ("amount", 3), ("position", 4)]) rfl sc_amounts_of.nd (pi_list (pv 0)) (blkOk_by (own := [("own", 2), ("amount", 3), ("position", 4)]) (N := n_amounts_of) (sc := defScope s_amounts_of) (by decide +kernel)) (fun _ _ _ _ _ => (pg_tupK (n := 3) (K := K) rfl rfl (pgs_cons (pg_name (i := 2) sc_amounts_of.nd rfl (Or.inl rfl)) (pgs_cons (pg_name (i := 3) sc_amounts_of.nd rfl (Or.inl rfl)) (pgs_cons (pg_name (i := 4) sc_amounts_of.nd rfl (Or.inl rfl)) pgs_nil))))) (fun _ _ _ _ _ => pts_one (pt_cmpR op_eq (pv 2) (pv 1) (nomark _))) (fun _ _ _ _ _ => (pv 3))) pa_nil) (pk_cons pe_bl pk_nil))))⟩
noncomputable def D_features_of (T : Txt K mg c) {k_amounts_of : Nat} {sp_amounts_of : Sp} (G_amounts_of : Cal P w K mg base CX0 k_amounts_of "amounts_of" sp_amounts_of) (l_amounts_of : k_amounts_of ≤ j) (hr : Room j (A.deeper (envOfC "features_of" (defScope s_features_of) s.heap.objs.size f cdv))) : { t : TS // PSs (XO P w K mg base n_features_of "features_of" s_features_of f cdv A outer s H E) (defBody s_features_of) t } :=
  ⟨_, (pss_cons (ps_set (i := 2) sc_features_of.nd rfl (Or.inl rfl) (pe_lst pa_nil))
    (pss_cons (ps_for PassesOwn.never rfl (pi_range1 rfl T.k.z_range (pa_cons (pe_gi rfl T.k.k_KINDS_facts) pa_nil)) (pg_name (i := 3) sc_features_of.nd rfl (Or.inl rfl))
      (pss_cons (ps_set (i := 4) sc_features_of.nd rfl (Or.inl rfl) (pe_op op_cat (pe_cal G_amounts_of hr l_amounts_of rfl pass0 (pa_cons (pv 0) (pa_cons (pv 3) pa_nil))) (pe_op op_rep (pe_lst (pa_cons pe_int pa_nil)) (pe_gi rfl T.k.k_PER_KIND))))
        (pss_one (ps_expr (pe_bm PySem.F.plainAttrs_list PySem.F.slot_list_extend PySem.F.type_list_extend mt_extend (pv 2) (pa_cons (pe_lc (own := [("amount", 5)]) rfl sc_features_of.nd (pi_list (pe_slice sl_list (pv 4) po_none (po_some (pe_gi rfl T.k.k_PER_KIND)))) (blkOk_by (own := [("amount", 5)]) (N := n_features_of) (sc := defScope s_features_of) (by decide +kernel)) (fun _ _ _ _ _ => (pg_name (i := 5) sc_features_of.nd rfl (Or.inl rfl))) (fun _ _ _ _ _ => pts_nil) (fun _ _ _ _ _ => (pe_callB (call_min2 rfl) (by rfl) T.k.z_min bt_min (pa_cons (pe_gi rfl T.k.k_MOST_FEATURE) (pa_cons (pe_op op_shr (pv 5) (pv 1)) pa_nil))))) pa_nil))))))
    (pss_one (ps_ret (pv 2)))))⟩
noncomputable def D_distance (T : Txt K mg c) (hr : Room j (A.deeper (envOfC "distance" (defScope s_distance) s.heap.objs.size f cdv))) : { t : TS // PSs (XO P w K mg base n_distance "distance" s_distance f cdv A outer s H E) (defBody s_distance) t } :=
  ⟨_, (pss_cons (ps_set (i := 2) sc_distance.nd rfl (Or.inl rfl) (pe_op op_mod (pe_op op_sub (pv 0) (pv 1)) (pe_gi rfl T.k.k_RING)))
    (pss_one (ps_ret (pe_callB (call_min2 rfl) (by rfl) T.k.z_min bt_min (pa_cons (pv 2) (pa_cons (pe_op op_sub (pe_gi rfl T.k.k_RING) (pv 2)) pa_nil))))))⟩
noncomputable def D_nearest_of (T : Txt K mg c) {k_distance : Nat} {sp_distance : Sp} (G_distance : Cal P w K mg base CX0 k_distance "distance" sp_distance) (l_distance : k_distance ≤ j) (hr : Room j (A.deeper (envOfC "nearest_of" (defScope s_nearest_of) s.heap.objs.size f cdv))) : { t : TS // PSs (XO P w K mg base n_nearest_of "nearest_of" s_nearest_of f cdv A outer s H E) (defBody s_nearest_of) t } :=
  ⟨_, (pss_cons (ps_setLc (i := 1) (own := [("kind", 3)]) rfl sc_nearest_of.nd rfl rfl (sw_true rfl rfl rfl (by decide +kernel)) (pi_range1 rfl T.k.z_range (pa_cons (pe_gi rfl T.k.k_KINDS_facts) pa_nil)) (blkOk_by (own := [("kind", 3)]) (N := n_nearest_of) (sc := defScope s_nearest_of) (by decide +kernel)) (fun _ _ _ _ _ => (pg_name (i := 3) sc_nearest_of.nd rfl (Or.inl rfl))) (fun _ _ _ _ _ => pts_nil) (fun _ _ _ _ _ => (pe_op op_rep (pe_lst (pa_cons (pe_gi rfl T.k.k_FAR) pa_nil)) (pe_gi rfl T.k.k_KINDS_facts))))
    (pss_cons (ps_for PassesOwn.never rfl (pi_enum rfl T.k.z_enumerate (pa_cons (pv 0) pa_nil)) (pg_tup rfl (pgs_cons (pg_name (i := 2) sc_nearest_of.nd rfl (Or.inl rfl)) (pgs_cons (pg_tup rfl (pgs_cons (pg_name (i := 3) sc_nearest_of.nd rfl (Or.inl rfl)) (pgs_cons (pg_name (i := 4) sc_nearest_of.nd rfl (Or.inl rfl)) (pgs_cons (pg_name (i := 5) sc_nearest_of.nd rfl (Or.inl rfl)) pgs_nil)))) pgs_nil)))
      (pss_one (ps_for PassesOwn.never rfl (pi_list (pe_slice sl_list (pv 0) po_none (po_some (pv 2)))) (pg_tup rfl (pgs_cons (pg_name (i := 6) sc_nearest_of.nd rfl (Or.inl rfl)) (pgs_cons (pg_name (i := 7) sc_nearest_of.nd rfl (Or.inl rfl)) (pgs_cons (pg_name (i := 8) sc_nearest_of.nd rfl (Or.inl rfl)) pgs_nil))))
          (pss_cons (ps_set (i := 9) sc_nearest_of.nd rfl (Or.inl rfl) (pe_callB (call_min2 rfl) (by rfl) T.k.z_min bt_min (pa_cons (pe_ix ix_list (pe_ix ix_list (pv 1) (pv 3) (fun _ _ => rfl)) (pv 6) (fun _ _ => rfl)) (pa_cons (pe_cal G_distance hr l_distance rfl pass0 (pa_cons (pv 5) (pa_cons (pv 8) pa_nil))) pa_nil))))
            (pss_cons (ps_asg (pv 9) (pg_sub (pe_ix ix_list (pv 1) (pv 3) (fun _ _ => rfl)) (pv 6) set_list))
            (pss_one (ps_asg (pv 9) (pg_sub (pe_ix ix_list (pv 1) (pv 6) (fun _ _ => rfl)) (pv 3) set_list))))))))
    (pss_one (ps_ret (pv 1)))))⟩
noncomputable def D_Net_init (T : Txt K mg c) (hr : Room j (A.deeper (envOfC "Net.__init__" (defScope s_Net_init) s.heap.objs.size f cdv))) : { t : TS // PSs (XO P w K mg base n_Net_init "Net.__init__" s_Net_init f cdv A outer s H E) (defBody s_Net_init) t } :=
  ⟨_, (pss_cons (ps_fld (pv 0) (pv 1) rfl)
    (pss_cons (ps_fld (pv 0) (pv 2) rfl)
    (pss_cons (ps_fld (pv 0) (pv 3) rfl)
    (pss_cons (ps_fld (pv 0) (pv 4) rfl)
    (pss_cons (ps_fld (pv 0) (pe_op op_rep (pe_lst (pa_cons pe_int pa_nil)) (pe_gi rfl T.k.k_HIDDEN)) rfl)
    (pss_cons (ps_fld (pv 0) (pe_op op_rep (pe_lst (pa_cons pe_int pa_nil)) (pe_op op_mul (pe_gi rfl T.k.k_HIDDEN) (pe_gi rfl T.k.k_WIDE))) rfl)
    (pss_one (ps_fld (pv 0) (pe_op op_rep (pe_lst (pa_cons pe_int pa_nil)) (pe_gi rfl T.k.k_HIDDEN)) rfl))))))))⟩
noncomputable def D_Net_take_rows (T : Txt K mg c) (hr : Room j (A.deeper (envOfC "Net.take_rows" (defScope s_Net_take_rows) s.heap.objs.size f cdv))) : { t : TS // PSs (XO P w K mg base n_Net_take_rows "Net.take_rows" s_Net_take_rows f cdv A outer s H E) (defBody s_Net_take_rows) t } :=
  ⟨_, (pss_cons (ps_fld (pv 0) (pe_callTy call_list_of (by rfl) T.k.z_list bt_list (pa_cons (pv 1) pa_nil)) rfl)
    (pss_cons (ps_fld (pv 0) (pe_callTy call_list_of (by rfl) T.k.z_list bt_list (pa_cons (pv 2) pa_nil)) rfl)
    (pss_one (ps_fld (pv 0) (pe_callTy call_list_of (by rfl) T.k.z_list bt_list (pa_cons (pv 3) pa_nil)) rfl))))⟩
noncomputable def D_Net_hidden_at (T : Txt K mg c) (hr : Room j (A.deeper (envOfC "Net.hidden_at" (defScope s_Net_hidden_at) s.heap.objs.size f cdv))) : { t : TS // PSs (XO P w K mg base n_Net_hidden_at "Net.hidden_at" s_Net_hidden_at f cdv A outer s H E) (defBody s_Net_hidden_at) t } :=
  ⟨_, (pss_cons (ps_set (i := 3) sc_Net_hidden_at.nd rfl (Or.inl rfl) (pe_slice sl_list (pe_fld (pv 0) rfl) (po_some (pe_op op_mul (pe_gi rfl T.k.k_WIDE) (pv 2))) (po_some (pe_op op_add (pe_op op_mul (pe_gi rfl T.k.k_WIDE) (pv 2)) (pe_gi rfl T.k.k_WIDE)))))
    (pss_cons (ps_set (i := 4) sc_Net_hidden_at.nd rfl (Or.inl rfl) (pe_op op_add (pe_callB (cr_sum rfl) (by rfl) T.k.z_sum bt_sum (pa_cons (pe_lc (own := [("feature", 5), ("weight", 6)]) rfl sc_Net_hidden_at.nd (pi_zip rfl T.k.z_zip (pa_cons (pv 1) (pa_cons (pv 3) pa_nil))) (blkOk_by (own := [("feature", 5), ("weight", 6)]) (N := n_Net_hidden_at) (sc := defScope s_Net_hidden_at) (by decide +kernel)) (fun _ _ _ _ _ => (pg_tupK (n := 2) (K := K) rfl rfl (pgs_cons (pg_name (i := 5) sc_Net_hidden_at.nd rfl (Or.inl rfl)) (pgs_cons (pg_name (i := 6) sc_Net_hidden_at.nd rfl (Or.inl rfl)) pgs_nil)))) (fun _ _ _ _ _ => pts_nil) (fun _ _ _ _ _ => (pe_op op_mul (pv 5) (pv 6)))) pa_nil)) (pe_ix ix_list (pe_fld (pv 0) rfl) (pv 2) (fun _ _ => rfl))))
    (pss_one (ps_ret (pe_callB (call_min2 rfl) (by rfl) T.k.z_min bt_min (pa_cons (pe_gi rfl T.k.k_MOST_FEATURE) (pa_cons (pe_callB (call_max2 rfl) (by rfl) T.k.z_max bt_max (pa_cons pe_int (pa_cons (pe_op op_shr (pe_op op_mul (pv 4) (pe_fld (pv 0) rfl)) (pe_fld (pv 0) rfl)) pa_nil))) pa_nil)))))))⟩
noncomputable def D_Net_score_of (T : Txt K mg c) {k_Net_hidden_at : Nat} {sp_Net_hidden_at : Sp} (G_Net_hidden_at : Met P w K mg base CX0 k_Net_hidden_at c.net "hidden_at" sp_Net_hidden_at) (l_Net_hidden_at : k_Net_hidden_at ≤ j) (hr : Room j (A.deeper (envOfC "Net.score_of" (defScope s_Net_score_of) s.heap.objs.size f cdv))) : { t : TS // PSs (XO P w K mg base n_Net_score_of "Net.score_of" s_Net_score_of f cdv A outer s H E) (defBody s_Net_score_of) t } :=
  ⟨_, (pss_one (ps_ret (pe_op op_add (pe_callB (cr_sum rfl) (by rfl) T.k.z_sum bt_sum (pa_cons (pe_lc (own := [("j", 2)]) rfl sc_Net_score_of.nd (pi_range1 rfl T.k.z_range (pa_cons (pe_gi rfl T.k.k_HIDDEN) pa_nil)) (blkOk_by (own := [("j", 2)]) (N := n_Net_score_of) (sc := defScope s_Net_score_of) (by decide +kernel)) (fun _ _ _ _ _ => (pg_name (i := 2) sc_Net_score_of.nd rfl (Or.inl rfl))) (fun _ _ _ _ _ => pts_nil) (fun _ _ _ _ _ => (pe_op op_mul (pe_met G_Net_hidden_at hr l_Net_hidden_at pass0 (pv 0) (pa_cons (pv 1) (pa_cons (pv 2) pa_nil))) (pe_ix (ix_listK (K := K) rfl) (pe_fldK (K := K) rfl (pv 0) rfl) (pv 2) (fun _ _ => rfl))))) pa_nil)) (pe_fld (pv 0) rfl))))⟩
noncomputable def D_Facts_init (T : Txt K mg c) {k_amounts_of : Nat} {sp_amounts_of : Sp} (G_amounts_of : Cal P w K mg base CX0 k_amounts_of "amounts_of" sp_amounts_of) (l_amounts_of : k_amounts_of ≤ j) {k_nearest_of : Nat} {sp_nearest_of : Sp} (G_nearest_of : Cal P w K mg base CX0 k_nearest_of "nearest_of" sp_nearest_of) (l_nearest_of : k_nearest_of ≤ j) (hr : Room j (A.deeper (envOfC "Facts.__init__" (defScope s_Facts_init) s.heap.objs.size f cdv))) : { t : TS // PSs (XO P w K mg base n_Facts_init "Facts.__init__" s_Facts_init f cdv A outer s H E) (defBody s_Facts_init) t } :=
  ⟨_, (pss_cons (ps_fld (pv 0) (pe_lc (own := [("kind", 4)]) rfl sc_Facts_init.nd (pi_range1 rfl T.k.z_range (pa_cons (pe_gi rfl T.k.k_KINDS_facts) pa_nil)) (blkOk_by (own := [("kind", 4)]) (N := n_Facts_init) (sc := defScope s_Facts_init) (by decide +kernel)) (fun _ _ _ _ _ => (pg_name (i := 4) sc_Facts_init.nd rfl (Or.inl rfl))) (fun _ _ _ _ _ => pts_nil) (fun _ _ _ _ _ => (pe_cal G_amounts_of hr l_amounts_of rfl pass0 (pa_cons (pv 1) (pa_cons (pv 4) pa_nil))))) rfl)
    (pss_cons (ps_fld (pv 0) (pe_cal G_nearest_of hr l_nearest_of rfl pass0 (pa_cons (pv 1) pa_nil)) rfl)
    (pss_cons (ps_fld (pv 0) (pv 2) rfl)
    (pss_cons (ps_fld (pv 0) (pv 3) rfl)
    (pss_one (ps_fld (pv 0) (pe_lst pa_nil) rfl))))))⟩
noncomputable def D_denied (T : Txt K mg c) (hr : Room j (A.deeper (envOfC "denied" (defScope s_denied) s.heap.objs.size f cdv))) : { t : TS // PSs (XO P w K mg base n_denied "denied" s_denied f cdv A outer s H E) (defBody s_denied) t } :=
  ⟨_, (pss_cons (ps_if (pt_cmpR op_eq (pv 0) pe_int (nomark _)) (pss_one (ps_ret (pv 1))) pss_nil)
    (pss_cons (ps_if (pt_cmpR op_eq (pe_ix ix_tup (pv 1) pe_int (fun _ _ => rfl)) (pe_gs rfl T.k.k_NOT) (nomark _)) (pss_one (ps_ret (pe_tup (pa_cons (pe_gs rfl T.k.k_NOT) (pa_cons (pe_op op_add (pv 0) (pe_ix ix_tup (pv 1) pe_int (fun _ _ => rfl))) (pa_cons (pe_ix ix_tup (pv 1) pe_int (fun _ _ => rfl)) pa_nil)))))) pss_nil)
    (pss_one (ps_ret (pe_tup (pa_cons (pe_gs rfl T.k.k_NOT) (pa_cons (pv 0) (pa_cons (pv 1) pa_nil))))))))⟩
noncomputable def D_joined (T : Txt K mg c) (hr : Room j (A.deeper (envOfC "joined" (defScope s_joined) s.heap.objs.size f cdv))) : { t : TS // PSs (XO P w K mg base n_joined "joined" s_joined f cdv A outer s H E) (defBody s_joined) t } :=
  ⟨_, (pss_cons (ps_if (pt_cmpR op_eq (pe_callB call_len_seq (by rfl) T.k.z_len bt_len (pa_cons (pv 1) pa_nil)) pe_int (nomark _)) (pss_one (ps_ret (pe_ix ix_list (pv 1) pe_int (fun _ _ => rfl)))) pss_nil)
    (pss_cons (ps_set (i := 2) sc_joined.nd rfl (Or.inl rfl) (pe_ix ix_list (pv 1) (pe_un un_neg pe_int) (fun _ _ => rfl)))
    (pss_cons (ps_if (pt_cmpR op_eq (pe_ix ix_tup (pv 2) pe_int (fun _ _ => rfl)) (pv 0) (nomark _)) (pss_one (ps_ret (pe_tup (pa_cons (pv 0) (pa_cons (pe_op op_catA (pe_callTy call_tuple_of (by rfl) T.k.z_tuple bt_tuple (pa_cons (pe_slice sl_list (pv 1) po_none (po_some (pe_un un_neg pe_int))) pa_nil)) (pe_ix ix_tup (pv 2) pe_int (fun _ _ => rfl))) pa_nil))))) pss_nil)
    (pss_one (ps_ret (pe_tup (pa_cons (pv 0) (pa_cons (pe_callTy call_tuple_of (by rfl) T.k.z_tuple bt_tuple (pa_cons (pv 1) pa_nil)) pa_nil))))))))⟩
noncomputable def D_does_simple_hold (T : Txt K mg c) (hr : Room j (A.deeper (envOfC "does_simple_hold" (defScope s_does_simple_hold) s.heap.objs.size f cdv))) : { t : TS // PSs (XO P w K mg base n_does_simple_hold "does_simple_hold" s_does_simple_hold f cdv A outer s H E) (defBody s_does_simple_hold) t } :=
  ⟨_, (pss_cons (ps_set (i := 2) sc_does_simple_hold.nd rfl (Or.inl rfl) (pe_ix ix_tup (pv 0) pe_int (fun _ _ => rfl)))
    (pss_cons (ps_if (pt_cmpR op_eq (pv 2) (pe_gs rfl T.k.k_SOME) (nomark _)) (pss_one (ps_ret (pe_cmpR op_ge (pe_callB call_len_seq (by rfl) T.k.z_len bt_len (pa_cons (pe_lc (own := [("amount", 3)]) rfl sc_does_simple_hold.nd (pi_list (pe_ix ix_list (pe_fld (pv 1) rfl) (pe_ix ix_tup (pv 0) pe_int (fun _ _ => rfl)) (fun _ _ => rfl))) (blkOk_by (own := [("amount", 3)]) (N := n_does_simple_hold) (sc := defScope s_does_simple_hold) (by decide +kernel)) (fun _ _ _ _ _ => (pg_name (i := 3) sc_does_simple_hold.nd rfl (Or.inl rfl))) (fun _ _ _ _ _ => pts_one (pt_cmpR op_gt (pv 3) (pe_ix (ix_tupK (K := K) rfl) (pv 0) pe_int (fun _ _ => rfl)) (nomark _))) (fun _ _ _ _ _ => (pv 3))) pa_nil)) (pe_ix ix_tup (pv 0) pe_int (fun _ _ => rfl)) (nomark _)))) pss_nil)
    (pss_cons (ps_if (pt_cmpR op_eq (pv 2) (pe_gs rfl T.k.k_SUM) (nomark _)) (pss_one (ps_ret (pe_cmpR op_gt (pe_callB (cr_sum rfl) (by rfl) T.k.z_sum bt_sum (pa_cons (pe_ix ix_list (pe_fld (pv 1) rfl) (pe_ix ix_tup (pv 0) pe_int (fun _ _ => rfl)) (fun _ _ => rfl)) pa_nil)) (pe_ix ix_tup (pv 0) pe_int (fun _ _ => rfl)) (nomark _)))) pss_nil)
    (pss_cons (ps_if (pt_cmpR op_eq (pv 2) (pe_gs rfl T.k.k_NEAR) (nomark _)) (pss_one (ps_ret (pe_cmpR op_lt (pe_ix ix_list (pe_ix ix_list (pe_fld (pv 1) rfl) (pe_ix ix_tup (pv 0) pe_int (fun _ _ => rfl)) (fun _ _ => rfl)) (pe_ix ix_tup (pv 0) pe_int (fun _ _ => rfl)) (fun _ _ => rfl)) (pe_ix ix_tup (pv 0) pe_int (fun _ _ => rfl)) (nomark _)))) pss_nil)
    (pss_cons (ps_if (pt_cmpR op_eq (pv 2) (pe_gs rfl T.k.k_SCORE) (nomark _)) (pss_one (ps_ret (pe_cmpR op_gt (pe_fld (pv 1) rfl) (pe_ix ix_tup (pv 0) pe_int (fun _ _ => rfl)) (nomark _)))) pss_nil)
    (pss_cons (ps_if (pt_cmpR op_eq (pv 2) (pe_gs rfl T.k.k_LINE) (nomark _)) (pss_one (ps_ret (pe_ix ix_list (pe_fld (pv 1) rfl) (pe_ix ix_tup (pv 0) pe_int (fun _ _ => rfl)) (fun _ _ => rfl)))) pss_nil)
    (pss_one (ps_ret (pe_ix ix_list (pe_fld (pv 1) rfl) (pe_ix ix_tup (pv 0) pe_int (fun _ _ => rfl)) (fun _ _ => rfl))))))))))⟩
noncomputable def D_does_hold (T : Txt K mg c) {k_does_hold : Nat} {sp_does_hold : Sp} (G_does_hold : Cal P w K mg base CX0 k_does_hold "does_hold" sp_does_hold) (l_does_hold : k_does_hold ≤ j) {k_does_simple_hold : Nat} {sp_does_simple_hold : Sp} (G_does_simple_hold : Cal P w K mg base CX0 k_does_simple_hold "does_simple_hold" sp_does_simple_hold) (l_does_simple_hold : k_does_simple_hold ≤ j) (hr : Room j (A.deeper (envOfC "does_hold" (defScope s_does_hold) s.heap.objs.size f cdv))) : { t : TS // PSs (XO P w K mg base n_does_hold "does_hold" s_does_hold f cdv A outer s H E) (defBody s_does_hold) t } :=
  ⟨_, (pss_cons (ps_set (i := 2) sc_does_hold.nd rfl (Or.inl rfl) (pe_ix ix_tup (pv 0) pe_int (fun _ _ => rfl)))
    (pss_cons (ps_if (pt_cmpR op_eq (pv 2) (pe_gs rfl T.k.k_NOT) (nomark _)) (pss_one (ps_ret (pe_cmpR op_eq (pe_cal G_does_hold hr l_does_hold rfl pass0 (pa_cons (pe_ix ix_tup (pv 0) pe_int (fun _ _ => rfl)) (pa_cons (pv 1) pa_nil))) (pe_cmpR op_eq (pe_op op_mod (pe_ix ix_tup (pv 0) pe_int (fun _ _ => rfl)) pe_int) pe_int (nomark _)) (nomark _)))) pss_nil)
    (pss_cons (ps_if (pt_cmpR op_eq (pv 2) (pe_gs rfl T.k.k_AND) (nomark _)) (pss_one (ps_ret (pe_callB (cr_all rfl) (by rfl) T.k.z_all bt_all (pa_cons (pe_lc (own := [("part", 3)]) rfl sc_does_hold.nd (pi_tup (pe_ix ix_tup (pv 0) pe_int (fun _ _ => rfl))) (blkOk_by (own := [("part", 3)]) (N := n_does_hold) (sc := defScope s_does_hold) (by decide +kernel)) (fun _ _ _ _ _ => (pg_name (i := 3) sc_does_hold.nd rfl (Or.inl rfl))) (fun _ _ _ _ _ => pts_nil) (fun _ _ _ _ _ => (pe_cal G_does_hold hr l_does_hold rfl pass0 (pa_cons (pv 3) (pa_cons (pv 1) pa_nil))))) pa_nil)))) pss_nil)
    (pss_cons (ps_if (pt_cmpR op_eq (pv 2) (pe_gs rfl T.k.k_OR) (nomark _)) (pss_one (ps_ret (pe_callB (cr_any rfl) (by rfl) T.k.z_any bt_any (pa_cons (pe_lc (own := [("part", 3)]) rfl sc_does_hold.nd (pi_tup (pe_ix ix_tup (pv 0) pe_int (fun _ _ => rfl))) (blkOk_by (own := [("part", 3)]) (N := n_does_hold) (sc := defScope s_does_hold) (by decide +kernel)) (fun _ _ _ _ _ => (pg_name (i := 3) sc_does_hold.nd rfl (Or.inl rfl))) (fun _ _ _ _ _ => pts_nil) (fun _ _ _ _ _ => (pe_cal G_does_hold hr l_does_hold rfl pass0 (pa_cons (pv 3) (pa_cons (pv 1) pa_nil))))) pa_nil)))) pss_nil)
    (pss_one (ps_ret (pe_cal G_does_simple_hold hr l_does_simple_hold rfl pass0 (pa_cons (pv 0) (pa_cons (pv 1) pa_nil)))))))))⟩
noncomputable def D_digits (T : Txt K mg c) (hr : Room j (A.deeper (envOfC "digits" (defScope s_digits) s.heap.objs.size f cdv))) : { t : TS // PSs (XO P w K mg base n_digits "digits" s_digits f cdv A outer s H E) (defBody s_digits) t } :=
  ⟨_, (pss_one (ps_ret (pe_lc (own := [("sign", 1)]) rfl sc_digits.nd (pi_str (pe_callTy call_str_int (by rfl) T.k.z_str bt_str (pa_cons (pv 0) pa_nil))) (blkOk_by (own := [("sign", 1)]) (N := n_digits) (sc := defScope s_digits) (by decide +kernel)) (fun _ _ _ _ _ => (pg_name (i := 1) sc_digits.nd rfl (Or.inl rfl))) (fun _ _ _ _ _ => pts_nil) (fun _ _ _ _ _ => (pe_callB call_ord (by rfl) T.k.z_ord bt_ord (pa_cons (pv 1) pa_nil))))))⟩
noncomputable def D_kind_letter (T : Txt K mg c) (hr : Room j (A.deeper (envOfC "kind_letter" (defScope s_kind_letter) s.heap.objs.size f cdv))) : { t : TS // PSs (XO P w K mg base n_kind_letter "kind_letter" s_kind_letter f cdv A outer s H E) (defBody s_kind_letter) t } :=
  ⟨_, (pss_one (ps_ret (pe_op op_add (pe_gi rfl T.k.k_FIRST_KIND) (pv 0))))⟩
noncomputable def D_simple_text (T : Txt K mg c) {k_digits : Nat} {sp_digits : Sp} (G_digits : Cal P w K mg base CX0 k_digits "digits" sp_digits) (l_digits : k_digits ≤ j) {k_kind_letter : Nat} {sp_kind_letter : Sp} (G_kind_letter : Cal P w K mg base CX0 k_kind_letter "kind_letter" sp_kind_letter) (l_kind_letter : k_kind_letter ≤ j) (hr : Room j (A.deeper (envOfC "simple_text" (defScope s_simple_text) s.heap.objs.size f cdv))) : { t : TS // PSs (XO P w K mg base n_simple_text "simple_text" s_simple_text f cdv A outer s H E) (defBody s_simple_text) t } :=
  ⟨_, (pss_cons (ps_set (i := 2) sc_simple_text.nd rfl (Or.inl rfl) (pe_ix ix_tup (pv 0) pe_int (fun _ _ => rfl)))
    (pss_cons (ps_if (pt_cmpR op_eq (pv 2) (pe_gs rfl T.k.k_SOME) (nomark _)) (pss_cons (ps_set (i := 3) sc_simple_text.nd rfl (Or.inl rfl) (pe_ifExp (pt_cmpR op_ne (pe_ix ix_tup (pv 0) pe_int (fun _ _ => rfl)) pe_int (nomark _)) (pe_cal G_digits hr l_digits rfl pass0 (pa_cons (pe_ix ix_tup (pv 0) pe_int (fun _ _ => rfl)) pa_nil)) (pe_lst pa_nil)))
        (pss_one (ps_ret (pe_op op_cat (pe_op op_cat (pv 3) (pe_lst (pa_cons (pe_cal G_kind_letter hr l_kind_letter rfl pass0 (pa_cons (pe_ix ix_tup (pv 0) pe_int (fun _ _ => rfl)) pa_nil)) (pa_cons (pe_gi rfl T.k.k_GREATER) pa_nil)))) (pe_cal G_digits hr l_digits rfl pass0 (pa_cons (pe_ix ix_tup (pv 0) pe_int (fun _ _ => rfl)) pa_nil)))))) pss_nil)
    (pss_cons (ps_if (pt_cmpR op_eq (pv 2) (pe_gs rfl T.k.k_SUM) (nomark _)) (pss_one (ps_ret (pe_op op_cat (pe_lst (pa_cons (pe_gi rfl T.k.k_PLUS) (pa_cons (pe_cal G_kind_letter hr l_kind_letter rfl pass0 (pa_cons (pe_ix ix_tup (pv 0) pe_int (fun _ _ => rfl)) pa_nil)) (pa_cons (pe_gi rfl T.k.k_GREATER) pa_nil)))) (pe_cal G_digits hr l_digits rfl pass0 (pa_cons (pe_ix ix_tup (pv 0) pe_int (fun _ _ => rfl)) pa_nil))))) pss_nil)
    (pss_cons (ps_if (pt_cmpR op_eq (pv 2) (pe_gs rfl T.k.k_NEAR) (nomark _)) (pss_one (ps_ret (pe_op op_cat (pe_lst (pa_cons (pe_cal G_kind_letter hr l_kind_letter rfl pass0 (pa_cons (pe_ix ix_tup (pv 0) pe_int (fun _ _ => rfl)) pa_nil)) (pa_cons (pe_gi rfl T.k.k_TILDE) (pa_cons (pe_cal G_kind_letter hr l_kind_letter rfl pass0 (pa_cons (pe_ix ix_tup (pv 0) pe_int (fun _ _ => rfl)) pa_nil)) (pa_cons (pe_gi rfl T.k.k_LESS) pa_nil))))) (pe_cal G_digits hr l_digits rfl pass0 (pa_cons (pe_ix ix_tup (pv 0) pe_int (fun _ _ => rfl)) pa_nil))))) pss_nil)
    (pss_cons (ps_if (pt_cmpR op_eq (pv 2) (pe_gs rfl T.k.k_SCORE) (nomark _)) (pss_one (ps_ret (pe_op op_cat (pe_lst (pa_cons (pe_gi rfl T.k.k_ASKED) (pa_cons (pe_gi rfl T.k.k_GREATER) pa_nil))) (pe_cal G_digits hr l_digits rfl pass0 (pa_cons (pe_ix ix_tup (pv 0) pe_int (fun _ _ => rfl)) pa_nil))))) pss_nil)
    (pss_one (ps_ret (pe_op op_cat (pe_lst (pa_cons (pe_ifExp (pt_cmpR op_eq (pv 2) (pe_gs rfl T.k.k_LINE) (nomark _)) (pe_gi rfl T.k.k_AT) (pe_gi rfl T.k.k_CARET)) pa_nil)) (pe_callTy call_list_of (by rfl) T.k.z_list bt_list (pa_cons (pe_ix ix_list (pv 1) (pe_ix ix_tup (pv 0) pe_int (fun _ _ => rfl)) (fun _ _ => rfl)) pa_nil))))))))))⟩
noncomputable def D_part_text (T : Txt K mg c) {k_condition_text : Nat} {sp_condition_text : Sp} (G_condition_text : Cal P w K mg base CX0 k_condition_text "condition_text" sp_condition_text) (l_condition_text : k_condition_text ≤ j) (hr : Room j (A.deeper (envOfC "part_text" (defScope s_part_text) s.heap.objs.size f cdv))) : { t : TS // PSs (XO P w K mg base n_part_text "part_text" s_part_text f cdv A outer s H E) (defBody s_part_text) t } :=
  ⟨_, (pss_cons (ps_set (i := 3) sc_part_text.nd rfl (Or.inl rfl) (pe_cal G_condition_text hr l_condition_text rfl pass0 (pa_cons (pv 0) (pa_cons (pv 2) pa_nil))))
    (pss_cons (ps_if (pt_cmpR op_in_seq (pe_ix ix_tup (pv 0) pe_int (fun _ _ => rfl)) (pv 1) (by rfl)) (pss_one (ps_ret (pe_op op_cat (pe_op op_cat (pe_lst (pa_cons (pe_gi rfl T.k.k_OPENING) pa_nil)) (pv 3)) (pe_lst (pa_cons (pe_gi rfl T.k.k_CLOSING) pa_nil))))) pss_nil)
    (pss_one (ps_ret (pv 3)))))⟩
noncomputable def D_sequence_text (T : Txt K mg c) {k_part_text : Nat} {sp_part_text : Sp} (G_part_text : Cal P w K mg base CX0 k_part_text "part_text" sp_part_text) (l_part_text : k_part_text ≤ j) (hr : Room j (A.deeper (envOfC "sequence_text" (defScope s_sequence_text) s.heap.objs.size f cdv))) : { t : TS // PSs (XO P w K mg base n_sequence_text "sequence_text" s_sequence_text f cdv A outer s H E) (defBody s_sequence_text) t } :=
  ⟨_, (pss_cons (ps_set (i := 5) sc_sequence_text.nd rfl (Or.inl rfl) (pe_lst pa_nil))
    (pss_cons (ps_for PassesOwn.never rfl (pi_tup (pe_slice sl_tup (pv 0) po_none (po_some (pe_un un_neg pe_int)))) (pg_name (i := 6) sc_sequence_text.nd rfl (Or.inl rfl))
      (pss_cons (ps_expr (pe_bm PySem.F.plainAttrs_list PySem.F.slot_list_extend PySem.F.type_list_extend mt_extend (pv 5) (pa_cons (pe_cal G_part_text hr l_part_text rfl pass0 (pa_cons (pv 6) (pa_cons (pv 2) (pa_cons (pv 4) pa_nil)))) pa_nil)))
        (pss_one (ps_expr (pe_bm PySem.F.plainAttrs_list PySem.F.slot_list_append PySem.F.type_list_append mt_append (pv 5) (pa_cons (pv 1) pa_nil))))))
    (pss_one (ps_ret (pe_op op_cat (pv 5) (pe_cal G_part_text hr l_part_text rfl pass0 (pa_cons (pe_ix ix_tup (pv 0) (pe_un un_neg pe_int) (fun _ _ => rfl)) (pa_cons (pv 3) (pa_cons (pv 4) pa_nil)))))))))⟩
noncomputable def D_condition_text (T : Txt K mg c) {k_part_text : Nat} {sp_part_text : Sp} (G_part_text : Cal P w K mg base CX0 k_part_text "part_text" sp_part_text) (l_part_text : k_part_text ≤ j) {k_sequence_text : Nat} {sp_sequence_text : Sp} (G_sequence_text : Cal P w K mg base CX0 k_sequence_text "sequence_text" sp_sequence_text) (l_sequence_text : k_sequence_text ≤ j) {k_simple_text : Nat} {sp_simple_text : Sp} (G_simple_text : Cal P w K mg base CX0 k_simple_text "simple_text" sp_simple_text) (l_simple_text : k_simple_text ≤ j) (hr : Room j (A.deeper (envOfC "condition_text" (defScope s_condition_text) s.heap.objs.size f cdv))) : { t : TS // PSs (XO P w K mg base n_condition_text "condition_text" s_condition_text f cdv A outer s H E) (defBody s_condition_text) t } :=
  ⟨_, (pss_cons (ps_set (i := 2) sc_condition_text.nd rfl (Or.inl rfl) (pe_ix ix_tup (pv 0) pe_int (fun _ _ => rfl)))
    (pss_cons (ps_if (pt_cmpR op_eq (pv 2) (pe_gs rfl T.k.k_NOT) (nomark _)) (pss_one (ps_ret (pe_op op_cat (pe_op op_rep (pe_lst (pa_cons (pe_gi rfl T.k.k_DENIED) pa_nil)) (pe_ix ix_tup (pv 0) pe_int (fun _ _ => rfl))) (pe_cal G_part_text hr l_part_text rfl pass0 (pa_cons (pe_ix ix_tup (pv 0) pe_int (fun _ _ => rfl)) (pa_cons (pe_tup (pa_cons (pe_gs rfl T.k.k_AND) (pa_cons (pe_gs rfl T.k.k_OR) pa_nil))) (pa_cons (pv 1) pa_nil))))))) pss_nil)
    (pss_cons (ps_if (pt_cmpR op_eq (pv 2) (pe_gs rfl T.k.k_AND) (nomark _)) (pss_one (ps_ret (pe_cal G_sequence_text hr l_sequence_text rfl pass0 (pa_cons (pe_ix ix_tup (pv 0) pe_int (fun _ _ => rfl)) (pa_cons (pe_gi rfl T.k.k_BOTH) (pa_cons (pe_tup (pa_cons (pe_gs rfl T.k.k_AND) (pa_cons (pe_gs rfl T.k.k_OR) pa_nil))) (pa_cons (pe_tup (pa_cons (pe_gs rfl T.k.k_OR) pa_nil)) (pa_cons (pv 1) pa_nil)))))))) pss_nil)
    (pss_cons (ps_if (pt_cmpR op_eq (pv 2) (pe_gs rfl T.k.k_OR) (nomark _)) (pss_one (ps_ret (pe_cal G_sequence_text hr l_sequence_text rfl pass0 (pa_cons (pe_ix ix_tup (pv 0) pe_int (fun _ _ => rfl)) (pa_cons (pe_gi rfl T.k.k_EITHER) (pa_cons (pe_tup (pa_cons (pe_gs rfl T.k.k_OR) pa_nil)) (pa_cons (pe_tup pa_nil) (pa_cons (pv 1) pa_nil)))))))) pss_nil)
    (pss_one (ps_ret (pe_cal G_simple_text hr l_simple_text rfl pass0 (pa_cons (pv 0) (pa_cons (pv 1) pa_nil)))))))))⟩
noncomputable def D_line_text (T : Txt K mg c) {k_condition_text : Nat} {sp_condition_text : Sp} (G_condition_text : Cal P w K mg base CX0 k_condition_text "condition_text" sp_condition_text) (l_condition_text : k_condition_text ≤ j) {k_digits : Nat} {sp_digits : Sp} (G_digits : Cal P w K mg base CX0 k_digits "digits" sp_digits) (l_digits : k_digits ≤ j) (hr : Room j (A.deeper (envOfC "line_text" (defScope s_line_text) s.heap.objs.size f cdv))) : { t : TS // PSs (XO P w K mg base n_line_text "line_text" s_line_text f cdv A outer s H E) (defBody s_line_text) t } :=
  ⟨_, (pss_cons (ps_set (i := 2) sc_line_text.nd rfl (Or.inl rfl) (pe_op op_cat (pe_op op_cat (pe_callTy call_list_of (by rfl) T.k.z_list bt_list (pa_cons (pe_fld (pv 0) rfl) pa_nil)) (pe_lst (pa_cons (pe_gi rfl T.k.k_COLON) pa_nil))) (pe_cal G_condition_text hr l_condition_text rfl pass0 (pa_cons (pe_fld (pv 0) rfl) (pa_cons (pv 1) pa_nil)))))
    (pss_cons (ps_if (pt_cmpR op_eq (pe_fld (pv 0) rfl) pe_int (nomark _)) (pss_one (ps_ret (pv 2))) pss_nil)
    (pss_one (ps_ret (pe_op op_cat (pe_op op_cat (pv 2) (pe_lst (pa_cons (pe_gi rfl T.k.k_SLASH) pa_nil))) (pe_cal G_digits hr l_digits rfl pass0 (pa_cons (pe_fld (pv 0) rfl) pa_nil)))))))⟩
noncomputable def D_is_letter (T : Txt K mg c) (hr : Room j (A.deeper (envOfC "is_letter" (defScope s_is_letter) s.heap.objs.size f cdv))) : { t : TS // PSs (XO P w K mg base n_is_letter "is_letter" s_is_letter f cdv A outer s H E) (defBody s_is_letter) t } :=
  ⟨_, (pss_one (ps_ret (pe_or (pe_chain op_le op_le pe_int (pv 0) pe_int) (pe_or (pe_chain op_le op_le pe_int (pv 0) pe_int) (pe_one (pe_cmpR op_eq (pv 0) pe_int (nomark _)))))))⟩
noncomputable def D_is_digit (T : Txt K mg c) (hr : Room j (A.deeper (envOfC "is_digit" (defScope s_is_digit) s.heap.objs.size f cdv))) : { t : TS // PSs (XO P w K mg base n_is_digit "is_digit" s_is_digit f cdv A outer s H E) (defBody s_is_digit) t } :=
  ⟨_, (pss_one (ps_ret (pe_chain op_le op_le pe_int (pv 0) pe_int)))⟩
noncomputable def D_name_end (T : Txt K mg c) {k_is_digit : Nat} {sp_is_digit : Sp} (G_is_digit : Cal P w K mg base CX0 k_is_digit "is_digit" sp_is_digit) (l_is_digit : k_is_digit ≤ j) {k_is_letter : Nat} {sp_is_letter : Sp} (G_is_letter : Cal P w K mg base CX0 k_is_letter "is_letter" sp_is_letter) (l_is_letter : k_is_letter ≤ j) (hr : Room j (A.deeper (envOfC "name_end" (defScope s_name_end) s.heap.objs.size f cdv))) : { t : TS // PSs (XO P w K mg base n_name_end "name_end" s_name_end f cdv A outer s H E) (defBody s_name_end) t } :=
  ⟨_, (pss_cons (ps_while PassesOwn.never (PW.pt (pw_and (pt_cmpR op_lt (pv 1) (pe_callB call_len_seq (by rfl) T.k.z_len bt_len (pa_cons (pv 0) pa_nil)) (nomark _)) (pw_and1 (PW.pt (pw_or (pt_val (pe_cal G_is_letter hr l_is_letter rfl pass0 (pa_cons (pe_ix ix_list (pv 0) (pv 1) (fun _ _ => rfl)) pa_nil))) (pw_or1 (pt_val (pe_cal G_is_digit hr l_is_digit rfl pass0 (pa_cons (pe_ix ix_list (pv 0) (pv 1) (fun _ _ => rfl)) pa_nil))))))))) (pss_one (ps_aug (i := 1) sc_name_end.nd rfl (Or.inl rfl) pe_int ip_add)))
    (pss_one (ps_ret (pv 1))))⟩
noncomputable def D_digits_end (T : Txt K mg c) {k_is_digit : Nat} {sp_is_digit : Sp} (G_is_digit : Cal P w K mg base CX0 k_is_digit "is_digit" sp_is_digit) (l_is_digit : k_is_digit ≤ j) (hr : Room j (A.deeper (envOfC "digits_end" (defScope s_digits_end) s.heap.objs.size f cdv))) : { t : TS // PSs (XO P w K mg base n_digits_end "digits_end" s_digits_end f cdv A outer s H E) (defBody s_digits_end) t } :=
  ⟨_, (pss_cons (ps_while PassesOwn.never (PW.pt (pw_and (pt_cmpR op_lt (pv 1) (pe_callB call_len_seq (by rfl) T.k.z_len bt_len (pa_cons (pv 0) pa_nil)) (nomark _)) (pw_and1 (pt_val (pe_cal G_is_digit hr l_is_digit rfl pass0 (pa_cons (pe_ix ix_list (pv 0) (pv 1) (fun _ _ => rfl)) pa_nil)))))) (pss_one (ps_aug (i := 1) sc_digits_end.nd rfl (Or.inl rfl) pe_int ip_add)))
    (pss_one (ps_ret (pv 1))))⟩
noncomputable def D_number_of (T : Txt K mg c) (hr : Room j (A.deeper (envOfC "number_of" (defScope s_number_of) s.heap.objs.size f cdv))) : { t : TS // PSs (XO P w K mg base n_number_of "number_of" s_number_of f cdv A outer s H E) (defBody s_number_of) t } :=
  ⟨_, (pss_cons (ps_set (i := 1) sc_number_of.nd rfl (Or.inl rfl) pe_int)
    (pss_cons (ps_for PassesOwn.never rfl (pi_list (pv 0)) (pg_name (i := 2) sc_number_of.nd rfl (Or.inl rfl))
      (pss_one (ps_set (i := 1) sc_number_of.nd rfl (Or.inl rfl) (pe_op op_sub (pe_op op_add (pe_op op_mul pe_int (pv 1)) (pv 2)) (pe_gi rfl T.k.k_ZERO)))))
    (pss_one (ps_ret (pv 1)))))⟩
noncomputable def D_token_at (T : Txt K mg c) {k_name_end : Nat} {sp_name_end : Sp} (G_name_end : Cal P w K mg base CX0 k_name_end "name_end" sp_name_end) (l_name_end : k_name_end ≤ j) {k_want : Nat} {sp_want : Sp} (G_want : Cal P w K mg base (L2N.CX P w) k_want "want" sp_want) (l_want : k_want ≤ j) {k_is_letter : Nat} {sp_is_letter : Sp} (G_is_letter : Cal P w K mg base CX0 k_is_letter "is_letter" sp_is_letter) (l_is_letter : k_is_letter ≤ j) {k_digits_end : Nat} {sp_digits_end : Sp} (G_digits_end : Cal P w K mg base CX0 k_digits_end "digits_end" sp_digits_end) (l_digits_end : k_digits_end ≤ j) {k_number_of : Nat} {sp_number_of : Sp} (G_number_of : Cal P w K mg base CX0 k_number_of "number_of" sp_number_of) (l_number_of : k_number_of ≤ j) {k_is_digit : Nat} {sp_is_digit : Sp} (G_is_digit : Cal P w K mg base CX0 k_is_digit "is_digit" sp_is_digit) (l_is_digit : k_is_digit ≤ j) {a_SIGNS : Addr} (g_SIGNS : mg "SIGNS" = some (.ref a_SIGNS)) (hr : Room j (A.deeper (envOfC "token_at" (defScope s_token_at) s.heap.objs.size f cdv))) : { t : TS // PSs (XN P w K mg base n_token_at "token_at" s_token_at f cdv A outer s H E) (defBody s_token_at) t } :=
  ⟨_, (pss_cons (ps_set (i := 2) sc_token_at.nd rfl (Or.inl rfl) (pe_ix ix_list (pv 0) (pv 1) (fun _ _ => rfl)))
    (pss_cons (ps_if (pt_val (pe_cal G_is_letter hr l_is_letter rfl pass0 (pa_cons (pv 2) pa_nil))) (pss_cons (ps_set (i := 3) sc_token_at.nd rfl (Or.inl rfl) (pe_cal G_name_end hr l_name_end rfl pass0 (pa_cons (pv 0) (pa_cons (pv 1) pa_nil))))
        (pss_cons (ps_expr (pe_cal G_want hr l_want rfl passN (pa_cons (pe_cmpR op_le (pe_op op_sub (pv 3) (pv 1)) (pe_gi rfl T.k.k_LONGEST_NAME) (nomark _)) pa_nil)))
        (pss_one (ps_ret (pe_tup (pa_cons (pe_tup (pa_cons (pe_gs rfl T.k.k_NAME) (pa_cons (pe_callTy call_tuple_of (by rfl) T.k.z_tuple bt_tuple (pa_cons (pe_slice sl_list (pv 0) (po_some (pv 1)) (po_some (pv 3))) pa_nil)) pa_nil))) (pa_cons (pv 3) pa_nil))))))) pss_nil)
    (pss_cons (ps_if (pt_val (pe_cal G_is_digit hr l_is_digit rfl pass0 (pa_cons (pv 2) pa_nil))) (pss_cons (ps_set (i := 3) sc_token_at.nd rfl (Or.inl rfl) (pe_cal G_digits_end hr l_digits_end rfl pass0 (pa_cons (pv 0) (pa_cons (pv 1) pa_nil))))
        (pss_cons (ps_expr (pe_cal G_want hr l_want rfl passN (pa_cons (pe_cmpR op_le (pe_op op_sub (pv 3) (pv 1)) (pe_gi rfl T.k.k_MOST_DIGITS) (nomark _)) pa_nil)))
        (pss_one (ps_ret (pe_tup (pa_cons (pe_tup (pa_cons (pe_gs rfl T.k.k_NUMBER) (pa_cons (pe_cal G_number_of hr l_number_of rfl pass0 (pa_cons (pe_slice sl_list (pv 0) (po_some (pv 1)) (po_some (pv 3))) pa_nil)) pa_nil))) (pa_cons (pv 3) pa_nil))))))) pss_nil)
    (pss_cons (ps_expr (pe_cal G_want hr l_want rfl passN (pa_cons (pe_cmpR op_in_seq (pv 2) (pe_glob (v := .ref a_SIGNS) rfl g_SIGNS rfl) (by rfl)) pa_nil)))
    (pss_one (ps_ret (pe_tup (pa_cons (pe_tup (pa_cons (pe_gs rfl T.k.k_SIGN) (pa_cons (pv 2) pa_nil))) (pa_cons (pe_op op_add (pv 1) pe_int) pa_nil)))))))))⟩
noncomputable def D_tokens_of (T : Txt K mg c) {k_token_at : Nat} {sp_token_at : Sp} (G_token_at : Cal P w K mg base (L2N.CX P w) k_token_at "token_at" sp_token_at) (l_token_at : k_token_at ≤ j) (hr : Room j (A.deeper (envOfC "tokens_of" (defScope s_tokens_of) s.heap.objs.size f cdv))) : { t : TS // PSs (XN P w K mg base n_tokens_of "tokens_of" s_tokens_of f cdv A outer s H E) (defBody s_tokens_of) t } :=
  ⟨_, (pss_cons (ps_set (i := 1) sc_tokens_of.nd rfl (Or.inl rfl) (pe_lst pa_nil))
    (pss_cons (ps_set (i := 2) sc_tokens_of.nd rfl (Or.inl rfl) pe_int)
    (pss_cons (ps_while ownN (pt_cmpR op_lt (pv 2) (pe_callB call_len_seq (by rfl) T.k.z_len bt_len (pa_cons (pv 0) pa_nil)) (nomark _)) (pss_one (ps_if (pt_cmpR op_eq (pe_ix ix_list (pv 0) (pv 2) (fun _ _ => rfl)) (pe_gi rfl T.k.k_SPACE) (nomark _)) (pss_one (ps_aug (i := 2) sc_tokens_of.nd rfl (Or.inl rfl) pe_int ip_add)) (pss_cons (ps_asg (pe_cal G_token_at hr l_token_at rfl passN (pa_cons (pv 0) (pa_cons (pv 2) pa_nil))) (pg_tup rfl (pgs_cons (pg_name (i := 3) sc_tokens_of.nd rfl (Or.inl rfl)) (pgs_cons (pg_name (i := 2) sc_tokens_of.nd rfl (Or.inl rfl)) pgs_nil))))
            (pss_one (ps_expr (pe_bm PySem.F.plainAttrs_list PySem.F.slot_list_append PySem.F.type_list_append mt_append (pv 1) (pa_cons (pv 3) pa_nil))))))))
    (pss_one (ps_ret (pe_op op_cat (pv 1) (pe_lst (pa_cons (pe_tup (pa_cons (pe_gs rfl T.k.k_END) (pa_cons pe_int pa_nil))) pa_nil))))))))⟩
noncomputable def D_Line_init (T : Txt K mg c) (hr : Room j (A.deeper (envOfC "Line.__init__" (defScope s_Line_init) s.heap.objs.size f cdv))) : { t : TS // PSs (XO P w K mg base n_Line_init "Line.__init__" s_Line_init f cdv A outer s H E) (defBody s_Line_init) t } :=
  ⟨_, (pss_cons (ps_fld (pv 0) (pv 1) rfl)
    (pss_cons (ps_fld (pv 0) (pv 2) rfl)
    (pss_cons (ps_fld (pv 0) (pv 3) rfl)
    (pss_cons (ps_fld (pv 0) pe_int rfl)
    (pss_cons (ps_fld (pv 0) pe_int rfl)
    (pss_one (ps_fld (pv 0) pe_int rfl)))))))⟩
noncomputable def D_Menu_init (T : Txt K mg c) (hr : Room j (A.deeper (envOfC "Menu.__init__" (defScope s_Menu_init) s.heap.objs.size f cdv))) : { t : TS // PSs (XO P w K mg base n_Menu_init "Menu.__init__" s_Menu_init f cdv A outer s H E) (defBody s_Menu_init) t } :=
  ⟨_, (pss_cons (ps_fld (pv 0) (pv 1) rfl)
    (pss_one (ps_fld (pv 0) (pe_op op_rep (pe_lst (pa_cons pe_bl pa_nil)) (pe_callB call_len_seq (by rfl) T.k.z_len bt_len (pa_cons (pv 1) pa_nil))) rfl)))⟩
noncomputable def D_Menu_all_held (T : Txt K mg c) {k_does_hold : Nat} {sp_does_hold : Sp} (G_does_hold : Cal P w K mg base CX0 k_does_hold "does_hold" sp_does_hold) (l_does_hold : k_does_hold ≤ j) (hr : Room j (A.deeper (envOfC "Menu.all_held" (defScope s_Menu_all_held) s.heap.objs.size f cdv))) : { t : TS // PSs (XO P w K mg base n_Menu_all_held "Menu.all_held" s_Menu_all_held f cdv A outer s H E) (defBody s_Menu_all_held) t } :=
  ⟨_, (pss_cons (ps_for PassesOwn.never rfl (pi_list (pe_fld (pv 0) rfl)) (pg_name (i := 2) sc_Menu_all_held.nd rfl (Or.inl rfl))
      (pss_one (ps_expr (pe_bm PySem.F.plainAttrs_list PySem.F.slot_list_append PySem.F.type_list_append mt_append (pe_fld (pv 1) rfl) (pa_cons (pe_cal G_does_hold hr l_does_hold rfl pass0 (pa_cons (pe_fld (pv 2) rfl) (pa_cons (pv 1) pa_nil))) pa_nil)))))
    (pss_one (ps_ret (pe_callTy call_list_of (by rfl) T.k.z_list bt_list (pa_cons (pe_fld (pv 1) rfl) pa_nil)))))⟩
noncomputable def D_Menu_note (T : Txt K mg c) (hr : Room j (A.deeper (envOfC "Menu.note" (defScope s_Menu_note) s.heap.objs.size f cdv))) : { t : TS // PSs (XO P w K mg base n_Menu_note "Menu.note" s_Menu_note f cdv A outer s H E) (defBody s_Menu_note) t } :=
  ⟨_, (pss_cons (ps_for PassesOwn.never rfl (pi_zip rfl T.k.z_zip (pa_cons (pe_fld (pv 0) rfl) (pa_cons (pv 1) pa_nil))) (pg_tup rfl (pgs_cons (pg_name (i := 4) sc_Menu_note.nd rfl (Or.inl rfl)) (pgs_cons (pg_name (i := 5) sc_Menu_note.nd rfl (Or.inl rfl)) pgs_nil)))
      (pss_one (ps_fld (pv 4) (pe_op op_mod (pe_op op_add (pe_fld (pv 4) rfl) (pe_callTy call_int1 (by rfl) T.k.z_int bt_int (pa_cons (pv 5) pa_nil))) (pe_gi rfl T.k.k_ROUND)) rfl)))
    (pss_cons (ps_for PassesOwn.never rfl (pi_zip rfl T.k.z_zip (pa_cons (pe_fld (pv 0) rfl) (pa_cons (pv 2) pa_nil))) (pg_tup rfl (pgs_cons (pg_name (i := 4) sc_Menu_note.nd rfl (Or.inl rfl)) (pgs_cons (pg_name (i := 6) sc_Menu_note.nd rfl (Or.inl rfl)) pgs_nil)))
      (pss_cons (ps_fld (pv 4) (pe_op op_mod (pe_op op_add (pe_fld (pv 4) rfl) (pe_callTy call_int1 (by rfl) T.k.z_int bt_int (pa_cons (pv 6) pa_nil))) (pe_gi rfl T.k.k_ROUND)) rfl)
        (pss_one (ps_fld (pv 4) (pe_op op_mod (pe_op op_add (pe_fld (pv 4) rfl) (pe_callTy call_int1 (by rfl) T.k.z_int bt_int (pa_cons (pe_and (pv 6) (pe_one (pv 3))) pa_nil))) (pe_gi rfl T.k.k_ROUND)) rfl))))
    (pss_one (ps_fld (pv 0) (pe_callTy call_list_of (by rfl) T.k.z_list bt_list (pa_cons (pv 1) pa_nil)) rfl))))⟩
noncomputable def D_Reader_init (T : Txt K mg c) {k_tokens_of : Nat} {sp_tokens_of : Sp} (G_tokens_of : Cal P w K mg base (L2N.CX P w) k_tokens_of "tokens_of" sp_tokens_of) (l_tokens_of : k_tokens_of ≤ j) (hr : Room j (A.deeper (envOfC "Reader.__init__" (defScope s_Reader_init) s.heap.objs.size f cdv))) : { t : TS // PSs (XN P w K mg base n_Reader_init "Reader.__init__" s_Reader_init f cdv A outer s H E) (defBody s_Reader_init) t } :=
  ⟨_, (pss_cons (ps_fld (pv 0) (pe_cal G_tokens_of hr l_tokens_of rfl passN (pa_cons (pv 1) pa_nil)) rfl)
    (pss_cons (ps_fld (pv 0) pe_int rfl)
    (pss_cons (ps_fld (pv 0) (pv 2) rfl)
    (pss_one (ps_fld (pv 0) pe_int rfl)))))⟩
noncomputable def D_Reader_is_next (T : Txt K mg c) (hr : Room j (A.deeper (envOfC "Reader.is_next" (defScope s_Reader_is_next) s.heap.objs.size f cdv))) : { t : TS // PSs (XO P w K mg base n_Reader_is_next "Reader.is_next" s_Reader_is_next f cdv A outer s H E) (defBody s_Reader_is_next) t } :=
  ⟨_, (pss_one (ps_ret (pe_cmpR op_eq (pe_ix ix_tup (pe_ix ix_list (pe_fld (pv 0) rfl) (pe_fld (pv 0) rfl) (fun _ _ => rfl)) pe_int (fun _ _ => rfl)) (pv 1) (nomark _))))⟩
noncomputable def D_Reader_passes (T : Txt K mg c) (hr : Room j (A.deeper (envOfC "Reader.passes" (defScope s_Reader_passes) s.heap.objs.size f cdv))) : { t : TS // PSs (XO P w K mg base n_Reader_passes "Reader.passes" s_Reader_passes f cdv A outer s H E) (defBody s_Reader_passes) t } :=
  ⟨_, (pss_cons (ps_if (pt_cmpR (op_neD hr.units) (pe_ix ix_list (pe_fld (pv 0) rfl) (pe_fld (pv 0) rfl) (fun _ _ => rfl)) (pe_tup (pa_cons (pe_gs rfl T.k.k_SIGN) (pa_cons (pv 1) pa_nil))) (nomark _)) (pss_one (ps_ret pe_bl)) pss_nil)
    (pss_cons (ps_fldaug (pv 0) pe_int in_add)
    (pss_one (ps_ret pe_bl))))⟩
noncomputable def D_Reader_take_sign (T : Txt K mg c) {k_want : Nat} {sp_want : Sp} (G_want : Cal P w K mg base (L2N.CX P w) k_want "want" sp_want) (l_want : k_want ≤ j) {k_Reader_passes : Nat} {sp_Reader_passes : Sp} (G_Reader_passes : Met P w K mg base CX0 k_Reader_passes c.reader "passes" sp_Reader_passes) (l_Reader_passes : k_Reader_passes ≤ j) (hr : Room j (A.deeper (envOfC "Reader.take_sign" (defScope s_Reader_take_sign) s.heap.objs.size f cdv))) : { t : TS // PSs (XN P w K mg base n_Reader_take_sign "Reader.take_sign" s_Reader_take_sign f cdv A outer s H E) (defBody s_Reader_take_sign) t } :=
  ⟨_, (pss_one (ps_expr (pe_cal G_want hr l_want rfl passN (pa_cons (pe_met G_Reader_passes hr l_Reader_passes pass0 (pv 0) (pa_cons (pv 1) pa_nil)) pa_nil))))⟩
noncomputable def D_Reader_take (T : Txt K mg c) {k_want : Nat} {sp_want : Sp} (G_want : Cal P w K mg base (L2N.CX P w) k_want "want" sp_want) (l_want : k_want ≤ j) {k_Reader_is_next : Nat} {sp_Reader_is_next : Sp} (G_Reader_is_next : Met P w K mg base CX0 k_Reader_is_next c.reader "is_next" sp_Reader_is_next) (l_Reader_is_next : k_Reader_is_next ≤ j) (hr : Room j (A.deeper (envOfC "Reader.take" (defScope s_Reader_take) s.heap.objs.size f cdv))) : { t : TS // PSs (XN P w K mg base n_Reader_take "Reader.take" s_Reader_take f cdv A outer s H E) (defBody s_Reader_take) t } :=
  ⟨_, (pss_cons (ps_expr (pe_cal G_want hr l_want rfl passN (pa_cons (pe_met G_Reader_is_next hr l_Reader_is_next pass0 (pv 0) (pa_cons (pv 1) pa_nil)) pa_nil)))
    (pss_cons (ps_fldaug (pv 0) pe_int in_add)
    (pss_one (ps_ret (pe_ix ix_tup (pe_ix ix_list (pe_fld (pv 0) rfl) (pe_op op_sub (pe_fld (pv 0) rfl) pe_int) (fun _ _ => rfl)) pe_int (fun _ _ => rfl))))))⟩
noncomputable def D_Reader_take_number (T : Txt K mg c) {k_Reader_take : Nat} {sp_Reader_take : Sp} (G_Reader_take : Met P w K mg base (L2N.CX P w) k_Reader_take c.reader "take" sp_Reader_take) (l_Reader_take : k_Reader_take ≤ j) {k_want : Nat} {sp_want : Sp} (G_want : Cal P w K mg base (L2N.CX P w) k_want "want" sp_want) (l_want : k_want ≤ j) (hr : Room j (A.deeper (envOfC "Reader.take_number" (defScope s_Reader_take_number) s.heap.objs.size f cdv))) : { t : TS // PSs (XN P w K mg base n_Reader_take_number "Reader.take_number" s_Reader_take_number f cdv A outer s H E) (defBody s_Reader_take_number) t } :=
  ⟨_, (pss_cons (ps_set (i := 3) sc_Reader_take_number.nd rfl (Or.inl rfl) (pe_met G_Reader_take hr l_Reader_take passN (pv 0) (pa_cons (pe_gs rfl T.k.k_NUMBER) pa_nil)))
    (pss_cons (ps_expr (pe_cal G_want hr l_want rfl passN (pa_cons (pe_chain op_le op_le (pv 1) (pv 3) (pv 2)) pa_nil)))
    (pss_one (ps_ret (pv 3)))))⟩
noncomputable def D_Reader_take_kind (T : Txt K mg c) {k_Reader_take : Nat} {sp_Reader_take : Sp} (G_Reader_take : Met P w K mg base (L2N.CX P w) k_Reader_take c.reader "take" sp_Reader_take) (l_Reader_take : k_Reader_take ≤ j) {k_want : Nat} {sp_want : Sp} (G_want : Cal P w K mg base (L2N.CX P w) k_want "want" sp_want) (l_want : k_want ≤ j) (hr : Room j (A.deeper (envOfC "Reader.take_kind" (defScope s_Reader_take_kind) s.heap.objs.size f cdv))) : { t : TS // PSs (XN P w K mg base n_Reader_take_kind "Reader.take_kind" s_Reader_take_kind f cdv A outer s H E) (defBody s_Reader_take_kind) t } :=
  ⟨_, (pss_cons (ps_set (i := 1) sc_Reader_take_kind.nd rfl (Or.inl rfl) (pe_met G_Reader_take hr l_Reader_take passN (pv 0) (pa_cons (pe_gs rfl T.k.k_NAME) pa_nil)))
    (pss_cons (ps_expr (pe_cal G_want hr l_want rfl passN (pa_cons (pe_and (pe_cmpR op_eq (pe_callB call_len_seq (by rfl) T.k.z_len bt_len (pa_cons (pv 1) pa_nil)) pe_int (nomark _)) (pe_one (pe_chain op_le op_lt (pe_gi rfl T.k.k_FIRST_KIND) (pe_ix ix_tup (pv 1) pe_int (fun _ _ => rfl)) (pe_op op_add (pe_gi rfl T.k.k_FIRST_KIND) (pe_gi rfl T.k.k_KINDS_menus))))) pa_nil)))
    (pss_one (ps_ret (pe_op op_sub (pe_ix ix_tup (pv 1) pe_int (fun _ _ => rfl)) (pe_gi rfl T.k.k_FIRST_KIND))))))⟩
noncomputable def D_Reader_take_line (T : Txt K mg c) {k_Reader_take : Nat} {sp_Reader_take : Sp} (G_Reader_take : Met P w K mg base (L2N.CX P w) k_Reader_take c.reader "take" sp_Reader_take) (l_Reader_take : k_Reader_take ≤ j) {k_want : Nat} {sp_want : Sp} (G_want : Cal P w K mg base (L2N.CX P w) k_want "want" sp_want) (l_want : k_want ≤ j) (hr : Room j (A.deeper (envOfC "Reader.take_line" (defScope s_Reader_take_line) s.heap.objs.size f cdv))) : { t : TS // PSs (XN P w K mg base n_Reader_take_line "Reader.take_line" s_Reader_take_line f cdv A outer s H E) (defBody s_Reader_take_line) t } :=
  ⟨_, (pss_cons (ps_set (i := 1) sc_Reader_take_line.nd rfl (Or.inl rfl) (pe_met G_Reader_take hr l_Reader_take passN (pv 0) (pa_cons (pe_gs rfl T.k.k_NAME) pa_nil)))
    (pss_cons (ps_expr (pe_cal G_want hr l_want rfl passN (pa_cons (pe_cmp (pc_din (hu_of hr) (pv 1) (pe_fld (pv 0) rfl)) rfl) pa_nil)))
    (pss_one (ps_ret (pe_dget (hu_of hr) (pe_fld (pv 0) rfl) (pv 1) (fun _ _ => rfl))))))⟩
noncomputable def D_Reader_read_score (T : Txt K mg c) {k_Reader_take_sign : Nat} {sp_Reader_take_sign : Sp} (G_Reader_take_sign : Met P w K mg base (L2N.CX P w) k_Reader_take_sign c.reader "take_sign" sp_Reader_take_sign) (l_Reader_take_sign : k_Reader_take_sign ≤ j) {k_Reader_take_number : Nat} {sp_Reader_take_number : Sp} (G_Reader_take_number : Met P w K mg base (L2N.CX P w) k_Reader_take_number c.reader "take_number" sp_Reader_take_number) (l_Reader_take_number : k_Reader_take_number ≤ j) {k_Reader_passes : Nat} {sp_Reader_passes : Sp} (G_Reader_passes : Met P w K mg base CX0 k_Reader_passes c.reader "passes" sp_Reader_passes) (l_Reader_passes : k_Reader_passes ≤ j) (hr : Room j (A.deeper (envOfC "Reader.read_score" (defScope s_Reader_read_score) s.heap.objs.size f cdv))) : { t : TS // PSs (XN P w K mg base n_Reader_read_score "Reader.read_score" s_Reader_read_score f cdv A outer s H E) (defBody s_Reader_read_score) t } :=
  ⟨_, (pss_cons (ps_expr (pe_met G_Reader_take_sign hr l_Reader_take_sign passN (pv 0) (pa_cons (pe_gi rfl T.k.k_GREATER) pa_nil)))
    (pss_cons (ps_if (pt_val (pe_met G_Reader_passes hr l_Reader_passes pass0 (pv 0) (pa_cons (pe_gi rfl T.k.k_MINUS) pa_nil))) (pss_one (ps_ret (pe_tup (pa_cons (pe_gs rfl T.k.k_SCORE) (pa_cons (pe_op op_sub pe_int (pe_met G_Reader_take_number hr l_Reader_take_number passN (pv 0) (pa_cons pe_int (pa_cons (pe_gi rfl T.k.k_MOST_NUMBER) pa_nil)))) pa_nil))))) pss_nil)
    (pss_one (ps_ret (pe_tup (pa_cons (pe_gs rfl T.k.k_SCORE) (pa_cons (pe_met G_Reader_take_number hr l_Reader_take_number passN (pv 0) (pa_cons pe_int (pa_cons (pe_gi rfl T.k.k_MOST_NUMBER) pa_nil))) pa_nil)))))))⟩
noncomputable def D_Reader_read_some (T : Txt K mg c) {k_Reader_take_kind : Nat} {sp_Reader_take_kind : Sp} (G_Reader_take_kind : Met P w K mg base (L2N.CX P w) k_Reader_take_kind c.reader "take_kind" sp_Reader_take_kind) (l_Reader_take_kind : k_Reader_take_kind ≤ j) {k_Reader_take_sign : Nat} {sp_Reader_take_sign : Sp} (G_Reader_take_sign : Met P w K mg base (L2N.CX P w) k_Reader_take_sign c.reader "take_sign" sp_Reader_take_sign) (l_Reader_take_sign : k_Reader_take_sign ≤ j) {k_Reader_take_number : Nat} {sp_Reader_take_number : Sp} (G_Reader_take_number : Met P w K mg base (L2N.CX P w) k_Reader_take_number c.reader "take_number" sp_Reader_take_number) (l_Reader_take_number : k_Reader_take_number ≤ j) (hr : Room j (A.deeper (envOfC "Reader.read_some" (defScope s_Reader_read_some) s.heap.objs.size f cdv))) : { t : TS // PSs (XN P w K mg base n_Reader_read_some "Reader.read_some" s_Reader_read_some f cdv A outer s H E) (defBody s_Reader_read_some) t } :=
  ⟨_, (pss_cons (ps_set (i := 2) sc_Reader_read_some.nd rfl (Or.inl rfl) (pe_met0 G_Reader_take_kind hr l_Reader_take_kind passN (pv 0)))
    (pss_cons (ps_expr (pe_met G_Reader_take_sign hr l_Reader_take_sign passN (pv 0) (pa_cons (pe_gi rfl T.k.k_GREATER) pa_nil)))
    (pss_one (ps_ret (pe_tup (pa_cons (pe_gs rfl T.k.k_SOME) (pa_cons (pv 1) (pa_cons (pv 2) (pa_cons (pe_met G_Reader_take_number hr l_Reader_take_number passN (pv 0) (pa_cons pe_int (pa_cons (pe_gi rfl T.k.k_MOST_VALUE) pa_nil))) pa_nil)))))))))⟩
noncomputable def D_Reader_read_sum (T : Txt K mg c) {k_Reader_take_kind : Nat} {sp_Reader_take_kind : Sp} (G_Reader_take_kind : Met P w K mg base (L2N.CX P w) k_Reader_take_kind c.reader "take_kind" sp_Reader_take_kind) (l_Reader_take_kind : k_Reader_take_kind ≤ j) {k_Reader_take_sign : Nat} {sp_Reader_take_sign : Sp} (G_Reader_take_sign : Met P w K mg base (L2N.CX P w) k_Reader_take_sign c.reader "take_sign" sp_Reader_take_sign) (l_Reader_take_sign : k_Reader_take_sign ≤ j) {k_Reader_take_number : Nat} {sp_Reader_take_number : Sp} (G_Reader_take_number : Met P w K mg base (L2N.CX P w) k_Reader_take_number c.reader "take_number" sp_Reader_take_number) (l_Reader_take_number : k_Reader_take_number ≤ j) (hr : Room j (A.deeper (envOfC "Reader.read_sum" (defScope s_Reader_read_sum) s.heap.objs.size f cdv))) : { t : TS // PSs (XN P w K mg base n_Reader_read_sum "Reader.read_sum" s_Reader_read_sum f cdv A outer s H E) (defBody s_Reader_read_sum) t } :=
  ⟨_, (pss_cons (ps_set (i := 1) sc_Reader_read_sum.nd rfl (Or.inl rfl) (pe_met0 G_Reader_take_kind hr l_Reader_take_kind passN (pv 0)))
    (pss_cons (ps_expr (pe_met G_Reader_take_sign hr l_Reader_take_sign passN (pv 0) (pa_cons (pe_gi rfl T.k.k_GREATER) pa_nil)))
    (pss_one (ps_ret (pe_tup (pa_cons (pe_gs rfl T.k.k_SUM) (pa_cons (pv 1) (pa_cons (pe_met G_Reader_take_number hr l_Reader_take_number passN (pv 0) (pa_cons pe_int (pa_cons (pe_gi rfl T.k.k_MOST_NUMBER) pa_nil))) pa_nil))))))))⟩
noncomputable def D_Reader_read_kind (T : Txt K mg c) {k_Reader_take_kind : Nat} {sp_Reader_take_kind : Sp} (G_Reader_take_kind : Met P w K mg base (L2N.CX P w) k_Reader_take_kind c.reader "take_kind" sp_Reader_take_kind) (l_Reader_take_kind : k_Reader_take_kind ≤ j) {k_Reader_take_sign : Nat} {sp_Reader_take_sign : Sp} (G_Reader_take_sign : Met P w K mg base (L2N.CX P w) k_Reader_take_sign c.reader "take_sign" sp_Reader_take_sign) (l_Reader_take_sign : k_Reader_take_sign ≤ j) {k_Reader_take_number : Nat} {sp_Reader_take_number : Sp} (G_Reader_take_number : Met P w K mg base (L2N.CX P w) k_Reader_take_number c.reader "take_number" sp_Reader_take_number) (l_Reader_take_number : k_Reader_take_number ≤ j) {k_Reader_passes : Nat} {sp_Reader_passes : Sp} (G_Reader_passes : Met P w K mg base CX0 k_Reader_passes c.reader "passes" sp_Reader_passes) (l_Reader_passes : k_Reader_passes ≤ j) (hr : Room j (A.deeper (envOfC "Reader.read_kind" (defScope s_Reader_read_kind) s.heap.objs.size f cdv))) : { t : TS // PSs (XN P w K mg base n_Reader_read_kind "Reader.read_kind" s_Reader_read_kind f cdv A outer s H E) (defBody s_Reader_read_kind) t } :=
  ⟨_, (pss_cons (ps_set (i := 1) sc_Reader_read_kind.nd rfl (Or.inl rfl) (pe_met0 G_Reader_take_kind hr l_Reader_take_kind passN (pv 0)))
    (pss_cons (ps_if (pt_val (pe_met G_Reader_passes hr l_Reader_passes pass0 (pv 0) (pa_cons (pe_gi rfl T.k.k_TILDE) pa_nil))) (pss_cons (ps_set (i := 2) sc_Reader_read_kind.nd rfl (Or.inl rfl) (pe_met0 G_Reader_take_kind hr l_Reader_take_kind passN (pv 0)))
        (pss_cons (ps_expr (pe_met G_Reader_take_sign hr l_Reader_take_sign passN (pv 0) (pa_cons (pe_gi rfl T.k.k_LESS) pa_nil)))
        (pss_one (ps_ret (pe_tup (pa_cons (pe_gs rfl T.k.k_NEAR) (pa_cons (pv 1) (pa_cons (pv 2) (pa_cons (pe_met G_Reader_take_number hr l_Reader_take_number passN (pv 0) (pa_cons pe_int (pa_cons (pe_gi rfl T.k.k_MOST_DISTANCE) pa_nil))) pa_nil))))))))) pss_nil)
    (pss_cons (ps_expr (pe_met G_Reader_take_sign hr l_Reader_take_sign passN (pv 0) (pa_cons (pe_gi rfl T.k.k_GREATER) pa_nil)))
    (pss_one (ps_ret (pe_tup (pa_cons (pe_gs rfl T.k.k_SOME) (pa_cons pe_int (pa_cons (pv 1) (pa_cons (pe_met G_Reader_take_number hr l_Reader_take_number passN (pv 0) (pa_cons pe_int (pa_cons (pe_gi rfl T.k.k_MOST_VALUE) pa_nil))) pa_nil))))))))))⟩
noncomputable def D_Reader_read_simple (T : Txt K mg c) {k_Reader_read_sum : Nat} {sp_Reader_read_sum : Sp} (G_Reader_read_sum : Met P w K mg base (L2N.CX P w) k_Reader_read_sum c.reader "read_sum" sp_Reader_read_sum) (l_Reader_read_sum : k_Reader_read_sum ≤ j) {k_Reader_passes : Nat} {sp_Reader_passes : Sp} (G_Reader_passes : Met P w K mg base CX0 k_Reader_passes c.reader "passes" sp_Reader_passes) (l_Reader_passes : k_Reader_passes ≤ j) {k_Reader_read_score : Nat} {sp_Reader_read_score : Sp} (G_Reader_read_score : Met P w K mg base (L2N.CX P w) k_Reader_read_score c.reader "read_score" sp_Reader_read_score) (l_Reader_read_score : k_Reader_read_score ≤ j) {k_Reader_take_line : Nat} {sp_Reader_take_line : Sp} (G_Reader_take_line : Met P w K mg base (L2N.CX P w) k_Reader_take_line c.reader "take_line" sp_Reader_take_line) (l_Reader_take_line : k_Reader_take_line ≤ j) {k_Reader_read_some : Nat} {sp_Reader_read_some : Sp} (G_Reader_read_some : Met P w K mg base (L2N.CX P w) k_Reader_read_some c.reader "read_some" sp_Reader_read_some) (l_Reader_read_some : k_Reader_read_some ≤ j) {k_Reader_take_number : Nat} {sp_Reader_take_number : Sp} (G_Reader_take_number : Met P w K mg base (L2N.CX P w) k_Reader_take_number c.reader "take_number" sp_Reader_take_number) (l_Reader_take_number : k_Reader_take_number ≤ j) {k_Reader_is_next : Nat} {sp_Reader_is_next : Sp} (G_Reader_is_next : Met P w K mg base CX0 k_Reader_is_next c.reader "is_next" sp_Reader_is_next) (l_Reader_is_next : k_Reader_is_next ≤ j) {k_Reader_read_kind : Nat} {sp_Reader_read_kind : Sp} (G_Reader_read_kind : Met P w K mg base (L2N.CX P w) k_Reader_read_kind c.reader "read_kind" sp_Reader_read_kind) (l_Reader_read_kind : k_Reader_read_kind ≤ j) (hr : Room j (A.deeper (envOfC "Reader.read_simple" (defScope s_Reader_read_simple) s.heap.objs.size f cdv))) : { t : TS // PSs (XN P w K mg base n_Reader_read_simple "Reader.read_simple" s_Reader_read_simple f cdv A outer s H E) (defBody s_Reader_read_simple) t } :=
  ⟨_, (pss_cons (ps_if (pt_val (pe_met G_Reader_passes hr l_Reader_passes pass0 (pv 0) (pa_cons (pe_gi rfl T.k.k_PLUS) pa_nil))) (pss_one (ps_ret (pe_met0 G_Reader_read_sum hr l_Reader_read_sum passN (pv 0)))) pss_nil)
    (pss_cons (ps_if (pt_val (pe_met G_Reader_passes hr l_Reader_passes pass0 (pv 0) (pa_cons (pe_gi rfl T.k.k_ASKED) pa_nil))) (pss_one (ps_ret (pe_met0 G_Reader_read_score hr l_Reader_read_score passN (pv 0)))) pss_nil)
    (pss_cons (ps_if (pt_val (pe_met G_Reader_passes hr l_Reader_passes pass0 (pv 0) (pa_cons (pe_gi rfl T.k.k_AT) pa_nil))) (pss_one (ps_ret (pe_tup (pa_cons (pe_gs rfl T.k.k_LINE) (pa_cons (pe_met0 G_Reader_take_line hr l_Reader_take_line passN (pv 0)) pa_nil))))) pss_nil)
    (pss_cons (ps_if (pt_val (pe_met G_Reader_passes hr l_Reader_passes pass0 (pv 0) (pa_cons (pe_gi rfl T.k.k_CARET) pa_nil))) (pss_one (ps_ret (pe_tup (pa_cons (pe_gs rfl T.k.k_BEFORE) (pa_cons (pe_met0 G_Reader_take_line hr l_Reader_take_line passN (pv 0)) pa_nil))))) pss_nil)
    (pss_cons (ps_if (pt_val (pe_met G_Reader_is_next hr l_Reader_is_next pass0 (pv 0) (pa_cons (pe_gs rfl T.k.k_NUMBER) pa_nil))) (pss_one (ps_ret (pe_met G_Reader_read_some hr l_Reader_read_some passN (pv 0) (pa_cons (pe_met G_Reader_take_number hr l_Reader_take_number passN (pv 0) (pa_cons pe_int (pa_cons (pe_gi rfl T.k.k_MOST_MANY) pa_nil))) pa_nil)))) pss_nil)
    (pss_one (ps_ret (pe_met0 G_Reader_read_kind hr l_Reader_read_kind passN (pv 0)))))))))⟩
noncomputable def D_Reader_read_unary (T : Txt K mg c) {k_Reader_passes : Nat} {sp_Reader_passes : Sp} (G_Reader_passes : Met P w K mg base CX0 k_Reader_passes c.reader "passes" sp_Reader_passes) (l_Reader_passes : k_Reader_passes ≤ j) {k_denied : Nat} {sp_denied : Sp} (G_denied : Cal P w K mg base CX0 k_denied "denied" sp_denied) (l_denied : k_denied ≤ j) {k_Reader_read_simple : Nat} {sp_Reader_read_simple : Sp} (G_Reader_read_simple : Met P w K mg base (L2N.CX P w) k_Reader_read_simple c.reader "read_simple" sp_Reader_read_simple) (l_Reader_read_simple : k_Reader_read_simple ≤ j) {k_want : Nat} {sp_want : Sp} (G_want : Cal P w K mg base (L2N.CX P w) k_want "want" sp_want) (l_want : k_want ≤ j) {k_Reader_read_condition : Nat} {sp_Reader_read_condition : Sp} (G_Reader_read_condition : Met P w K mg base (L2N.CX P w) k_Reader_read_condition c.reader "read_condition" sp_Reader_read_condition) (l_Reader_read_condition : k_Reader_read_condition ≤ j) {k_Reader_take_sign : Nat} {sp_Reader_take_sign : Sp} (G_Reader_take_sign : Met P w K mg base (L2N.CX P w) k_Reader_take_sign c.reader "take_sign" sp_Reader_take_sign) (l_Reader_take_sign : k_Reader_take_sign ≤ j) (hr : Room j (A.deeper (envOfC "Reader.read_unary" (defScope s_Reader_read_unary) s.heap.objs.size f cdv))) : { t : TS // PSs (XN P w K mg base n_Reader_read_unary "Reader.read_unary" s_Reader_read_unary f cdv A outer s H E) (defBody s_Reader_read_unary) t } :=
  ⟨_, (pss_cons (ps_set (i := 1) sc_Reader_read_unary.nd rfl (Or.inl rfl) pe_int)
    (pss_cons (ps_while ownN (pt_val (pe_met G_Reader_passes hr l_Reader_passes pass0 (pv 0) (pa_cons (pe_gi rfl T.k.k_DENIED) pa_nil))) (pss_one (ps_aug (i := 1) sc_Reader_read_unary.nd rfl (Or.inl rfl) pe_int ip_add)))
    (pss_cons (ps_if (pt_not (pt_val (pe_met G_Reader_passes hr l_Reader_passes pass0 (pv 0) (pa_cons (pe_gi rfl T.k.k_OPENING) pa_nil)))) (pss_one (ps_ret (pe_cal G_denied hr l_denied rfl pass0 (pa_cons (pv 1) (pa_cons (pe_met0 G_Reader_read_simple hr l_Reader_read_simple passN (pv 0)) pa_nil))))) pss_nil)
    (pss_cons (ps_expr (pe_cal G_want hr l_want rfl passN (pa_cons (pe_cmpR op_lt (pe_fld (pv 0) rfl) (pe_gi rfl T.k.k_MOST_DEEP) (nomark _)) pa_nil)))
    (pss_cons (ps_fldaug (pv 0) pe_int in_add)
    (pss_cons (ps_set (i := 2) sc_Reader_read_unary.nd rfl (Or.inl rfl) (pe_met0 G_Reader_read_condition hr l_Reader_read_condition passN (pv 0)))
    (pss_cons (ps_expr (pe_met G_Reader_take_sign hr l_Reader_take_sign passN (pv 0) (pa_cons (pe_gi rfl T.k.k_CLOSING) pa_nil)))
    (pss_cons (ps_fldaug (pv 0) pe_int in_sub)
    (pss_one (ps_ret (pe_cal G_denied hr l_denied rfl pass0 (pa_cons (pv 1) (pa_cons (pv 2) pa_nil)))))))))))))⟩
noncomputable def D_Reader_read_conjunction (T : Txt K mg c) {k_Reader_read_unary : Nat} {sp_Reader_read_unary : Sp} (G_Reader_read_unary : Met P w K mg base (L2N.CX P w) k_Reader_read_unary c.reader "read_unary" sp_Reader_read_unary) (l_Reader_read_unary : k_Reader_read_unary ≤ j) {k_Reader_passes : Nat} {sp_Reader_passes : Sp} (G_Reader_passes : Met P w K mg base CX0 k_Reader_passes c.reader "passes" sp_Reader_passes) (l_Reader_passes : k_Reader_passes ≤ j) {k_joined : Nat} {sp_joined : Sp} (G_joined : Cal P w K mg base CX0 k_joined "joined" sp_joined) (l_joined : k_joined ≤ j) (hr : Room j (A.deeper (envOfC "Reader.read_conjunction" (defScope s_Reader_read_conjunction) s.heap.objs.size f cdv))) : { t : TS // PSs (XN P w K mg base n_Reader_read_conjunction "Reader.read_conjunction" s_Reader_read_conjunction f cdv A outer s H E) (defBody s_Reader_read_conjunction) t } :=
  ⟨_, (pss_cons (ps_set (i := 1) sc_Reader_read_conjunction.nd rfl (Or.inl rfl) (pe_lst (pa_cons (pe_met0 G_Reader_read_unary hr l_Reader_read_unary passN (pv 0)) pa_nil)))
    (pss_cons (ps_while ownN (pt_val (pe_met G_Reader_passes hr l_Reader_passes pass0 (pv 0) (pa_cons (pe_gi rfl T.k.k_BOTH) pa_nil))) (pss_one (ps_expr (pe_bm PySem.F.plainAttrs_list PySem.F.slot_list_append PySem.F.type_list_append mt_append (pv 1) (pa_cons (pe_met0 G_Reader_read_unary hr l_Reader_read_unary passN (pv 0)) pa_nil)))))
    (pss_one (ps_ret (pe_cal G_joined hr l_joined rfl pass0 (pa_cons (pe_gs rfl T.k.k_AND) (pa_cons (pv 1) pa_nil)))))))⟩
noncomputable def D_Reader_read_condition (T : Txt K mg c) {k_Reader_read_conjunction : Nat} {sp_Reader_read_conjunction : Sp} (G_Reader_read_conjunction : Met P w K mg base (L2N.CX P w) k_Reader_read_conjunction c.reader "read_conjunction" sp_Reader_read_conjunction) (l_Reader_read_conjunction : k_Reader_read_conjunction ≤ j) {k_Reader_passes : Nat} {sp_Reader_passes : Sp} (G_Reader_passes : Met P w K mg base CX0 k_Reader_passes c.reader "passes" sp_Reader_passes) (l_Reader_passes : k_Reader_passes ≤ j) {k_joined : Nat} {sp_joined : Sp} (G_joined : Cal P w K mg base CX0 k_joined "joined" sp_joined) (l_joined : k_joined ≤ j) (hr : Room j (A.deeper (envOfC "Reader.read_condition" (defScope s_Reader_read_condition) s.heap.objs.size f cdv))) : { t : TS // PSs (XN P w K mg base n_Reader_read_condition "Reader.read_condition" s_Reader_read_condition f cdv A outer s H E) (defBody s_Reader_read_condition) t } :=
  ⟨_, (pss_cons (ps_set (i := 1) sc_Reader_read_condition.nd rfl (Or.inl rfl) (pe_lst (pa_cons (pe_met0 G_Reader_read_conjunction hr l_Reader_read_conjunction passN (pv 0)) pa_nil)))
    (pss_cons (ps_while ownN (pt_val (pe_met G_Reader_passes hr l_Reader_passes pass0 (pv 0) (pa_cons (pe_gi rfl T.k.k_EITHER) pa_nil))) (pss_one (ps_expr (pe_bm PySem.F.plainAttrs_list PySem.F.slot_list_append PySem.F.type_list_append mt_append (pv 1) (pa_cons (pe_met0 G_Reader_read_conjunction hr l_Reader_read_conjunction passN (pv 0)) pa_nil)))))
    (pss_one (ps_ret (pe_cal G_joined hr l_joined rfl pass0 (pa_cons (pe_gs rfl T.k.k_OR) (pa_cons (pv 1) pa_nil)))))))⟩
noncomputable def D_Reader_read_line (T : Txt K mg c) {k_Reader_take : Nat} {sp_Reader_take : Sp} (G_Reader_take : Met P w K mg base (L2N.CX P w) k_Reader_take c.reader "take" sp_Reader_take) (l_Reader_take : k_Reader_take ≤ j) {k_want : Nat} {sp_want : Sp} (G_want : Cal P w K mg base (L2N.CX P w) k_want "want" sp_want) (l_want : k_want ≤ j) {k_Reader_take_sign : Nat} {sp_Reader_take_sign : Sp} (G_Reader_take_sign : Met P w K mg base (L2N.CX P w) k_Reader_take_sign c.reader "take_sign" sp_Reader_take_sign) (l_Reader_take_sign : k_Reader_take_sign ≤ j) {k_Reader_read_condition : Nat} {sp_Reader_read_condition : Sp} (G_Reader_read_condition : Met P w K mg base (L2N.CX P w) k_Reader_read_condition c.reader "read_condition" sp_Reader_read_condition) (l_Reader_read_condition : k_Reader_read_condition ≤ j) {k_Reader_take_number : Nat} {sp_Reader_take_number : Sp} (G_Reader_take_number : Met P w K mg base (L2N.CX P w) k_Reader_take_number c.reader "take_number" sp_Reader_take_number) (l_Reader_take_number : k_Reader_take_number ≤ j) {k_Reader_passes : Nat} {sp_Reader_passes : Sp} (G_Reader_passes : Met P w K mg base CX0 k_Reader_passes c.reader "passes" sp_Reader_passes) (l_Reader_passes : k_Reader_passes ≤ j) {k_Reader_is_next : Nat} {sp_Reader_is_next : Sp} (G_Reader_is_next : Met P w K mg base CX0 k_Reader_is_next c.reader "is_next" sp_Reader_is_next) (l_Reader_is_next : k_Reader_is_next ≤ j) {k_Line_init : Nat} {sp_Line_init : Sp} (G_Line_init : Mak P w K mg base CX0 k_Line_init "Line" c.line sp_Line_init) (l_Line_init : k_Line_init + 1 ≤ j) (hr : Room j (A.deeper (envOfC "Reader.read_line" (defScope s_Reader_read_line) s.heap.objs.size f cdv))) : { t : TS // PSs (XN P w K mg base n_Reader_read_line "Reader.read_line" s_Reader_read_line f cdv A outer s H E) (defBody s_Reader_read_line) t } :=
  ⟨_, (pss_cons (ps_set (i := 1) sc_Reader_read_line.nd rfl (Or.inl rfl) (pe_met G_Reader_take hr l_Reader_take passN (pv 0) (pa_cons (pe_gs rfl T.k.k_NAME) pa_nil)))
    (pss_cons (ps_expr (pe_cal G_want hr l_want rfl passN (pa_cons (pe_cmp (pc_dnotin (hu_of hr) (pv 1) (pe_fld (pv 0) rfl)) rfl) pa_nil)))
    (pss_cons (ps_expr (pe_met G_Reader_take_sign hr l_Reader_take_sign passN (pv 0) (pa_cons (pe_gi rfl T.k.k_COLON) pa_nil)))
    (pss_cons (ps_set (i := 2) sc_Reader_read_line.nd rfl (Or.inl rfl) (pe_met0 G_Reader_read_condition hr l_Reader_read_condition passN (pv 0)))
    (pss_cons (ps_set (i := 3) sc_Reader_read_line.nd rfl (Or.inl rfl) pe_int)
    (pss_cons (ps_if (pt_val (pe_met G_Reader_passes hr l_Reader_passes pass0 (pv 0) (pa_cons (pe_gi rfl T.k.k_SLASH) pa_nil))) (pss_one (ps_set (i := 3) sc_Reader_read_line.nd rfl (Or.inl rfl) (pe_met G_Reader_take_number hr l_Reader_take_number passN (pv 0) (pa_cons pe_int (pa_cons (pe_gi rfl T.k.k_MOST_PRESCALE) pa_nil))))) pss_nil)
    (pss_cons (ps_expr (pe_cal G_want hr l_want rfl passN (pa_cons (pe_met G_Reader_is_next hr l_Reader_is_next pass0 (pv 0) (pa_cons (pe_gs rfl T.k.k_END) pa_nil)) pa_nil)))
    (pss_one (ps_ret (pe_mak G_Line_init hr l_Line_init rfl pass0 (pa_cons (pv 1) (pa_cons (pv 2) (pa_cons (pv 3) pa_nil)))))))))))))⟩
noncomputable def D_text_lines (T : Txt K mg c) (hr : Room j (A.deeper (envOfC "text_lines" (defScope s_text_lines) s.heap.objs.size f cdv))) : { t : TS // PSs (XO P w K mg base n_text_lines "text_lines" s_text_lines f cdv A outer s H E) (defBody s_text_lines) t } :=
  ⟨_, (pss_cons (ps_set (i := 1) sc_text_lines.nd rfl (Or.inl rfl) (pe_lst (pa_cons (pe_lst pa_nil) pa_nil)))
    (pss_cons (ps_for PassesOwn.never rfl (pi_list (pv 0)) (pg_name (i := 2) sc_text_lines.nd rfl (Or.inl rfl))
      (pss_one (ps_if (pt_cmpR op_eq (pv 2) (pe_gi rfl T.k.k_LINE_END) (nomark _)) (pss_one (ps_expr (pe_bm PySem.F.plainAttrs_list PySem.F.slot_list_append PySem.F.type_list_append mt_append (pv 1) (pa_cons (pe_lst pa_nil) pa_nil)))) (pss_one (ps_expr (pe_bm PySem.F.plainAttrs_list PySem.F.slot_list_append PySem.F.type_list_append mt_append (pe_ix ix_list (pv 1) (pe_un un_neg pe_int) (fun _ _ => rfl)) (pa_cons (pv 2) pa_nil)))))))
    (pss_one (ps_ret (pv 1)))))⟩
noncomputable def D_is_ignored (T : Txt K mg c) (hr : Room j (A.deeper (envOfC "is_ignored" (defScope s_is_ignored) s.heap.objs.size f cdv))) : { t : TS // PSs (XO P w K mg base n_is_ignored "is_ignored" s_is_ignored f cdv A outer s H E) (defBody s_is_ignored) t } :=
  ⟨_, (pss_one (ps_ret (pe_callB (cr_all rfl) (by rfl) T.k.z_all bt_all (pa_cons (pe_lc (own := [("byte", 1)]) rfl sc_is_ignored.nd (pi_list (pv 0)) (blkOk_by (own := [("byte", 1)]) (N := n_is_ignored) (sc := defScope s_is_ignored) (by decide +kernel)) (fun _ _ _ _ _ => (pg_name (i := 1) sc_is_ignored.nd rfl (Or.inl rfl))) (fun _ _ _ _ _ => pts_nil) (fun _ _ _ _ _ => (pe_cmpR op_eq (pv 1) (pe_gi rfl T.k.k_SPACE) (nomark _)))) pa_nil))))⟩
noncomputable def D_bits_of (T : Txt K mg c) (hr : Room j (A.deeper (envOfC "bits_of" (defScope s_bits_of) s.heap.objs.size f cdv))) : { t : TS // PSs (XO P w K mg base n_bits_of "bits_of" s_bits_of f cdv A outer s H E) (defBody s_bits_of) t } :=
  ⟨_, (pss_cons (ps_set (i := 1) sc_bits_of.nd rfl (Or.inl rfl) pe_int)
    (pss_cons (ps_for PassesOwn.never rfl (pi_reversed rfl T.k.z_reversed (pa_cons (pv 0) pa_nil)) (pg_name (i := 2) sc_bits_of.nd rfl (Or.inl rfl))
      (pss_one (ps_set (i := 1) sc_bits_of.nd rfl (Or.inl rfl) (pe_op op_add (pe_op op_mul pe_int (pv 1)) (pe_callTy call_int1 (by rfl) T.k.z_int bt_int (pa_cons (pv 2) pa_nil))))))
    (pss_one (ps_ret (pv 1)))))⟩
noncomputable def D_Trigger_init (T : Txt K mg c) {k_Net_init : Nat} {sp_Net_init : Sp} (G_Net_init : Mak P w K mg base CX0 k_Net_init "Net" c.net sp_Net_init) (l_Net_init : k_Net_init + 1 ≤ j) (hr : Room j (A.deeper (envOfC "Trigger.__init__" (defScope s_Trigger_init) s.heap.objs.size f cdv))) : { t : TS // PSs (XO P w K mg base n_Trigger_init "Trigger.__init__" s_Trigger_init f cdv A outer s H E) (defBody s_Trigger_init) t } :=
  ⟨_, (pss_cons (ps_fld (pv 0) (pv 1) rfl)
    (pss_cons (ps_fld (pv 0) (pv 2) rfl)
    (pss_cons (ps_fld (pv 0) (pv 3) rfl)
    (pss_cons (ps_fld (pv 0) (pe_mak G_Net_init hr l_Net_init rfl pass0 (pa_cons pe_int (pa_cons pe_int (pa_cons pe_int (pa_cons pe_int pa_nil))))) rfl)
    (pss_cons (ps_fld (pv 0) pe_non rfl)
    (pss_cons (ps_fld (pv 0) (pe_gi rfl T.k.k_NO_TIME) rfl)
    (pss_cons (ps_fld (pv 0) (pe_lst pa_nil) rfl)
    (pss_cons (ps_fld (pv 0) (pe_lst pa_nil) rfl)
    (pss_one (ps_fld (pv 0) (pe_lst (pa_cons pe_int (pa_cons pe_int (pa_cons pe_int (pa_cons pe_int pa_nil))))) rfl))))))))))⟩
noncomputable def D_Trigger_reason_at (T : Txt K mg c) (hr : Room j (A.deeper (envOfC "Trigger.reason_at" (defScope s_Trigger_reason_at) s.heap.objs.size f cdv))) : { t : TS // PSs (XO P w K mg base n_Trigger_reason_at "Trigger.reason_at" s_Trigger_reason_at f cdv A outer s H E) (defBody s_Trigger_reason_at) t } :=
  ⟨_, (pss_cons (ps_if (pt_not (pt_val (pv 2))) (pss_one (ps_ret (pe_gi rfl T.k.k_NONE_PASSES))) pss_nil)
    (pss_cons (ps_if (pt_val (pe_callB (cr_any rfl) (by rfl) T.k.z_any bt_any (pa_cons (pe_lc (own := [("kept", 3)]) rfl sc_Trigger_reason_at.nd (pi_list (pe_fld (pv 0) rfl)) (blkOk_by (own := [("kept", 3)]) (N := n_Trigger_reason_at) (sc := defScope s_Trigger_reason_at) (by decide +kernel)) (fun _ _ _ _ _ => (pg_name (i := 3) sc_Trigger_reason_at.nd rfl (Or.inl rfl))) (fun _ _ _ _ _ => pts_nil) (fun _ _ _ _ _ => (pe_cmpR op_lt (pv 1) (pe_op op_add (pv 3) (pe_fldK (K := K) rfl (pv 0) rfl)) (nomark _)))) pa_nil))) (pss_one (ps_ret (pe_gi rfl T.k.k_IS_DEAD))) pss_nil)
    (pss_cons (ps_if (pt_cmpR op_ge (pe_callB call_len_seq (by rfl) T.k.z_len bt_len (pa_cons (pe_lc (own := [("kept", 3)]) rfl sc_Trigger_reason_at.nd (pi_list (pe_fld (pv 0) rfl)) (blkOk_by (own := [("kept", 3)]) (N := n_Trigger_reason_at) (sc := defScope s_Trigger_reason_at) (by decide +kernel)) (fun _ _ _ _ _ => (pg_name (i := 3) sc_Trigger_reason_at.nd rfl (Or.inl rfl))) (fun _ _ _ _ _ => pts_one (pt_cmpR op_lt (pv 1) (pe_op op_add (pv 3) (pe_fldK (K := K) rfl (pv 0) rfl)) (nomark _))) (fun _ _ _ _ _ => (pv 3))) pa_nil)) (pe_fld (pv 0) rfl) (nomark _)) (pss_one (ps_ret (pe_gi rfl T.k.k_IS_FULL))) pss_nil)
    (pss_one (ps_ret (pe_gi rfl T.k.k_KEPT))))))⟩
noncomputable def D_Trigger_lines_before (T : Txt K mg c) (hr : Room j (A.deeper (envOfC "Trigger.lines_before" (defScope s_Trigger_lines_before) s.heap.objs.size f cdv))) : { t : TS // PSs (XO P w K mg base n_Trigger_lines_before "Trigger.lines_before" s_Trigger_lines_before f cdv A outer s H E) (defBody s_Trigger_lines_before) t } :=
  ⟨_, (pss_cons (ps_if (pt_cmpR op_eq (pe_fld (pv 0) rfl) (pe_op op_sub (pv 1) pe_int) (nomark _)) (pss_one (ps_ret (pe_callTy call_list_of (by rfl) T.k.z_list bt_list (pa_cons (pe_fld (pe_fld (pv 0) rfl) rfl) pa_nil)))) pss_nil)
    (pss_one (ps_ret (pe_op op_rep (pe_lst (pa_cons pe_bl pa_nil)) (pe_callB call_len_seq (by rfl) T.k.z_len bt_len (pa_cons (pe_fld (pe_fld (pv 0) rfl) rfl) pa_nil))))))⟩
noncomputable def D_Trigger_note_event (T : Txt K mg c) (hr : Room j (A.deeper (envOfC "Trigger.note_event" (defScope s_Trigger_note_event) s.heap.objs.size f cdv))) : { t : TS // PSs (XO P w K mg base n_Trigger_note_event "Trigger.note_event" s_Trigger_note_event f cdv A outer s H E) (defBody s_Trigger_note_event) t } :=
  ⟨_, (pss_cons (ps_fld (pv 0) (pv 1) rfl)
    (pss_cons (ps_fld (pv 0) (pv 2) rfl)
    (pss_cons (ps_asg (pe_op op_mod (pe_op op_add (pe_ix ix_list (pe_fld (pv 0) rfl) (pv 3) (fun _ _ => rfl)) pe_int) (pe_gi rfl T.k.k_ROUND)) (pg_sub (pe_fld (pv 0) rfl) (pv 3) set_list))
    (pss_one (ps_if (pt_cmpR op_eq (pv 3) (pe_gi rfl T.k.k_KEPT) (nomark _)) (pss_one (ps_expr (pe_bm PySem.F.plainAttrs_list PySem.F.slot_list_append PySem.F.type_list_append mt_append (pe_fld (pv 0) rfl) (pa_cons (pv 1) pa_nil)))) pss_nil)))))⟩
noncomputable def D_Trigger_decide (T : Txt K mg c) {k_Net_score_of : Nat} {sp_Net_score_of : Sp} (G_Net_score_of : Met P w K mg base CX0 k_Net_score_of c.net "score_of" sp_Net_score_of) (l_Net_score_of : k_Net_score_of ≤ j) {k_features_of : Nat} {sp_features_of : Sp} (G_features_of : Cal P w K mg base CX0 k_features_of "features_of" sp_features_of) (l_features_of : k_features_of ≤ j) {k_Menu_all_held : Nat} {sp_Menu_all_held : Sp} (G_Menu_all_held : Met P w K mg base CX0 k_Menu_all_held c.menu "all_held" sp_Menu_all_held) (l_Menu_all_held : k_Menu_all_held ≤ j) {k_Facts_init : Nat} {sp_Facts_init : Sp} (G_Facts_init : Mak P w K mg base CX0 k_Facts_init "Facts" c.facts sp_Facts_init) (l_Facts_init : k_Facts_init + 1 ≤ j) {k_Trigger_lines_before : Nat} {sp_Trigger_lines_before : Sp} (G_Trigger_lines_before : Met P w K mg base CX0 k_Trigger_lines_before c.trigger "lines_before" sp_Trigger_lines_before) (l_Trigger_lines_before : k_Trigger_lines_before ≤ j) {k_Menu_all_passing : Nat} {sp_Menu_all_passing : Sp} (G_Menu_all_passing : Met P w K mg base CX0 k_Menu_all_passing c.menu "all_passing" sp_Menu_all_passing) (l_Menu_all_passing : k_Menu_all_passing ≤ j) {k_Trigger_reason_at : Nat} {sp_Trigger_reason_at : Sp} (G_Trigger_reason_at : Met P w K mg base CX0 k_Trigger_reason_at c.trigger "reason_at" sp_Trigger_reason_at) (l_Trigger_reason_at : k_Trigger_reason_at ≤ j) {k_Menu_note : Nat} {sp_Menu_note : Sp} (G_Menu_note : Met P w K mg base CX0 k_Menu_note c.menu "note" sp_Menu_note) (l_Menu_note : k_Menu_note ≤ j) {k_Trigger_note_event : Nat} {sp_Trigger_note_event : Sp} (G_Trigger_note_event : Met P w K mg base CX0 k_Trigger_note_event c.trigger "note_event" sp_Trigger_note_event) (l_Trigger_note_event : k_Trigger_note_event ≤ j) {k_bits_of : Nat} {sp_bits_of : Sp} (G_bits_of : Cal P w K mg base CX0 k_bits_of "bits_of" sp_bits_of) (l_bits_of : k_bits_of ≤ j) (hr : Room j (A.deeper (envOfC "Trigger.decide" (defScope s_Trigger_decide) s.heap.objs.size f cdv))) : { t : TS // PSs (XO P w K mg base n_Trigger_decide "Trigger.decide" s_Trigger_decide f cdv A outer s H E) (defBody s_Trigger_decide) t } :=
  ⟨_, (pss_cons (ps_set (i := 3) sc_Trigger_decide.nd rfl (Or.inl rfl) (pe_met G_Net_score_of hr l_Net_score_of pass0 (pe_fld (pv 0) rfl) (pa_cons (pe_cal G_features_of hr l_features_of rfl pass0 (pa_cons (pv 2) (pa_cons (pe_fld (pe_fld (pv 0) rfl) rfl) pa_nil))) pa_nil)))
    (pss_cons (ps_set (i := 4) sc_Trigger_decide.nd rfl (Or.inl rfl) (pe_met G_Menu_all_held hr l_Menu_all_held pass0 (pe_fld (pv 0) rfl) (pa_cons (pe_mak G_Facts_init hr l_Facts_init rfl pass0 (pa_cons (pv 2) (pa_cons (pv 3) (pa_cons (pe_met G_Trigger_lines_before hr l_Trigger_lines_before pass0 (pv 0) (pa_cons (pv 1) pa_nil)) pa_nil)))) pa_nil)))
    (pss_cons (ps_set (i := 5) sc_Trigger_decide.nd rfl (Or.inl rfl) (pe_met G_Menu_all_passing hr l_Menu_all_passing pass0 (pe_fld (pv 0) rfl) (pa_cons (pv 4) pa_nil)))
    (pss_cons (ps_set (i := 6) sc_Trigger_decide.nd rfl (Or.inl rfl) (pe_met G_Trigger_reason_at hr l_Trigger_reason_at pass0 (pv 0) (pa_cons (pv 1) (pa_cons (pe_callB (cr_any rfl) (by rfl) T.k.z_any bt_any (pa_cons (pv 5) pa_nil)) pa_nil))))
    (pss_cons (ps_expr (pe_met G_Menu_note hr l_Menu_note pass0 (pe_fld (pv 0) rfl) (pa_cons (pv 4) (pa_cons (pv 5) (pa_cons (pe_cmpR op_eq (pv 6) (pe_gi rfl T.k.k_KEPT) (nomark _)) pa_nil)))))
    (pss_cons (ps_expr (pe_met G_Trigger_note_event hr l_Trigger_note_event pass0 (pv 0) (pa_cons (pv 1) (pa_cons (pv 2) (pa_cons (pv 6) pa_nil)))))
    (pss_one (ps_ret (pe_lst (pa_cons (pe_callTy call_int1 (by rfl) T.k.z_int bt_int (pa_cons (pe_cmpR op_eq (pv 6) (pe_gi rfl T.k.k_KEPT) (nomark _)) pa_nil)) (pa_cons (pe_cal G_bits_of hr l_bits_of rfl pass0 (pa_cons (pv 4) pa_nil)) (pa_cons (pe_cal G_bits_of hr l_bits_of rfl pass0 (pa_cons (pv 5) pa_nil)) (pa_cons (pv 3) (pa_cons (pv 6) pa_nil))))))))))))))⟩
noncomputable def D_Trigger_has_line (T : Txt K mg c) (hr : Room j (A.deeper (envOfC "Trigger.has_line" (defScope s_Trigger_has_line) s.heap.objs.size f cdv))) : { t : TS // PSs (XO P w K mg base n_Trigger_has_line "Trigger.has_line" s_Trigger_has_line f cdv A outer s H E) (defBody s_Trigger_has_line) t } :=
  ⟨_, (pss_one (ps_ret (pe_and (pe_cmp (pc_notN (pe_fld (pv 0) rfl)) rfl) (pe_one (pe_chain op_le op_lt pe_int (pv 1) (pe_callB call_len_seq (by rfl) T.k.z_len bt_len (pa_cons (pe_fld (pe_fld (pv 0) rfl) rfl) pa_nil)))))))⟩
noncomputable def D_Desk_init (T : Txt K mg c) (hr : Room j (A.deeper (envOfC "Desk.__init__" (defScope s_Desk_init) s.heap.objs.size f cdv))) : { t : TS // PSs (XO P w K mg base n_Desk_init "Desk.__init__" s_Desk_init f cdv A outer s H E) (defBody s_Desk_init) t } :=
  ⟨_, (pss_one (ps_fld (pv 0) pe_non rfl))⟩
noncomputable def D_is_within (T : Txt K mg c) (hr : Room j (A.deeper (envOfC "is_within" (defScope s_is_within) s.heap.objs.size f cdv))) : { t : TS // PSs (XO P w K mg base n_is_within "is_within" s_is_within f cdv A outer s H E) (defBody s_is_within) t } :=
  ⟨_, (pss_one (ps_ret (pe_chain op_le op_le (pv 1) (pv 0) (pv 2))))⟩
noncomputable def D_are_within (T : Txt K mg c) (hr : Room j (A.deeper (envOfC "are_within" (defScope s_are_within) s.heap.objs.size f cdv))) : { t : TS // PSs (XO P w K mg base n_are_within "are_within" s_are_within f cdv A outer s H E) (defBody s_are_within) t } :=
  ⟨_, (pss_one (ps_ret (pe_callB (cr_all rfl) (by rfl) T.k.z_all bt_all (pa_cons (pe_lc (own := [("number", 3)]) rfl sc_are_within.nd (pi_list (pv 0)) (blkOk_by (own := [("number", 3)]) (N := n_are_within) (sc := defScope s_are_within) (by decide +kernel)) (fun _ _ _ _ _ => (pg_name (i := 3) sc_are_within.nd rfl (Or.inl rfl))) (fun _ _ _ _ _ => pts_nil) (fun _ _ _ _ _ => (pe_chain op_le op_le (pv 1) (pv 3) (pv 2)))) pa_nil))))⟩
noncomputable def D_is_object (T : Txt K mg c) {k_is_within : Nat} {sp_is_within : Sp} (G_is_within : Cal P w K mg base CX0 k_is_within "is_within" sp_is_within) (l_is_within : k_is_within ≤ j) (hr : Room j (A.deeper (envOfC "is_object" (defScope s_is_object) s.heap.objs.size f cdv))) : { t : TS // PSs (XO P w K mg base n_is_object "is_object" s_is_object f cdv A outer s H E) (defBody s_is_object) t } :=
  ⟨_, (pss_cons (ps_asg (pv 0) (pg_tup rfl (pgs_cons (pg_name (i := 1) sc_is_object.nd rfl (Or.inl rfl)) (pgs_cons (pg_name (i := 2) sc_is_object.nd rfl (Or.inl rfl)) (pgs_cons (pg_name (i := 3) sc_is_object.nd rfl (Or.inl rfl)) pgs_nil)))))
    (pss_one (ps_ret (pe_and (pe_cal G_is_within hr l_is_within rfl pass0 (pa_cons (pv 1) (pa_cons pe_int (pa_cons (pe_op op_sub (pe_gi rfl T.k.k_KINDS_facts) pe_int) pa_nil)))) (pe_and (pe_cal G_is_within hr l_is_within rfl pass0 (pa_cons (pv 2) (pa_cons pe_int (pa_cons (pe_gi rfl T.k.k_MOST_WORD) pa_nil)))) (pe_one (pe_cal G_is_within hr l_is_within rfl pass0 (pa_cons (pv 3) (pa_cons pe_int (pa_cons (pe_op op_sub (pe_gi rfl T.k.k_RING) pe_int) pa_nil))))))))))⟩
noncomputable def D_ask_open (T : Txt K mg c) {k_is_within : Nat} {sp_is_within : Sp} (G_is_within : Cal P w K mg base CX0 k_is_within "is_within" sp_is_within) (l_is_within : k_is_within ≤ j) {k_Trigger_init : Nat} {sp_Trigger_init : Sp} (G_Trigger_init : Mak P w K mg base CX0 k_Trigger_init "Trigger" c.trigger sp_Trigger_init) (l_Trigger_init : k_Trigger_init + 1 ≤ j) (hr : Room j (A.deeper (envOfC "ask_open" (defScope s_ask_open) s.heap.objs.size f cdv))) : { t : TS // PSs (XO P w K mg base n_ask_open "ask_open" s_ask_open f cdv A outer s H E) (defBody s_ask_open) t } :=
  ⟨_, (pss_cons (ps_asg (pv 1) (pg_unl rfl (pgs_cons (pg_name (i := 3) sc_ask_open.nd rfl (Or.inl rfl)) (pgs_cons (pg_name (i := 4) sc_ask_open.nd rfl (Or.inl rfl)) (pgs_cons (pg_name (i := 5) sc_ask_open.nd rfl (Or.inl rfl)) pgs_nil)))))
    (pss_cons (ps_if (PW.pt (pw_or (pt_not (pt_val (pe_cal G_is_within hr l_is_within rfl pass0 (pa_cons (pv 3) (pa_cons pe_int (pa_cons (pe_gi rfl T.k.k_MOST_WORD) pa_nil)))))) (pw_or (pt_not (pt_val (pe_cal G_is_within hr l_is_within rfl pass0 (pa_cons (pv 4) (pa_cons pe_int (pa_cons (pe_gi rfl T.k.k_MOST_WORD) pa_nil)))))) (pw_or1 (pt_not (pt_val (pe_cal G_is_within hr l_is_within rfl pass0 (pa_cons (pv 5) (pa_cons pe_int (pa_cons (pe_gi rfl T.k.k_MOST_KEPT) pa_nil)))))))))) (pss_one (ps_ret (pe_lst (pa_cons (pe_gi rfl T.k.k_OUT_OF_RANGE) pa_nil)))) pss_nil)
    (pss_cons (ps_fld (pv 0) (pe_mak G_Trigger_init hr l_Trigger_init rfl pass0 (pa_cons (pv 3) (pa_cons (pv 4) (pa_cons (pv 5) pa_nil)))) rfl)
    (pss_one (ps_ret (pe_lst (pa_cons pe_int pa_nil)))))))⟩
noncomputable def D_are_parameters (T : Txt K mg c) {k_is_within : Nat} {sp_is_within : Sp} (G_is_within : Cal P w K mg base CX0 k_is_within "is_within" sp_is_within) (l_is_within : k_is_within ≤ j) {k_are_within : Nat} {sp_are_within : Sp} (G_are_within : Cal P w K mg base CX0 k_are_within "are_within" sp_are_within) (l_are_within : k_are_within ≤ j) (hr : Room j (A.deeper (envOfC "are_parameters" (defScope s_are_parameters) s.heap.objs.size f cdv))) : { t : TS // PSs (XO P w K mg base n_are_parameters "are_parameters" s_are_parameters f cdv A outer s H E) (defBody s_are_parameters) t } :=
  ⟨_, (pss_cons (ps_asg (pv 0) (pg_unl rfl (pgs_cons (pg_name (i := 2) sc_are_parameters.nd rfl (Or.inl rfl)) (pgs_cons (pg_name (i := 3) sc_are_parameters.nd rfl (Or.inl rfl)) (pgs_cons (pg_name (i := 4) sc_are_parameters.nd rfl (Or.inl rfl)) (pgs_cons (pg_name (i := 5) sc_are_parameters.nd rfl (Or.inl rfl)) pgs_nil))))))
    (pss_cons (ps_asg (pv 1) (pg_unl rfl (pgs_cons (pg_name (i := 6) sc_are_parameters.nd rfl (Or.inl rfl)) (pgs_cons (pg_name (i := 7) sc_are_parameters.nd rfl (Or.inl rfl)) (pgs_cons (pg_name (i := 8) sc_are_parameters.nd rfl (Or.inl rfl)) pgs_nil)))))
    (pss_cons (ps_if (PW.pt (pw_or (pt_not (pt_val (pe_cal G_is_within hr l_is_within rfl pass0 (pa_cons (pv 2) (pa_cons pe_int (pa_cons pe_int pa_nil)))))) (pw_or (pt_not (pt_val (pe_cal G_is_within hr l_is_within rfl pass0 (pa_cons (pv 3) (pa_cons pe_int (pa_cons (pe_gi rfl T.k.k_MOST_WORD) pa_nil)))))) (pw_or1 (pt_not (pt_val (pe_cal G_is_within hr l_is_within rfl pass0 (pa_cons (pv 4) (pa_cons pe_int (pa_cons pe_int pa_nil)))))))))) (pss_one (ps_ret pe_bl)) pss_nil)
    (pss_cons (ps_if (PW.pt (pw_or (pt_not (pt_val (pe_cal G_is_within hr l_is_within rfl pass0 (pa_cons (pv 5) (pa_cons (pe_un un_neg pe_int) (pa_cons pe_int pa_nil)))))) (pw_or1 (pt_not (pt_val (pe_cal G_are_within hr l_are_within rfl pass0 (pa_cons (pv 6) (pa_cons (pe_un un_neg pe_int) (pa_cons pe_int pa_nil))))))))) (pss_one (ps_ret pe_bl)) pss_nil)
    (pss_cons (ps_if (pt_cmpR (op_neD hr.units) (pe_tup (pa_cons (pe_callB call_len_seq (by rfl) T.k.z_len bt_len (pa_cons (pv 6) pa_nil)) (pa_cons (pe_callB call_len_seq (by rfl) T.k.z_len bt_len (pa_cons (pv 7) pa_nil)) (pa_cons (pe_callB call_len_seq (by rfl) T.k.z_len bt_len (pa_cons (pv 8) pa_nil)) pa_nil)))) (pe_tup (pa_cons (pe_gi rfl T.k.k_HIDDEN) (pa_cons (pe_op op_mul (pe_gi rfl T.k.k_HIDDEN) (pe_gi rfl T.k.k_WIDE)) (pa_cons (pe_gi rfl T.k.k_HIDDEN) pa_nil)))) (nomark _)) (pss_one (ps_ret pe_bl)) pss_nil)
    (pss_one (ps_ret (pe_and (pe_cal G_are_within hr l_are_within rfl pass0 (pa_cons (pv 7) (pa_cons (pe_un un_neg pe_int) (pa_cons pe_int pa_nil)))) (pe_one (pe_cal G_are_within hr l_are_within rfl pass0 (pa_cons (pv 8) (pa_cons (pe_un un_neg pe_int) (pa_cons pe_int pa_nil)))))))))))))⟩
noncomputable def D_ask_net (T : Txt K mg c) {k_are_parameters : Nat} {sp_are_parameters : Sp} (G_are_parameters : Cal P w K mg base CX0 k_are_parameters "are_parameters" sp_are_parameters) (l_are_parameters : k_are_parameters ≤ j) {k_Net_init : Nat} {sp_Net_init : Sp} (G_Net_init : Mak P w K mg base CX0 k_Net_init "Net" c.net sp_Net_init) (l_Net_init : k_Net_init + 1 ≤ j) {k_Net_take_rows : Nat} {sp_Net_take_rows : Sp} (G_Net_take_rows : Met P w K mg base CX0 k_Net_take_rows c.net "take_rows" sp_Net_take_rows) (l_Net_take_rows : k_Net_take_rows ≤ j) (hr : Room j (A.deeper (envOfC "ask_net" (defScope s_ask_net) s.heap.objs.size f cdv))) : { t : TS // PSs (XO P w K mg base n_ask_net "ask_net" s_ask_net f cdv A outer s H E) (defBody s_ask_net) t } :=
  ⟨_, (pss_cons (ps_if (pt_not (pt_val (pe_cal G_are_parameters hr l_are_parameters rfl pass0 (pa_cons (pv 1) (pa_cons (pv 2) pa_nil))))) (pss_one (ps_ret (pe_lst (pa_cons (pe_gi rfl T.k.k_OUT_OF_RANGE) pa_nil)))) pss_nil)
    (pss_cons (ps_set (i := 3) sc_ask_net.nd rfl (Or.inl rfl) (pe_mak G_Net_init hr l_Net_init rfl pass0 (pa_cons (pe_ix ix_list (pv 1) pe_int (fun _ _ => rfl)) (pa_cons (pe_ix ix_list (pv 1) pe_int (fun _ _ => rfl)) (pa_cons (pe_ix ix_list (pv 1) pe_int (fun _ _ => rfl)) (pa_cons (pe_ix ix_list (pv 1) pe_int (fun _ _ => rfl)) pa_nil))))))
    (pss_cons (ps_expr (pe_met G_Net_take_rows hr l_Net_take_rows pass0 (pv 3) (pa_cons (pe_ix ix_list (pv 2) pe_int (fun _ _ => rfl)) (pa_cons (pe_ix ix_list (pv 2) pe_int (fun _ _ => rfl)) (pa_cons (pe_ix ix_list (pv 2) pe_int (fun _ _ => rfl)) pa_nil)))))
    (pss_cons (ps_fld (pe_fld (pv 0) rfl) (pv 3) rfl)
    (pss_one (ps_ret (pe_lst (pa_cons pe_int pa_nil))))))))⟩
noncomputable def D_ask_event (T : Txt K mg c) {k_is_within : Nat} {sp_is_within : Sp} (G_is_within : Cal P w K mg base CX0 k_is_within "is_within" sp_is_within) (l_is_within : k_is_within ≤ j) {k_objects_in : Nat} {sp_objects_in : Sp} (G_objects_in : Cal P w K mg base CX0 k_objects_in "objects_in" sp_objects_in) (l_objects_in : k_objects_in ≤ j) {k_is_object : Nat} {sp_is_object : Sp} (G_is_object : Cal P w K mg base CX0 k_is_object "is_object" sp_is_object) (l_is_object : k_is_object ≤ j) {k_Trigger_decide : Nat} {sp_Trigger_decide : Sp} (G_Trigger_decide : Met P w K mg base CX0 k_Trigger_decide c.trigger "decide" sp_Trigger_decide) (l_Trigger_decide : k_Trigger_decide ≤ j) (hr : Room j (A.deeper (envOfC "ask_event" (defScope s_ask_event) s.heap.objs.size f cdv))) : { t : TS // PSs (XO P w K mg base n_ask_event "ask_event" s_ask_event f cdv A outer s H E) (defBody s_ask_event) t } :=
  ⟨_, (pss_cons (ps_asg (pv 1) (pg_unl rfl (pgs_cons (pg_name (i := 3) sc_ask_event.nd rfl (Or.inl rfl)) (pgs_cons (pg_name (i := 4) sc_ask_event.nd rfl (Or.inl rfl)) pgs_nil))))
    (pss_cons (ps_if (PW.pt (pw_or (pt_not (pt_val (pe_cal G_is_within hr l_is_within rfl pass0 (pa_cons (pv 3) (pa_cons pe_int (pa_cons (pe_gi rfl T.k.k_LAST_TIME) pa_nil)))))) (pw_or1 (pt_not (pt_val (pe_cal G_is_within hr l_is_within rfl pass0 (pa_cons (pv 4) (pa_cons pe_int (pa_cons (pe_gi rfl T.k.k_MOST_OBJECTS) pa_nil))))))))) (pss_one (ps_ret (pe_lst (pa_cons (pe_gi rfl T.k.k_OUT_OF_RANGE) pa_nil)))) pss_nil)
    (pss_cons (ps_set (i := 5) sc_ask_event.nd rfl (Or.inl rfl) (pe_cal G_objects_in hr l_objects_in rfl pass0 (pa_cons (pe_ix ix_list (pv 2) pe_int (fun _ _ => rfl)) pa_nil)))
    (pss_cons (ps_if (pt_not (pt_val (pe_callB (cr_all rfl) (by rfl) T.k.z_all bt_all (pa_cons (pe_lc (own := [("one", 6)]) rfl sc_ask_event.nd (pi_list (pv 5)) (blkOk_by (own := [("one", 6)]) (N := n_ask_event) (sc := defScope s_ask_event) (by decide +kernel)) (fun _ _ _ _ _ => (pg_name (i := 6) sc_ask_event.nd rfl (Or.inl rfl))) (fun _ _ _ _ _ => pts_nil) (fun _ _ _ _ _ => (pe_cal G_is_object hr l_is_object rfl pass0 (pa_cons (pv 6) pa_nil)))) pa_nil)))) (pss_one (ps_ret (pe_lst (pa_cons (pe_gi rfl T.k.k_OUT_OF_RANGE) pa_nil)))) pss_nil)
    (pss_cons (ps_if (pt_cmpR op_isN (pe_fld (pe_fld (pv 0) rfl) rfl) pe_non (nomark _)) (pss_one (ps_ret (pe_lst (pa_cons (pe_gi rfl T.k.k_NO_MENU) pa_nil)))) pss_nil)
    (pss_cons (ps_if (pt_cmpR op_le (pv 3) (pe_fld (pe_fld (pv 0) rfl) rfl) (nomark _)) (pss_one (ps_ret (pe_lst (pa_cons (pe_gi rfl T.k.k_NOT_LATER) pa_nil)))) pss_nil)
    (pss_one (ps_ret (pe_met G_Trigger_decide hr l_Trigger_decide pass0 (pe_fld (pv 0) rfl) (pa_cons (pv 3) (pa_cons (pv 5) pa_nil)))))))))))⟩
noncomputable def D_ask_counts (T : Txt K mg c) {k_Trigger_has_line : Nat} {sp_Trigger_has_line : Sp} (G_Trigger_has_line : Met P w K mg base CX0 k_Trigger_has_line c.trigger "has_line" sp_Trigger_has_line) (l_Trigger_has_line : k_Trigger_has_line ≤ j) (hr : Room j (A.deeper (envOfC "ask_counts" (defScope s_ask_counts) s.heap.objs.size f cdv))) : { t : TS // PSs (XO P w K mg base n_ask_counts "ask_counts" s_ask_counts f cdv A outer s H E) (defBody s_ask_counts) t } :=
  ⟨_, (pss_cons (ps_if (pt_not (pt_val (pe_met G_Trigger_has_line hr l_Trigger_has_line pass0 (pe_fld (pv 0) rfl) (pa_cons (pe_ix ix_list (pv 1) pe_int (fun _ _ => rfl)) pa_nil)))) (pss_one (ps_ret (pe_lst (pa_cons (pe_gi rfl T.k.k_OUT_OF_RANGE) pa_nil)))) pss_nil)
    (pss_cons (ps_set (i := 3) sc_ask_counts.nd rfl (Or.inl rfl) (pe_ix ix_list (pe_fld (pe_fld (pe_fld (pv 0) rfl) rfl) rfl) (pe_ix ix_list (pv 1) pe_int (fun _ _ => rfl)) (fun _ _ => rfl)))
    (pss_one (ps_ret (pe_lst (pa_cons pe_int (pa_cons (pe_fld (pv 3) rfl) (pa_cons (pe_fld (pv 3) rfl) (pa_cons (pe_fld (pv 3) rfl) pa_nil)))))))))⟩
noncomputable def D_ask_sums (T : Txt K mg c) (hr : Room j (A.deeper (envOfC "ask_sums" (defScope s_ask_sums) s.heap.objs.size f cdv))) : { t : TS // PSs (XO P w K mg base n_ask_sums "ask_sums" s_ask_sums f cdv A outer s H E) (defBody s_ask_sums) t } :=
  ⟨_, (pss_cons (ps_set (i := 3) sc_ask_sums.nd rfl (Or.inl rfl) (pe_fld (pe_fld (pv 0) rfl) rfl))
    (pss_one (ps_ret (pe_op op_cat (pe_lst (pa_cons pe_int (pa_cons (pe_op op_mod (pe_callB (cr_sum rfl) (by rfl) T.k.z_sum bt_sum (pa_cons (pv 3) pa_nil)) (pe_gi rfl T.k.k_ROUND)) pa_nil))) (pe_callTy call_list_of (by rfl) T.k.z_list bt_list (pa_cons (pv 3) pa_nil))))))⟩
noncomputable def D_ask_features (T : Txt K mg c) {k_features_of : Nat} {sp_features_of : Sp} (G_features_of : Cal P w K mg base CX0 k_features_of "features_of" sp_features_of) (l_features_of : k_features_of ≤ j) (hr : Room j (A.deeper (envOfC "ask_features" (defScope s_ask_features) s.heap.objs.size f cdv))) : { t : TS // PSs (XO P w K mg base n_ask_features "ask_features" s_ask_features f cdv A outer s H E) (defBody s_ask_features) t } :=
  ⟨_, (pss_one (ps_ret (pe_op op_cat (pe_lst (pa_cons pe_int pa_nil)) (pe_cal G_features_of hr l_features_of rfl pass0 (pa_cons (pe_fld (pe_fld (pv 0) rfl) rfl) (pa_cons (pe_fld (pe_fld (pe_fld (pv 0) rfl) rfl) rfl) pa_nil))))))⟩
noncomputable def D_ask_line (T : Txt K mg c) {k_Trigger_has_line : Nat} {sp_Trigger_has_line : Sp} (G_Trigger_has_line : Met P w K mg base CX0 k_Trigger_has_line c.trigger "has_line" sp_Trigger_has_line) (l_Trigger_has_line : k_Trigger_has_line ≤ j) {k_line_text : Nat} {sp_line_text : Sp} (G_line_text : Cal P w K mg base CX0 k_line_text "line_text" sp_line_text) (l_line_text : k_line_text ≤ j) (hr : Room j (A.deeper (envOfC "ask_line" (defScope s_ask_line) s.heap.objs.size f cdv))) : { t : TS // PSs (XO P w K mg base n_ask_line "ask_line" s_ask_line f cdv A outer s H E) (defBody s_ask_line) t } :=
  ⟨_, (pss_cons (ps_if (pt_not (pt_val (pe_met G_Trigger_has_line hr l_Trigger_has_line pass0 (pe_fld (pv 0) rfl) (pa_cons (pe_ix ix_list (pv 1) pe_int (fun _ _ => rfl)) pa_nil)))) (pss_one (ps_ret (pe_lst (pa_cons (pe_gi rfl T.k.k_OUT_OF_RANGE) pa_nil)))) pss_nil)
    (pss_cons (ps_set (i := 3) sc_ask_line.nd rfl (Or.inl rfl) (pe_fld (pe_fld (pe_fld (pv 0) rfl) rfl) rfl))
    (pss_cons (ps_set (i := 4) sc_ask_line.nd rfl (Or.inl rfl) (pe_cal G_line_text hr l_line_text rfl pass0 (pa_cons (pe_ix ix_list (pv 3) (pe_ix ix_list (pv 1) pe_int (fun _ _ => rfl)) (fun _ _ => rfl)) (pa_cons (pe_lc (own := [("line", 5)]) rfl sc_ask_line.nd (pi_list (pv 3)) (blkOk_by (own := [("line", 5)]) (N := n_ask_line) (sc := defScope s_ask_line) (by decide +kernel)) (fun _ _ _ _ _ => (pg_name (i := 5) sc_ask_line.nd rfl (Or.inl rfl))) (fun _ _ _ _ _ => pts_nil) (fun _ _ _ _ _ => (pe_fldK (K := K) rfl (pv 5) rfl))) pa_nil))))
    (pss_one (ps_ret (pe_op op_cat (pe_lst (pa_cons (pe_callB call_len_seq (by rfl) T.k.z_len bt_len (pa_cons (pv 4) pa_nil)) pa_nil)) (pv 4)))))))⟩
noncomputable def D_rows_at (T : Txt K mg c) (hr : Room j (A.deeper (envOfC "rows_at" (defScope s_rows_at) s.heap.objs.size f cdv))) : { t : TS // PSs (XO P w K mg base n_rows_at "rows_at" s_rows_at f cdv A outer s H E) (defBody s_rows_at) t } :=
  ⟨_, (pss_cons (ps_set (i := 3) sc_rows_at.nd rfl (Or.inl rfl) (pe_lst pa_nil))
    (pss_cons (ps_for PassesOwn.never rfl (pi_range1 rfl T.k.z_range (pa_cons (pv 2) pa_nil)) (pg_name (i := 4) sc_rows_at.nd rfl (Or.inl rfl))
      (pss_cons (ps_set (i := 5) sc_rows_at.nd rfl (Or.inl rfl) (pe_op op_add (pe_op op_add (pv 1) pe_int) (pe_ix ix_list (pv 0) (pv 1) (fun _ _ => rfl))))
        (pss_cons (ps_expr (pe_bm PySem.F.plainAttrs_list PySem.F.slot_list_append PySem.F.type_list_append mt_append (pv 3) (pa_cons (pe_slice sl_list (pv 0) (po_some (pe_op op_add (pv 1) pe_int)) (po_some (pv 5))) pa_nil)))
        (pss_one (ps_set (i := 1) sc_rows_at.nd rfl (Or.inl rfl) (pv 5))))))
    (pss_one (ps_ret (pe_tup (pa_cons (pv 3) (pa_cons (pv 1) pa_nil)))))))⟩
noncomputable def D_answers (T : Txt K mg c) {k_Desk_init : Nat} {sp_Desk_init : Sp} (G_Desk_init : Mak P w K mg base CX0 k_Desk_init "Desk" c.desk sp_Desk_init) (l_Desk_init : k_Desk_init + 1 ≤ j) {k_rows_at : Nat} {sp_rows_at : Sp} (G_rows_at : Cal P w K mg base CX0 k_rows_at "rows_at" sp_rows_at) (l_rows_at : k_rows_at ≤ j) {k_answer : Nat} {sp_answer : Sp} (G_answer : Cal P w K mg base CX0 k_answer "answer" sp_answer) (l_answer : k_answer ≤ j) {a_SHAPES : Addr} (g_SHAPES : mg "SHAPES" = some (.ref a_SHAPES)) (hr : Room j (A.deeper (envOfC "answers" (defScope s_answers) s.heap.objs.size f cdv))) : { t : TS // PSs (XO P w K mg base n_answers "answers" s_answers f cdv A outer s H E) (defBody s_answers) t } :=
  ⟨_, (pss_cons (ps_set (i := 1) sc_answers.nd rfl (Or.inl rfl) (pe_mak0 G_Desk_init hr l_Desk_init rfl pass0))
    (pss_cons (ps_set (i := 2) sc_answers.nd rfl (Or.inl rfl) (pe_lst pa_nil))
    (pss_cons (ps_set (i := 3) sc_answers.nd rfl (Or.inl rfl) pe_int)
    (pss_cons (ps_while PassesOwn.never (pt_cmpR op_lt (pv 3) (pe_callB call_len_seq (by rfl) T.k.z_len bt_len (pa_cons (pv 0) pa_nil)) (nomark _)) (pss_cons (ps_set (i := 4) sc_answers.nd rfl (Or.inl rfl) (pe_ix ix_list (pv 0) (pv 3) (fun _ _ => rfl)))
        (pss_cons (ps_asg (pe_ix ix_tup (pe_glob (v := .ref a_SHAPES) rfl g_SHAPES rfl) (pv 4) (fun _ _ => rfl)) (pg_tup rfl (pgs_cons (pg_name (i := 5) sc_answers.nd rfl (Or.inl rfl)) (pgs_cons (pg_name (i := 6) sc_answers.nd rfl (Or.inl rfl)) pgs_nil))))
        (pss_cons (ps_set (i := 7) sc_answers.nd rfl (Or.inl rfl) (pe_slice sl_list (pv 0) (po_some (pe_op op_add (pv 3) pe_int)) (po_some (pe_op op_add (pe_op op_add (pv 3) pe_int) (pv 5)))))
        (pss_cons (ps_asg (pe_cal G_rows_at hr l_rows_at rfl pass0 (pa_cons (pv 0) (pa_cons (pe_op op_add (pe_op op_add (pv 3) pe_int) (pv 5)) (pa_cons (pv 6) pa_nil)))) (pg_tup rfl (pgs_cons (pg_name (i := 8) sc_answers.nd rfl (Or.inl rfl)) (pgs_cons (pg_name (i := 3) sc_answers.nd rfl (Or.inl rfl)) pgs_nil))))
        (pss_cons (ps_set (i := 9) sc_answers.nd rfl (Or.inl rfl) (pe_cal G_answer hr l_answer rfl pass0 (pa_cons (pv 1) (pa_cons (pv 4) (pa_cons (pv 7) (pa_cons (pv 8) pa_nil))))))
        (pss_cons (ps_expr (pe_bm PySem.F.plainAttrs_list PySem.F.slot_list_append PySem.F.type_list_append mt_append (pv 2) (pa_cons (pe_callB call_len_seq (by rfl) T.k.z_len bt_len (pa_cons (pv 9) pa_nil)) pa_nil)))
        (pss_one (ps_expr (pe_bm PySem.F.plainAttrs_list PySem.F.slot_list_extend PySem.F.type_list_extend mt_extend (pv 2) (pa_cons (pv 9) pa_nil)))))))))))
    (pss_one (ps_ret (pv 2)))))))⟩
end
end Ev
namespace Ev
open PySem PySem.Spec PyProof.Rows L2
/-! ### lists of numbers, objects -/
abbrev vI (l : List Int) : List V := l.map V.int
abbrev vN (l : List Nat) : List V := l.map fun n => V.int ((n : Nat) : Int)
theorem vN_app (l r : List Nat) : vN (l ++ r) = vN l ++ vN r := List.map_append
theorem vI_app (l r : List Int) : vI (l ++ r) = vI l ++ vI r := List.map_append
theorem vN_vI (l : List Nat) : vN l = vI (l.map fun n : Nat => (n : Int)) := by simp [vN, vI]
theorem vN_len (l : List Nat) : (vN l).length = l.length := List.length_map _
theorem vI_len (l : List Int) : (vI l).length = l.length := List.length_map _
theorem vN_take (l : List Nat) (n : Nat) : (vN l).take n = vN (l.take n) := List.map_take.symm
theorem vI_take (l : List Int) (n : Nat) : (vI l).take n = vI (l.take n) := List.map_take.symm
theorem vN_drop (l : List Nat) (n : Nat) : (vN l).drop n = vN (l.drop n) := List.map_drop.symm
theorem vI_drop (l : List Int) (n : Nat) : (vI l).drop n = vI (l.drop n) := List.map_drop.symm
theorem map_at {α : Type} {g : α → V} {l : List α} {i : Nat} {x : α} (h : l[i]? = some x) : (l.map g)[i]? = some (g x) := by
  rw [List.getElem?_map, h]
  rfl
theorem map_inv {α : Type} {g : α → V} {l : List α} {i : Nat} {v : V} (h : (l.map g)[i]? = some v) : ∃ x, l[i]? = some x ∧ v = g x := by
  rw [List.getElem?_map] at h
  cases e : l[i]? with
  | none => rw [e] at h; cases h
  | some x =>
    rw [e] at h
    exact ⟨x, rfl, (Option.some.inj h).symm⟩
abbrev Tri := Int × Int × Int
def TriAt (H : Hp) (q : Addr) (t : Tri) : Prop := H q = some (.tup [.int t.1, .int t.2.1, .int t.2.2])
/-- a list of tuples of three numbers -/
def RawAt (H : Hp) (a : Addr) (l : List Tri) : Prop := ∃ qs : List Addr, H a = some (.lst (qs.map V.ref)) ∧ qs.length = l.length ∧ ∀ (i : Nat) (q : Addr), qs[i]? = some q → ∃ t, l[i]? = some t ∧ TriAt H q t
theorem RawAt.same {H H' : Hp} {a : Addr} {l : List Tri} (e : Same H H') (h : RawAt H a l) : RawAt H' a l := by
  obtain ⟨qs, h1, h2, h3⟩ := h
  refine ⟨qs, e _ _ h1, h2, fun i q hq => ?_⟩
  obtain ⟨t, h4, h5⟩ := h3 i q hq
  exact ⟨t, h4, e _ _ h5⟩
def tri (n : Nat) (ns : List Int) : List Tri := (List.range n).map fun i => (ns.getD (3 * i) 0, ns.getD (3 * i + 1) 0, ns.getD (3 * i + 2) 0)
theorem getD_at {ns : List Int} {i : Nat} (h : i < ns.length) : (vI ns)[i]? = some (V.int (ns.getD i 0)) := by
  rw [List.getElem?_map, List.getElem?_eq_getElem h, List.getD_eq_getElem?_getD, List.getElem?_eq_getElem h]
  rfl
theorem fitsL {z : Int} (h0 : 0 ≤ z) (h1 : z ≤ 100000) : Builtin.Range.rangeFitsLong z = true :=
  Bool.and_eq_true_iff.mpr ⟨decide_eq_true (Int.le_trans (by decide) h0), decide_eq_true (Int.lt_of_le_of_lt h1 (by decide))⟩
theorem rg3 (n : Nat) (h : n ≤ 1000) : RgC 0 ((3 * n : Nat) : Int) 3 n := by
  have e : Builtin.Range.rangeSize 0 ((3 * n : Nat) : Int) 3 = n := by
    rw [rangeSize_pos (by decide) (by omega)]
    omega
  refine ⟨by decide, by decide, ?_, e⟩
  unfold Builtin.Range.small
  rw [e, fitsL (z := ((3 * n : Nat) : Int)) (by omega) (by omega), fitsL (z := (n : Int)) (by omega) (by omega), fitsL (z := 0) (by decide) (by decide), fitsL (z := 3) (by decide) (by decide), if_pos (by decide), fitsL (z := ((3 * n : Nat) : Int) + (3 - 1)) (by omega) (by omega), Bool.or_true]
  rfl
section
variable {P : Program} {w : World} {K : PySem.W.Frag} {mg : Str → Option Value} {base : Heap} {c : Cs}
def spObjectsIn (K : PySem.W.Frag) : Sp := fun vs H Q _ => ∃ (a : Addr) (ns : List Int) (n : Nat), vs = [.ref a] ∧ SqL K H a (vI ns) ∧ ns.length = 3 * n ∧ n ≤ 64 ∧
  ∀ H' p, Same H H' → H p = none → RawAt H' p (tri n ns) → Q (.ref p) H'
theorem ok_objects_in (T : Txt K mg c) : Cal P w K mg base CX0 1 "objects_in" (spObjectsIn K) := by
  refine cal_of0 T.f.f_objects_in sc_objects_in b_objects_in (fun vs H Q E h => ?_) (fun f cdv A outer s H vs Q E hr h => ⟨_, (D_objects_in T hr).2, ?_⟩)
  · obtain ⟨a, ns, n, rfl, _⟩ := h
    rfl
  · obtain ⟨a, ns, n, rfl, hS, hl, hn, k⟩ := h
    refine ⟨_, rfl, _, _, rfl, .inl hS, 0, _, 3, n, rfl, ?_, fun D hD => lc_it walk_rangeC (fun i H' => ∃ qs : List Addr, Same H H' ∧ H' D = some (.lst (qs.map V.ref)) ∧ qs.length = i ∧
      ∀ (j : Nat) (q : Addr), qs[j]? = some q → TriAt H' q (ns.getD (3 * j) 0, ns.getD (3 * j + 1) 0, ns.getD (3 * j + 2) 0)) ⟨[], Same.new hD, upd_same, rfl, fun j q h => by simp at h⟩ (fun _ _ _ _ => True.intro) ?_ ?_⟩
    · rw [List.length_map, hl]
      exact rg3 n (by omega)
    · rintro i x H1 H' hi ⟨qs, e1, hq, hql, hqs⟩ ⟨rfl, rfl⟩
      have ex : (0 : Int) + ((i : Nat) : Int) * 3 = ((3 * i : Nat) : Int) := by omega
      have g0 := getD_at (ns := ns) (i := 3 * i) (by omega)
      have g1 := getD_at (ns := ns) (i := 3 * i + 1) (by omega)
      have g2 := getD_at (ns := ns) (i := 3 * i + 2) (by omega)
      refine ⟨rfl, ?_⟩
      refine ⟨_, rfl, _, rfl, a, _, _, _, rfl, rfl, e1.seq hS, at_of ex g0, ?_⟩
      refine ⟨_, rfl, _, rfl, _, _, rfl, rfl, a, _, _, _, rfl, rfl, e1.seq hS, at_of (by omega) g1, ?_⟩
      refine ⟨_, rfl, _, rfl, _, _, rfl, rfl, a, _, _, _, rfl, rfl, e1.seq hS, at_of (by omega) g2, ?_⟩
      refine ⟨by show 3 ≤ sizeLine; decide, fun p hp => ⟨_, by rw [upd_ne (ne_of_none hq hp)]; exact hq, ?_, ?_⟩⟩
      · rw [List.length_map, hql]
        exact Nat.lt_of_lt_of_le (show i < 1000 by omega) (by decide)
      · have nD : p ≠ D := (ne_of_none hq hp).symm
        refine ⟨qs ++ [p], (e1.trans (Same.new hp)).mut hD, by rw [upd_same, List.map_append]; rfl, by rw [List.length_append, hql]; rfl, fun j q hj => ?_⟩
        by_cases hjl : j < qs.length
        · rw [List.getElem?_append_left hjl] at hj
          have t := hqs j q hj
          have nq : q ≠ D := ne_of t hq (by intro z; cases z)
          show upd _ D _ q = _
          rw [upd_ne nq, upd_ne (ne_of_none t hp)]
          exact t
        · have hj2 : j = i := by
            have := (List.getElem?_eq_some_iff.mp hj).1
            rw [List.length_append] at this
            simp at this
            omega
          subst hj2
          rw [List.getElem?_append_right (by omega), hql, Nat.sub_self] at hj
          obtain rfl : p = q := Option.some.inj hj
          show upd _ D _ p = _
          rw [upd_ne nD, upd_same]
    · rintro H1 ⟨qs, e1, hq, hql, hqs⟩
      refine k _ D e1 hD ⟨qs, hq, by rw [hql]; simp [tri], fun i q hi => ?_⟩
      have hi2 : i < n := by rw [← hql]; exact (List.getElem?_eq_some_iff.mp hi).1
      exact ⟨_, by simp [tri, hi2], hqs i q hi⟩
end
end Ev
namespace Ev
open PySem PySem.Spec PyProof.Rows L2
/-! ### objects -/
def th3 (t : Sj25.Thing) : Tri := ((t.kind : Int), (t.value : Int), (t.place : Int))
def ObjsAt (H : Hp) (a : Addr) (l : List Sj25.Thing) : Prop := RawAt H a (l.map th3)
theorem ObjsAt.same {H H' : Hp} {a : Addr} {l : List Sj25.Thing} (e : Same H H') (h : ObjsAt H a l) : ObjsAt H' a l := RawAt.same e h
theorem take_snoc {α : Type} : ∀ {l : List α} {i : Nat} {x : α}, l[i]? = some x → l.take (i + 1) = l.take i ++ [x]
  | [], i, x, h => by simp at h
  | a :: l, 0, x, h => by
    obtain rfl : a = x := Option.some.inj h
    rfl
  | a :: l, i + 1, x, h => congrArg (a :: ·) (take_snoc (l := l) (i := i) h)
/-- the objects' list, item by item -/
theorem ObjsAt.item {H : Hp} {qs : List Addr} {l : List Sj25.Thing} (h : ∀ (i : Nat) (q : Addr), qs[i]? = some q → ∃ t, (l.map th3)[i]? = some t ∧ TriAt H q t) {i : Nat} {x : V} (hx : (qs.map V.ref)[i]? = some x) :
    ∃ q t, x = .ref q ∧ qs[i]? = some q ∧ l[i]? = some t ∧ H q = some (.tup [.int t.kind, .int t.value, .int t.place]) := by
  rw [List.getElem?_map] at hx
  cases e : qs[i]? with
  | none => rw [e] at hx; cases hx
  | some q =>
    rw [e] at hx
    obtain ⟨t, h1, h2⟩ := h i q e
    rw [List.getElem?_map] at h1
    cases e2 : l[i]? with
    | none => rw [e2] at h1; cases h1
    | some u =>
      rw [e2] at h1
      obtain rfl : th3 u = t := Option.some.inj h1
      exact ⟨q, u, (Option.some.inj hx).symm, rfl, rfl, h2⟩
/-! sorted, the greatest first -/
theorem ins_perm (x : Nat) : ∀ l : List Nat, (Sj25.insert x l).Perm (x :: l)
  | [] => List.Perm.refl _
  | y :: r => by
    unfold Sj25.insert
    split
    · exact List.Perm.refl _
    · exact ((ins_perm x r).cons y).trans (List.Perm.swap x y r)
theorem ins_ord (x : Nat) : ∀ l : List Nat, l.Pairwise (· ≥ ·) → (Sj25.insert x l).Pairwise (· ≥ ·)
  | [], _ => by
    unfold Sj25.insert
    exact List.pairwise_singleton _ _
  | y :: r, h => by
    obtain ⟨h1, h2⟩ := List.pairwise_cons.mp h
    unfold Sj25.insert
    split
    · rename_i q
      refine List.pairwise_cons.mpr ⟨fun z hz => ?_, h⟩
      rcases List.mem_cons.mp hz with rfl | hz
      · exact q
      · exact Nat.le_trans (h1 z hz) q
    · rename_i q
      refine List.pairwise_cons.mpr ⟨fun z hz => ?_, ins_ord x r h2⟩
      rcases List.mem_cons.mp ((ins_perm x r).mem_iff.mp hz) with rfl | hz
      · exact Nat.le_of_lt (Nat.lt_of_not_le q)
      · exact h1 z hz
theorem fall_perm : ∀ l : List Nat, (Sj25.falling l).Perm l
  | [] => List.Perm.refl _
  | x :: r => (ins_perm x _).trans ((fall_perm r).cons x)
theorem fall_ord : ∀ l : List Nat, (Sj25.falling l).Pairwise (· ≥ ·)
  | [] => List.Pairwise.nil
  | x :: r => ins_ord x _ (fall_ord r)
theorem fall_len (l : List Nat) : (Sj25.falling l).length = l.length := (fall_perm l).length_eq
theorem perm_ord_eq : ∀ {l r : List Int}, l.Perm r → l.Pairwise (· ≥ ·) → r.Pairwise (· ≥ ·) → l = r
  | [], r, h, _, _ => (List.Perm.nil_eq h)
  | a :: l, [], h, _, _ => absurd h.length_eq (by simp)
  | a :: l, b :: r, h, h1, h2 => by
    obtain ⟨p1, p2⟩ := List.pairwise_cons.mp h1
    obtain ⟨q1, q2⟩ := List.pairwise_cons.mp h2
    have ab : a = b := by
      have m1 : a ∈ b :: r := h.mem_iff.mp List.mem_cons_self
      have m2 : b ∈ a :: l := h.mem_iff.mpr List.mem_cons_self
      rcases List.mem_cons.mp m1 with e | m1
      · exact e
      · rcases List.mem_cons.mp m2 with e | m2
        · exact e.symm
        · have x1 := q1 a m1
          have x2 := p1 b m2
          omega
    subst ab
    rw [perm_ord_eq ((List.perm_cons a).mp h) p2 q2]
theorem sorted_is {ns : List Int} {l : List Nat} (h : ns.Perm (l.map fun n : Nat => (n : Int))) (o : OrdB true ns) : ns = (Sj25.falling l).map fun n : Nat => (n : Int) := by
  have o' : ns.Pairwise (· ≥ ·) := o
  refine perm_ord_eq (h.trans ((fall_perm l).symm.map _)) o' ?_
  refine List.pairwise_map.mpr ((fall_ord l).imp fun {a b} q => ?_)
  show (b : Int) ≤ a
  exact Int.ofNat_le.mpr q
section
variable {P : Program} {w : World} {K : PySem.W.Frag} {mg : Str → Option Value} {base : Heap} {c : Cs}
def spAmounts : Sp := fun vs H Q _ => ∃ (a : Addr) (l : List Sj25.Thing) (k : Nat), vs = [.ref a, .int k] ∧ ObjsAt H a l ∧ l.length ≤ 64 ∧
  ∀ H' p, Same H H' → H p = none → H' p = some (.lst (vN (Sj25.falling (Sj25.values l k)))) → Q (.ref p) H'
theorem values_snoc (l : List Sj25.Thing) (t : Sj25.Thing) (k : Nat) : Sj25.values (l ++ [t]) k = Sj25.values l k ++ (if t.kind = k then [t.value] else []) := by
  unfold Sj25.values
  rw [List.filter_append, List.map_append, List.filter_cons]
  by_cases h : t.kind = k
  · rw [if_pos h, if_pos (beq_iff_eq.mpr h)]
    rfl
  · rw [if_neg h, if_neg (fun z => h (beq_iff_eq.mp z))]
    rfl
theorem values_len (l : List Sj25.Thing) (k : Nat) : (Sj25.values l k).length ≤ l.length := by
  unfold Sj25.values
  rw [List.length_map]
  exact List.length_filter_le _ _
theorem ok_amounts_of (T : Txt K mg c) : Cal P w K mg base CX0 1 "amounts_of" spAmounts := by
  refine cal_of0 T.f.f_amounts_of sc_amounts_of b_amounts_of (fun vs H Q E h => ?_) (fun f cdv A outer s H vs Q E hr h => ⟨_, (D_amounts_of T hr).2, ?_⟩)
  · obtain ⟨a, l, k, rfl, _⟩ := h
    rfl
  · obtain ⟨a, l, kd, rfl, ⟨qs, hq, hql, hqs⟩, hl, k⟩ := h
    rw [List.length_map] at hql
    refine ⟨_, rfl, a, rfl, ⟨_, SqL.of hq⟩, fun D hD => lc_it walk_list (fun i H' => Same H H' ∧ H' D = some (.lst (vN (Sj25.values (l.take i) kd)))) ⟨Same.new hD, upd_same⟩ (fun i H' _ p => SqL.of (p.1 _ _ hq)) ?_ ?_⟩
    · rintro i x H1 H' hi ⟨e1, h1⟩ ⟨rfl, hx⟩
      obtain ⟨q, t, rfl, hqi, hti, htq⟩ := ObjsAt.item hqs hx
      have st := take_snoc hti
      refine ⟨q, _, rfl, SqT.of (e1 _ _ htq), rfl, _, _, rfl, _, _, rfl, _, _, rfl, rfl, ?_⟩
      refine ⟨rfl, _, rfl, _, rfl, rfl, _, rfl, ite2 (fun hc => ?_) (fun hc => ?_)⟩
      · have ek : t.kind = kd := by
          have z := V.int.inj (of_decide_eq_true hc)
          omega
        refine ⟨_, rfl, _, h1, ?_, e1.mut hD, ?_⟩
        · rw [List.length_map]
          exact Nat.lt_of_le_of_lt (Nat.le_trans (values_len _ _) (by rw [List.length_take]; omega)) (show 64 < sizeLine by decide)
        · rw [st, values_snoc, if_pos ek, upd_same, vN_app]
          rfl
      · have ek : ¬ t.kind = kd := fun z => hc (decide_eq_true (by rw [z]))
        refine ⟨e1, ?_⟩
        rw [st, values_snoc, if_neg ek, List.append_nil]
        exact h1
    · rintro H1 ⟨e1, h1⟩
      rw [List.length_map, hql, List.take_length] at h1
      have hv : vN (Sj25.values l kd) = vI ((Sj25.values l kd).map fun n : Nat => (n : Int)) := by simp [vN, vI]
      refine ⟨D, _, rfl, rfl, by rw [hv] at h1; exact SqL.of h1, fun ns p hp ho hf => ?_⟩
      refine k _ p (e1.trans (Same.new hf)) (e1.free hf) ?_
      rw [upd_same, sorted_is hp ho]
      simp [vN]
end
end Ev
namespace Ev
open PySem PySem.Spec PyProof.Rows L2
theorem cut_to (xs : List V) (b : Nat) : cutV xs none (some (b : Int)) = xs.take b := by
  unfold cutV
  rw [HT.sIx_none, HT.sIx_nat, List.drop_zero, Nat.sub_zero]
  by_cases h : b ≤ xs.length
  · rw [Nat.min_eq_left h]
  · rw [Nat.min_eq_right (by omega), List.take_of_length_le (Nat.le_refl _), List.take_of_length_le (by omega)]
theorem cut_nn (xs : List V) (a b : Nat) (ha : a ≤ xs.length) (hb : b ≤ xs.length) : cutV xs (some (a : Int)) (some (b : Int)) = (xs.drop a).take (b - a) := by
  unfold cutV
  rw [HT.sIx_nat, HT.sIx_nat, Nat.min_eq_left ha, Nat.min_eq_left hb]
theorem cut_butlast (xs : List V) : cutV xs none (some (-1)) = xs.dropLast := by
  unfold cutV
  rw [HT.sIx_none, List.drop_zero, Nat.sub_zero, List.dropLast_eq_take]
  congr 1
  unfold HT.sIx
  simp
  omega
/-! ### features_of -/
def feat (s : Nat) (l : List Sj25.Thing) (k : Nat) : List Nat := (List.range 4).map fun i => min 255 ((Sj25.falling (Sj25.values l k)).getD i 0 / 2 ^ s)
def feats (s : Nat) (l : List Sj25.Thing) (n : Nat) : List Nat := (List.range n).flatMap (feat s l)
theorem feats_step (s : Nat) (l : List Sj25.Thing) (n : Nat) : feats s l (n + 1) = feats s l n ++ feat s l n := by
  unfold feats
  rw [List.range_succ, List.flatMap_append]
  simp
theorem feats_len (s : Nat) (l : List Sj25.Thing) : ∀ n, (feats s l n).length = 4 * n
  | 0 => rfl
  | n + 1 => by
    rw [feats_step, List.length_append, feats_len s l n]
    simp [feat]
    omega
theorem features_is (s : Nat) (l : List Sj25.Thing) : Sj25.features s l = feats s l 8 := rfl
theorem features_len (s : Nat) (l : List Sj25.Thing) : (Sj25.features s l).length = 32 := by rw [features_is, feats_len]
/-- the four that are looked at -/
theorem four (v : List Nat) (i : Nat) (hi : i < 4) : ((v ++ [0, 0, 0, 0]).take 4)[i]? = some (v.getD i 0) := by
  rw [List.getElem?_take_of_lt hi, List.getD_eq_getElem?_getD]
  by_cases h : i < v.length
  · rw [List.getElem?_append_left h, List.getElem?_eq_getElem h]
    rfl
  · rw [List.getElem?_append_right (by omega), List.getElem?_eq_none (l := v) (by omega)]
    have : i - v.length < 4 := by omega
    match hj : i - v.length, this with
    | 0, _ => rfl
    | 1, _ => rfl
    | 2, _ => rfl
    | 3, _ => rfl
section
variable {P : Program} {w : World} {K : PySem.W.Frag} {mg : Str → Option Value} {base : Heap} {c : Cs}
def spFeatures : Sp := fun vs H Q _ => ∃ (a : Addr) (l : List Sj25.Thing) (s : Nat), vs = [.ref a, .int s] ∧ ObjsAt H a l ∧ l.length ≤ 64 ∧
  ∀ H' p, Same H H' → H p = none → H' p = some (.lst (vN (Sj25.features s l))) → Q (.ref p) H'
theorem ok_features_of (T : Txt K mg c) : Cal P w K mg base CX0 2 "features_of" spFeatures := by
  have G : Cal P w K mg base CX0 1 "amounts_of" spAmounts := ok_amounts_of T
  refine cal_of0 T.f.f_features_of sc_features_of b_features_of (fun vs H Q E h => ?_) (fun f cdv A outer s H vs Q E hr h => ⟨_, (D_features_of T G (Nat.le_refl _) hr).2, ?_⟩)
  · obtain ⟨a, l, k, rfl, _⟩ := h
    rfl
  · obtain ⟨a, l, sh, rfl, hO, hl, k⟩ := h
    refine ⟨Nat.zero_le _, fun fd hF => ?_⟩
    refine ⟨8, rfl, by decide, by decide, for_range (lo := 0) (n := 8) (fun i σ H' => ∃ v3 v4 : Option V, σ = [some (.ref a), some (.int sh), some (.ref fd), v3, v4, none] ∧ Same H H' ∧ H' fd = some (.lst (vN (feats sh l i))))
      ⟨none, none, rfl, Same.new hF, upd_same⟩ ?_ ?_⟩
    · rintro i σ H' hi ⟨v3, v4, rfl, e1, hf⟩
      refine ⟨_, rfl, _, rfl, a, l, i, by rw [Int.zero_add], hO.same e1, hl, fun H2 p2 e2 n2 h2 => ?_⟩
      refine ⟨by show 1 ≤ sizeLine; decide, fun p3 n3 => ?_⟩
      refine ⟨p3, _, _, rfl, rfl, upd_same, by decide, by decide, by show 1 * 4 ≤ sizeLine; decide, fun p4 n4 => ?_⟩
      have e4 : Same H2 (upd (upd H2 p3 (.lst [.int 0])) p4 (.lst (List.replicate (4 : Int).toNat [V.int 0]).flatten)) := (Same.new n3).trans (Same.new n4)
      refine ⟨p2, p4, _, _, rfl, rfl, e4 _ _ h2, upd_same, ?_, fun p5 n5 => ?_⟩
      · rw [vN_len, fall_len]
        exact Nat.le_trans (Nat.add_le_add_right (Nat.le_trans (values_len l i) hl) _) (show 64 + 4 ≤ sizeLine by decide)
      · -- amounts
        have e5 := e4.trans (Same.new (o := .lst (vN (Sj25.falling (Sj25.values l i)) ++ (List.replicate (4 : Int).toNat [V.int 0]).flatten)) n5)
        have h5 : upd (upd (upd H2 p3 (.lst [.int 0])) p4 (.lst (List.replicate (4 : Int).toNat [V.int 0]).flatten)) p5 (.lst (vN (Sj25.falling (Sj25.values l i)) ++ (List.replicate (4 : Int).toNat [V.int 0]).flatten)) p5 = some (.lst (vN (Sj25.falling (Sj25.values l i) ++ [0, 0, 0, 0]))) := by
          rw [upd_same, vN_app]
          rfl
        revert e5 h5
        generalize upd (upd (upd H2 p3 (.lst [.int 0])) p4 (.lst (List.replicate (4 : Int).toNat [V.int 0]).flatten)) p5 (.lst (vN (Sj25.falling (Sj25.values l i)) ++ (List.replicate (4 : Int).toNat [V.int 0]).flatten)) = H5
        intro e5 h5
        have hf5 := (e2.trans e5) _ _ hf
        have e15 := e1.trans (e2.trans e5)
        refine ⟨_, rfl, .inl ⟨rfl, _, SqL.of hf5⟩, ?_⟩
        refine ⟨_, rfl, _, rfl, p5, _, rfl, SqL.of h5, fun p6 n6 => ?_⟩
        refine ⟨p6, rfl, ⟨_, SqL.of upd_same⟩, fun D hD => lc_it walk_list (fun j H' => Same H5 H' ∧ H' p6 = some (.lst (cutV (vN (Sj25.falling (Sj25.values l i) ++ [0, 0, 0, 0])) none (some 4))) ∧ H' D = some (.lst (vN ((feat sh l i).take j))))
          ⟨(Same.new n6).trans (Same.new hD), by rw [upd_ne (ne_of_none upd_same hD), upd_same], upd_same⟩ (fun j H' _ p => SqL.of p.2.1) ?_ ?_⟩
        · rintro j x H6 H7 hj ⟨e6, h6, hd6⟩ ⟨rfl, hx⟩
          have ec : cutV (vN (Sj25.falling (Sj25.values l i) ++ [0, 0, 0, 0])) none (some 4) = vN ((Sj25.falling (Sj25.values l i) ++ [0, 0, 0, 0]).take 4) := by
            rw [show (some 4 : Option Int) = some ((4 : Nat) : Int) from rfl, cut_to, vN_take]
          rw [ec] at hx hj
          have hj4 : j < 4 := by
            rw [vN_len, List.length_take] at hj
            omega
          obtain ⟨y, hy, rfl⟩ := map_inv hx
          rw [four _ _ hj4] at hy
          obtain rfl := Option.some.inj hy
          have nD5 : H5 D = none := (Same.new (o := .lst (cutV (vN (Sj25.falling (Sj25.values l i) ++ [0, 0, 0, 0])) none (some 4))) n6).free hD
          have n6D : p6 ≠ D := ne_of_none upd_same hD
          have efe : (feat sh l i)[j]? = some (min 255 ((Sj25.falling (Sj25.values l i)).getD j 0 / 2 ^ sh)) := by simp [feat, hj4]
          refine ⟨rfl, ?_⟩
          refine ⟨_, rfl, _, rfl, _, _, rfl, rfl, Int.natCast_nonneg _, _, _, rfl, _, hd6, ?_, e6.mut nD5, ?_, ?_⟩
          · rw [vN_len, List.length_take]
            exact Nat.lt_of_le_of_lt (Nat.min_le_left _ _) (Nat.lt_trans hj4 (by decide))
          · rw [upd_ne n6D]
            exact h6
          · have ev : (if ((Sj25.falling (Sj25.values l i)).getD j 0 : Int) / 2 ^ ((sh : Nat) : Int).toNat < 255 then ((Sj25.falling (Sj25.values l i)).getD j 0 : Int) / 2 ^ ((sh : Nat) : Int).toNat else 255) = ((min 255 ((Sj25.falling (Sj25.values l i)).getD j 0 / 2 ^ sh) : Nat) : Int) := by
              rw [Int.toNat_natCast]
              have : ((Sj25.falling (Sj25.values l i)).getD j 0 : Int) / 2 ^ sh = (((Sj25.falling (Sj25.values l i)).getD j 0 / 2 ^ sh : Nat) : Int) := by
                rw [Int.natCast_ediv, Int.natCast_pow]
                rfl
              rw [this]
              split <;> omega
            rw [upd_same, take_snoc efe, vN_app, ev]
            rfl
        · rintro H6 ⟨e6, h6, hd6⟩
          have nF : H5 D = none := (Same.new (o := .lst (cutV (vN (Sj25.falling (Sj25.values l i) ++ [0, 0, 0, 0])) none (some 4))) n6).free hD
          have elen : (cutV (vN (Sj25.falling (Sj25.values l i) ++ [0, 0, 0, 0])) none (some 4)).length = 4 := by
            rw [show (some 4 : Option Int) = some ((4 : Nat) : Int) from rfl, cut_to, List.length_take, vN_len, List.length_append]
            show min 4 (_ + 4) = 4
            omega
          rw [elen, List.take_of_length_le (by simp [feat])] at hd6
          have hf6 := e6 _ _ hf5
          refine ⟨fd, D, _, _, rfl, rfl, hf6, hd6, ?_, _, _, rfl, (e15.trans e6).mut hF, ?_⟩
          · rw [vN_len, vN_len, feats_len]
            simp [feat]
            exact Nat.le_trans (show 4 * i + 4 ≤ 100 by omega) (by decide)
          · rw [upd_same, feats_step, vN_app]
    · rintro σ H' ⟨v3, v4, rfl, e1, hf⟩
      exact ⟨_, rfl, k _ fd e1 hF hf⟩
end
end Ev
namespace Ev
open PySem PySem.Spec PyProof.Rows L2
/-! ### distance, nearest_of -/
def dist (i j : Int) : Int := if 1024 - (i - j) % 1024 < (i - j) % 1024 then 1024 - (i - j) % 1024 else (i - j) % 1024
def spDistance : Sp := fun vs H Q _ => ∃ i j : Int, vs = [.int i, .int j] ∧ Q (.int (dist i j)) H
def up1 (f : Nat → Nat → Int) (i j : Nat) (x : Int) : Nat → Nat → Int := fun a b => if a = i ∧ b = j then x else f a b
def nearX (t : Sj25.Thing) (f : Nat → Nat → Int) (u : Sj25.Thing) : Int := if dist t.place u.place < f t.kind u.kind then dist t.place u.place else f t.kind u.kind
def nearStep (t : Sj25.Thing) (f : Nat → Nat → Int) (u : Sj25.Thing) : Nat → Nat → Int := up1 (up1 f t.kind u.kind (nearX t f u)) u.kind t.kind (nearX t f u)
def nearRow (l : List Sj25.Thing) (t : Sj25.Thing) (f : Nat → Nat → Int) : Nat → Nat → Int := l.foldl (nearStep t) f
def nearTo (l : List Sj25.Thing) : Nat → Nat → Nat → Int
  | 0 => fun _ _ => 1024
  | n + 1 => match l[n]? with
    | some t => nearRow (l.take n) t (nearTo l n)
    | none => nearTo l n
def nearF (l : List Sj25.Thing) : Nat → Nat → Int := nearTo l l.length
def rowV (f : Nat → Nat → Int) (i : Nat) : List V := (List.range 8).map fun j => V.int (f i j)
/-- a list of eight lists of eight numbers -/
structure Mat (H : Hp) (m : Addr) (rs : List Addr) (f : Nat → Nat → Int) : Prop where
  lst : H m = some (.lst (rs.map V.ref))
  len : rs.length = 8
  nd : rs.Nodup
  row : ∀ (i : Nat) (r : Addr), rs[i]? = some r → H r = some (.lst (rowV f i))
def MatAt (H : Hp) (m : Addr) (f : Nat → Nat → Int) : Prop := ∃ rs, Mat H m rs f
theorem Mat.same {H H' : Hp} {m : Addr} {rs : List Addr} {f : Nat → Nat → Int} (e : Same H H') (M : Mat H m rs f) : Mat H' m rs f := ⟨e _ _ M.lst, M.len, M.nd, fun i r h => e _ _ (M.row i r h)⟩
theorem MatAt.same {H H' : Hp} {m : Addr} {f : Nat → Nat → Int} (e : Same H H') (M : MatAt H m f) : MatAt H' m f := by
  obtain ⟨rs, M⟩ := M
  exact ⟨rs, M.same e⟩
theorem row_at (f : Nat → Nat → Int) (i j : Nat) (hj : j < 8) : (rowV f i)[j]? = some (V.int (f i j)) := by
  unfold rowV
  rw [List.getElem?_map, List.getElem?_range hj]
  rfl
theorem row_set (f : Nat → Nat → Int) (i j : Nat) (x : Int) : (rowV f i).set j (V.int x) = rowV (up1 f i j x) i := by
  apply List.ext_getElem?
  intro k
  by_cases hk : k < 8
  · rw [row_at _ _ _ hk]
    by_cases e : j = k
    · subst e
      rw [List.getElem?_set_self (by simp [rowV, hk])]
      simp [up1]
    · rw [List.getElem?_set_ne e, row_at _ _ _ hk]
      simp [up1, Ne.symm e]
  · rw [List.getElem?_eq_none (by simp [rowV]; omega), List.getElem?_eq_none (by simp [rowV]; omega)]
theorem row_other (f : Nat → Nat → Int) {i j k : Nat} (x : Int) (h : k ≠ i) : rowV (up1 f i j x) k = rowV f k := by
  unfold rowV up1
  simp [h]
theorem row_len (f : Nat → Nat → Int) (i : Nat) : (rowV f i).length = 8 := by simp [rowV]
theorem Mat.ne {H : Hp} {m : Addr} {rs : List Addr} {f : Nat → Nat → Int} (M : Mat H m rs f) {i : Nat} {r : Addr} (h : rs[i]? = some r) : m ≠ r := by
  refine ne_of M.lst (M.row i r h) fun z => ?_
  have z2 : (rs.map V.ref)[0]? = (rowV f i)[0]? := by rw [HO.lst.inj z]
  rw [row_at _ _ _ (by decide)] at z2
  obtain ⟨q, _, e⟩ := map_inv z2
  cases e
theorem Mat.put {H : Hp} {m : Addr} {rs : List Addr} {f : Nat → Nat → Int} (M : Mat H m rs f) {i : Nat} {r : Addr} (h : rs[i]? = some r) (j : Nat) (x : Int) : Mat (upd H r (.lst ((rowV f i).set j (V.int x)))) m rs (up1 f i j x) := by
  refine ⟨by rw [upd_ne (M.ne h)]; exact M.lst, M.len, M.nd, fun k q hk => ?_⟩
  by_cases e : k = i
  · subst e
    rw [h] at hk
    obtain rfl : r = q := Option.some.inj hk
    rw [upd_same, row_set]
  · have : q ≠ r := fun z => e (nd_ix M.nd (z ▸ hk) h)
    rw [upd_ne this, M.row k q hk, row_other _ _ e]
/-- what is asked of the objects of an event -/
def ThOk (l : List Sj25.Thing) : Prop := ∀ t ∈ l, t.kind < 8 ∧ t.place < 1024
section
variable {P : Program} {w : World} {K : PySem.W.Frag} {mg : Str → Option Value} {base : Heap} {c : Cs}
theorem ok_distance (T : Txt K mg c) : Cal P w K mg base CX0 1 "distance" spDistance := by
  refine cal_of0 T.f.f_distance sc_distance b_distance (fun vs H Q E h => ?_) (fun f cdv A outer s H vs Q E hr h => ⟨_, (D_distance T hr).2, ?_⟩)
  · obtain ⟨i, j, rfl, _⟩ := h
    rfl
  · obtain ⟨i, j, rfl, k⟩ := h
    refine ⟨_, rfl, _, rfl, _, _, rfl, rfl, _, _, rfl, rfl, by show (0 : Int) < 1024; decide, ?_⟩
    exact ⟨_, rfl, _, rfl, _, _, rfl, rfl, _, _, rfl, k⟩
def spNearest : Sp := fun vs H Q _ => ∃ (a : Addr) (l : List Sj25.Thing), vs = [.ref a] ∧ ObjsAt H a l ∧ l.length ≤ 64 ∧ ThOk l ∧
  ∀ H' p, Same H H' → H p = none → MatAt H' p (nearF l) → Q (.ref p) H'
theorem ok_nearest_of (T : Txt K mg c) : Cal P w K mg base CX0 2 "nearest_of" spNearest := by
  have G : Cal P w K mg base CX0 1 "distance" spDistance := ok_distance T
  refine cal_of0 T.f.f_nearest_of sc_nearest_of b_nearest_of (fun vs H Q E h => ?_) (fun f cdv A outer s H vs Q E hr h => ⟨_, (D_nearest_of T G (Nat.le_refl _) hr).2, ?_⟩)
  · obtain ⟨a, l, rfl, _⟩ := h
    rfl
  · obtain ⟨a, l, rfl, ⟨qs, hq, hql, hqs⟩, hl, hok, k⟩ := h
    rw [List.length_map] at hql
    refine ⟨8, rfl, by decide, by decide, fun m hM => lc_range (lo := 0) (n := 8) (fun i H' => ∃ rs : List Addr, Same H H' ∧ H' m = some (.lst (rs.map V.ref)) ∧ rs.length = i ∧ rs.Nodup ∧ (∀ r ∈ rs, H r = none ∧ H' r = some (.lst (rowV (fun _ _ => 1024) 0))))
      ⟨[], Same.new hM, upd_same, rfl, List.nodup_nil, fun r hr => nomatch hr⟩ ?_ ?_⟩
    · rintro i H1 hi ⟨rs, e1, hm, hrl, hnd, hrow⟩
      refine ⟨rfl, ?_⟩
      refine ⟨by show 1 ≤ sizeLine; decide, fun p2 n2 => ?_⟩
      refine ⟨p2, _, _, rfl, rfl, upd_same, by decide, by decide, by show 1 * 8 ≤ sizeLine; decide, fun p3 n3 => ?_⟩
      have e3 : Same H1 (upd (upd H1 p2 (.lst [.int 1024])) p3 (.lst (List.replicate (8 : Int).toNat [V.int 1024]).flatten)) := (Same.new n2).trans (Same.new n3)
      have n13 : H1 p3 = none := (Same.new (o := .lst [.int 1024]) n2).free n3
      have h3 : upd (upd H1 p2 (.lst [.int 1024])) p3 (.lst (List.replicate (8 : Int).toNat [V.int 1024]).flatten) p3 = some (.lst (rowV (fun _ _ => 1024) 0)) := by rw [upd_same]; rfl
      have mp3 : m ≠ p3 := ne_of_none hm n13
      refine ⟨_, e3 _ _ hm, ?_, rs ++ [p3], (e1.trans e3).mut hM, by rw [upd_same, List.map_append]; rfl, by rw [List.length_append, hrl]; rfl, ?_, fun r hr => ?_⟩
      · rw [List.length_map, hrl]
        exact Nat.lt_trans hi (by decide)
      · refine List.nodup_append.mpr ⟨hnd, (List.nodup_cons.mpr ⟨by simp, List.nodup_nil⟩), fun x hx y hy => ?_⟩
        rw [List.mem_singleton.mp hy]
        exact ne_of_none (hrow x hx).2 n13
      · rcases List.mem_append.mp hr with hr | hr
        · have z := hrow r hr
          refine ⟨z.1, ?_⟩
          rw [upd_ne (fun q => by rw [q, hm] at z; have := HO.lst.inj (Option.some.inj z.2); exact absurd (congrArg (fun l => l[0]?) this) (by rw [row_at _ _ _ (by decide)]; intro z3; obtain ⟨_, _, e⟩ := map_inv z3; cases e))]
          exact e3 _ _ z.2
        · rw [List.mem_singleton.mp hr]
          exact ⟨e1.free n13, by rw [upd_ne mp3.symm]; exact h3⟩
    · rintro H1 ⟨rs, e1, hm, hrl, hnd, hrow⟩
      have M0 : Mat H1 m rs (nearTo l 0) := ⟨hm, hrl, hnd, fun i r h => (hrow r (List.mem_of_getElem? h)).2⟩
      have hrn : ∀ (i : Nat) (r : Addr), rs[i]? = some r → H r = none := fun i r h => (hrow r (List.mem_of_getElem? h)).1
      refine ⟨_, rfl, a, _, rfl, SqL.of (e1 _ _ hq), for_it (walk_enum (xs := qs.map V.ref)) (fun i σ H' => ∃ v2 v3 v4 v5 v6 v7 v8 v9 : Option V, σ = [some (.ref a), some (.ref m), v2, v3, v4, v5, v6, v7, v8, v9] ∧ Same H H' ∧ Mat H' m rs (nearTo l i))
        ⟨none, none, none, none, none, none, none, none, rfl, e1, M0⟩ ?_ ?_ ?_⟩
      · rintro i σ H' _ ⟨_, _, _, _, _, _, _, _, _, e2, _⟩
        exact SqL.of (e2 _ _ hq)
      · rintro i v σ H2 H3 hi ⟨v2, v3, v4, v5, v6, v7, v8, v9, rfl, e2, M2⟩ ⟨Tp, x, y, rfl, nT, rfl, hx, hy⟩
        obtain rfl := Option.some.inj hx
        obtain ⟨q, t, rfl, hqi, hti, htq⟩ := ObjsAt.item hqs hy
        have e3 : Same H2 (upd H2 Tp (.tup [.int (i : Nat), .ref q])) := Same.new nT
        have tk := hok t (List.mem_of_getElem? hti)
        refine ⟨Tp, _, rfl, SqT.of upd_same, rfl, _, _, rfl, _, _, rfl, q, _, rfl, SqT.of (e3 _ _ (e2 _ _ htq)), rfl, _, _, rfl, _, _, rfl, _, _, rfl, rfl, rfl, ?_⟩
        revert e3
        generalize upd H2 Tp (.tup [.int (i : Nat), .ref q]) = H3
        intro e3
        have M3 := M2.same e3
        have e13 := e2.trans e3
        -- objects[:k]
        refine ⟨_, rfl, _, rfl, _, rfl, a, _, rfl, SqL.of (e13 _ _ hq), fun p4 n4 => ?_⟩
        have ec : cutV (qs.map V.ref) none (some ((i : Nat) : Int)) = (qs.take i).map V.ref := by rw [cut_to, List.map_take]
        refine ⟨p4, rfl, ⟨_, SqL.of upd_same⟩, ?_⟩
        rw [ec]
        have hil : i < l.length := by rw [← hql]; exact (List.getElem?_eq_some_iff.mp hqi).1
        have en : nearTo l (i + 1) = nearRow (l.take i) t (nearTo l i) := by
          show (match l[i]? with | some t => nearRow (l.take i) t (nearTo l i) | none => nearTo l i) = _
          rw [hti]
        have e4 : Same H3 (upd H3 p4 (.lst ((qs.take i).map V.ref))) := Same.new n4
        have M4 := M3.same e4
        have h4 : upd H3 p4 (.lst ((qs.take i).map V.ref)) p4 = some (.lst ((qs.take i).map V.ref)) := upd_same
        have p4r : ∀ (j : Nat) (r : Addr), rs[j]? = some r → p4 ≠ r := fun j r h => (ne_of_none (M3.row j r h) n4).symm
        have e14 := e13.trans e4
        revert e4 M4 h4 e14
        generalize upd H3 p4 (.lst ((qs.take i).map V.ref)) = H4
        intro e4 M4 h4 e14
        refine for_it (walk_list (xs := (qs.take i).map V.ref)) (fun j σ H' => ∃ v6 v7 v8 v9 : Option V, σ = [some (.ref a), some (.ref m), some (.int (i : Nat)), some (.int t.kind), some (.int t.value), some (.int t.place), v6, v7, v8, v9] ∧ Same H H' ∧ H' p4 = some (.lst ((qs.take i).map V.ref)) ∧
          Mat H' m rs (nearRow ((l.take i).take j) t (nearTo l i))) ⟨v6, v7, v8, v9, rfl, e14, h4, M4⟩ (fun j σ H' _ ⟨_, _, _, _, _, _, h, _⟩ => SqL.of h) ?_ ?_
        · rintro j x σ H5 H6 hj ⟨v6, v7, v8, v9, rfl, e5, h5, M5⟩ ⟨rfl, hx⟩
          obtain ⟨q2, hq2, rfl⟩ := map_inv hx
          have hji : j < i := by
            have := (List.getElem?_eq_some_iff.mp hq2).1
            rw [List.length_take] at this
            omega
          rw [List.getElem?_take_of_lt hji] at hq2
          obtain ⟨q3, u, e3q, hq3, huj, huq⟩ := ObjsAt.item hqs (map_at (g := V.ref) hq2)
          obtain rfl := V.ref.inj e3q
          have uk := hok u (List.mem_of_getElem? huj)
          have hu2 : (l.take i)[j]? = some u := by rw [List.getElem?_take_of_lt hji]; exact huj
          refine ⟨q2, _, rfl, SqT.of (e5 _ _ huq), rfl, _, _, rfl, _, _, rfl, _, _, rfl, rfl, ?_⟩
          obtain ⟨r1, hr1⟩ : ∃ r, rs[t.kind]? = some r := ⟨_, List.getElem?_eq_getElem (by rw [hrl]; exact tk.1)⟩
          obtain ⟨r2, hr2⟩ : ∃ r, rs[u.kind]? = some r := ⟨_, List.getElem?_eq_getElem (by rw [hrl]; exact uk.1)⟩
          have F := nearRow ((l.take i).take j) t (nearTo l i)
          generalize hF : nearRow ((l.take i).take j) t (nearTo l i) = F at M5
          -- far
          refine ⟨_, rfl, _, rfl, m, _, _, _, rfl, rfl, SqL.of M5.lst, atI_nat (map_at hr1), _, rfl, r1, _, _, _, rfl, rfl, SqL.of (M5.row _ _ hr1), atI_nat (row_at F t.kind u.kind uk.1), _, rfl, _, rfl, _, _, rfl, _, _, rfl, ?_⟩
          -- found[kind][other] = far
          have M6 := M5.put hr1 u.kind (nearX t F u)
          refine ⟨_, rfl, _, rfl, _, rfl, m, _, _, _, rfl, rfl, SqL.of M5.lst, atI_nat (map_at hr1), _, rfl, r1, _, _, u.kind, rfl, rfl, M5.row _ _ hr1, Evl.ixN_nat (by rw [row_len]; exact uk.1), ?_⟩
          have e6 := e5.mut (o := .lst ((rowV F t.kind).set u.kind (V.int (nearX t F u)))) (hrn _ _ hr1)
          have h6 : upd H6 r1 (.lst ((rowV F t.kind).set u.kind (V.int (nearX t F u)))) p4 = some (.lst ((qs.take i).map V.ref)) := by
            rw [upd_ne (p4r _ _ hr1)]
            exact h5
          -- found[other][kind] = far
          have M7 := M6.put hr2 t.kind (nearX t F u)
          refine ⟨_, rfl, _, rfl, _, rfl, m, _, _, _, rfl, rfl, SqL.of M6.lst, atI_nat (map_at hr2), _, rfl, r2, _, _, t.kind, rfl, rfl, M6.row _ _ hr2, Evl.ixN_nat (by rw [row_len]; exact tk.1), ?_⟩
          refine ⟨_, _, _, _, rfl, e6.mut (hrn _ _ hr2), by rw [upd_ne (p4r _ _ hr2)]; exact h6, ?_⟩
          rw [take_snoc hu2]
          unfold nearRow at hF ⊢
          rw [List.foldl_append, hF]
          exact M7
        · rintro σ H5 ⟨v6, v7, v8, v9, rfl, e5, h5, M5⟩
          refine ⟨_, _, _, _, _, _, _, _, rfl, e5, ?_⟩
          have el : ((qs.take i).map V.ref).length = i := by rw [List.length_map, List.length_take, hql]; omega
          rw [el, List.take_of_length_le (Nat.le_of_eq (by rw [List.length_take]; omega))] at M5
          rw [en]
          exact M5
      · rintro σ H2 ⟨v2, v3, v4, v5, v6, v7, v8, v9, rfl, e2, M2⟩
        rw [List.length_map, hql] at M2
        exact ⟨_, rfl, k _ m e2 hM ⟨rs, M2⟩⟩
end
end Ev
/-! the plain law: nearness -/
namespace Ev
open Sj25
theorem dist_apart {p q : Nat} (hp : p < 1024) (hq : q < 1024) : dist p q = (apart p q : Nat) := by
  unfold dist apart
  simp only []
  omega
theorem apart_comm {p q : Nat} (hp : p < 1024) (hq : q < 1024) : apart p q = apart q p := by
  unfold apart
  simp only []
  omega
/-- f tells for each two kinds, up to 1024, whether some pair of R is nearer than v -/
structure Tells (f : Nat → Nat → Int) (R : Thing → Thing → Prop) : Prop where
  lt : ∀ a b (v : Nat), v ≤ 1024 → (f a b < v ↔ ∃ t u, R t u ∧ t.kind = a ∧ u.kind = b ∧ apart t.place u.place < v)
theorem Tells.step {f : Nat → Nat → Int} {R : Thing → Thing → Prop} (h : Tells f R) {t u : Thing} (ht : t.place < 1024) (hu : u.place < 1024) (hs : ∀ a b, f a b = f b a) :
    Tells (nearStep t f u) (fun x y => R x y ∨ (x = t ∧ y = u) ∨ (x = u ∧ y = t)) ∧ ∀ a b, nearStep t f u a b = nearStep t f u b a := by
  have hx : nearX t f u = if (apart t.place u.place : Int) < f t.kind u.kind then (apart t.place u.place : Int) else f t.kind u.kind := by
    unfold nearX
    rw [dist_apart ht hu]
  have lx : ∀ v : Int, nearX t f u < v ↔ (f t.kind u.kind < v ∨ (apart t.place u.place : Int) < v) := fun v => by
    rw [hx]
    split <;> omega
  refine ⟨⟨fun a b v hv => ?_⟩, fun a b => ?_⟩
  · unfold nearStep up1
    by_cases c1 : a = u.kind ∧ b = t.kind
    · rw [if_pos c1, lx, hs t.kind u.kind, ← c1.1, ← c1.2, h.lt a b v hv, ]
      constructor
      · rintro (⟨x, y, r, e1, e2, l⟩ | l)
        · exact ⟨x, y, .inl r, e1, e2, l⟩
        · exact ⟨u, t, .inr (.inr ⟨rfl, rfl⟩), c1.1.symm, c1.2.symm, by rw [apart_comm hu ht]; omega⟩
      · rintro ⟨x, y, r | ⟨rfl, rfl⟩ | ⟨rfl, rfl⟩, e1, e2, l⟩
        · exact .inl ⟨x, y, r, e1, e2, l⟩
        · exact .inr (by omega)
        · exact .inr (by rw [apart_comm hu ht] at l; omega)
    · rw [if_neg c1]
      by_cases c2 : a = t.kind ∧ b = u.kind
      · rw [if_pos c2, lx, ← c2.1, ← c2.2, h.lt a b v hv]
        constructor
        · rintro (⟨x, y, r, e1, e2, l⟩ | l)
          · exact ⟨x, y, .inl r, e1, e2, l⟩
          · exact ⟨t, u, .inr (.inl ⟨rfl, rfl⟩), c2.1.symm, c2.2.symm, by omega⟩
        · rintro ⟨x, y, r | ⟨rfl, rfl⟩ | ⟨rfl, rfl⟩, e1, e2, l⟩
          · exact .inl ⟨x, y, r, e1, e2, l⟩
          · exact .inr (by omega)
          · exact absurd ⟨e1.symm, e2.symm⟩ c1
      · rw [if_neg c2, h.lt a b v hv]
        constructor
        · rintro ⟨x, y, r, e1, e2, l⟩
          exact ⟨x, y, .inl r, e1, e2, l⟩
        · rintro ⟨x, y, r | ⟨rfl, rfl⟩ | ⟨rfl, rfl⟩, e1, e2, l⟩
          · exact ⟨x, y, r, e1, e2, l⟩
          · exact absurd ⟨e1.symm, e2.symm⟩ c2
          · exact absurd ⟨e1.symm, e2.symm⟩ c1
  · unfold nearStep up1
    by_cases c1 : a = u.kind ∧ b = t.kind
    · rw [if_pos c1]
      by_cases c3 : b = u.kind ∧ a = t.kind
      · rw [if_pos c3]
      · rw [if_neg c3, if_pos ⟨c1.2, c1.1⟩]
    · rw [if_neg c1]
      by_cases c2 : a = t.kind ∧ b = u.kind
      · rw [if_pos c2, if_pos ⟨c2.2, c2.1⟩]
      · rw [if_neg c2, if_neg (fun z => c2 ⟨z.2, z.1⟩), if_neg (fun z => c1 ⟨z.2, z.1⟩), hs]
theorem Tells.imp {f : Nat → Nat → Int} {R R' : Thing → Thing → Prop} (h : Tells f R) (e : ∀ x y, R x y ↔ R' x y) : Tells f R' := ⟨fun a b v hv => by
  rw [h.lt a b v hv]
  constructor
  · rintro ⟨x, y, r, q⟩
    exact ⟨x, y, (e x y).mp r, q⟩
  · rintro ⟨x, y, r, q⟩
    exact ⟨x, y, (e x y).mpr r, q⟩⟩
theorem tells_row {t : Thing} (ht : t.place < 1024) : ∀ (l : List Thing) {f : Nat → Nat → Int} {R : Thing → Thing → Prop}, (∀ u ∈ l, u.place < 1024) → Tells f R → (∀ a b, f a b = f b a) →
    Tells (nearRow l t f) (fun x y => R x y ∨ (x = t ∧ y ∈ l) ∨ (x ∈ l ∧ y = t)) ∧ ∀ a b, nearRow l t f a b = nearRow l t f b a
  | [], f, R, _, h, hs => ⟨h.imp fun x y => by simp, hs⟩
  | u :: l, f, R, hl, h, hs => by
    obtain ⟨h1, s1⟩ := h.step ht (hl u List.mem_cons_self) hs
    obtain ⟨h2, s2⟩ := tells_row ht l (fun v hv => hl v (List.mem_cons_of_mem _ hv)) h1 s1
    refine ⟨h2.imp fun x y => ?_, s2⟩
    constructor
    · rintro ((r | ⟨rfl, rfl⟩ | ⟨rfl, rfl⟩) | ⟨rfl, m⟩ | ⟨m, rfl⟩)
      · exact .inl r
      · exact .inr (.inl ⟨rfl, List.mem_cons_self⟩)
      · exact .inr (.inr ⟨List.mem_cons_self, rfl⟩)
      · exact .inr (.inl ⟨rfl, List.mem_cons_of_mem _ m⟩)
      · exact .inr (.inr ⟨List.mem_cons_of_mem _ m, rfl⟩)
    · rintro (r | ⟨rfl, m⟩ | ⟨m, rfl⟩)
      · exact .inl (.inl r)
      · rcases List.mem_cons.mp m with rfl | m
        · exact .inl (.inr (.inl ⟨rfl, rfl⟩))
        · exact .inr (.inl ⟨rfl, m⟩)
      · rcases List.mem_cons.mp m with rfl | m
        · exact .inl (.inr (.inr ⟨rfl, rfl⟩))
        · exact .inr (.inr ⟨m, rfl⟩)
/-- two different places below n -/
def Pairs (l : List Thing) (n : Nat) (x y : Thing) : Prop := ∃ i j : Nat, i < n ∧ j < n ∧ i ≠ j ∧ l[i]? = some x ∧ l[j]? = some y
theorem tells_to {l : List Thing} (hl : ThOk l) : ∀ n, n ≤ l.length → Tells (nearTo l n) (Pairs l n) ∧ ∀ a b, nearTo l n a b = nearTo l n b a
  | 0, _ => ⟨⟨fun a b v hv => ⟨fun h => absurd (show (1024 : Int) < v from h) (by omega), fun ⟨_, _, ⟨i, _, h, _⟩, _⟩ => absurd h (Nat.not_lt_zero i)⟩⟩, fun _ _ => rfl⟩
  | n + 1, hn => by
    obtain ⟨h1, s1⟩ := tells_to hl n (by omega)
    obtain ⟨t, ht⟩ : ∃ t, l[n]? = some t := ⟨_, List.getElem?_eq_getElem (by omega)⟩
    have e : nearTo l (n + 1) = nearRow (l.take n) t (nearTo l n) := by
      show (match l[n]? with | some t => nearRow (l.take n) t (nearTo l n) | none => nearTo l n) = _
      rw [ht]
    obtain ⟨h2, s2⟩ := tells_row (hl t (List.mem_of_getElem? ht)).2 (l.take n) (fun u hu => (hl u (List.mem_of_mem_take hu)).2) h1 s1
    rw [e]
    refine ⟨h2.imp fun x y => ?_, s2⟩
    have mt : ∀ z, z ∈ l.take n ↔ ∃ i, i < n ∧ l[i]? = some z := fun z => by
      rw [List.mem_iff_getElem?]
      constructor
      · rintro ⟨i, hi⟩
        have : i < n := by
          have := (List.getElem?_eq_some_iff.mp hi).1
          rw [List.length_take] at this
          omega
        exact ⟨i, this, by rw [List.getElem?_take_of_lt this] at hi; exact hi⟩
      · rintro ⟨i, hi, h⟩
        exact ⟨i, by rw [List.getElem?_take_of_lt hi]; exact h⟩
    constructor
    · rintro (⟨i, j, hi, hj, ne, h3, h4⟩ | ⟨rfl, m⟩ | ⟨m, rfl⟩)
      · exact ⟨i, j, by omega, by omega, ne, h3, h4⟩
      · obtain ⟨j, hj, h4⟩ := (mt y).mp m
        exact ⟨n, j, by omega, by omega, by omega, ht, h4⟩
      · obtain ⟨i, hi, h4⟩ := (mt x).mp m
        exact ⟨i, n, by omega, by omega, by omega, h4, ht⟩
    · rintro ⟨i, j, hi, hj, ne, h3, h4⟩
      by_cases ei : i = n
      · subst ei
        rw [ht] at h3
        exact .inr (.inl ⟨(Option.some.inj h3).symm, (mt y).mpr ⟨j, by omega, h4⟩⟩)
      · by_cases ej : j = n
        · subst ej
          rw [ht] at h4
          exact .inr (.inr ⟨(mt x).mpr ⟨i, by omega, h3⟩, (Option.some.inj h4).symm⟩)
        · exact .inl ⟨i, j, by omega, by omega, ne, h3, h4⟩
theorem near_spec {l : List Thing} (hl : ThOk l) (a b v : Nat) (hv : v ≤ 1024) : decide (nearF l a b < v) = someNear l a b v := by
  have h := (tells_to hl l.length (Nat.le_refl _)).1.lt a b v hv
  rw [Bool.eq_iff_iff, decide_eq_true_iff]
  unfold nearF
  rw [h]
  unfold someNear
  simp only [List.any_eq_true, Bool.and_eq_true, beq_iff_eq, bne_iff_ne, decide_eq_true_eq]
  constructor
  · rintro ⟨t, u, ⟨i, j, hi, hj, ne, h3, h4⟩, e1, e2, lt⟩
    exact ⟨(t, i), List.mem_zipIdx_iff_getElem?.mpr h3, e1, (u, j), List.mem_zipIdx_iff_getElem?.mpr h4, e2, ne, lt⟩
  · rintro ⟨⟨t, i⟩, m1, e1, ⟨u, j⟩, m2, e2, ne, lt⟩
    have h3 := List.mem_zipIdx_iff_getElem?.mp m1
    have h4 := List.mem_zipIdx_iff_getElem?.mp m2
    exact ⟨t, u, ⟨i, j, (List.getElem?_eq_some_iff.mp h3).1, (List.getElem?_eq_some_iff.mp h4).1, ne, h3, h4⟩, e1, e2, lt⟩
end Ev
namespace Ev
open PySem PySem.Spec PyProof.Rows L2
/-! ### the network -/
theorem rd_rep {v : V} {n : Nat} {tb : TE} {σ : L2.St} {H : Hp} {Q : VK} (hn : n ≤ 10000000) (hb : ∀ H1, Same H H1 → ∀ R : VK, R (.int n) H1 → tb σ H1 R)
    (k : ∀ H' q, Same H H' → H q = none → H' q = some (.lst (List.replicate n v)) → Q (.ref q) H') : tOp rRep (tLst (tCons (tC v) tNil)) tb σ H Q := by
  refine ⟨by show 1 ≤ sizeLine; decide, fun p hp => hb _ (Same.new hp) _ ⟨p, _, _, rfl, rfl, upd_same, by omega, by omega, ?_, fun q hq => ?_⟩⟩
  · show 1 * ((n : Nat) : Int).toNat ≤ sizeLine
    rw [Int.toNat_natCast, Nat.one_mul]
    exact Nat.le_trans hn (by decide)
  · refine k _ q ((Same.new hp).trans (Same.new hq)) ((Same.new (o := .lst [v]) hp).free hq) ?_
    rw [upd_same, Int.toNat_natCast]
    have e : ∀ m : Nat, (List.replicate m [v]).flatten = List.replicate m v := fun m => by
      induction m with
      | zero => rfl
      | succ m ih => rw [List.replicate_succ, List.flatten_cons, ih]; rfl
    rw [e]
theorem but_fld {p : Addr} {H H' : Hp} {o : HO} (e : But (· = p) H H') : But (· = p) H (upd H' p o) := fun b u h n => by
  rw [upd_ne n]
  exact e b u h n
theorem but_same {S : Addr → Prop} {H H1 H2 : Hp} (e : But S H H1) (s : Same H1 H2) : But S H H2 := fun b u h n => s b u (e b u h n)
theorem made_same {H H2 : Hp} {x dx : Addr} {o : HO} (nx : H x = none) (nd : H dx = none) (e : But (· = x) (upd (upd H dx (.own x)) x o) H2) : Same H H2 := fun b u h =>
  e b u (by rw [upd_ne (ne_of_none h nx), upd_ne (ne_of_none h nd)]; exact h) (ne_of_none h nx)
def netV (s m d b : Int) (p1 p2 p3 : Addr) : List (Str × V) := [("shift", .int s), ("mul", .int m), ("down", .int d), ("b2", .int b), ("b1", .ref p1), ("w1", .ref p2), ("w2", .ref p3)]
structure Net3 (H : Hp) (p1 p2 p3 : Addr) (b1 w1 w2 : List Int) : Prop where
  h1 : H p1 = some (.lst (vI b1))
  h2 : H p2 = some (.lst (vI w1))
  h3 : H p3 = some (.lst (vI w2))
theorem Net3.same {H H' : Hp} {p1 p2 p3 : Addr} {b1 w1 w2 : List Int} (e : Same H H') (h : Net3 H p1 p2 p3 b1 w1 w2) : Net3 H' p1 p2 p3 b1 w1 w2 := ⟨e _ _ h.h1, e _ _ h.h2, e _ _ h.h3⟩
def NetAt (C : Addr) (H : Hp) (a : Addr) (n : Sj25.Net) : Prop := ∃ dx p1 p2 p3, H a = some (.ins C dx (netV n.shift n.mul n.down n.b2 p1 p2 p3)) ∧ Net3 H p1 p2 p3 n.b1 n.w1 n.w2
theorem NetAt.same {C : Addr} {H H' : Hp} {a : Addr} {n : Sj25.Net} (e : Same H H') (h : NetAt C H a n) : NetAt C H' a n := by
  obtain ⟨dx, p1, p2, p3, h1, h2⟩ := h
  exact ⟨dx, p1, p2, p3, e _ _ h1, h2.same e⟩
structure NetOk (n : Sj25.Net) : Prop where
  l1 : n.b1.length = 16
  l2 : n.w1.length = 512
  l3 : n.w2.length = 16
  ml : n.mul ≤ 65535
theorem But.free {S : Addr → Prop} {H H' : Hp} {q : Addr} (e : But S H H') (h : H' q = none) (n : ¬ S q) : H q = none := by
  cases x : H q with
  | none => rfl
  | some o => rw [e q o x n] at h; cases h
/-- __init__: all but the four numbers nought -/
def spNetInit (C : Addr) : Sp := fun vs H Q _ => ∃ (p dx : Addr) (s m d b : Int), vs = [.ref p, .int s, .int m, .int d, .int b] ∧ H p = some (.ins C dx []) ∧
  ∀ H' p1 p2 p3, But (· = p) H H' → H p1 = none → H p2 = none → H p3 = none → H' p = some (.ins C dx (netV s m d b p1 p2 p3)) → Net3 H' p1 p2 p3 (List.replicate 16 0) (List.replicate 512 0) (List.replicate 16 0) → Q .non H'
def spTakeRows (K : PySem.W.Frag) (C : Addr) : Sp := fun vs H Q _ => ∃ (p dx p1 p2 p3 a b e : Addr) (s m d z : Int) (b1 w1 w2 : List Int), vs = [.ref p, .ref a, .ref b, .ref e] ∧ H p = some (.ins C dx (netV s m d z p1 p2 p3)) ∧
  SqL K H a (vI b1) ∧ SqL K H b (vI w1) ∧ SqL K H e (vI w2) ∧ p ≠ a ∧ p ≠ b ∧ p ≠ e ∧
  ∀ H' q1 q2 q3, But (· = p) H H' → H q1 = none → H q2 = none → H q3 = none → H' p = some (.ins C dx (netV s m d z q1 q2 q3)) → Net3 H' q1 q2 q3 b1 w1 w2 → Q .non H'
theorem SqL.but {K : PySem.W.Frag} {S : Addr → Prop} {H H' : Hp} {a : Addr} {xs : List V} (e : But S H H') (n : ¬ S a) (h : SqL K H a xs) : SqL K H' a xs := by
  rcases h with (h | ⟨o, h⟩) | h
  · exact .inl (.inl (e _ _ h n))
  · exact .inl (.inr ⟨o, e _ _ h n⟩)
  · exact .inr h
theorem sum_is : ∀ l : List Int, Sj25.sum l = l.sum
  | [] => rfl
  | a :: r => by
    show a + Sj25.sum r = (a :: r).sum
    rw [sum_is r, List.sum_cons]
theorem held_in (z : Int) : 0 ≤ Sj25.held 0 255 z ∧ Sj25.held 0 255 z ≤ 255 := by
  unfold Sj25.held
  omega
/-- the products that hidden_at sums -/
def prods (n : Sj25.Net) (x : List Nat) (j : Nat) : List Int := (List.range 32).map fun i => ((x.getD i 0 : Nat) : Int) * n.w1.getD (32 * j + i) 0
def spHidden (C : Addr) : Sp := fun vs H Q _ => ∃ (a f : Addr) (n : Sj25.Net) (x : List Nat) (j : Nat), vs = [.ref a, .ref f, .int j] ∧ NetAt C H a n ∧ NetOk n ∧ H f = some (.lst (vN x)) ∧ x.length = 32 ∧ (∀ y ∈ x, y ≤ 255) ∧ j < 16 ∧
  ∀ H', Same H H' → Q (.int (n.middle x j)) H'
def spScore (C : Addr) : Sp := fun vs H Q _ => ∃ (a f : Addr) (n : Sj25.Net) (x : List Nat), vs = [.ref a, .ref f] ∧ NetAt C H a n ∧ NetOk n ∧ H f = some (.lst (vN x)) ∧ x.length = 32 ∧ (∀ y ∈ x, y ≤ 255) ∧
  ∀ H', Same H H' → Q (.int (n.judge x)) H'
section
variable {P : Program} {w : World} {K : PySem.W.Frag} {mg : Str → Option Value} {base : Heap} {c : Cs}
theorem ok_Net_init (T : Txt K mg c) : Mak P w K mg base CX0 1 "Net" c.net (spNetInit c.net) := by
  refine mak_of0 T.m.m_Net_init sc_Net_init b_Net_init (fun vs H Q E h => ?_) (fun f cdv A outer s H vs Q E hr h => ⟨_, (D_Net_init T hr).2, ?_⟩)
  · obtain ⟨p, dx, s, m, d, b, rfl, _⟩ := h
    rfl
  · obtain ⟨p, dx, s, m, d, b, rfl, hp, k⟩ := h
    refine ⟨_, rfl, _, rfl, p, _, dx, _, rfl, hp, T.c.c_Net, T.c.a_Net_shift, (by show 0 < 1000; decide), ?_⟩
    refine ⟨_, rfl, _, rfl, p, _, dx, _, rfl, upd_same, T.c.c_Net, T.c.a_Net_mul, (by show 1 < 1000; decide), ?_⟩
    refine ⟨_, rfl, _, rfl, p, _, dx, _, rfl, upd_same, T.c.c_Net, T.c.a_Net_down, (by show 2 < 1000; decide), ?_⟩
    refine ⟨_, rfl, _, rfl, p, _, dx, _, rfl, upd_same, T.c.c_Net, T.c.a_Net_b2, (by show 3 < 1000; decide), ?_⟩
    have b4 : But (· = p) H (upd (upd (upd (upd H p (.ins c.net dx (putF "shift" (.int s) []))) p (.ins c.net dx (putF "mul" (.int m) (putF "shift" (.int s) [])))) p (.ins c.net dx (putF "down" (.int d) (putF "mul" (.int m) (putF "shift" (.int s) []))))) p
      (.ins c.net dx (putF "b2" (.int b) (putF "down" (.int d) (putF "mul" (.int m) (putF "shift" (.int s) [])))))) := but_fld (but_fld (but_fld (but_fld But.refl)))
    have h4 := upd_same (H := upd (upd (upd H p (.ins c.net dx (putF "shift" (.int s) []))) p (.ins c.net dx (putF "mul" (.int m) (putF "shift" (.int s) [])))) p (.ins c.net dx (putF "down" (.int d) (putF "mul" (.int m) (putF "shift" (.int s) []))))) (a := p)
      (o := .ins c.net dx (putF "b2" (.int b) (putF "down" (.int d) (putF "mul" (.int m) (putF "shift" (.int s) [])))))
    revert b4 h4
    generalize upd (upd (upd (upd H p (.ins c.net dx (putF "shift" (.int s) []))) p (.ins c.net dx (putF "mul" (.int m) (putF "shift" (.int s) [])))) p (.ins c.net dx (putF "down" (.int d) (putF "mul" (.int m) (putF "shift" (.int s) []))))) p
      (.ins c.net dx (putF "b2" (.int b) (putF "down" (.int d) (putF "mul" (.int m) (putF "shift" (.int s) []))))) = H4
    intro b4 h4
    refine rd_rep (n := 16) (by decide) (fun _ _ _ r => r) (fun H5 p1 e5 n5 h5 => ?_)
    refine ⟨_, rfl, p, _, dx, _, rfl, e5 _ _ h4, T.c.c_Net, T.c.a_Net_b1, (by show 4 < 1000; decide), ?_⟩
    have p1p : p1 ≠ p := (ne_of_none h4 n5).symm
    refine rd_rep (n := 512) (by decide) (fun _ _ _ r => ⟨_, _, rfl, rfl, .inl ⟨by decide, by decide⟩, r⟩) (fun H6 p2 e6 n6 h6 => ?_)
    refine ⟨_, rfl, p, _, dx, _, rfl, e6 _ _ upd_same, T.c.c_Net, T.c.a_Net_w1, (by show 5 < 1000; decide), ?_⟩
    have p2p : p2 ≠ p := (ne_of_none upd_same n6).symm
    refine rd_rep (n := 16) (by decide) (fun _ _ _ r => r) (fun H7 p3 e7 n7 h7 => ?_)
    refine ⟨_, rfl, p, _, dx, _, rfl, e7 _ _ upd_same, T.c.c_Net, T.c.a_Net_w2, (by show 6 < 1000; decide), ?_⟩
    have p3p : p3 ≠ p := (ne_of_none upd_same n7).symm
    refine k _ p1 p2 p3 (but_fld (but_same (but_fld (but_same (but_fld (but_same b4 e5)) e6)) e7)) (b4.free n5 p1p) ((but_fld (but_same b4 e5)).free n6 p2p) ((but_fld (but_same (but_fld (but_same b4 e5)) e6)).free n7 p3p) upd_same ⟨?_, ?_, ?_⟩
    · rw [upd_ne p1p]
      exact e7 _ _ (by rw [upd_ne p1p]; exact e6 _ _ (by rw [upd_ne p1p]; exact h5))
    · rw [upd_ne p2p]
      exact e7 _ _ (by rw [upd_ne p2p]; exact h6)
    · rw [upd_ne p3p]
      exact h7
theorem ok_Net_take_rows (T : Txt K mg c) : Met P w K mg base CX0 1 c.net "take_rows" (spTakeRows K c.net) := by
  refine met_of0 T.c.c_Net T.m.m_Net_take_rows sc_Net_take_rows b_Net_take_rows (fun vs H Q E h => ?_) (fun f cdv A outer s H vs Q E hr h => ⟨_, (D_Net_take_rows T hr).2, ?_⟩)
  · obtain ⟨p, dx, p1, p2, p3, a, b, e, s, m, d, z, b1, w1, w2, rfl, _⟩ := h
    rfl
  · obtain ⟨p, dx, p1, p2, p3, a, b, e, s, m, d, z, b1, w1, w2, rfl, hp, ha, hb, he, na, nb, ne, k⟩ := h
    refine ⟨_, rfl, a, _, rfl, .inl ha, fun q1 n1 => ?_⟩
    refine ⟨_, rfl, p, _, dx, _, rfl, Same.new n1 _ _ hp, T.c.c_Net, T.c.a_Net_b1, (by show 7 < 1000; decide), ?_⟩
    have b1' : But (· = p) H (upd (upd H q1 (.lst (vI b1))) p (.ins c.net dx (netV s m d z q1 p2 p3))) := but_fld (.of (Same.new n1))
    have q1p : q1 ≠ p := (ne_of_none hp n1).symm
    refine ⟨_, rfl, b, _, rfl, .inl (SqL.but b1' (Ne.symm nb) hb), fun q2 n2 => ?_⟩
    have q2p : q2 ≠ p := (ne_of_none upd_same n2).symm
    refine ⟨_, rfl, p, _, dx, _, rfl, Same.new n2 _ _ upd_same, T.c.c_Net, T.c.a_Net_w1, (by show 7 < 1000; decide), ?_⟩
    have b2' := but_fld (o := .ins c.net dx (netV s m d z q1 q2 p3)) (but_same b1' (Same.new (o := .lst (vI w1)) n2))
    refine ⟨_, rfl, e, _, rfl, .inl (SqL.but b2' (Ne.symm ne) he), fun q3 n3 => ?_⟩
    have q3p : q3 ≠ p := (ne_of_none upd_same n3).symm
    refine ⟨_, rfl, p, _, dx, _, rfl, Same.new n3 _ _ upd_same, T.c.c_Net, T.c.a_Net_w2, (by show 7 < 1000; decide), ?_⟩
    refine k _ q1 q2 q3 (but_fld (but_same b2' (Same.new (o := .lst (vI w2)) n3))) n1 (b1'.free n2 q2p) (b2'.free n3 q3p) upd_same ⟨?_, ?_, ?_⟩
    · rw [upd_ne q1p]
      exact Same.new n3 _ _ (by rw [upd_ne q1p]; exact Same.new n2 _ _ (by rw [upd_ne q1p, upd_same]))
    · rw [upd_ne q2p]
      exact Same.new n3 _ _ (by rw [upd_ne q2p, upd_same])
    · rw [upd_ne q3p, upd_same]
theorem ok_Net_hidden_at (T : Txt K mg c) : Met P w K mg base CX0 1 c.net "hidden_at" (spHidden c.net) := by
  refine met_of0 T.c.c_Net T.m.m_Net_hidden_at sc_Net_hidden_at b_Net_hidden_at (fun vs H Q E h => ?_) (fun f cdv A outer s H vs Q E hr h => ⟨_, (D_Net_hidden_at T hr).2, ?_⟩)
  · obtain ⟨a, f, n, x, j, rfl, _⟩ := h
    rfl
  · obtain ⟨a, f, n, x, j, rfl, ⟨dx, p1, p2, p3, ha, hN⟩, ok, hf, hxl, hxb, hj, k⟩ := h
    -- weights
    refine ⟨_, rfl, a, _, dx, _, _, rfl, ha, T.c.c_Net, T.c.a_Net_w1, rfl, _, rfl, _, _, rfl, rfl, .inl ⟨by decide, by decide⟩, _, rfl, ?_⟩
    refine ⟨_, rfl, _, _, rfl, rfl, .inl ⟨by decide, by decide⟩, _, _, rfl, rfl, _, rfl, p2, _, rfl, SqL.of hN.h2, fun wp nw => ?_⟩
    have ec : cutV (vI n.w1) (some (32 * ((j : Nat) : Int))) (some (32 * ((j : Nat) : Int) + 32)) = vI ((n.w1.drop (32 * j)).take 32) := by
      rw [show (32 * ((j : Nat) : Int)) = ((32 * j : Nat) : Int) by omega, show (((32 * j : Nat) : Int) + 32) = ((32 * j + 32 : Nat) : Int) by omega, cut_nn _ _ _ (by rw [vI_len, ok.l2]; omega) (by rw [vI_len, ok.l2]; omega), vI_drop, vI_take,
        show 32 * j + 32 - 32 * j = 32 by omega]
    rw [ec]
    have e1 : Same H (upd H wp (.lst (vI ((n.w1.drop (32 * j)).take 32)))) := Same.new nw
    have h1 := upd_same (H := H) (a := wp) (o := .lst (vI ((n.w1.drop (32 * j)).take 32)))
    revert e1 h1
    generalize upd H wp (.lst (vI ((n.w1.drop (32 * j)).take 32))) = H1
    intro e1 h1
    have wl : ((n.w1.drop (32 * j)).take 32).length = 32 := by rw [List.length_take, List.length_drop, ok.l2]; omega
    refine ⟨_, rfl, _, rfl, f, wp, _, _, rfl, SqL.of (e1 _ _ hf), SqL.of h1, fun D hD => lc_it (walk_zip (n := 32) (by rw [vN_len, vI_len, hxl, wl]; rfl)) (fun i H' => Same H1 H' ∧ H' D = some (.lst (vI ((prods n x j).take i)))) ⟨Same.new hD, upd_same⟩
      (fun i H' _ p => ⟨SqL.of (p.1 _ _ (e1 _ _ hf)), SqL.of (p.1 _ _ h1)⟩) ?_ ?_⟩
    · rintro i v H2 H3 hi ⟨e2, h2⟩ ⟨Tp, y, z, rfl, nT, rfl, hy, hz⟩
      obtain ⟨y, hy2, rfl⟩ := map_inv hy
      obtain ⟨z, hz2, rfl⟩ := map_inv hz
      have nTD : D ≠ Tp := ne_of_none h2 nT
      have yb : y ≤ 255 := hxb y (List.mem_of_getElem? hy2)
      have ep : (prods n x j)[i]? = some ((y : Int) * z) := by
        rw [List.getElem?_take_of_lt hi, List.getElem?_drop] at hz2
        unfold prods
        rw [List.getElem?_map, List.getElem?_range hi]
        show some (((x.getD i 0 : Nat) : Int) * n.w1.getD (32 * j + i) 0) = _
        rw [List.getD_eq_getElem?_getD, List.getD_eq_getElem?_getD, hy2, hz2]
        rfl
      refine ⟨Tp, _, rfl, SqT.of upd_same, rfl, _, _, rfl, _, _, rfl, rfl, ?_⟩
      refine ⟨rfl, _, rfl, _, rfl, _, _, rfl, rfl, .inl ⟨by omega, by omega⟩, _, Same.new nT _ _ h2, ?_, (e2.trans (Same.new nT)).mut hD, ?_⟩
      · rw [vI_len, List.length_take]
        exact Nat.lt_of_le_of_lt (Nat.min_le_left _ _) (Nat.lt_trans hi (by decide))
      · rw [upd_same, take_snoc ep, vI_app]
        rfl
    · rintro H2 ⟨e2, h2⟩
      have epl : (prods n x j).length = 32 := by simp [prods]
      rw [List.take_of_length_le (Nat.le_of_eq epl)] at h2
      have e12 := e1.trans e2
      have hb : n.b1[j]? = some (n.b1.getD j 0) := by
        rw [List.getD_eq_getElem?_getD, List.getElem?_eq_getElem (by rw [ok.l1]; exact hj)]
        rfl
      refine ⟨D, prods n x j, rfl, SqL.of h2, _, rfl, a, _, dx, _, _, rfl, e12 _ _ ha, T.c.c_Net, T.c.a_Net_b1, rfl, _, rfl, p1, _, _, _, rfl, rfl, SqL.of (e12 _ _ hN.h1), atI_nat (map_at hb), _, _, rfl, rfl, ?_⟩
      refine ⟨_, rfl, _, rfl, a, _, dx, _, _, rfl, e12 _ _ ha, T.c.c_Net, T.c.a_Net_mul, rfl, _, _, rfl, rfl, .inr ⟨by omega, by have := ok.ml; omega⟩, ?_⟩
      refine ⟨_, rfl, a, _, dx, _, _, rfl, e12 _ _ ha, T.c.c_Net, T.c.a_Net_down, rfl, _, _, rfl, rfl, Int.natCast_nonneg _, _, _, rfl, _, _, rfl, ?_⟩
      have em : n.middle x j = (if (if ((prods n x j).sum + n.b1.getD j 0) * (n.mul : Int) / 2 ^ ((n.down : Nat) : Int).toNat > 0 then ((prods n x j).sum + n.b1.getD j 0) * (n.mul : Int) / 2 ^ ((n.down : Nat) : Int).toNat else 0) < 255 then
          (if ((prods n x j).sum + n.b1.getD j 0) * (n.mul : Int) / 2 ^ ((n.down : Nat) : Int).toNat > 0 then ((prods n x j).sum + n.b1.getD j 0) * (n.mul : Int) / 2 ^ ((n.down : Nat) : Int).toNat else 0) else 255) := by
        unfold Sj25.Net.middle
        rw [sum_is, Int.toNat_natCast]
        show Sj25.held 0 255 (((prods n x j).sum + n.b1.getD j 0) * (n.mul : Int) / 2 ^ n.down) = _
        generalize ((prods n x j).sum + n.b1.getD j 0) * (n.mul : Int) / 2 ^ n.down = z
        unfold Sj25.held
        split <;> split <;> omega
      rw [← em]
      exact k _ e12
theorem ok_Net_score_of (T : Txt K mg c) : Met P w K mg base CX0 2 c.net "score_of" (spScore c.net) := by
  have G : Met P w K mg base CX0 1 c.net "hidden_at" (spHidden c.net) := ok_Net_hidden_at T
  refine met_of0 T.c.c_Net T.m.m_Net_score_of sc_Net_score_of b_Net_score_of (fun vs H Q E h => ?_) (fun f cdv A outer s H vs Q E hr h => ⟨_, (D_Net_score_of T G (Nat.le_refl _) hr).2, ?_⟩)
  · obtain ⟨a, f, n, x, rfl, _⟩ := h
    rfl
  · obtain ⟨a, f, n, x, rfl, hA, ok, hf, hxl, hxb, k⟩ := h
    obtain ⟨dx, p1, p2, p3, ha, hN⟩ := id hA
    have hw2 : ∀ j : Nat, j < 16 → n.w2[j]? = some (n.w2.getD j 0) := fun j hj => by
      rw [List.getD_eq_getElem?_getD, List.getElem?_eq_getElem (by rw [ok.l3]; exact hj)]
      rfl
    refine ⟨16, rfl, by decide, by decide, fun D hD => lc_range (lo := 0) (n := 16) (fun i H' => Same H H' ∧ H' D = some (.lst (vI (((List.range 16).map fun j => n.middle x j * n.w2.getD j 0).take i)))) ⟨Same.new hD, upd_same⟩ ?_ ?_⟩
    · rintro i H1 hi ⟨e1, h1⟩
      refine ⟨rfl, ?_⟩
      refine ⟨_, rfl, a, dx, _, rfl, e1 _ _ ha, rfl, _, rfl, _, rfl, a, f, n, x, i, by rw [Int.zero_add], hA.same e1, ok, e1 _ _ hf, hxl, hxb, hi, fun H2 e2 => ?_⟩
      have e12 := e1.trans e2
      have hm := held_in (((Sj25.sum ((List.range 32).map fun q => ((x.getD q 0 : Nat) : Int) * n.w1.getD (32 * i + q) 0) + n.b1.getD i 0) * n.mul) / 2 ^ n.down)
      have hm : 0 ≤ n.middle x i ∧ n.middle x i ≤ 255 := hm
      refine ⟨_, rfl, a, _, dx, _, _, rfl, e12 _ _ ha, T.c.c_Net, T.c.a_Net_w2, rfl, _, rfl, p3, _, _, _, rfl, rfl, SqL.of (e12 _ _ hN.h3), at_of (Int.zero_add _) (map_at (hw2 i hi)), _, _, rfl, rfl, .inl ⟨by omega, by omega⟩, _, e2 _ _ h1, ?_, e12.mut hD, ?_⟩
      · rw [vI_len, List.length_take]
        exact Nat.lt_of_le_of_lt (Nat.min_le_left _ _) (Nat.lt_trans hi (by decide))
      · have ep : ((List.range 16).map fun j => n.middle x j * n.w2.getD j 0)[i]? = some (n.middle x i * n.w2.getD i 0) := by
          rw [List.getElem?_map, List.getElem?_range hi]
          rfl
        rw [upd_same, take_snoc ep, vI_app]
        rfl
    · rintro H1 ⟨e1, h1⟩
      rw [List.take_of_length_le (by simp)] at h1
      refine ⟨D, _, rfl, SqL.of h1, _, rfl, a, _, dx, _, _, rfl, e1 _ _ ha, T.c.c_Net, T.c.a_Net_b2, rfl, _, _, rfl, rfl, ?_⟩
      have z := k _ e1
      unfold Sj25.Net.judge at z
      rw [sum_is] at z
      exact z
end
end Ev
namespace Ev
open PySem PySem.Spec PyProof.Rows L2
/-! ### the facts of an event -/
def bV (l : List Bool) : List V := l.map V.bl
def AmtAt (H : Hp) (p : Addr) (l : List Sj25.Thing) : Prop := ∃ qs : List Addr, H p = some (.lst (qs.map V.ref)) ∧ qs.length = 8 ∧ ∀ (k : Nat) (q : Addr), qs[k]? = some q → H q = some (.lst (vN (Sj25.falling (Sj25.values l k))))
theorem AmtAt.same {H H' : Hp} {p : Addr} {l : List Sj25.Thing} (e : Same H H') (h : AmtAt H p l) : AmtAt H' p l := by
  obtain ⟨qs, h1, h2, h3⟩ := h
  exact ⟨qs, e _ _ h1, h2, fun k q hq => e _ _ (h3 k q hq)⟩
/-- lists and tuples stand where an instance alone has changed -/
theorem but_lst {H H' : Hp} {p C dx : Addr} {fs : List (Str × V)} {b : Addr} {xs : List V} (hp : H p = some (.ins C dx fs)) (e : But (· = p) H H') (h : H b = some (.lst xs)) : H' b = some (.lst xs) :=
  e b _ h (ne_of h hp (by intro z; cases z))
theorem but_tup {H H' : Hp} {p C dx : Addr} {fs : List (Str × V)} {b : Addr} {xs : List V} (hp : H p = some (.ins C dx fs)) (e : But (· = p) H H') (h : H b = some (.tup xs)) : H' b = some (.tup xs) :=
  e b _ h (ne_of h hp (by intro z; cases z))
theorem AmtAt.but {H H' : Hp} {p C dx : Addr} {fs : List (Str × V)} {a : Addr} {l : List Sj25.Thing} (hp : H p = some (.ins C dx fs)) (e : But (· = p) H H') (h : AmtAt H a l) : AmtAt H' a l := by
  obtain ⟨qs, h1, h2, h3⟩ := h
  exact ⟨qs, but_lst hp e h1, h2, fun k q hq => but_lst hp e (h3 k q hq)⟩
theorem MatAt.but {H H' : Hp} {p C dx : Addr} {fs : List (Str × V)} {a : Addr} {g : Nat → Nat → Int} (hp : H p = some (.ins C dx fs)) (e : But (· = p) H H') (h : MatAt H a g) : MatAt H' a g := by
  obtain ⟨rs, M⟩ := h
  exact ⟨rs, but_lst hp e M.lst, M.len, M.nd, fun i r h => but_lst hp e (M.row i r h)⟩
theorem ObjsAt.but {H H' : Hp} {p C dx : Addr} {fs : List (Str × V)} {a : Addr} {l : List Sj25.Thing} (hp : H p = some (.ins C dx fs)) (e : But (· = p) H H') (h : ObjsAt H a l) : ObjsAt H' a l := by
  obtain ⟨qs, h1, h2, h3⟩ := h
  refine ⟨qs, but_lst hp e h1, h2, fun i q hq => ?_⟩
  obtain ⟨t, h4, h5⟩ := h3 i q hq
  exact ⟨t, h4, but_tup hp e h5⟩
def factV (pa pn : Addr) (z : Int) (pb ph : Addr) : List (Str × V) := [("amounts", .ref pa), ("nearest", .ref pn), ("score", .int z), ("before", .ref pb), ("held", .ref ph)]
/-- the facts at fa: what never changes stands in a heap of its own, that knows neither fa nor the list of what held -/
structure FactsAt (C : Addr) (H : Hp) (fa : Addr) (l : List Sj25.Thing) (z : Int) (bs now : List Bool) : Prop where
  ex : ∃ (dx pa pn pb ph : Addr) (H0 : Hp), H fa = some (.ins C dx (factV pa pn z pb ph)) ∧ H0 ph = none ∧ H0 fa = none ∧ Same H0 H ∧ AmtAt H0 pa l ∧ MatAt H0 pn (nearF l) ∧ H0 pb = some (.lst (bV bs)) ∧ H ph = some (.lst (bV now))
theorem FactsAt.same {C : Addr} {H H' : Hp} {fa : Addr} {l : List Sj25.Thing} {z : Int} {bs now : List Bool} (e : Same H H') (h : FactsAt C H fa l z bs now) : FactsAt C H' fa l z bs now := by
  obtain ⟨dx, pa, pn, pb, ph, H0, h1, h2, h3, h4, h5, h6, h7, h8⟩ := h.ex
  exact ⟨dx, pa, pn, pb, ph, H0, e _ _ h1, h2, h3, h4.trans e, h5, h6, h7, e _ _ h8⟩
/-- the same, and what G knows stands in that heap of its own -/
structure FactsIn (C : Addr) (G H : Hp) (fa : Addr) (l : List Sj25.Thing) (z : Int) (bs now : List Bool) : Prop where
  ex : ∃ (dx pa pn pb ph : Addr) (H0 : Hp), H fa = some (.ins C dx (factV pa pn z pb ph)) ∧ H0 ph = none ∧ H0 fa = none ∧ Same H0 H ∧ AmtAt H0 pa l ∧ MatAt H0 pn (nearF l) ∧ H0 pb = some (.lst (bV bs)) ∧ H ph = some (.lst (bV now)) ∧ But (· = fa) G H0
def spFactsInit (C : Addr) : Sp := fun vs H Q _ => ∃ (p dx a b : Addr) (z : Int) (l : List Sj25.Thing) (bs : List Bool), vs = [.ref p, .ref a, .int z, .ref b] ∧ H p = some (.ins C dx []) ∧ ObjsAt H a l ∧ l.length ≤ 64 ∧ ThOk l ∧
  H b = some (.lst (bV bs)) ∧ ∀ H', But (· = p) H H' → FactsIn C H H' p l z bs [] → Q .non H'
section
variable {P : Program} {w : World} {K : PySem.W.Frag} {mg : Str → Option Value} {base : Heap} {c : Cs}
theorem ok_Facts_init (T : Txt K mg c) : Mak P w K mg base CX0 3 "Facts" c.facts (spFactsInit c.facts) := by
  have GA : Cal P w K mg base CX0 1 "amounts_of" spAmounts := ok_amounts_of T
  have GN : Cal P w K mg base CX0 2 "nearest_of" spNearest := ok_nearest_of T
  refine mak_of0 T.m.m_Facts_init sc_Facts_init b_Facts_init (fun vs H Q E h => ?_) (fun f cdv A outer s H vs Q E hr h => ⟨_, (D_Facts_init T GA (by decide) GN (by decide) hr).2, ?_⟩)
  · obtain ⟨p, dx, a, b, z, l, bs, rfl, _⟩ := h
    rfl
  · obtain ⟨p, dx, a, b, z, l, bs, rfl, hp, hO, hl, hok, hb, k⟩ := h
    refine ⟨8, rfl, by decide, by decide, fun D hD => lc_range (lo := 0) (n := 8) (fun i H' => ∃ qs : List Addr, Same H H' ∧ H' D = some (.lst (qs.map V.ref)) ∧ qs.length = i ∧ ∀ (k : Nat) (q : Addr), qs[k]? = some q → q ≠ D ∧ H' q = some (.lst (vN (Sj25.falling (Sj25.values l k)))))
      ⟨[], Same.new hD, upd_same, rfl, fun k q hq => by simp at hq⟩ ?_ ?_⟩
    · rintro i H1 hi ⟨qs, e1, h1, hql, hqs⟩
      refine ⟨rfl, _, rfl, _, rfl, a, l, i, by rw [Int.zero_add], hO.same e1, hl, fun H2 p2 e2 n2 h2 => ?_⟩
      have np : p2 ≠ D := (ne_of_none h1 n2).symm
      refine ⟨_, e2 _ _ h1, ?_, qs ++ [p2], (e1.trans e2).mut hD, by rw [upd_same, List.map_append]; rfl, by rw [List.length_append, hql]; rfl, fun k q hk => ?_⟩
      · rw [List.length_map, hql]
        exact Nat.lt_trans hi (by decide)
      · by_cases hkl : k < qs.length
        · rw [List.getElem?_append_left hkl] at hk
          obtain ⟨n3, h3⟩ := hqs k q hk
          exact ⟨n3, by rw [upd_ne n3]; exact e2 _ _ h3⟩
        · have hk2 : k = i := by
            have := (List.getElem?_eq_some_iff.mp hk).1
            rw [List.length_append] at this
            simp at this
            omega
          subst hk2
          rw [List.getElem?_append_right (by omega), hql, Nat.sub_self] at hk
          obtain rfl : p2 = q := Option.some.inj hk
          exact ⟨np, by rw [upd_ne np]; exact h2⟩
    · rintro H1 ⟨qs, e1, h1, hql, hqs⟩
      have hA1 : AmtAt H1 D l := ⟨qs, h1, hql, fun k q hq => (hqs k q hq).2⟩
      refine ⟨_, rfl, p, _, dx, _, rfl, e1 _ _ hp, T.c.c_Facts, T.c.a_Facts_amounts, (by show 0 < 1000; decide), ?_⟩
      have b2 : But (· = p) H1 (upd H1 p (.ins c.facts dx (putF "amounts" (.ref D) []))) := but_fld But.refl
      have hp1 := e1 _ _ hp
      have hA2 := hA1.but hp1 b2
      refine ⟨_, rfl, a, l, rfl, (hO.same e1).but hp1 b2, hl, hok, fun H3 pn e3 n3 hM3 => ?_⟩
      refine ⟨_, rfl, p, _, dx, _, rfl, e3 _ _ upd_same, T.c.c_Facts, T.c.a_Facts_nearest, (by show 1 < 1000; decide), ?_⟩
      have b3 := but_fld (o := .ins c.facts dx (putF "nearest" (.ref pn) (putF "amounts" (.ref D) []))) (but_same (but_same b2 e3) (Same.refl _))
      have b33 : But (· = p) H3 (upd H3 p (.ins c.facts dx (putF "nearest" (.ref pn) (putF "amounts" (.ref D) [])))) := but_fld But.refl
      have hp3 : H3 p = _ := e3 _ _ upd_same
      have hA4 := (hA2.same e3).but hp3 b33
      have hM4 := hM3.but hp3 b33
      have hb4 := but_lst hp1 b3 (e1 _ _ hb)
      have hp4 := upd_same (H := H3) (a := p) (o := .ins c.facts dx (putF "nearest" (.ref pn) (putF "amounts" (.ref D) [])))
      have b4 : But (· = p) H _ := (But.of e1).trans b3
      revert hA4 hM4 hb4 hp4 b4
      generalize upd H3 p (.ins c.facts dx (putF "nearest" (.ref pn) (putF "amounts" (.ref D) []))) = H4
      intro hA4 hM4 hb4 hp4 b4
      refine ⟨_, rfl, _, rfl, p, _, dx, _, rfl, hp4, T.c.c_Facts, T.c.a_Facts_score, (by show 2 < 1000; decide), ?_⟩
      refine ⟨_, rfl, _, rfl, p, _, dx, _, rfl, upd_same, T.c.c_Facts, T.c.a_Facts_before, (by show 3 < 1000; decide), ?_⟩
      refine ⟨Nat.zero_le _, fun ph nh => ?_⟩
      refine ⟨_, rfl, p, _, dx, _, rfl, Same.new nh _ _ upd_same, T.c.c_Facts, T.c.a_Facts_held, (by show 4 < 1000; decide), ?_⟩
      have php : ph ≠ p := (ne_of_none upd_same nh).symm
      refine k _ (but_fld (but_same (but_fld (but_fld b4)) (Same.new nh))) ⟨dx, D, pn, b, ph, del H4 p, upd_same, ?_, del_same, fun x o hx => ?_, hA4.but hp4 (fun x o hx nx => by rw [del_ne nx]; exact hx), hM4.but hp4 (fun x o hx nx => by rw [del_ne nx]; exact hx), ?_, by rw [upd_ne php, upd_same]; rfl, fun x o hx nx => by rw [del_ne nx]; exact b4 x o hx nx⟩
      · rw [del_ne php]
        rw [upd_ne php, upd_ne php] at nh
        exact nh
      · have nx : x ≠ p := fun z => by rw [z, del_same] at hx; cases hx
        rw [del_ne nx] at hx
        rw [upd_ne nx]
        exact Same.new nh _ _ (by rw [upd_ne nx, upd_ne nx]; exact hx)
      · have nb : b ≠ p := ne_of hb4 hp4 (by intro z; cases z)
        rw [del_ne nb]
        exact hb4
end
end Ev
namespace Ev
open PySem PySem.Spec PyProof.Rows L2
open Sj25 (Cond)
/-! ### conditions -/
/-- a condition without others within, as a tuple -/
def simpV : Cond → Option (List V)
  | .many n k v => some [.str "some", .int n, .int k, .int v]
  | .all k v => some [.str "sum", .int k, .int v]
  | .near a b v => some [.str "near", .int a, .int b, .int v]
  | .judge z => some [.str "score", .int z]
  | .holds k => some [.str "line", .int k]
  | .held k => some [.str "before", .int k]
  | _ => none
def nots : Nat → Cond → Cond
  | 0, c => c
  | n + 1, c => .not (nots n c)
def joinL (w : Bool) (a b : Cond) : Cond := if w then .and a b else .or a b
def seqL (w : Bool) : List Cond → Cond
  | [] => .judge 0
  | [c] => c
  | c :: r => joinL w c (seqL w r)
def seqW (w : Bool) : Str := if w then "and" else "or"
/-- the condition c stands at v, not more than d conditions within one another -/
def CondAt (H : Hp) : Nat → Addr → Cond → Prop
  | 0, v, c => ∃ xs, simpV c = some xs ∧ H v = some (.tup xs)
  | d + 1, v, c => (∃ xs, simpV c = some xs ∧ H v = some (.tup xs)) ∨
      (∃ (n : Nat) (q : Addr) (c' : Cond), H v = some (.tup [.str "not", .int n, .ref q]) ∧ 0 < n ∧ CondAt H d q c' ∧ c = nots n c') ∨
      (∃ (b : Bool) (t : Addr) (qs : List Addr) (cs : List Cond), H v = some (.tup [.str (seqW b), .ref t]) ∧ H t = some (.tup (qs.map V.ref)) ∧ qs.length = cs.length ∧ 2 ≤ cs.length ∧
        (∀ (i : Nat) (q : Addr), qs[i]? = some q → ∃ c', cs[i]? = some c' ∧ CondAt H d q c') ∧ c = seqL b cs)
theorem CondAt.up {H : Hp} : ∀ {d : Nat} {v : Addr} {c : Cond}, CondAt H d v c → CondAt H (d + 1) v c
  | 0, v, c, h => .inl h
  | d + 1, v, c, h => by
    rcases h with h | ⟨n, q, c', h1, h0, h2, h3⟩ | ⟨b, t, qs, cs, h1, h2, h3, h4, h5, h6⟩
    · exact .inl h
    · exact .inr (.inl ⟨n, q, c', h1, h0, CondAt.up h2, h3⟩)
    · refine .inr (.inr ⟨b, t, qs, cs, h1, h2, h3, h4, fun i q hq => ?_, h6⟩)
      obtain ⟨c', h7, h8⟩ := h5 i q hq
      exact ⟨c', h7, CondAt.up h8⟩
/-- how many simple conditions stand in a condition -/
def lv : Cond → Nat
  | .not c => lv c
  | .and a b => lv a + lv b
  | .or a b => lv a + lv b
  | _ => 1
theorem lv_pos : ∀ c : Cond, 1 ≤ lv c
  | .not c => lv_pos c
  | .and a b => Nat.le_trans (lv_pos a) (Nat.le_add_right _ _)
  | .or a b => Nat.le_trans (lv_pos a) (Nat.le_add_right _ _)
  | .many _ _ _ => Nat.le_refl _
  | .all _ _ => Nat.le_refl _
  | .near _ _ _ => Nat.le_refl _
  | .judge _ => Nat.le_refl _
  | .holds _ => Nat.le_refl _
  | .held _ => Nat.le_refl _
theorem lv_nots (c : Cond) : ∀ n, lv (nots n c) = lv c
  | 0 => rfl
  | n + 1 => lv_nots c n
theorem lv_seq (b : Bool) : ∀ cs : List Cond, cs ≠ [] → lv (seqL b cs) = (cs.map lv).sum
  | [], h => absurd rfl h
  | [c], _ => by simp [seqL]
  | c :: c2 :: r, _ => by
    have ih := lv_seq b (c2 :: r) (by simp)
    have e : lv (seqL b (c :: c2 :: r)) = lv c + lv (seqL b (c2 :: r)) := by cases b <;> rfl
    rw [e, ih]
    simp
theorem sum_ge : ∀ cs : List Cond, cs.length ≤ (cs.map lv).sum ∧ ∀ c ∈ cs, lv c ≤ (cs.map lv).sum
  | [] => ⟨Nat.le_refl _, fun _ h => nomatch h⟩
  | c :: r => by
    obtain ⟨h1, h2⟩ := sum_ge r
    have := lv_pos c
    rw [List.map_cons, List.sum_cons, List.length_cons]
    refine ⟨by omega, fun x hx => ?_⟩
    rcases List.mem_cons.mp hx with rfl | hx
    · omega
    · have := h2 x hx
      omega
theorem CondAt.same {H H' : Hp} (e : Same H H') : ∀ {d : Nat} {v : Addr} {c : Cond}, CondAt H d v c → CondAt H' d v c
  | 0, v, c, ⟨xs, h1, h2⟩ => ⟨xs, h1, e _ _ h2⟩
  | d + 1, v, c, h => by
    rcases h with ⟨xs, h1, h2⟩ | ⟨n, q, c', h1, h0, h2, h3⟩ | ⟨b, t, qs, cs, h1, h2, h3, h4, h5, h6⟩
    · exact .inl ⟨xs, h1, e _ _ h2⟩
    · exact .inr (.inl ⟨n, q, c', e _ _ h1, h0, CondAt.same e h2, h3⟩)
    · refine .inr (.inr ⟨b, t, qs, cs, e _ _ h1, e _ _ h2, h3, h4, fun i q hq => ?_, h6⟩)
      obtain ⟨c', h7, h8⟩ := h5 i q hq
      exact ⟨c', h7, CondAt.same e h8⟩
/-- what a condition may name: kinds, lines before -/
def CondOk (n : Nat) : Cond → Prop
  | .many _ k _ => k < 8
  | .all k _ => k < 8
  | .near a b v => a < 8 ∧ b < 8 ∧ v ≤ 1024
  | .judge _ => True
  | .holds k => k < n
  | .held k => k < n
  | .not c => CondOk n c
  | .and a b => CondOk n a ∧ CondOk n b
  | .or a b => CondOk n a ∧ CondOk n b
theorem CondOk.nots {n m : Nat} {c : Cond} : CondOk n (nots m c) → CondOk n c := by
  induction m with
  | zero => exact fun h => h
  | succ m ih => exact fun h => ih h
theorem CondOk.seq {n : Nat} {b : Bool} : ∀ {cs : List Cond}, CondOk n (seqL b cs) → ∀ c ∈ cs, CondOk n c
  | [], _, c, h => nomatch h
  | [c], h, c', m => by
    rw [List.mem_singleton.mp m]
    exact h
  | c :: c2 :: r, h, c', m => by
    have h2 : CondOk n c ∧ CondOk n (seqL b (c2 :: r)) := by
      cases b with
      | true => exact h
      | false => exact h
    rcases List.mem_cons.mp m with rfl | m
    · exact h2.1
    · exact CondOk.seq h2.2 c' m
theorem holds_nots (l : List Sj25.Thing) (z : Int) (now bef : List Bool) (c : Cond) : ∀ n, Sj25.holds l z now bef (nots n c) = (Sj25.holds l z now bef c == decide (n % 2 = 0))
  | 0 => by
    show Sj25.holds l z now bef c = _
    cases Sj25.holds l z now bef c <;> rfl
  | n + 1 => by
    show (!Sj25.holds l z now bef (nots n c)) = _
    rw [holds_nots l z now bef c n]
    have : decide ((n + 1) % 2 = 0) = !decide (n % 2 = 0) := by
      by_cases h : n % 2 = 0
      · rw [decide_eq_true h, decide_eq_false (by omega)]
        rfl
      · rw [decide_eq_false h, decide_eq_true (by omega)]
        rfl
    rw [this]
    cases Sj25.holds l z now bef c <;> cases decide (n % 2 = 0) <;> rfl
theorem holds_seq (l : List Sj25.Thing) (z : Int) (now bef : List Bool) (b : Bool) : ∀ cs : List Cond, cs ≠ [] → Sj25.holds l z now bef (seqL b cs) = (if b then (cs.map (Sj25.holds l z now bef)).all id else (cs.map (Sj25.holds l z now bef)).any id)
  | [], h => absurd rfl h
  | [c], _ => by
    cases b with
    | true => simp [seqL]
    | false => simp [seqL]
  | c :: c2 :: r, _ => by
    have ih := holds_seq l z now bef b (c2 :: r) (by simp)
    cases b with
    | true =>
      show (Sj25.holds l z now bef c && Sj25.holds l z now bef (seqL true (c2 :: r))) = _
      rw [ih]
      simp
    | false =>
      show (Sj25.holds l z now bef c || Sj25.holds l z now bef (seqL false (c2 :: r))) = _
      rw [ih]
      simp
/-- what the facts' list of the event before tells -/
def BefOk (bs bef : List Bool) : Prop := ∀ k, k < bs.length → bs[k]? = some (bef.getD k false)
theorem len_filter_perm {l r : List Nat} (h : l.Perm r) (p : Nat → Bool) : (l.filter p).length = (r.filter p).length := (h.filter p).length_eq
theorem foldr_sum : ∀ l : List Nat, ((l.map fun n : Nat => (n : Int)).sum) = ((l.foldr (fun a b => a + b) 0 : Nat) : Int)
  | [] => rfl
  | a :: r => by
    rw [List.map_cons, List.sum_cons, foldr_sum r, List.foldr_cons]
    omega
theorem foldr_perm {l r : List Nat} (h : l.Perm r) : l.foldr (fun a b => a + b) 0 = r.foldr (fun a b => a + b) 0 := by
  induction h with
  | nil => rfl
  | cons x _ ih => rw [List.foldr_cons, List.foldr_cons, ih]
  | swap x y l =>
    simp only [List.foldr_cons]
    omega
  | trans _ _ h1 h2 => exact h1.trans h2
section
variable {P : Program} {w : World} {K : PySem.W.Frag} {mg : Str → Option Value} {base : Heap} {c : Cs}
def spSimple (C : Addr) : Sp := fun vs H Q _ => ∃ (v fa : Addr) (cd : Cond) (xs : List V) (l : List Sj25.Thing) (z : Int) (bs now bef : List Bool), vs = [.ref v, .ref fa] ∧ simpV cd = some xs ∧ H v = some (.tup xs) ∧
  FactsAt C H fa l z bs now ∧ ThOk l ∧ l.length ≤ 64 ∧ BefOk bs bef ∧ CondOk now.length cd ∧ now.length ≤ bs.length ∧ ∀ H', Same H H' → Q (.bl (Sj25.holds l z now bef cd)) H'
theorem ok_does_simple_hold (T : Txt K mg c) : Cal P w K mg base CX0 1 "does_simple_hold" (spSimple c.facts) := by
  refine cal_of0 T.f.f_does_simple_hold sc_does_simple_hold b_does_simple_hold (fun vs H Q E h => ?_) (fun f cdv A outer s H vs Q E hr h => ⟨_, (D_does_simple_hold T hr).2, ?_⟩)
  · obtain ⟨v, fa, cd, xs, l, z, bs, now, bef, rfl, _⟩ := h
    rfl
  · obtain ⟨v, fa, cd, xs, l, z, bs, now, bef, rfl, hs, hv, hF, hok, hl, hb, hc, hnb, k⟩ := h
    obtain ⟨dx, pa, pn, pb, ph, H0, h1, h2, h3, h4, ⟨qs, hq1, hq2, hq3⟩, ⟨rs, hM⟩, hpb, hph⟩ := hF.ex
    cases cd with
    | many n kd x =>
      obtain rfl : _ = xs := Option.some.inj hs
      refine ⟨_, rfl, v, _, _, _, rfl, rfl, SqT.of hv, rfl, ?_⟩
      refine ⟨_, rfl, rfl, _, rfl, ?_⟩
      obtain ⟨q, hq⟩ : ∃ q, qs[kd]? = some q := ⟨_, List.getElem?_eq_getElem (by rw [hq2]; exact hc)⟩
      have hql := h4 _ _ (hq3 _ _ hq)
      refine ⟨_, rfl, fa, _, dx, _, _, rfl, h1, T.c.c_Facts, T.c.a_Facts_amounts, rfl, _, rfl, v, _, _, _, rfl, rfl, SqT.of hv, rfl, pa, _, _, _, rfl, rfl, SqL.of (h4 _ _ hq1), atI_nat (map_at hq), q, rfl, ⟨_, SqL.of hql⟩, fun D hD =>
        lc_it (walk_list (xs := vN (Sj25.falling (Sj25.values l kd)))) (fun i H' => Same H H' ∧ H' D = some (.lst (vN (((Sj25.falling (Sj25.values l kd)).take i).filter fun y => decide (x < y))))) ⟨Same.new hD, upd_same⟩ (fun i H' _ p => SqL.of (p.1 _ _ hql)) ?_ ?_⟩
      · rintro i y H1 H2 hi ⟨e1, hd⟩ ⟨rfl, hy⟩
        obtain ⟨m, hm, rfl⟩ := map_inv hy
        refine ⟨rfl, _, rfl, _, rfl, v, _, _, _, rfl, rfl, SqT.of (e1 _ _ hv), rfl, _, _, rfl, rfl, _, rfl, ite2 (fun hlt => ?_) (fun hlt => ?_)⟩
        · have hx : x < m := by have := of_decide_eq_true hlt; omega
          refine ⟨_, rfl, _, hd, ?_, e1.mut hD, ?_⟩
          · rw [vN_len]
            refine Nat.lt_of_le_of_lt (Nat.le_trans (List.length_filter_le _ _) (Nat.le_trans (by rw [List.length_take]; exact Nat.min_le_right _ _) ?_)) (show 64 < sizeLine by decide)
            rw [fall_len]
            exact Nat.le_trans (values_len _ _) hl
          · rw [upd_same, take_snoc hm, List.filter_append, List.filter_cons, if_pos (decide_eq_true hx), vN_app]
            rfl
        · have hx : ¬ x < m := fun z => hlt (decide_eq_true (by omega))
          refine ⟨e1, ?_⟩
          rw [take_snoc hm, List.filter_append, List.filter_cons, if_neg (fun z => hx (of_decide_eq_true z)), List.filter_nil, List.append_nil]
          exact hd
      · rintro H1 ⟨e1, hd⟩
        rw [vN_len, List.take_length] at hd
        refine ⟨D, _, rfl, .inl (SqL.of hd), _, rfl, v, _, _, _, rfl, rfl, SqT.of (e1 _ _ hv), rfl, _, _, rfl, rfl, ?_⟩
        have e : (decide (((n : Nat) : Int) ≤ (((vN ((Sj25.falling (Sj25.values l kd)).filter fun y => decide (x < y))).length : Nat) : Int))) = Sj25.holds l z now bef (.many n kd x) := by
          unfold Sj25.holds
          rw [vN_len, len_filter_perm (fall_perm _)]
          exact decide_eq_decide.mpr Int.ofNat_le
        have y := k _ e1
        rw [← e] at y
        exact y
    | all kd x =>
      obtain rfl : _ = xs := Option.some.inj hs
      refine ⟨_, rfl, v, _, _, _, rfl, rfl, SqT.of hv, rfl, ?_⟩
      refine ⟨_, rfl, rfl, _, rfl, ?_⟩
      refine ⟨_, rfl, rfl, _, rfl, ?_⟩
      obtain ⟨q, hq⟩ : ∃ q, qs[kd]? = some q := ⟨_, List.getElem?_eq_getElem (by rw [hq2]; exact hc)⟩
      have hql := h4 _ _ (hq3 _ _ hq)
      rw [vN_vI] at hql
      refine ⟨_, rfl, fa, _, dx, _, _, rfl, h1, T.c.c_Facts, T.c.a_Facts_amounts, rfl, _, rfl, v, _, _, _, rfl, rfl, SqT.of hv, rfl, pa, _, _, _, rfl, rfl, SqL.of (h4 _ _ hq1), atI_nat (map_at hq), q, _, rfl, SqL.of hql, ?_⟩
      refine ⟨_, rfl, v, _, _, _, rfl, rfl, SqT.of hv, rfl, _, _, rfl, rfl, ?_⟩
      have e : (decide (((x : Nat) : Int) < ((Sj25.falling (Sj25.values l kd)).map fun n : Nat => (n : Int)).sum)) = Sj25.holds l z now bef (.all kd x) := by
        unfold Sj25.holds
        rw [foldr_sum, foldr_perm (fall_perm _)]
        exact decide_eq_decide.mpr Int.ofNat_lt
      have y := k _ (Same.refl _)
      rw [← e] at y
      exact y
    | near a b x =>
      obtain rfl : _ = xs := Option.some.inj hs
      refine ⟨_, rfl, v, _, _, _, rfl, rfl, SqT.of hv, rfl, ?_⟩
      refine ⟨_, rfl, rfl, _, rfl, ?_⟩
      refine ⟨_, rfl, rfl, _, rfl, ?_⟩
      refine ⟨_, rfl, rfl, _, rfl, ?_⟩
      obtain ⟨r, hr⟩ : ∃ r, rs[a]? = some r := ⟨_, List.getElem?_eq_getElem (by rw [hM.len]; exact hc.1)⟩
      refine ⟨_, rfl, fa, _, dx, _, _, rfl, h1, T.c.c_Facts, T.c.a_Facts_nearest, rfl, _, rfl, v, _, _, _, rfl, rfl, SqT.of hv, rfl, pn, _, _, _, rfl, rfl, SqL.of (h4 _ _ hM.lst), atI_nat (map_at hr), ?_⟩
      refine ⟨_, rfl, v, _, _, _, rfl, rfl, SqT.of hv, rfl, r, _, _, _, rfl, rfl, SqL.of (h4 _ _ (hM.row _ _ hr)), atI_nat (row_at _ _ _ hc.2.1), ?_⟩
      refine ⟨_, rfl, v, _, _, _, rfl, rfl, SqT.of hv, rfl, _, _, rfl, rfl, ?_⟩
      have y := k _ (Same.refl _)
      rw [show Sj25.holds l z now bef (.near a b x) = decide (nearF l a b < (x : Int)) from (near_spec hok a b x hc.2.2).symm] at y
      exact y
    | judge y =>
      obtain rfl : _ = xs := Option.some.inj hs
      refine ⟨_, rfl, v, _, _, _, rfl, rfl, SqT.of hv, rfl, ?_⟩
      refine ⟨_, rfl, rfl, _, rfl, ?_⟩
      refine ⟨_, rfl, rfl, _, rfl, ?_⟩
      refine ⟨_, rfl, rfl, _, rfl, ?_⟩
      refine ⟨_, rfl, rfl, _, rfl, ?_⟩
      exact ⟨_, rfl, fa, _, dx, _, _, rfl, h1, T.c.c_Facts, T.c.a_Facts_score, rfl, _, rfl, v, _, _, _, rfl, rfl, SqT.of hv, rfl, _, _, rfl, rfl, k _ (Same.refl _)⟩
    | holds j =>
      obtain rfl : _ = xs := Option.some.inj hs
      refine ⟨_, rfl, v, _, _, _, rfl, rfl, SqT.of hv, rfl, ?_⟩
      refine ⟨_, rfl, rfl, _, rfl, ?_⟩
      refine ⟨_, rfl, rfl, _, rfl, ?_⟩
      refine ⟨_, rfl, rfl, _, rfl, ?_⟩
      refine ⟨_, rfl, rfl, _, rfl, ?_⟩
      refine ⟨_, rfl, rfl, _, rfl, ?_⟩
      have hj : now[j]? = some (now.getD j false) := by
        rw [List.getD_eq_getElem?_getD, List.getElem?_eq_getElem (show j < now.length from hc)]
        rfl
      exact ⟨_, rfl, fa, _, dx, _, _, rfl, h1, T.c.c_Facts, T.c.a_Facts_held, rfl, _, rfl, v, _, _, _, rfl, rfl, SqT.of hv, rfl, ph, _, _, _, rfl, rfl, SqL.of hph, atI_nat (map_at hj), k _ (Same.refl _)⟩
    | held j =>
      obtain rfl : _ = xs := Option.some.inj hs
      refine ⟨_, rfl, v, _, _, _, rfl, rfl, SqT.of hv, rfl, ?_⟩
      refine ⟨_, rfl, rfl, _, rfl, ?_⟩
      refine ⟨_, rfl, rfl, _, rfl, ?_⟩
      refine ⟨_, rfl, rfl, _, rfl, ?_⟩
      refine ⟨_, rfl, rfl, _, rfl, ?_⟩
      refine ⟨_, rfl, rfl, _, rfl, ?_⟩
      have hj := hb j (Nat.lt_of_lt_of_le (show j < now.length from hc) hnb)
      exact ⟨_, rfl, fa, _, dx, _, _, rfl, h1, T.c.c_Facts, T.c.a_Facts_before, rfl, _, rfl, v, _, _, _, rfl, rfl, SqT.of hv, rfl, pb, _, _, _, rfl, rfl, SqL.of (h4 _ _ hpb), atI_nat (map_at hj), k _ (Same.refl _)⟩
    | not _ => cases hs
    | and _ _ => cases hs
    | or _ _ => cases hs
end
end Ev
namespace Ev
open PySem PySem.Spec PyProof.Rows L2
open Sj25 (Cond)
/-! ### does_hold -/
theorem ite_yes {b : Bool} {A B : Prop} (e : b = true) (h : A) : if b = true then A else B := by
  rw [if_pos e]
  exact h
theorem ite_no {b : Bool} {A B : Prop} (e : b = false) (h : B) : if b = true then A else B := by
  rw [if_neg (by rw [e]; exact Bool.false_ne_true)]
  exact h
theorem simp_tag {cd : Cond} {xs : List V} (h : simpV cd = some xs) : ∃ (z : Str) (r : List V), xs = .str z :: r ∧ z ≠ "not" ∧ z ≠ "and" ∧ z ≠ "or" := by
  cases cd <;> first | (cases h; done) | (obtain rfl := Option.some.inj h; exact ⟨_, _, rfl, by decide, by decide, by decide⟩)
section
variable {P : Program} {w : World} {K : PySem.W.Frag} {mg : Str → Option Value} {base : Heap} {c : Cs}
theorem cal_false {CX : CXT} {k : Nat} {x : Str} {st : Stmt} {ps : List Str} (F : DefTx K mg x st) (b : BindF x x st ps) : Cal P w K mg base CX k x (fun _ _ _ _ => False) := by
  obtain ⟨f, fd, F, hm⟩ := F.ex
  exact ⟨f, fd, ps, ⟨fun _ _ _ _ h => h.elim, fun _ _ _ _ _ _ _ _ _ _ _ _ _ h => h.elim⟩, hm, F.kp, F.binds b⟩
def spHold (C : Addr) (d : Nat) : Sp := fun vs H Q _ => ∃ (v fa : Addr) (cd : Cond) (l : List Sj25.Thing) (z : Int) (bs now bef : List Bool), vs = [.ref v, .ref fa] ∧ CondAt H d v cd ∧
  FactsAt C H fa l z bs now ∧ ThOk l ∧ l.length ≤ 64 ∧ BefOk bs bef ∧ CondOk now.length cd ∧ now.length ≤ bs.length ∧ lv cd ≤ 100000 ∧ ∀ H', Same H H' → Q (.bl (Sj25.holds l z now bef cd)) H'
def spPrevH (C : Addr) : Nat → Sp
  | 0 => fun _ _ _ _ => False
  | d + 1 => spHold C d
/-- [does_hold(part, facts) for part in condition[1]] -/
theorem lc_hold {C : Addr} {d : Nat} {H : Hp} {v fa t : Addr} {b : Bool} {y : V} {qs : List Addr} {cs : List Cond} {l : List Sj25.Thing} {z : Int} {bs now bef : List Bool} {Q : VK} (hv : H v = some (.tup [.str (seqW b), .ref t])) (ht : H t = some (.tup (qs.map V.ref))) (hql : qs.length = cs.length)
    (hcl : 2 ≤ cs.length) (hw : (cs.map lv).sum ≤ 100000) (hqs : ∀ (i : Nat) (q : Addr), qs[i]? = some q → ∃ c', cs[i]? = some c' ∧ CondAt H d q c') (hF : FactsAt C H fa l z bs now) (hok : ThOk l) (hl : l.length ≤ 64) (hb : BefOk bs bef) (hcs : ∀ c' ∈ cs, CondOk now.length c') (hnb : now.length ≤ bs.length)
    (k : ∀ H1 D, Same H H1 → H1 D = some (.lst (bV (cs.map (Sj25.holds l z now bef)))) → Q (.ref D) H1) :
    tLc (iTup K (tOp (rIxT K) (tVar 0) (tC (.int 1)))) (gName 3) tYes (tCal (spHold C d) E0 (tCons (tVar 3) (tCons (tVar 1) tNil))) [3] [some (.ref v), some (.ref fa), some y, none] H Q := by
  refine ⟨_, rfl, v, _, _, _, rfl, rfl, SqT.of hv, rfl, t, rfl, ⟨_, SqT.of ht⟩, fun D hD => lc_it (walk_tup (xs := qs.map V.ref)) (fun i H' => Same H H' ∧ H' D = some (.lst (bV ((cs.map (Sj25.holds l z now bef)).take i)))) ⟨Same.new hD, upd_same⟩ (fun i H' _ p => SqT.of (p.1 _ _ ht)) ?_ ?_⟩
  · rintro i x H1 H2 hi ⟨e1, h1⟩ ⟨rfl, hx⟩
    obtain ⟨q, hq, rfl⟩ := map_inv hx
    obtain ⟨c', hc1, hc2⟩ := hqs i q hq
    refine ⟨rfl, _, rfl, _, rfl, q, fa, c', l, z, bs, now, bef, rfl, hc2.same e1, hF.same e1, hok, hl, hb, hcs c' (List.mem_of_getElem? hc1), hnb, Nat.le_trans ((sum_ge cs).2 c' (List.mem_of_getElem? hc1)) hw, fun H3 e3 => ⟨_, e3 _ _ h1, ?_, (e1.trans e3).mut hD, ?_⟩⟩
    · unfold bV
      rw [List.length_map, List.length_take, List.length_map]
      exact Nat.lt_of_le_of_lt (Nat.min_le_right _ _) (Nat.lt_of_le_of_lt (Nat.le_trans (sum_ge cs).1 hw) (by decide))
    · have h5 : (cs.map (Sj25.holds l z now bef))[i]? = some (Sj25.holds l z now bef c') := by rw [List.getElem?_map, hc1]; rfl
      rw [upd_same, take_snoc h5]
      unfold bV
      rw [List.map_append]
      rfl
  · rintro H1 ⟨e1, h1⟩
    rw [List.length_map, hql, List.take_of_length_le (by rw [List.length_map]; exact Nat.le_refl _)] at h1
    exact k H1 D e1 h1
theorem hold_step (T : Txt K mg c) (d : Nat) (G : Cal P w K mg base CX0 (d + 1) "does_hold" (spPrevH c.facts d)) : Cal P w K mg base CX0 (d + 2) "does_hold" (spHold c.facts d) := by
  have GS : Cal P w K mg base CX0 1 "does_simple_hold" (spSimple c.facts) := ok_does_simple_hold T
  refine cal_of0 T.f.f_does_hold sc_does_hold b_does_hold (fun vs H Q E h => ?_) (fun f cdv A outer s H vs Q E hr h => ⟨_, (D_does_hold T G (Nat.le_refl _) GS (by omega) hr).2, ?_⟩)
  · obtain ⟨v, fa, cd, l, z, bs, now, bef, rfl, _⟩ := h
    rfl
  · obtain ⟨v, fa, cd, l, z, bs, now, bef, rfl, hC, hF, hok, hl, hb, hc, hnb, hw, k⟩ := h
    have hh : (∃ xs, simpV cd = some xs ∧ H v = some (.tup xs)) ∨ ∃ d', d = d' + 1 ∧ ((∃ (n : Nat) (q : Addr) (c' : Cond), H v = some (.tup [.str "not", .int n, .ref q]) ∧ 0 < n ∧ CondAt H d' q c' ∧ cd = nots n c') ∨
      (∃ (b : Bool) (t : Addr) (qs : List Addr) (cs : List Cond), H v = some (.tup [.str (seqW b), .ref t]) ∧ H t = some (.tup (qs.map V.ref)) ∧ qs.length = cs.length ∧ 2 ≤ cs.length ∧
        (∀ (i : Nat) (q : Addr), qs[i]? = some q → ∃ c', cs[i]? = some c' ∧ CondAt H d' q c') ∧ cd = seqL b cs)) := by
      cases d with
      | zero => exact .inl hC
      | succ d' =>
        rcases hC with h | h
        · exact .inl h
        · exact .inr ⟨d', rfl, h⟩
    rcases hh with ⟨xs, hs, hv⟩ | ⟨d', rfl, ⟨n, q, c', hv, hn, hq, rfl⟩ | ⟨b, t, qs, cs, hv, ht, hql, hcl, hqs, rfl⟩⟩
    · obtain ⟨y, r, rfl, n1, n2, n3⟩ := simp_tag hs
      refine ⟨_, rfl, v, _, _, _, rfl, rfl, SqT.of hv, atI_nat (j := 0) rfl, ?_⟩
      refine ⟨_, rfl, rfl, _, rfl, ite2 (fun q => absurd (V.str.inj (of_decide_eq_true q)) n1) (fun _ => ?_)⟩
      refine ⟨_, rfl, rfl, _, rfl, ite2 (fun q => absurd (V.str.inj (of_decide_eq_true q)) n2) (fun _ => ?_)⟩
      refine ⟨_, rfl, rfl, _, rfl, ite2 (fun q => absurd (V.str.inj (of_decide_eq_true q)) n3) (fun _ => ?_)⟩
      exact ⟨_, rfl, _, rfl, v, fa, cd, _, l, z, bs, now, bef, rfl, hs, hv, hF, hok, hl, hb, hc, hnb, k⟩
    · refine ⟨_, rfl, v, _, _, _, rfl, rfl, SqT.of hv, rfl, ?_⟩
      refine ⟨_, rfl, rfl, _, rfl, ?_⟩
      refine ⟨_, rfl, v, _, _, _, rfl, rfl, SqT.of hv, rfl, _, rfl, q, fa, c', l, z, bs, now, bef, rfl, hq, hF, hok, hl, hb, hc.nots, hnb, by rw [lv_nots] at hw; exact hw, fun H1 e1 => ?_⟩
      refine ⟨_, rfl, v, _, _, _, rfl, rfl, SqT.of (e1 _ _ hv), rfl, _, _, rfl, rfl, by show (0 : Int) < 2; decide, rfl, rfl, ?_⟩
      have y := k _ e1
      rw [holds_nots] at y
      have e : decide (V.bl (Sj25.holds l z now bef c') = V.bl (decide (V.int (((n : Nat) : Int) % 2) = V.int 0))) = (Sj25.holds l z now bef c' == decide (n % 2 = 0)) := by
        have e1 : decide (V.int (((n : Nat) : Int) % 2) = V.int 0) = decide (n % 2 = 0) := decide_eq_decide.mpr ⟨fun q => by have := V.int.inj q; omega, fun q => congrArg V.int (by omega)⟩
        rw [e1]
        cases Sj25.holds l z now bef c' <;> cases decide (n % 2 = 0) <;> rfl
      rw [← e] at y
      exact y
    · have hcs : ∀ c' ∈ cs, CondOk now.length c' := hc.seq
      have hne : cs ≠ [] := fun z => by rw [z] at hcl; simp at hcl
      rw [lv_seq _ _ hne] at hw
      cases b with
      | true =>
        refine ⟨_, rfl, v, _, _, _, rfl, rfl, SqT.of hv, rfl, ?_⟩
        refine ⟨_, rfl, rfl, _, rfl, ?_⟩
        refine ⟨_, rfl, rfl, _, rfl, ite_yes (decide_eq_true rfl) ?_⟩
        dsimp only [tRet, tCB, tCons]
        refine lc_hold hv ht hql hcl hw hqs hF hok hl hb hcs hnb (fun H1 D e1 h1 => ⟨D, _, rfl, SqL.of h1, ?_⟩)
        have y := k H1 e1
        rw [holds_seq _ _ _ _ _ _ hne] at y
        exact y
      | false =>
        refine ⟨_, rfl, v, _, _, _, rfl, rfl, SqT.of hv, rfl, ?_⟩
        refine ⟨_, rfl, rfl, _, rfl, ?_⟩
        refine ⟨_, rfl, rfl, _, rfl, ?_⟩
        refine ⟨_, rfl, rfl, _, rfl, ite_yes (decide_eq_true rfl) ?_⟩
        dsimp only [tRet, tCB, tCons]
        refine lc_hold hv ht hql hcl hw hqs hF hok hl hb hcs hnb (fun H1 D e1 h1 => ⟨D, _, rfl, SqL.of h1, ?_⟩)
        have y := k H1 e1
        rw [holds_seq _ _ _ _ _ _ hne] at y
        exact y
theorem ok_does_hold (T : Txt K mg c) : ∀ d, Cal P w K mg base CX0 (d + 2) "does_hold" (spHold c.facts d)
  | 0 => hold_step T 0 (cal_false T.f.f_does_hold b_does_hold)
  | d + 1 => hold_step T (d + 1) (ok_does_hold T d)
end
end Ev
namespace Ev
open PySem PySem.Spec PyProof.Rows L2
open Sj25 (Cond)
/-! ### denied, joined -/
theorem nots_add (n m : Nat) (cd : Cond) : nots n (nots m cd) = nots (n + m) cd := by
  induction n with
  | zero => rw [Nat.zero_add]; rfl
  | succ n ih =>
    rw [Nat.succ_add]
    show Cond.not (nots n (nots m cd)) = Cond.not (nots (n + m) cd)
    rw [ih]
theorem seq_flat (b : Bool) (ds : List Cond) (hd : ds ≠ []) : ∀ cs : List Cond, seqL b (cs ++ [seqL b ds]) = seqL b (cs ++ ds)
  | [] => rfl
  | c :: r => by
    have ih := seq_flat b ds hd r
    have e1 : ∀ x : List Cond, x ≠ [] → seqL b (c :: x) = joinL b c (seqL b x) := fun x hx => by
      cases x with
      | nil => exact absurd rfl hx
      | cons y z => rfl
    rw [List.cons_append, List.cons_append, e1 _ (by simp), e1 _ (by simp [hd]), ih]
theorem cond_view {H : Hp} {d : Nat} {v : Addr} {cd : Cond} (hC : CondAt H d v cd) : (∃ xs, simpV cd = some xs ∧ H v = some (.tup xs)) ∨ ∃ d', d = d' + 1 ∧ ((∃ (n : Nat) (q : Addr) (c' : Cond), H v = some (.tup [.str "not", .int n, .ref q]) ∧ 0 < n ∧ CondAt H d' q c' ∧ cd = nots n c') ∨
      (∃ (b : Bool) (t : Addr) (qs : List Addr) (cs : List Cond), H v = some (.tup [.str (seqW b), .ref t]) ∧ H t = some (.tup (qs.map V.ref)) ∧ qs.length = cs.length ∧ 2 ≤ cs.length ∧
        (∀ (i : Nat) (q : Addr), qs[i]? = some q → ∃ c', cs[i]? = some c' ∧ CondAt H d' q c') ∧ cd = seqL b cs)) := by
  cases d with
  | zero => exact .inl hC
  | succ d' =>
    rcases hC with h | h
    · exact .inl h
    · exact .inr ⟨d', rfl, h⟩
/-- a condition's word -/
theorem cond_tag {H : Hp} {d : Nat} {v : Addr} {cd : Cond} (hC : CondAt H d v cd) : ∃ (z : Str) (r : List V), H v = some (.tup (.str z :: r)) := by
  rcases cond_view hC with ⟨xs, hs, hv⟩ | ⟨d', rfl, ⟨n, q, c', hv, _⟩ | ⟨b, t, qs, cs, hv, _⟩⟩
  · obtain ⟨z, r, rfl, _⟩ := simp_tag hs
    exact ⟨z, r, hv⟩
  · exact ⟨_, _, hv⟩
  · exact ⟨_, _, hv⟩
theorem seqW_ne (b : Bool) : seqW b ≠ "not" := by cases b <;> decide
section
variable {P : Program} {w : World} {K : PySem.W.Frag} {mg : Str → Option Value} {base : Heap} {c : Cs}
def spDenied : Sp := fun vs H Q _ => ∃ (n d : Nat) (v : Addr) (cd : Cond), vs = [.int n, .ref v] ∧ CondAt H d v cd ∧ ∀ H' v', Same H H' → CondAt H' (d + 1) v' (nots n cd) → Q (.ref v') H'
theorem ok_denied (T : Txt K mg c) : Cal P w K mg base CX0 1 "denied" spDenied := by
  refine cal_of0 T.f.f_denied sc_denied b_denied (fun vs H Q E h => ?_) (fun f cdv A outer s H vs Q E hr h => ⟨_, (D_denied T hr).2, ?_⟩)
  · obtain ⟨n, d, v, cd, rfl, _⟩ := h
    rfl
  · obtain ⟨n, d, v, cd, rfl, hC, k⟩ := h
    refine ⟨_, rfl, rfl, _, rfl, ite2 (fun q => ?_) (fun hn => ?_)⟩
    · have hn : n = 0 := by have := V.int.inj (of_decide_eq_true q); omega
      subst hn
      exact ⟨_, rfl, k _ v (Same.refl _) hC.up⟩
    · have hn : 0 < n := Nat.pos_of_ne_zero fun z => hn (decide_eq_true (by rw [z]; rfl))
      have hvv : (∃ (z : Str) (r : List V), H v = some (.tup (.str z :: r)) ∧ z ≠ "not") ∨ (∃ (d' m : Nat) (q : Addr) (c' : Cond), d = d' + 1 ∧ H v = some (.tup [.str "not", .int m, .ref q]) ∧ 0 < m ∧ CondAt H d' q c' ∧ cd = nots m c') := by
        rcases cond_view hC with ⟨xs, hs, hv⟩ | ⟨d', rfl, ⟨m, q, c', hv, hm, hq, rfl⟩ | ⟨b, t, qs, cs, hv, ht, hql, hcl, hqs, rfl⟩⟩
        · obtain ⟨z, r, rfl, hz, _⟩ := simp_tag hs
          exact .inl ⟨z, r, hv, hz⟩
        · exact .inr ⟨d', m, q, c', rfl, hv, hm, hq, rfl⟩
        · exact .inl ⟨_, _, hv, seqW_ne b⟩
      rcases hvv with ⟨z, r, hv, hz⟩ | ⟨d', m, q, c', rfl, hv, hm, hq, rfl⟩
      · refine ⟨_, rfl, v, _, _, _, rfl, rfl, SqT.of hv, atI_nat (j := 0) rfl, rfl, _, rfl, ite_no (decide_eq_false fun q => hz (V.str.inj q)) ?_⟩
        exact ⟨_, rfl, _, rfl, by show 3 ≤ sizeLine; decide, fun p hp => k _ p (Same.new hp) (.inr (.inl ⟨n, v, cd, upd_same, hn, hC.same (Same.new hp), rfl⟩))⟩
      · refine ⟨_, rfl, v, _, _, _, rfl, rfl, SqT.of hv, rfl, rfl, _, rfl, ite_yes (decide_eq_true rfl) ?_⟩
        refine ⟨_, rfl, _, rfl, v, _, _, _, rfl, rfl, SqT.of hv, rfl, _, _, rfl, rfl, _, rfl, v, _, _, _, rfl, rfl, SqT.of hv, rfl, by show 3 ≤ sizeLine; decide, fun p hp => ?_⟩
        refine k _ p (Same.new hp) (.inr (.inl ⟨n + m, q, c', ?_, by omega, (hq.same (Same.new hp)).up, nots_add n m c'⟩))
        rw [upd_same, Int.natCast_add]
def spJoined : Sp := fun vs H Q _ => ∃ (b : Bool) (a : Addr) (d : Nat) (qs : List Addr) (cs : List Cond), vs = [.str (seqW b), .ref a] ∧ H a = some (.lst (qs.map V.ref)) ∧ qs.length = cs.length ∧ cs ≠ [] ∧ (cs.map lv).sum ≤ 100000 ∧
  (∀ (i : Nat) (q : Addr), qs[i]? = some q → ∃ c', cs[i]? = some c' ∧ CondAt H d q c') ∧ ∀ H' v, Same H H' → CondAt H' (d + 1) v (seqL b cs) → Q (.ref v) H'
theorem ok_joined (T : Txt K mg c) : Cal P w K mg base CX0 1 "joined" spJoined := by
  refine cal_of0 T.f.f_joined sc_joined b_joined (fun vs H Q E h => ?_) (fun f cdv A outer s H vs Q E hr h => ⟨_, (D_joined T hr).2, ?_⟩)
  · obtain ⟨b, a, d, qs, cs, rfl, _⟩ := h
    rfl
  · obtain ⟨b, a, d, qs, cs, rfl, ha, hql, hne, hw, hqs, k⟩ := h
    refine ⟨_, rfl, a, _, rfl, .inl (SqL.of ha), rfl, _, rfl, ite2 (fun q => ?_) (fun hn => ?_)⟩
    · have h1 : qs.length = 1 := by
        have := V.int.inj (of_decide_eq_true q)
        rw [List.length_map] at this
        omega
      match qs, h1 with
      | [q1], _ =>
        match cs, hql with
        | [c1], _ =>
          obtain ⟨c', hc1, hc2⟩ := hqs 0 q1 rfl
          obtain rfl : c1 = c' := Option.some.inj hc1
          exact ⟨_, rfl, a, _, _, _, rfl, rfl, SqL.of ha, atI_nat (j := 0) rfl, k _ q1 (Same.refl _) hc2.up⟩
    · have h2 : 2 ≤ qs.length := by
        have h0 : qs.length ≠ 0 := fun z => hne (List.length_eq_zero_iff.mp (by omega))
        have h1 : qs.length ≠ 1 := fun z => hn (decide_eq_true (by rw [List.length_map, z]; rfl))
        omega
      obtain ⟨qi, ql, rfl⟩ : ∃ qi ql, qs = qi ++ [ql] := ⟨qs.dropLast, qs.getLast (fun z => by rw [z] at h2; simp at h2), (List.dropLast_concat_getLast _).symm⟩
      obtain ⟨ci, cl, rfl⟩ : ∃ ci cl, cs = ci ++ [cl] := ⟨cs.dropLast, cs.getLast hne, (List.dropLast_concat_getLast _).symm⟩
      have hli : qi.length = ci.length := by
        rw [List.length_append, List.length_append] at hql
        simpa using hql
      rw [List.length_append] at h2
      have h2 : 1 ≤ qi.length := by simp at h2; omega
      obtain ⟨c', hc1, hcl⟩ := hqs qi.length ql (by rw [List.getElem?_append_right (Nat.le_refl _), Nat.sub_self]; rfl)
      rw [List.getElem?_append_right (by omega), hli, Nat.sub_self] at hc1
      obtain rfl : cl = c' := Option.some.inj hc1
      have hin : ∀ (i : Nat) (q : Addr), qi[i]? = some q → ∃ c', ci[i]? = some c' ∧ CondAt H d q c' := fun i q hi => by
        have hil := (List.getElem?_eq_some_iff.mp hi).1
        obtain ⟨c', h3, h4⟩ := hqs i q (by rw [List.getElem?_append_left hil]; exact hi)
        exact ⟨c', by rw [List.getElem?_append_left (by omega)] at h3; exact h3, h4⟩
      have hsz : ci.length + 1 ≤ 100000 := by
        have := (sum_ge (ci ++ [cl])).1
        rw [List.length_append] at this
        exact Nat.le_trans this hw
      have em : (qi ++ [ql]).map V.ref = qi.map V.ref ++ [V.ref ql] := by rw [List.map_append]; rfl
      rw [em] at ha
      refine ⟨_, rfl, _, rfl, a, _, _, _, rfl, rfl, SqL.of ha, atI_last _ _, ?_⟩
      -- the plain way
      have plain : ∀ (z : Str) (r : List V), H ql = some (.tup (.str z :: r)) → z ≠ seqW b → ∀ (t1 t2 : TS), (tSeq (tIfS (tTest (tOp rEq (tOp (rIxT K) (tVar 2) (tC (.int 0))) (tVar 0))) t1 tNext)
          (tRet (tTup (tCons (tVar 0) (tCons (tCB (fun xs H Q => ∃ p ys, xs = [.ref p] ∧ ((SqL K H p ys ∧ ∀ l, H l = none → Q (.ref l) (upd H l (.tup ys))) ∨ (SqT K H p ys ∧ Q (.ref p) H))) (tCons (tVar 1) tNil)) tNil)))))
          { nx := fun _ H' => Q .non H', rt := Q } [some (.str (seqW b)), some (.ref a), some (.ref ql)] H := by
        intro z r hv hz t1 t2
        refine ⟨_, rfl, ql, _, _, _, rfl, rfl, SqT.of hv, atI_nat (j := 0) rfl, _, rfl, rfl, _, rfl, ite_no (decide_eq_false fun q => hz (V.str.inj q)) ?_⟩
        refine ⟨_, rfl, _, rfl, a, _, rfl, .inl ⟨SqL.of ha, fun t ht => ⟨by show 2 ≤ sizeLine; decide, fun p hp => ?_⟩⟩⟩
        have e1 := Same.new (o := .tup (qi.map V.ref ++ [V.ref ql])) ht
        have e2 := Same.new (o := .tup [.str (seqW b), .ref t]) hp
        refine k _ p (e1.trans e2) (.inr (.inr ⟨b, t, qi ++ [ql], ci ++ [cl], upd_same, ?_, hql, by rw [List.length_append]; simp; omega, fun i q hi => ?_, rfl⟩))
        · rw [em]
          exact e2 _ _ upd_same
        · obtain ⟨c', h3, h4⟩ := hqs i q hi
          exact ⟨c', h3, h4.same (e1.trans e2)⟩
      rcases cond_view hcl with ⟨xs, hs, hv⟩ | ⟨d', rfl, ⟨m, q, c', hv, hm, hq, rfl⟩ | ⟨b', t, ps, ds, hv, ht, hpl, hdl, hps, rfl⟩⟩
      · obtain ⟨z, r, rfl, hz1, hz2, hz3⟩ := simp_tag hs
        exact plain z r hv (by cases b; exact hz3; exact hz2) _ tNext
      · exact plain _ _ hv (Ne.symm (seqW_ne b)) _ tNext
      · by_cases hb : b' = b
        · subst hb
          have hdn : ds ≠ [] := fun z => by rw [z] at hdl; simp at hdl
          have hwl : ci.length + ds.length ≤ 100000 := by
            rw [List.map_append, List.sum_append] at hw
            have h5 := (sum_ge ci).1
            have h6 := (sum_ge ds).1
            have h7 : ([seqL b' ds].map lv).sum = (ds.map lv).sum := by
              rw [List.map_cons, List.map_nil, List.sum_cons, List.sum_nil, lv_seq _ _ hdn]
              rfl
            omega
          refine ⟨_, rfl, ql, _, _, _, rfl, rfl, SqT.of hv, rfl, _, rfl, rfl, _, rfl, ite_yes (decide_eq_true rfl) ?_⟩
          have ec : cutV (qi.map V.ref ++ [V.ref ql]) none (some (-1)) = qi.map V.ref := by rw [cut_butlast, List.dropLast_concat]
          refine ⟨_, rfl, _, rfl, _, rfl, _, rfl, a, _, rfl, SqL.of ha, fun p1 n1 => ?_⟩
          rw [ec]
          have e1 := Same.new (o := .lst (qi.map V.ref)) n1
          refine ⟨p1, _, rfl, .inl ⟨SqL.of upd_same, fun p2 n2 => ?_⟩⟩
          have e2 := Same.new (o := .tup (qi.map V.ref)) n2
          refine ⟨_, rfl, ql, _, _, _, rfl, rfl, SqT.of ((e1.trans e2) _ _ hv), rfl, p2, t, _, _, rfl, rfl, SqT.of upd_same, SqT.of ((e1.trans e2) _ _ ht), ?_, fun z => ?_, fun _ z => ?_, fun _ _ p3 n3 => ?_⟩
          · rw [List.length_map, List.length_map, hli, hpl]
            exact Nat.le_trans hwl (by decide)
          · rw [List.map_eq_nil_iff.mp z] at h2
            simp at h2
          · rw [List.map_eq_nil_iff.mp z] at hpl
            simp at hpl
            omega
          · have e3 := Same.new (o := .tup (qi.map V.ref ++ ps.map V.ref)) n3
            refine ⟨by show 2 ≤ sizeLine; decide, fun p4 n4 => ?_⟩
            have e4 := Same.new (o := .tup [.str (seqW b'), .ref p3]) n4
            have e14 := ((e1.trans e2).trans e3).trans e4
            refine k _ p4 e14 (.inr (.inr ⟨b', p3, qi ++ ps, ci ++ ds, upd_same, ?_, by rw [List.length_append, List.length_append, hli, hpl], by rw [List.length_append]; omega, fun i q hi => ?_, seq_flat b' ds hdn ci⟩))
            · rw [List.map_append]
              exact e4 _ _ upd_same
            · by_cases hil : i < qi.length
              · rw [List.getElem?_append_left hil] at hi
                obtain ⟨c', h3, h4⟩ := hin i q hi
                exact ⟨c', by rw [List.getElem?_append_left (by omega)]; exact h3, h4.same e14⟩
              · rw [List.getElem?_append_right (by omega)] at hi
                obtain ⟨c', h3, h4⟩ := hps _ q hi
                exact ⟨c', by rw [List.getElem?_append_right (by omega), ← hli]; exact h3, (h4.same e14).up⟩
        · exact plain _ _ hv (by revert hb; cases b <;> cases b' <;> intro hb <;> first | exact absurd rfl hb | decide) _ tNext
end
end Ev
namespace Ev
open PySem PySem.Spec PyProof.Rows L2
open Sj25 (Cond)
open Evl (Ex Ev EvL EvT EvA ev_var ev_c ev_op rv_I0 rv_ixT rv_ixL ea_nil ea_cons fresh_back)
/-! ### a list, new or not, is given -/
def EvX (te : TE) (σ : L2.St) (H : Hp) (xs : List V) : Prop := ∀ H1, Ex H H1 → ∀ Q : VK, (∀ p H2, Ex H1 H2 → H2 p = some (.lst xs) → Q (.ref p) H2) → te σ H1 Q
def SpX (sp : Sp) (vs : List V) (H : Hp) (xs : List V) : Prop := ∀ H1, Ex H H1 → ∀ Q : VK, (∀ p H2, Ex H1 H2 → H2 p = some (.lst xs) → Q (.ref p) H2) → ∀ E : XK, sp vs H1 Q E
section
variable {K : PySem.W.Frag} {σ : L2.St} {H : Hp} {ta tb te : TE} {t : TT} {x y z v : V} {xs ys : List V} {ts : TA} {D : Ends}
theorem ex_var {i : Nat} {p : Addr} (h : σ[i]? = some (some (.ref p))) (hp : H p = some (.lst xs)) : EvX (tVar i) σ H xs := fun H1 e Q q => ⟨_, h, q p H1 (Ex.refl H1) (e _ _ hp)⟩
theorem ex_lst {vs : List V} (h : EvA ts σ H vs) (hl : vs.length ≤ 100000) : EvX (tLst ts) σ H vs := fun H1 e Q q =>
  h H1 e _ fun H2 e2 => ⟨Evl.sz_of hl, fun p hp => q p _ (e2.trans (Ex.new hp)) upd_same⟩
theorem ex_cat (ha : EvX ta σ H xs) (hb : EvX tb σ H ys) (hz : xs.length + ys.length ≤ 10000000) : EvX (tOp rCat ta tb) σ H (xs ++ ys) := fun H1 e Q q =>
  ha H1 e _ fun p H2 e2 hp => hb H2 (e.trans e2) _ fun r H3 e3 hr => ⟨p, r, xs, ys, rfl, rfl, e3 _ _ hp, hr, Nat.le_trans hz (by decide), fun n hn => q n _ ((e2.trans e3).trans (Ex.new hn)) upd_same⟩
theorem ex_if {b : Bool} (h : EvT t σ H b) (h1 : b = true → EvX ta σ H xs) (h2 : b = false → EvX tb σ H xs) : EvX (tIf t ta tb) σ H xs := fun H1 e Q q => h H1 e _ fun H2 e2 => by
  cases b with
  | true => exact h1 rfl H2 (e.trans e2) Q fun p H3 e3 h3 => q p H3 (e2.trans e3) h3
  | false => exact h2 rfl H2 (e.trans e2) Q fun p H3 e3 h3 => q p H3 (e2.trans e3) h3
theorem ex_cal {sp : Sp} {E : XK} {vs : List V} (h : EvA ts σ H vs) (hs : SpX sp vs H xs) : EvX (tCal sp E ts) σ H xs := fun H1 e Q q =>
  h H1 e _ fun H2 e2 => hs H2 (e.trans e2) Q (fun p H3 e3 h3 => q p H3 (e2.trans e3) h3) E
theorem ex_rep {v : V} {n : Nat} (hn : n ≤ 10000000) (hb : ∀ H1, Ex H H1 → ∀ R : VK, R (.int n) H1 → tb σ H1 R) : EvX (tOp rRep (tLst (tCons (tC v) tNil)) tb) σ H (List.replicate n v) := fun H1 e Q q =>
  rd_rep hn (fun H2 e2 R r => hb H2 (e.trans e2) R r) fun H' p e3 _ h3 => q p H' e3 h3
theorem s_retX (h : EvX te σ H xs) (k : ∀ p H1, Ex H H1 → H1 p = some (.lst xs) → D.rt (.ref p) H1) : tRet te D σ H := h H (Ex.refl H) _ k
theorem ev_cal {sp : Sp} {E : XK} {vs : List V} (h : EvA ts σ H vs) (hs : ∀ H1, Ex H H1 → ∀ Q : VK, Q z H1 → ∀ E : XK, sp vs H1 Q E) : Ev (tCal sp E ts) σ H z := fun H1 e Q q =>
  h H1 e _ fun H2 e2 => hs H2 (e.trans e2) Q (q H2 e2) E
theorem q_asgX {tz : TS} {i : Nat} (h : EvX te σ H xs) (k : ∀ p H1, Ex H H1 → H1 p = some (.lst xs) → tz D (σ.set i (some (.ref p))) H1) : tSeq (tAsg te (gName i)) tz D σ H := h H (Ex.refl H) _ k
theorem ev_ifE {b : Bool} (h : EvT t σ H b) (h1 : b = true → Ev ta σ H v) (h2 : b = false → Ev tb σ H v) : Ev (tIf t ta tb) σ H v := Evl.ev_if h h1 h2
end
/-! ### digits -/
def digI (i : Int) : List Nat := (toString i).toList.map Char.toNat
theorem digI_nat (n : Nat) : digI (n : Int) = Sj25.digits n := by
  show (Nat.repr n).toList.map Char.toNat = ((toString n).toList.map fun c => c.toNat)
  rfl
theorem digI_is (i : Int) : digI i = (if i < 0 then [45] else []) ++ Sj25.digits i.natAbs := by
  cases i with
  | ofNat n =>
    show digI (n : Int) = (if ((n : Nat) : Int) < 0 then [45] else []) ++ _
    rw [if_neg (Int.not_lt.mpr (Int.natCast_nonneg n))]
    exact digI_nat n
  | negSucc n =>
    rw [if_pos (Int.negSucc_lt_zero n)]
    show ("-" ++ Nat.repr (n + 1)).toList.map Char.toNat = [45] ++ (Nat.repr (n + 1)).toList.map Char.toNat
    rw [String.toList_append, List.map_append]
    rfl
theorem digs_len {n k : Nat} (hk : 0 < k) (h : n < 10 ^ k) : (Sj25.digits n).length ≤ k := by
  have e : Sj25.digits n = TL.numL n := by
    show (Nat.repr n).toList.map Char.toNat = (Nat.toDigits 10 n).map Char.toNat
    rw [Nat.toList_repr]
  rw [e]
  exact TL.numL_len hk h
theorem digI_len {i : Int} (h : i.natAbs ≤ 100000) : (digI i).length ≤ 7 := by
  rw [digI_is, List.length_append]
  have h1 := digs_len (n := i.natAbs) (k := 6) (by decide) (by omega)
  have h2 : (if i < 0 then [45] else ([] : List Nat)).length ≤ 1 := by split <;> simp
  omega
section
variable {P : Program} {w : World} {K : PySem.W.Frag} {mg : Str → Option Value} {base : Heap} {c : Cs}
def spDigits : Sp := fun vs H Q _ => ∃ i : Int, vs = [.int i] ∧ i.natAbs ≤ 100000 ∧ ∀ H' p, Same H H' → H' p = some (.lst (vN (digI i))) → Q (.ref p) H'
theorem spx_digits {i : Int} {H : Hp} (h : i.natAbs ≤ 100000) : SpX spDigits [.int i] H (vN (digI i)) := fun H1 _ Q q E => ⟨i, rfl, h, fun H' p e hp => q p H' e hp⟩
theorem ok_digits (T : Txt K mg c) : Cal P w K mg base CX0 1 "digits" spDigits := by
  refine cal_of0 T.f.f_digits sc_digits b_digits (fun vs H Q E h => ?_) (fun f cdv A outer s H vs Q E hr h => ⟨_, (D_digits T hr).2, ?_⟩)
  · obtain ⟨i, rfl, _⟩ := h
    rfl
  · obtain ⟨i, rfl, hi, k⟩ := h
    have hl : i.natAbs.log2 < 1920 := by
      by_cases h0 : i.natAbs = 0
      · rw [h0]
        decide
      · exact Nat.lt_trans ((Nat.log2_lt h0).mpr (Nat.lt_of_le_of_lt hi (show 100000 < 2 ^ 17 by decide))) (by decide)
    have es : (Str.ofString (toString i)).cps.toList = digI i := signs_ofString _
    have esz : (Str.ofString (toString i)).cps.size = (digI i).length := by rw [← es, Array.length_toList]
    refine ⟨_, rfl, i, rfl, hl, _, rfl, fun D hD => lc_it walk_str (fun j H' => Same H H' ∧ H' D = some (.lst (vN ((digI i).take j)))) ⟨Same.new hD, upd_same⟩ (fun _ _ _ _ => True.intro) ?_ ?_⟩
    · rintro j x H1 H2 hj ⟨e1, h1⟩ ⟨rfl, cc, hc, rfl⟩
      refine ⟨rfl, _, rfl, _, rfl, rfl, _, h1, ?_, e1.mut hD, ?_⟩
      · rw [vN_len, List.length_take]
        exact Nat.lt_of_le_of_lt (Nat.le_trans (Nat.min_le_right _ _) (digI_len hi)) (by decide)
      · have hd : (digI i)[j]? = some cc := by
          rw [← es, Array.getElem?_toList]
          exact hc
        rw [upd_same, take_snoc hd, vN_app]
        rfl
    · rintro H1 ⟨e1, h1⟩
      rw [esz, List.take_length] at h1
      exact k _ D e1 h1
def spLetter : Sp := fun vs H Q _ => ∃ i : Int, vs = [.int i] ∧ Q (.int (97 + i)) H
theorem ok_kind_letter (T : Txt K mg c) : Cal P w K mg base CX0 1 "kind_letter" spLetter := by
  refine cal_of0 T.f.f_kind_letter sc_kind_letter b_kind_letter (fun vs H Q E h => ?_) (fun f cdv A outer s H vs Q E hr h => ⟨_, (D_kind_letter T hr).2, ?_⟩)
  · obtain ⟨i, rfl, _⟩ := h
    rfl
  · obtain ⟨i, rfl, k⟩ := h
    exact ⟨_, rfl, _, _, rfl, rfl, k⟩
/-! ### simple_text -/
def NamesAt (H : Hp) (b : Addr) (nm : List (List Nat)) : Prop := ∃ qs : List Addr, H b = some (.lst (qs.map V.ref)) ∧ qs.length = nm.length ∧ ∀ (i : Nat) (q : Addr), qs[i]? = some q → ∃ x, nm[i]? = some x ∧ H q = some (.tup (vN x))
theorem NamesAt.same {H H' : Hp} {b : Addr} {nm : List (List Nat)} (e : Same H H') (h : NamesAt H b nm) : NamesAt H' b nm := by
  obtain ⟨qs, h1, h2, h3⟩ := h
  refine ⟨qs, e _ _ h1, h2, fun i q hq => ?_⟩
  obtain ⟨x, h4, h5⟩ := h3 i q hq
  exact ⟨x, h4, e _ _ h5⟩
/-- the numbers of a condition are small, its lines are there -/
def NumOk (n : Nat) : Cond → Prop
  | .many m k v => m ≤ 100000 ∧ k < 8 ∧ v ≤ 100000
  | .all k v => k < 8 ∧ v ≤ 100000
  | .near a b v => a < 8 ∧ b < 8 ∧ v ≤ 1000
  | .judge z => z.natAbs ≤ 100000
  | .holds k => k < n
  | .held k => k < n
  | .not c => NumOk n c
  | .and a b => NumOk n a ∧ NumOk n b
  | .or a b => NumOk n a ∧ NumOk n b
theorem numOk_cond (n : Nat) : ∀ c : Cond, NumOk n c → CondOk n c
  | .many _ _ _, h => h.2.1
  | .all _ _, h => h.1
  | .near _ _ _, h => ⟨h.1, h.2.1, Nat.le_trans h.2.2 (by decide)⟩
  | .judge _, _ => True.intro
  | .holds _, h => h
  | .held _, h => h
  | .not c, h => numOk_cond n c h
  | .and a b, h => ⟨numOk_cond n a h.1, numOk_cond n b h.2⟩
  | .or a b, h => ⟨numOk_cond n a h.1, numOk_cond n b h.2⟩
theorem NumOk.nots {n m : Nat} {c : Cond} : NumOk n (nots m c) → NumOk n c := by
  induction m with
  | zero => exact fun h => h
  | succ m ih => exact fun h => ih h
theorem NumOk.seq {n : Nat} {b : Bool} : ∀ {cs : List Cond}, NumOk n (seqL b cs) → ∀ c ∈ cs, NumOk n c
  | [], _, c, h => nomatch h
  | [c], h, c', m => by
    rw [List.mem_singleton.mp m]
    exact h
  | c :: c2 :: r, h, c', m => by
    have h2 : NumOk n c ∧ NumOk n (seqL b (c2 :: r)) := by
      cases b with
      | true => exact h
      | false => exact h
    rcases List.mem_cons.mp m with rfl | m
    · exact h2.1
    · exact NumOk.seq h2.2 c' m
theorem ex_listT {σ : L2.St} {H : Hp} {te : TE} {p : Addr} {xs : List V} (h : Ev te σ H (.ref p)) (hx : SqT K H p xs) :
    EvX (tCB (fun ys H Q => ∃ p zs, ys = [.ref p] ∧ (SqL K H p zs ∨ SqT K H p zs) ∧ ∀ l, H l = none → Q (.ref l) (upd H l (.lst zs))) (tCons te tNil)) σ H xs := fun H1 e Q q =>
  h H1 e _ fun H2 e2 => ⟨p, xs, rfl, .inr (Evl.ex_t (e.trans e2) hx), fun l hl => q l _ (e2.trans (Ex.new hl)) upd_same⟩
def spSText : Sp := fun vs H Q _ => ∃ (v nb : Addr) (cd : Cond) (xs : List V) (nm : List (List Nat)), vs = [.ref v, .ref nb] ∧ simpV cd = some xs ∧ H v = some (.tup xs) ∧ NamesAt H nb nm ∧ NumOk nm.length cd ∧ (Sj25.shown nm cd).length ≤ 1000000 ∧
  ∀ H' p, Same H H' → H' p = some (.lst (vN (Sj25.shown nm cd))) → Q (.ref p) H'
theorem ok_simple_text (T : Txt K mg c) : Cal P w K mg base CX0 2 "simple_text" spSText := by
  have GD : Cal P w K mg base CX0 1 "digits" spDigits := ok_digits T
  have GK : Cal P w K mg base CX0 1 "kind_letter" spLetter := ok_kind_letter T
  refine cal_of0 T.f.f_simple_text sc_simple_text b_simple_text (fun vs H Q E h => ?_) (fun f cdv A outer s H vs Q E hr h => ⟨_, (D_simple_text T GD (Nat.le_refl _) GK (Nat.le_refl _) hr).2, ?_⟩)
  · obtain ⟨v, nb, cd, xs, nm, rfl, _⟩ := h
    rfl
  · obtain ⟨v, nb, cd, xs, nm, rfl, hs, hv, hN, hok, hlen, k⟩ := h
    have hlet : ∀ (H1 : Hp) (i : Int), ∀ H2, Ex H1 H2 → ∀ Q : VK, Q (.int (97 + i)) H2 → ∀ E : XK, spLetter [.int i] H2 Q E := fun H1 i H2 _ Q q E => ⟨i, rfl, q⟩
    cases cd with
    | many n kd x =>
      obtain rfl : _ = xs := Option.some.inj hs
      refine ⟨_, rfl, v, _, _, _, rfl, rfl, SqT.of hv, rfl, ?_⟩
      refine ⟨_, rfl, rfl, _, rfl, ?_⟩
      have hT := SqT.of (K := K) hv
      have len1 : (if n = 1 then [] else Sj25.digits n).length ≤ 7 := by
        split
        · exact Nat.zero_le _
        · rw [← digI_nat]
          exact digI_len (by rw [Int.natAbs_natCast]; exact hok.1)
      have len2 : (digI (x : Int)).length ≤ 7 := digI_len (by rw [Int.natAbs_natCast]; exact hok.2.2)
      refine q_asgX (xs := vN (if n = 1 then [] else Sj25.digits n)) (ex_if (b := !decide (V.int n = V.int 1)) (Evl.et_test (ev_op (ev_op (ev_var rfl) ev_c (rv_ixT hT rfl)) ev_c (Evl.rv_ne rfl))) (fun hb => ?_) (fun hb => ?_)) (fun p H1 e1 hp => ?_)
      · have hn : n ≠ 1 := fun z => by rw [z, show decide (V.int ((1 : Nat) : Int) = V.int 1) = true from decide_eq_true rfl] at hb; cases hb
        rw [if_neg hn, ← digI_nat]
        exact ex_cal (ea_cons (ev_op (ev_var rfl) ev_c (rv_ixT hT rfl)) ea_nil) (spx_digits (by rw [Int.natAbs_natCast]; exact hok.1))
      · have hn : n = 1 := by
          by_cases z : n = 1
          · exact z
          · rw [decide_eq_false (fun q => z (by have := V.int.inj q; omega))] at hb
            cases hb
        rw [if_pos hn]
        exact ex_lst ea_nil (Nat.zero_le _)
      · have hT1 := Evl.ex_t e1 hT
        refine s_retX (xs := vN (if n = 1 then [] else Sj25.digits n) ++ [.int (97 + kd), .int 62] ++ vN (digI x)) (ex_cat (ex_cat (ex_var rfl hp) (ex_lst (ea_cons (ev_cal (ea_cons (ev_op (ev_var rfl) ev_c (rv_ixT hT1 rfl)) ea_nil) (hlet _ _)) (ea_cons ev_c ea_nil)) (by show 2 ≤ 100000; decide)) ?_)
          (ex_cal (ea_cons (ev_op (ev_var rfl) ev_c (rv_ixT hT1 rfl)) ea_nil) (spx_digits (by rw [Int.natAbs_natCast]; exact hok.2.2))) ?_) (fun q H2 e2 hq => k _ q (e1.trans e2) ?_)
        · rw [vN_len]
          show _ + 2 ≤ _
          omega
        · rw [List.length_append, vN_len, vN_len]
          show _ + 2 + _ ≤ _
          omega
        · rw [hq]
          unfold Sj25.shown
          rw [vN_app, vN_app]
          rfl
    | all kd x =>
      obtain rfl : _ = xs := Option.some.inj hs
      refine ⟨_, rfl, v, _, _, _, rfl, rfl, SqT.of hv, rfl, ?_⟩
      refine ⟨_, rfl, rfl, _, rfl, ?_⟩
      refine ⟨_, rfl, rfl, _, rfl, ite_yes (decide_eq_true rfl) ?_⟩
      have hT := SqT.of (K := K) hv
      have len2 : (digI (x : Int)).length ≤ 7 := digI_len (by rw [Int.natAbs_natCast]; exact hok.2)
      refine s_retX (xs := [.int 43, .int (97 + kd), .int 62] ++ vN (digI x)) (ex_cat (ex_lst (ea_cons ev_c (ea_cons (ev_cal (ea_cons (ev_op (ev_var rfl) ev_c (rv_ixT hT rfl)) ea_nil) (hlet _ _)) (ea_cons ev_c ea_nil))) (by show 3 ≤ 100000; decide))
          (ex_cal (ea_cons (ev_op (ev_var rfl) ev_c (rv_ixT hT rfl)) ea_nil) (spx_digits (by rw [Int.natAbs_natCast]; exact hok.2))) ?_) (fun q H2 e2 hq => k _ q e2 ?_)
      · rw [vN_len]
        show 3 + _ ≤ _
        omega
      · rw [hq]
        unfold Sj25.shown
        rw [vN_app]
        rfl
    | near a b x =>
      obtain rfl : _ = xs := Option.some.inj hs
      refine ⟨_, rfl, v, _, _, _, rfl, rfl, SqT.of hv, rfl, ?_⟩
      refine ⟨_, rfl, rfl, _, rfl, ?_⟩
      refine ⟨_, rfl, rfl, _, rfl, ?_⟩
      refine ⟨_, rfl, rfl, _, rfl, ite_yes (decide_eq_true rfl) ?_⟩
      have hT := SqT.of (K := K) hv
      have len2 : (digI (x : Int)).length ≤ 7 := digI_len (by rw [Int.natAbs_natCast]; exact Nat.le_trans hok.2.2 (by decide))
      refine s_retX (xs := [.int (97 + a), .int 126, .int (97 + b), .int 60] ++ vN (digI x)) (ex_cat (ex_lst (ea_cons (ev_cal (ea_cons (ev_op (ev_var rfl) ev_c (rv_ixT hT rfl)) ea_nil) (hlet _ _)) (ea_cons ev_c (ea_cons (ev_cal (ea_cons (ev_op (ev_var rfl) ev_c (rv_ixT hT rfl)) ea_nil) (hlet _ _)) (ea_cons ev_c ea_nil)))) (by show 4 ≤ 100000; decide))
          (ex_cal (ea_cons (ev_op (ev_var rfl) ev_c (rv_ixT hT rfl)) ea_nil) (spx_digits (by rw [Int.natAbs_natCast]; exact Nat.le_trans hok.2.2 (by decide)))) ?_) (fun q H2 e2 hq => k _ q e2 ?_)
      · rw [vN_len]
        show 4 + _ ≤ _
        omega
      · rw [hq]
        unfold Sj25.shown
        rw [vN_app]
        rfl
    | judge y =>
      obtain rfl : _ = xs := Option.some.inj hs
      refine ⟨_, rfl, v, _, _, _, rfl, rfl, SqT.of hv, rfl, ?_⟩
      refine ⟨_, rfl, rfl, _, rfl, ?_⟩
      refine ⟨_, rfl, rfl, _, rfl, ?_⟩
      refine ⟨_, rfl, rfl, _, rfl, ?_⟩
      refine ⟨_, rfl, rfl, _, rfl, ite_yes (decide_eq_true rfl) ?_⟩
      have hT := SqT.of (K := K) hv
      have len2 : (digI y).length ≤ 7 := digI_len hok
      refine s_retX (xs := [.int 63, .int 62] ++ vN (digI y)) (ex_cat (ex_lst (ea_cons ev_c (ea_cons ev_c ea_nil)) (by show 2 ≤ 100000; decide)) (ex_cal (ea_cons (ev_op (ev_var rfl) ev_c (rv_ixT hT rfl)) ea_nil) (spx_digits hok)) ?_) (fun q H2 e2 hq => k _ q e2 ?_)
      · rw [vN_len]
        show 2 + _ ≤ _
        omega
      · rw [hq]
        unfold Sj25.shown
        rw [digI_is, List.append_assoc, vN_app [63, 62]]
        rfl
    | holds j =>
      obtain rfl : _ = xs := Option.some.inj hs
      refine ⟨_, rfl, v, _, _, _, rfl, rfl, SqT.of hv, rfl, ?_⟩
      refine ⟨_, rfl, rfl, _, rfl, ?_⟩
      refine ⟨_, rfl, rfl, _, rfl, ?_⟩
      refine ⟨_, rfl, rfl, _, rfl, ?_⟩
      refine ⟨_, rfl, rfl, _, rfl, ite_no (decide_eq_false (by decide)) ?_⟩
      have hT := SqT.of (K := K) hv
      obtain ⟨qs, hq1, hq2, hq3⟩ := hN
      obtain ⟨q, hq⟩ : ∃ q, qs[j]? = some q := ⟨_, List.getElem?_eq_getElem (by rw [hq2]; exact hok)⟩
      obtain ⟨x, hx1, hx2⟩ := hq3 _ _ hq
      have ex : nm.getD j [] = x := by rw [List.getD_eq_getElem?_getD, hx1]; rfl
      have esh : Sj25.shown nm (.holds j) = 64 :: x := by
        unfold Sj25.shown
        rw [ex]
      rw [esh] at hlen k
      refine s_retX (xs := [.int 64] ++ vN x) (ex_cat (ex_lst (ea_cons (ev_ifE (b := true) (Evl.et_test (Evl.ev_is (ev_op (ev_var rfl) ev_c (Evl.rv_eq rfl)) (congrArg V.bl (decide_eq_true rfl)))) (fun _ => ev_c) (fun z => nomatch z)) ea_nil) (by show 1 ≤ 100000; decide))
        (ex_listT (ev_op (ev_var rfl) (ev_op (ev_var rfl) ev_c (rv_ixT hT rfl)) (rv_ixL (SqL.of hq1) (atI_nat (map_at hq)))) (SqT.of hx2)) ?_) (fun q H2 e2 hq => k _ q e2 hq)
      rw [vN_len]
      rw [List.length_cons] at hlen
      show 1 + _ ≤ _
      omega
    | held j =>
      obtain rfl : _ = xs := Option.some.inj hs
      refine ⟨_, rfl, v, _, _, _, rfl, rfl, SqT.of hv, rfl, ?_⟩
      refine ⟨_, rfl, rfl, _, rfl, ?_⟩
      refine ⟨_, rfl, rfl, _, rfl, ?_⟩
      refine ⟨_, rfl, rfl, _, rfl, ?_⟩
      refine ⟨_, rfl, rfl, _, rfl, ite_no (decide_eq_false (by decide)) ?_⟩
      have hT := SqT.of (K := K) hv
      obtain ⟨qs, hq1, hq2, hq3⟩ := hN
      obtain ⟨q, hq⟩ : ∃ q, qs[j]? = some q := ⟨_, List.getElem?_eq_getElem (by rw [hq2]; exact hok)⟩
      obtain ⟨x, hx1, hx2⟩ := hq3 _ _ hq
      have ex : nm.getD j [] = x := by rw [List.getD_eq_getElem?_getD, hx1]; rfl
      have esh : Sj25.shown nm (.held j) = 94 :: x := by
        unfold Sj25.shown
        rw [ex]
      rw [esh] at hlen k
      refine s_retX (xs := [.int 94] ++ vN x) (ex_cat (ex_lst (ea_cons (ev_ifE (b := false) (Evl.et_test (Evl.ev_is (ev_op (ev_var rfl) ev_c (Evl.rv_eq rfl)) (congrArg V.bl (decide_eq_false (by decide))))) (fun z => nomatch z) (fun _ => ev_c)) ea_nil) (by show 1 ≤ 100000; decide))
        (ex_listT (ev_op (ev_var rfl) (ev_op (ev_var rfl) ev_c (rv_ixT hT rfl)) (rv_ixL (SqL.of hq1) (atI_nat (map_at hq)))) (SqT.of hx2)) ?_) (fun q H2 e2 hq => k _ q e2 hq)
      rw [vN_len]
      rw [List.length_cons] at hlen
      show 1 + _ ≤ _
      omega
    | not _ => cases hs
    | and _ _ => cases hs
    | or _ _ => cases hs
end
end Ev
namespace Ev
open PySem PySem.Spec PyProof.Rows L2
open Sj25 (Cond)
open Evl (Ex Ev EvL EvT EvA ev_var ev_c ev_op rv_I0 rv_ixT rv_ixL ea_nil ea_cons fresh_back)
/-! ### part_text, sequence_text, condition_text -/
def wordsOf (m : Nat) : List V := if m = 1 then [.str "and", .str "or"] else if m = 2 then [.str "or"] else []
def parN (m l : Nat) (s : List Nat) : List Nat := if m < l then [40] ++ s ++ [41] else s
theorem level_nots {n : Nat} (h : 0 < n) (cd : Cond) : Sj25.level (nots n cd) = 1 := by
  cases n with
  | zero => exact absurd h (Nat.lt_irrefl 0)
  | succ n => rfl
theorem level_seq {b : Bool} {cs : List Cond} (h : 2 ≤ cs.length) : Sj25.level (seqL b cs) = if b then 2 else 3 := by
  match cs, h with
  | c1 :: c2 :: r, _ => cases b <;> rfl
theorem tag_level {H : Hp} {d m : Nat} {v : Addr} {cd : Cond} (hC : CondAt H d v cd) (hm : m = 1 ∨ m = 2 ∨ m = 3) : ∃ (z : Str) (r : List V), H v = some (.tup (.str z :: r)) ∧ inV (.str z) (wordsOf m) = decide (m < Sj25.level cd) := by
  rcases cond_view hC with ⟨xs, hs, hv⟩ | ⟨d', rfl, ⟨n, q, c', hv, hn, hq, rfl⟩ | ⟨b, t, qs, cs, hv, ht, hql, hcl, hqs, rfl⟩⟩
  · cases cd <;> first | (cases hs; done) | (obtain rfl := Option.some.inj hs; refine ⟨_, _, hv, ?_⟩; rcases hm with rfl | rfl | rfl <;> rfl)
  · refine ⟨_, _, hv, ?_⟩
    rw [level_nots hn]
    rcases hm with rfl | rfl | rfl <;> decide
  · refine ⟨_, _, hv, ?_⟩
    rw [level_seq hcl]
    rcases hm with rfl | rfl | rfl <;> cases b <;> decide
theorem words_flat (m : Nat) : (wordsOf m).all flatV = true := by
  unfold wordsOf
  split
  · rfl
  · split <;> rfl
def sepT (nm : List (List Nat)) (ml sg : Nat) (cs : List Cond) : List Nat := cs.flatMap fun c => parN ml (Sj25.level c) (Sj25.shown nm c) ++ [sg]
theorem sepT_snoc (nm : List (List Nat)) (ml sg : Nat) (cs : List Cond) (c : Cond) : sepT nm ml sg (cs ++ [c]) = sepT nm ml sg cs ++ (parN ml (Sj25.level c) (Sj25.shown nm c) ++ [sg]) := by
  unfold sepT
  rw [List.flatMap_append]
  simp
theorem sepT_take (nm : List (List Nat)) (ml sg : Nat) (cs : List Cond) (i : Nat) : (sepT nm ml sg (cs.take i)).length ≤ (sepT nm ml sg cs).length := by
  conv => rhs; rw [← List.take_append_drop i cs]
  unfold sepT
  rw [List.flatMap_append, List.length_append]
  exact Nat.le_add_right _ _
theorem shown_nots (nm : List (List Nat)) (cd : Cond) : ∀ n, 0 < n → Sj25.shown nm (nots n cd) = List.replicate n 33 ++ parN 1 (Sj25.level cd) (Sj25.shown nm cd)
  | 0, h => absurd h (Nat.lt_irrefl 0)
  | 1, _ => rfl
  | n + 2, _ => by
    have ih := shown_nots nm cd (n + 1) (Nat.succ_pos _)
    show 33 :: (if 1 < Sj25.level (nots (n + 1) cd) then _ else Sj25.shown nm (nots (n + 1) cd)) = _
    rw [level_nots (Nat.succ_pos n), if_neg (by decide), ih]
    rfl
theorem shown_seq (nm : List (List Nat)) (b : Bool) : ∀ (ci : List Cond) (cl : Cond), ci ≠ [] → Sj25.shown nm (seqL b (ci ++ [cl])) = sepT nm (if b then 1 else 2) (if b then 38 else 124) ci ++ parN (if b then 2 else 3) (Sj25.level cl) (Sj25.shown nm cl)
  | [], cl, h => absurd rfl h
  | [c], cl, _ => by
    have l3 : Sj25.level cl ≤ 3 := by cases cl <;> exact Nat.le_of_ble_eq_true rfl
    cases b with
    | true =>
      show ((if 1 < Sj25.level c then [40] ++ Sj25.shown nm c ++ [41] else Sj25.shown nm c) ++ [38]) ++ (if 2 < Sj25.level cl then [40] ++ Sj25.shown nm cl ++ [41] else Sj25.shown nm cl) = _
      simp [sepT, parN]
    | false =>
      show ((if 2 < Sj25.level c then [40] ++ Sj25.shown nm c ++ [41] else Sj25.shown nm c) ++ [124]) ++ Sj25.shown nm cl = _
      simp [sepT, parN, Nat.not_lt.mpr l3]
  | c :: c2 :: r, cl, _ => by
    have ih := shown_seq nm b (c2 :: r) cl (by simp)
    have hl : Sj25.level (seqL b (c2 :: r ++ [cl])) = if b then 2 else 3 := level_seq (by simp)
    cases b with
    | true =>
      show ((if 1 < Sj25.level c then [40] ++ Sj25.shown nm c ++ [41] else Sj25.shown nm c) ++ [38]) ++ (if 2 < Sj25.level (seqL true (c2 :: r ++ [cl])) then _ else Sj25.shown nm (seqL true (c2 :: r ++ [cl]))) = _
      rw [hl, if_neg (show ¬ 2 < (if true = true then 2 else 3) by decide), ih]
      simp [sepT, parN]
    | false =>
      show ((if 2 < Sj25.level c then [40] ++ Sj25.shown nm c ++ [41] else Sj25.shown nm c) ++ [124]) ++ Sj25.shown nm (seqL false (c2 :: r ++ [cl])) = _
      rw [ih]
      simp [sepT, parN]
theorem par_len (m l : Nat) (s : List Nat) : s.length ≤ (parN m l s).length := by
  unfold parN
  split
  · simp
    omega
  · exact Nat.le_refl _
section
variable {P : Program} {w : World} {K : PySem.W.Frag} {mg : Str → Option Value} {base : Heap} {c : Cs}
def spCText (d : Nat) : Sp := fun vs H Q _ => ∃ (v nb : Addr) (cd : Cond) (nm : List (List Nat)), vs = [.ref v, .ref nb] ∧ CondAt H d v cd ∧ NamesAt H nb nm ∧ NumOk nm.length cd ∧ (Sj25.shown nm cd).length ≤ 1000000 ∧
  ∀ H' p, Same H H' → H' p = some (.lst (vN (Sj25.shown nm cd))) → Q (.ref p) H'
def spPart (d : Nat) : Sp := fun vs H Q _ => ∃ (v wp nb : Addr) (m : Nat) (cd : Cond) (nm : List (List Nat)), vs = [.ref v, .ref wp, .ref nb] ∧ CondAt H d v cd ∧ H wp = some (.tup (wordsOf m)) ∧ (m = 1 ∨ m = 2 ∨ m = 3) ∧ NamesAt H nb nm ∧ NumOk nm.length cd ∧
  (parN m (Sj25.level cd) (Sj25.shown nm cd)).length ≤ 1000000 ∧ ∀ H' p, Same H H' → H' p = some (.lst (vN (parN m (Sj25.level cd) (Sj25.shown nm cd)))) → Q (.ref p) H'
def spSeq (d : Nat) : Sp := fun vs H Q _ => ∃ (t lw rw nb : Addr) (sg ml mr : Nat) (qs : List Addr) (ci : List Cond) (cl : Cond) (nm : List (List Nat)), vs = [.ref t, .int sg, .ref lw, .ref rw, .ref nb] ∧ H t = some (.tup (qs.map V.ref)) ∧ qs.length = ci.length + 1 ∧ ci ≠ [] ∧
  (∀ (i : Nat) (q : Addr), qs[i]? = some q → ∃ c', (ci ++ [cl])[i]? = some c' ∧ CondAt H d q c') ∧ H lw = some (.tup (wordsOf ml)) ∧ H rw = some (.tup (wordsOf mr)) ∧ (ml = 1 ∨ ml = 2 ∨ ml = 3) ∧ (mr = 1 ∨ mr = 2 ∨ mr = 3) ∧ NamesAt H nb nm ∧ (∀ c' ∈ ci ++ [cl], NumOk nm.length c') ∧
  (sepT nm ml sg ci ++ parN mr (Sj25.level cl) (Sj25.shown nm cl)).length ≤ 1000000 ∧ ∀ H' p, Same H H' → H' p = some (.lst (vN (sepT nm ml sg ci ++ parN mr (Sj25.level cl) (Sj25.shown nm cl)))) → Q (.ref p) H'
theorem part_step {k d : Nat} (T : Txt K mg c) (G : Cal P w K mg base CX0 k "condition_text" (spCText d)) : Cal P w K mg base CX0 (k + 1) "part_text" (spPart d) := by
  refine cal_of0 T.f.f_part_text sc_part_text b_part_text (fun vs H Q E h => ?_) (fun f cdv A outer s H vs Q E hr h => ⟨_, (D_part_text T G (Nat.le_refl _) hr).2, ?_⟩)
  · obtain ⟨v, wp, nb, m, cd, nm, rfl, _⟩ := h
    rfl
  · obtain ⟨v, wp, nb, m, cd, nm, rfl, hC, hw, hm, hN, hok, hlen, k⟩ := h
    refine ⟨_, rfl, _, rfl, v, nb, cd, nm, rfl, hC, hN, hok, Nat.le_trans (par_len _ _ _) hlen, fun H1 p e1 h1 => ?_⟩
    obtain ⟨z, r, hv, hz⟩ := tag_level hC hm
    refine ⟨_, rfl, v, _, _, _, rfl, rfl, SqT.of (e1 _ _ hv), atI_nat (j := 0) rfl, _, rfl, wp, _, rfl, .inr (SqT.of (e1 _ _ hw)), rfl, words_flat m, _, rfl, ?_⟩
    show if inV (.str z) (wordsOf m) = true then _ else _
    rw [hz]
    refine ite2 (fun q => ?_) (fun q => ?_)
    · have hlt := of_decide_eq_true q
      unfold parN at hlen k
      rw [if_pos hlt] at hlen k
      refine s_retX (xs := vN [40] ++ vN (Sj25.shown nm cd) ++ vN [41]) (ex_cat (ex_cat (ex_lst (ea_cons ev_c ea_nil) (by show 1 ≤ 100000; decide)) (ex_var rfl h1) ?_) (ex_lst (ea_cons ev_c ea_nil) (by show 1 ≤ 100000; decide)) ?_) (fun q H2 e2 hq => k _ q (e1.trans e2) ?_)
      · simp only [vN_len]
        simp at hlen
        show 1 + _ ≤ _
        omega
      · simp only [List.length_append, vN_len]
        simp at hlen
        show 1 + _ + 1 ≤ _
        omega
      · rw [hq, vN_app, vN_app]
    · have hlt : ¬ m < Sj25.level cd := fun z => q (decide_eq_true z)
      unfold parN at hlen k
      rw [if_neg hlt] at hlen k
      exact ⟨_, rfl, k _ p e1 h1⟩
theorem cut_butlast_ne (xs : List V) (h : xs ≠ []) : ¬ (HT.sIx xs.length 0 none = 0 ∧ HT.sIx xs.length xs.length (some (-1)) = xs.length) := fun ⟨_, z⟩ => by
  have hl : 0 < xs.length := List.length_pos_iff.mpr h
  unfold HT.sIx at z
  simp at z
  omega
theorem seq_step {k d : Nat} (T : Txt K mg c) (G : Cal P w K mg base CX0 k "part_text" (spPart d)) : Cal P w K mg base CX0 (k + 1) "sequence_text" (spSeq d) := by
  refine cal_of0 T.f.f_sequence_text sc_sequence_text b_sequence_text (fun vs H Q E h => ?_) (fun f cdv A outer s H vs Q E hr h => ⟨_, (D_sequence_text T G (Nat.le_refl _) hr).2, ?_⟩)
  · obtain ⟨t, lw, rw, nb, sg, ml, mr, qs, ci, cl, nm, rfl, _⟩ := h
    rfl
  · obtain ⟨t, lw, rw, nb, sg, ml, mr, qs, ci, cl, nm, rfl, ht, hql, hne, hqs, hlw, hrw, hml, hmr, hN, hok, hlen, k⟩ := h
    obtain ⟨qi, ql, rfl⟩ : ∃ qi ql, qs = qi ++ [ql] := ⟨qs.dropLast, qs.getLast (fun z => by rw [z] at hql; simp at hql), (List.dropLast_concat_getLast _).symm⟩
    have hli : qi.length = ci.length := by
      rw [List.length_append] at hql
      simpa using hql
    have em : (qi ++ [ql]).map V.ref = qi.map V.ref ++ [V.ref ql] := by rw [List.map_append]; rfl
    rw [em] at ht
    rw [List.length_append] at hlen
    refine ⟨Nat.zero_le _, fun fd nf => ?_⟩
    have e0 := Same.new (o := .lst []) nf
    refine ⟨_, rfl, _, rfl, _, rfl, t, _, rfl, SqT.of (e0 _ _ ht), cut_butlast_ne _ (by simp), fun p4 n4 => ?_⟩
    have ec : cutV (qi.map V.ref ++ [V.ref ql]) none (some (-1)) = qi.map V.ref := by rw [cut_butlast, List.dropLast_concat]
    have e4 := Same.new (o := .tup (cutV (qi.map V.ref ++ [V.ref ql]) none (some (-1)))) n4
    have h4 : upd (upd H fd (.lst [])) p4 (.tup (cutV (qi.map V.ref ++ [V.ref ql]) none (some (-1)))) p4 = some (.tup (qi.map V.ref)) := by rw [upd_same, ec]
    have hfd : upd (upd H fd (.lst [])) p4 (.tup (cutV (qi.map V.ref ++ [V.ref ql]) none (some (-1)))) fd = some (.lst (vN (sepT nm ml sg (ci.take 0)))) := e4 _ _ upd_same
    have e04 := e0.trans e4
    have nfp : p4 ≠ fd := (ne_of_none upd_same n4).symm
    revert e4 h4 hfd e04
    generalize upd (upd H fd (.lst [])) p4 (.tup (cutV (qi.map V.ref ++ [V.ref ql]) none (some (-1)))) = H4
    intro e4 h4 hfd e04
    refine ⟨p4, rfl, ⟨_, SqT.of h4⟩, for_it (walk_tup (xs := qi.map V.ref)) (fun i σ H' => ∃ v6 : Option V, σ = [some (.ref t), some (.int sg), some (.ref lw), some (.ref rw), some (.ref nb), some (.ref fd), v6] ∧ Same H H' ∧ H' p4 = some (.tup (qi.map V.ref)) ∧ H' fd = some (.lst (vN (sepT nm ml sg (ci.take i)))))
      ⟨none, rfl, e04, h4, hfd⟩ (fun i σ H' _ ⟨_, _, _, h, _⟩ => SqT.of h) ?_ ?_⟩
    · rintro i x σ H1 H2 hi ⟨v6, rfl, e1, h1, hf⟩ ⟨rfl, hx⟩
      obtain ⟨q, hq, rfl⟩ := map_inv hx
      have hil := (List.getElem?_eq_some_iff.mp hq).1
      obtain ⟨c', hc1, hc2⟩ := hqs i q (by rw [List.getElem?_append_left hil]; exact hq)
      have hci : ci[i]? = some c' := by rw [List.getElem?_append_left (by omega)] at hc1; exact hc1
      have hst : sepT nm ml sg (ci.take (i + 1)) = sepT nm ml sg (ci.take i) ++ (parN ml (Sj25.level c') (Sj25.shown nm c') ++ [sg]) := by rw [take_snoc hci, sepT_snoc]
      have hle : (sepT nm ml sg (ci.take i)).length + ((parN ml (Sj25.level c') (Sj25.shown nm c')).length + 1) ≤ 1000000 := by
        have := sepT_take nm ml sg ci (i + 1)
        rw [hst, List.length_append, List.length_append] at this
        simp at this
        omega
      refine ⟨_, rfl, .inl ⟨rfl, _, SqL.of hf⟩, _, rfl, _, rfl, _, rfl, q, lw, nb, ml, c', nm, rfl, hc2.same e1, e1 _ _ hlw, hml, hN.same e1, hok c' (List.mem_of_getElem? hc1), by omega, fun H3 p e3 h3 => ⟨fd, p, _, _, rfl, rfl, e3 _ _ hf, h3, ?_, ?_⟩⟩
      · rw [vN_len, vN_len]
        exact Nat.le_trans (show _ ≤ 1000000 by omega) (by decide)
      · have e13 := (e1.trans e3).mut (o := .lst (vN (sepT nm ml sg (ci.take i)) ++ vN (parN ml (Sj25.level c') (Sj25.shown nm c')))) nf
        refine ⟨_, rfl, .inl ⟨rfl, _, SqL.of upd_same⟩, _, rfl, fd, _, _, rfl, rfl, upd_same, ?_, _, rfl, e13.mut nf, ?_, ?_⟩
        · simp only [List.length_append, vN_len]
          exact Nat.lt_of_lt_of_le (show _ < 1000000 by omega) (by decide)
        · rw [upd_ne nfp, upd_ne nfp]
          exact e3 _ _ h1
        · rw [upd_same, hst, vN_app, vN_app, List.append_assoc]
          rfl
    · rintro σ H1 ⟨v6, rfl, e1, h1, hf⟩
      rw [List.length_map, hli, List.take_length] at hf
      obtain ⟨c', hc1, hc2⟩ := hqs qi.length ql (by rw [List.getElem?_append_right (Nat.le_refl _), Nat.sub_self]; rfl)
      rw [List.getElem?_append_right (by omega), hli, Nat.sub_self] at hc1
      obtain rfl : cl = c' := Option.some.inj hc1
      refine ⟨_, rfl, _, rfl, _, rfl, t, _, _, _, rfl, rfl, SqT.of (e1 _ _ ht), atI_last _ _, _, rfl, _, rfl, ql, rw, nb, mr, cl, nm, rfl, hc2.same e1, e1 _ _ hrw, hmr, hN.same e1, hok cl (by simp), by omega, fun H3 p e3 h3 => ?_⟩
      refine ⟨fd, p, _, _, rfl, rfl, e3 _ _ hf, h3, ?_, fun n hn => k _ n ((e1.trans e3).trans (Same.new hn)) ?_⟩
      · rw [vN_len, vN_len]
        exact Nat.le_trans hlen (by decide)
      · rw [upd_same, vN_app]
def spPartP : Nat → Sp
  | 0 => fun _ _ _ _ => False
  | d + 1 => spPart d
def spSeqP : Nat → Sp
  | 0 => fun _ _ _ _ => False
  | d + 1 => spSeq d
theorem ct_step {k : Nat} (T : Txt K mg c) (d : Nat) (GP : Cal P w K mg base CX0 (3 * d + 1) "part_text" (spPartP d)) (GQ : Cal P w K mg base CX0 (3 * d + 2) "sequence_text" (spSeqP d)) : Cal P w K mg base CX0 (3 * d + 3) "condition_text" (spCText d) := by
  have GS : Cal P w K mg base CX0 2 "simple_text" spSText := ok_simple_text T
  refine cal_of0 T.f.f_condition_text sc_condition_text b_condition_text (fun vs H Q E h => ?_) (fun f cdv A outer s H vs Q E hr h => ⟨_, (D_condition_text T GP (by omega) GQ (Nat.le_refl _) GS (by omega) hr).2, ?_⟩)
  · obtain ⟨v, nb, cd, nm, rfl, _⟩ := h
    rfl
  · obtain ⟨v, nb, cd, nm, rfl, hC, hN, hok, hlen, k⟩ := h
    rcases cond_view hC with ⟨xs, hs, hv⟩ | ⟨d', rfl, ⟨n, q, c', hv, hn, hq, rfl⟩ | ⟨b, t, qs, cs, hv, ht, hql, hcl, hqs, rfl⟩⟩
    · obtain ⟨y, r, rfl, n1, n2, n3⟩ := simp_tag hs
      refine ⟨_, rfl, v, _, _, _, rfl, rfl, SqT.of hv, atI_nat (j := 0) rfl, ?_⟩
      refine ⟨_, rfl, rfl, _, rfl, ite_no (decide_eq_false fun q => n1 (V.str.inj q)) ?_⟩
      refine ⟨_, rfl, rfl, _, rfl, ite_no (decide_eq_false fun q => n2 (V.str.inj q)) ?_⟩
      refine ⟨_, rfl, rfl, _, rfl, ite_no (decide_eq_false fun q => n3 (V.str.inj q)) ?_⟩
      exact ⟨_, rfl, _, rfl, v, nb, cd, _, nm, rfl, hs, hv, hN, hok, hlen, k⟩
    · refine ⟨_, rfl, v, _, _, _, rfl, rfl, SqT.of hv, rfl, ?_⟩
      refine ⟨_, rfl, rfl, _, rfl, ite_yes (decide_eq_true rfl) ?_⟩
      rw [shown_nots nm c' n hn] at hlen k
      rw [List.length_append, List.length_replicate] at hlen
      have hT := SqT.of (K := K) hv
      refine s_retX (xs := List.replicate n (.int 33) ++ vN (parN 1 (Sj25.level c') (Sj25.shown nm c'))) (ex_cat (ex_rep (by omega) (fun H1 e1 R r => ⟨_, rfl, v, _, _, _, rfl, rfl, Evl.ex_t e1 hT, rfl, r⟩)) (fun H1 e1 Q1 q1 => ?_) ?_) (fun p H2 e2 hp => k _ p e2 ?_)
      · refine ⟨_, rfl, v, _, _, _, rfl, rfl, Evl.ex_t e1 hT, rfl, by show 2 ≤ sizeLine; decide, fun wp nw => ?_⟩
        have ew := Same.new (o := .tup [.str "and", .str "or"]) nw
        have e1w : Same H _ := Same.trans e1 ew
        exact ⟨_, rfl, q, wp, nb, 1, c', nm, rfl, hq.same e1w, upd_same, .inl rfl, hN.same e1w, hok.nots, by omega, fun H' p e hp => q1 p H' (ew.trans e) hp⟩
      · rw [List.length_replicate, vN_len]
        omega
      · rw [hp, vN_app]
        congr 2
        simp [vN]
    · obtain ⟨ci, cl, rfl⟩ : ∃ ci cl, cs = ci ++ [cl] := ⟨cs.dropLast, cs.getLast (fun z => by rw [z] at hcl; simp at hcl), (List.dropLast_concat_getLast _).symm⟩
      have hci : ci ≠ [] := fun z => by rw [z] at hcl; simp at hcl
      rw [shown_seq nm b ci cl hci] at hlen k
      have hqc : qs.length = ci.length + 1 := by rw [hql]; simp
      cases b with
      | true =>
        refine ⟨_, rfl, v, _, _, _, rfl, rfl, SqT.of hv, rfl, ?_⟩
        refine ⟨_, rfl, rfl, _, rfl, ite_no (decide_eq_false (by decide)) ?_⟩
        refine ⟨_, rfl, rfl, _, rfl, ite_yes (decide_eq_true rfl) ?_⟩
        refine ⟨_, rfl, v, _, _, _, rfl, rfl, SqT.of hv, rfl, by show 2 ≤ sizeLine; decide, fun lw nl => ⟨by show 1 ≤ sizeLine; decide, fun rw nr => ?_⟩⟩
        have el := Same.new (o := .tup [.str "and", .str "or"]) nl
        have er := Same.new (o := .tup [.str "or"]) nr
        have e1 := el.trans er
        exact ⟨_, rfl, t, lw, rw, nb, 38, 1, 2, qs, ci, cl, nm, rfl, e1 _ _ ht, hqc, hci, fun i q hi => let ⟨c', h1, h2⟩ := hqs i q hi; ⟨c', h1, h2.same e1⟩, er _ _ upd_same, upd_same, .inl rfl, .inr (.inl rfl), hN.same e1, hok.seq, hlen, fun H' p e hp => k H' p (e1.trans e) hp⟩
      | false =>
        refine ⟨_, rfl, v, _, _, _, rfl, rfl, SqT.of hv, rfl, ?_⟩
        refine ⟨_, rfl, rfl, _, rfl, ite_no (decide_eq_false (by decide)) ?_⟩
        refine ⟨_, rfl, rfl, _, rfl, ite_no (decide_eq_false (by decide)) ?_⟩
        refine ⟨_, rfl, rfl, _, rfl, ite_yes (decide_eq_true rfl) ?_⟩
        refine ⟨_, rfl, v, _, _, _, rfl, rfl, SqT.of hv, rfl, by show 1 ≤ sizeLine; decide, fun lw nl => ⟨by show 0 ≤ sizeLine; decide, fun rw nr => ?_⟩⟩
        have el := Same.new (o := .tup [.str "or"]) nl
        have er := Same.new (o := .tup []) nr
        have e1 := el.trans er
        exact ⟨_, rfl, t, lw, rw, nb, 124, 2, 3, qs, ci, cl, nm, rfl, e1 _ _ ht, hqc, hci, fun i q hi => let ⟨c', h1, h2⟩ := hqs i q hi; ⟨c', h1, h2.same e1⟩, er _ _ upd_same, upd_same, .inr (.inl rfl), .inr (.inr rfl), hN.same e1, hok.seq, hlen, fun H' p e hp => k H' p (e1.trans e) hp⟩
theorem ok_condition_text (T : Txt K mg c) : ∀ d, Cal P w K mg base CX0 (3 * d + 3) "condition_text" (spCText d)
  | 0 => ct_step (k := 0) T 0 (cal_false T.f.f_part_text b_part_text) (cal_false T.f.f_sequence_text b_sequence_text)
  | d + 1 => by
    have G := ok_condition_text T d
    have GP := part_step T G
    exact ct_step (k := 0) T (d + 1) (GP.mono (by omega)) ((seq_step T GP).mono (by omega))
/-! ### line_text -/
def lineV (q v : Addr) (e : Int) (a b k : Int) : List (Str × V) := [("name", .ref q), ("condition", .ref v), ("prescale", .int e), ("held", .int a), ("passed", .int b), ("kept", .int k)]
def spLineText (C : Addr) (d : Nat) : Sp := fun vs H Q _ => ∃ (p nb dx q v : Addr) (a b e : Int) (l : Sj25.Line) (nm : List (List Nat)), vs = [.ref p, .ref nb] ∧ H p = some (.ins C dx (lineV q v l.every a b e)) ∧ H q = some (.tup (vN l.name)) ∧ CondAt H d v l.c ∧ NamesAt H nb nm ∧ NumOk nm.length l.c ∧ l.every ≤ 100000 ∧
  (Sj25.lineText nm l).length ≤ 1000000 ∧ ∀ H' p, Same H H' → H' p = some (.lst (vN (Sj25.lineText nm l))) → Q (.ref p) H'
theorem ok_line_text (T : Txt K mg c) (d : Nat) : Cal P w K mg base CX0 (3 * d + 4) "line_text" (spLineText c.line d) := by
  have G : Cal P w K mg base CX0 (3 * d + 3) "condition_text" (spCText d) := ok_condition_text T d
  have GD : Cal P w K mg base CX0 1 "digits" spDigits := ok_digits T
  refine cal_of0 T.f.f_line_text sc_line_text b_line_text (fun vs H Q E h => ?_) (fun f cdv A outer s H vs Q E hr h => ⟨_, (D_line_text T G (Nat.le_refl _) GD (by omega) hr).2, ?_⟩)
  · obtain ⟨p, nb, dx, q, v, a, b, e, l, nm, rfl, _⟩ := h
    rfl
  · obtain ⟨p, nb, dx, q, v, a, b, e, l, nm, rfl, hp, hq, hC, hN, hok, hev, hlen, k⟩ := h
    have hfl : ∀ (f : Str) (z : V) (H1 : Hp), Ex H H1 → NoAttr K c.line f → (lineV q v l.every a b e).lookup f = some z → Ev (tFld K (tVar 0) f) [some (.ref p), some (.ref nb), none] H1 z := fun f z H1 e1 hn hl H2 e2 Q q => ⟨_, rfl, p, _, dx, _, _, rfl, e2 _ _ (e1 _ _ hp), T.c.c_Line, hn, hl, q H2 (Ex.refl H2)⟩
    have elt : Sj25.lineText nm l = l.name ++ [58] ++ Sj25.shown nm l.c ++ (if l.every = 1 then [] else 47 :: Sj25.digits l.every) := rfl
    rw [elt, List.length_append, List.length_append, List.length_append] at hlen
    refine q_asgX (xs := vN l.name ++ vN [58] ++ vN (Sj25.shown nm l.c)) (ex_cat (ex_cat (ex_listT (hfl "name" _ H (Ex.refl H) T.c.a_Line_name rfl) (SqT.of hq)) (ex_lst (ea_cons ev_c ea_nil) (by show 1 ≤ 100000; decide)) ?_) (ex_cal (ea_cons (hfl "condition" _ H (Ex.refl H) T.c.a_Line_condition rfl) (ea_cons (ev_var rfl) ea_nil)) (fun H1 e1 Q q1 E => ⟨v, nb, l.c, nm, rfl, hC.same e1, hN.same e1, hok, by omega, fun H' p e hp => q1 p H' e hp⟩)) ?_) (fun r H1 e1 h1 => ?_)
    · rw [vN_len]
      simp at hlen
      show _ + 1 ≤ _
      omega
    · simp only [List.length_append, vN_len]
      simp at hlen
      show _ + 1 + _ ≤ _
      omega
    · have h1' : H1 r = some (.lst (vN (l.name ++ [58] ++ Sj25.shown nm l.c))) := by rw [h1, vN_app, vN_app]
      refine ⟨_, rfl, p, _, dx, _, _, rfl, e1 _ _ hp, T.c.c_Line, T.c.a_Line_prescale, rfl, rfl, _, rfl, ite2 (fun q => ?_) (fun q => ?_)⟩
      · have he : l.every = 1 := by have := V.int.inj (of_decide_eq_true q); omega
        refine ⟨_, rfl, k _ r e1 ?_⟩
        rw [elt, if_pos he, List.append_nil]
        exact h1'
      · have he : ¬ l.every = 1 := fun z => q (decide_eq_true (by rw [z]; rfl))
        rw [if_neg he] at hlen elt
        have hdl : (digI (l.every : Int)).length ≤ 7 := digI_len (by rw [Int.natAbs_natCast]; exact hev)
        refine s_retX (xs := vN (l.name ++ [58] ++ Sj25.shown nm l.c) ++ vN [47] ++ vN (digI l.every)) (ex_cat (ex_cat (ex_var rfl h1') (ex_lst (ea_cons ev_c ea_nil) (by show 1 ≤ 100000; decide)) ?_) (ex_cal (ea_cons (fun H2 e2 Q q => ⟨_, rfl, p, _, dx, _, _, rfl, e2 _ _ (e1 _ _ hp), T.c.c_Line, T.c.a_Line_prescale, rfl, q H2 (Ex.refl H2)⟩) ea_nil) (spx_digits (by rw [Int.natAbs_natCast]; exact hev))) ?_) (fun x H2 e2 hx => k _ x (Same.trans e1 e2) ?_)
        · simp only [List.length_append, vN_len]
          simp at hlen
          show _ + 1 + _ + 1 ≤ _
          omega
        · simp only [List.length_append, vN_len]
          simp at hlen
          show _ + 1 + _ + 1 + _ ≤ _
          omega
        · rw [hx, elt, vN_app _ (47 :: _)]
          rw [List.append_assoc]
          rfl
end
end Ev
/-! the plain law: tokens -/
namespace Ev
open Sj25 (Tok tokens isDigit isLetter isSign numberOf)
def isWord (x : Nat) : Bool := isLetter x || isDigit x
/-- the token that begins a text, and the rest -/
def tok1 : List Nat → Option (Tok × List Nat)
  | [] => none
  | c :: r =>
    if isDigit c = true then
      (if 5 < (c :: r.takeWhile isDigit).length then none else some (.num (numberOf (c :: r.takeWhile isDigit)), r.dropWhile isDigit))
    else if isLetter c = true then
      (if 16 < (c :: r.takeWhile isWord).length then none else some (.name (c :: r.takeWhile isWord), r.dropWhile isWord))
    else if isSign c = true then some (.sign c, r) else none
theorem tok1_cons (c : Nat) (r : List Nat) : tok1 (c :: r) = if isDigit c = true then
      (if 5 < (c :: r.takeWhile isDigit).length then none else some (.num (numberOf (c :: r.takeWhile isDigit)), r.dropWhile isDigit))
    else if isLetter c = true then
      (if 16 < (c :: r.takeWhile isWord).length then none else some (.name (c :: r.takeWhile isWord), r.dropWhile isWord))
    else if isSign c = true then some (.sign c, r) else none := rfl
theorem tok1_lt {l : List Nat} {t : Tok} {r : List Nat} (h : tok1 l = some (t, r)) : r.length < l.length := by
  cases l with
  | nil => cases h
  | cons c s =>
    have d1 : ∀ p : Nat → Bool, (s.dropWhile p).length ≤ s.length := fun p => (List.dropWhile_suffix p).length_le
    rw [tok1_cons] at h
    by_cases h1 : isDigit c = true
    · rw [if_pos h1] at h
      by_cases h2 : 5 < (c :: s.takeWhile isDigit).length
      · rw [if_pos h2] at h
        cases h
      · rw [if_neg h2] at h
        cases h
        exact Nat.lt_succ_of_le (d1 _)
    · rw [if_neg h1] at h
      by_cases h3 : isLetter c = true
      · rw [if_pos h3] at h
        by_cases h2 : 16 < (c :: s.takeWhile isWord).length
        · rw [if_pos h2] at h
          cases h
        · rw [if_neg h2] at h
          cases h
          exact Nat.lt_succ_of_le (d1 _)
      · rw [if_neg h3] at h
        by_cases h4 : isSign c = true
        · rw [if_pos h4] at h
          cases h
          exact Nat.lt_succ_self _
        · rw [if_neg h4] at h
          cases h
theorem tokens_cons (f c : Nat) (r : List Nat) : tokens (f + 1) (c :: r) = if c = 32 then tokens f r else if isDigit c = true then
      (if 5 < (c :: r.takeWhile isDigit).length then none else (tokens f (r.dropWhile isDigit)).map fun t => .num (numberOf (c :: r.takeWhile isDigit)) :: t)
    else if isLetter c = true then
      (if 16 < (c :: r.takeWhile isWord).length then none else (tokens f (r.dropWhile isWord)).map fun t => .name (c :: r.takeWhile isWord) :: t)
    else if isSign c = true then (tokens f r).map fun t => .sign c :: t else none := rfl
theorem tokens_step (f c : Nat) (r : List Nat) (hc : c ≠ 32) : tokens (f + 1) (c :: r) = match tok1 (c :: r) with
    | none => none
    | some (t, s) => (tokens f s).map (t :: ·) := by
  rw [tokens_cons, if_neg hc, tok1_cons]
  by_cases h1 : isDigit c = true
  · rw [if_pos h1, if_pos h1]
    by_cases h2 : 5 < (c :: r.takeWhile isDigit).length
    · rw [if_pos h2, if_pos h2]
    · rw [if_neg h2, if_neg h2]
  · rw [if_neg h1, if_neg h1]
    by_cases h3 : isLetter c = true
    · rw [if_pos h3, if_pos h3]
      by_cases h2 : 16 < (c :: r.takeWhile isWord).length
      · rw [if_pos h2, if_pos h2]
      · rw [if_neg h2, if_neg h2]
    · rw [if_neg h3, if_neg h3]
      by_cases h4 : isSign c = true
      · rw [if_pos h4, if_pos h4]
      · rw [if_neg h4, if_neg h4]
theorem tokens_fuel : ∀ (f g : Nat) (l : List Nat), l.length < f → l.length < g → tokens f l = tokens g l
  | 0, _, l, h, _ => absurd h (Nat.not_lt_zero _)
  | _, 0, l, _, h => absurd h (Nat.not_lt_zero _)
  | f + 1, g + 1, [], _, _ => rfl
  | f + 1, g + 1, c :: r, h1, h2 => by
    by_cases hc : c = 32
    · rw [tokens_cons, tokens_cons, if_pos hc, if_pos hc]
      exact tokens_fuel f g r (Nat.lt_of_succ_lt_succ h1) (Nat.lt_of_succ_lt_succ h2)
    · rw [tokens_step f c r hc, tokens_step g c r hc]
      cases e : tok1 (c :: r) with
      | none => rfl
      | some p =>
        obtain ⟨t, s⟩ := p
        have hl := tok1_lt e
        rw [List.length_cons] at hl h1 h2
        show (tokens f s).map (t :: ·) = (tokens g s).map (t :: ·)
        rw [tokens_fuel f g s (by omega) (by omega)]
/-- the tokens of a text line -/
def tk (l : List Nat) : Option (List Tok) := tokens (l.length + 1) l
theorem tk_nil : tk [] = some [] := rfl
theorem tokens_sp (f : Nat) (r : List Nat) : tokens (f + 1) (32 :: r) = tokens f r := by
  rw [tokens_cons, if_pos rfl]
theorem tk_sp (r : List Nat) : tk (32 :: r) = tk r := tokens_sp _ r
theorem tk_tok {c : Nat} {r : List Nat} (hc : c ≠ 32) : tk (c :: r) = match tok1 (c :: r) with
    | none => none
    | some (t, s) => (tk s).map (t :: ·) := by
  unfold tk
  rw [List.length_cons, tokens_step _ c r hc]
  cases e : tok1 (c :: r) with
  | none => rfl
  | some p =>
    obtain ⟨t, s⟩ := p
    have hl := tok1_lt e
    rw [List.length_cons] at hl
    show (tokens (r.length + 1) s).map (t :: ·) = (tokens (s.length + 1) s).map (t :: ·)
    rw [tokens_fuel (r.length + 1) (s.length + 1) s (by omega) (by omega)]
theorem not_both (c : Nat) : isLetter c = true → isDigit c = false := by
  unfold isLetter isDigit
  intro h
  simp only [Bool.or_eq_true, Bool.and_eq_true, decide_eq_true_eq, beq_iff_eq] at h
  rw [Bool.eq_false_iff]
  intro h2
  simp only [Bool.and_eq_true, decide_eq_true_eq] at h2
  omega
/-- a run's end -/
def runEnd (p : Nat → Bool) (l : List Nat) (i : Nat) : Nat := i + ((l.drop i).takeWhile p).length
theorem runEnd_step {p : Nat → Bool} {l : List Nat} {i x : Nat} (h : l[i]? = some x) (hp : p x = true) : runEnd p l (i + 1) = runEnd p l i := by
  unfold runEnd
  rw [List.drop_eq_getElem_cons (List.getElem?_eq_some_iff.mp h).1, (List.getElem?_eq_some_iff.mp h).2, List.takeWhile_cons, if_pos hp, List.length_cons]
  omega
theorem runEnd_stop {p : Nat → Bool} {l : List Nat} {i x : Nat} (h : l[i]? = some x) (hp : p x = false) : runEnd p l i = i := by
  unfold runEnd
  rw [List.drop_eq_getElem_cons (List.getElem?_eq_some_iff.mp h).1, (List.getElem?_eq_some_iff.mp h).2, List.takeWhile_cons, if_neg (by rw [hp]; exact Bool.false_ne_true)]
  rfl
theorem runEnd_end {p : Nat → Bool} {l : List Nat} {i : Nat} (h : l.length ≤ i) : runEnd p l i = i := by
  unfold runEnd
  rw [List.drop_eq_nil_of_le h]
  rfl
theorem runEnd_le (p : Nat → Bool) (l : List Nat) {i : Nat} (h : i ≤ l.length) : i ≤ runEnd p l i ∧ runEnd p l i ≤ l.length := by
  unfold runEnd
  have := (List.takeWhile_prefix (l := l.drop i) p).length_le
  rw [List.length_drop] at this
  omega
theorem run_take (p : Nat → Bool) : ∀ l : List Nat, l.take (l.takeWhile p).length = l.takeWhile p ∧ l.drop (l.takeWhile p).length = l.dropWhile p
  | [] => ⟨rfl, rfl⟩
  | c :: r => by
    obtain ⟨h1, h2⟩ := run_take p r
    rw [List.takeWhile_cons, List.dropWhile_cons]
    split
    · exact ⟨by rw [List.length_cons, List.take_succ_cons, h1], by rw [List.length_cons, List.drop_succ_cons, h2]⟩
    · exact ⟨rfl, rfl⟩
/-- what token_at does at a place -/
theorem tok1_at {l : List Nat} {i c : Nat} (h : l[i]? = some c) : tok1 (l.drop i) =
    if isLetter c = true then (if 16 < runEnd isWord l i - i then none else some (.name ((l.drop i).take (runEnd isWord l i - i)), l.drop (runEnd isWord l i)))
    else if isDigit c = true then (if 5 < runEnd isDigit l i - i then none else some (.num (numberOf ((l.drop i).take (runEnd isDigit l i - i))), l.drop (runEnd isDigit l i)))
    else if isSign c = true then some (.sign c, l.drop (i + 1)) else none := by
  have hd : l.drop i = c :: l.drop (i + 1) := by
    rw [List.drop_eq_getElem_cons (List.getElem?_eq_some_iff.mp h).1, (List.getElem?_eq_some_iff.mp h).2]
  have e1 : ∀ p : Nat → Bool, runEnd p l i - i = ((l.drop i).takeWhile p).length := fun p => by unfold runEnd; omega
  have e2 : ∀ p : Nat → Bool, l.drop (runEnd p l i) = (l.drop i).dropWhile p := fun p => by
    unfold runEnd
    rw [← List.drop_drop, (run_take p (l.drop i)).2]
  rw [e1, e1, e2, e2, (run_take _ _).1, (run_take _ _).1, hd]
  show (if isDigit c = true then (if 5 < (c :: (l.drop (i + 1)).takeWhile isDigit).length then none else some (.num (numberOf (c :: (l.drop (i + 1)).takeWhile isDigit)), (l.drop (i + 1)).dropWhile isDigit))
    else if isLetter c = true then (if 16 < (c :: (l.drop (i + 1)).takeWhile isWord).length then none else some (.name (c :: (l.drop (i + 1)).takeWhile isWord), (l.drop (i + 1)).dropWhile isWord))
    else if isSign c = true then some (Tok.sign c, l.drop (i + 1)) else none) = _
  by_cases hl : isLetter c = true
  · have hw : isWord c = true := by unfold isWord; rw [hl]; rfl
    rw [if_pos hl, if_neg (by rw [not_both c hl]; exact Bool.false_ne_true), if_pos hl, List.takeWhile_cons, if_pos hw, List.dropWhile_cons, if_pos hw]
  · rw [if_neg hl, if_neg hl]
    by_cases hg : isDigit c = true
    · rw [if_pos hg, if_pos hg, List.takeWhile_cons, if_pos hg, List.dropWhile_cons, if_pos hg]
    · rw [if_neg hg, if_neg hg]
theorem runEnd_self {p : Nat → Bool} {l : List Nat} {i c : Nat} (h : l[i]? = some c) (hp : p c = true) : i < runEnd p l i := by
  rw [← runEnd_step h hp]
  have := (List.getElem?_eq_some_iff.mp h).1
  have := (runEnd_le p l (i := i + 1) (by omega)).1
  omega
end Ev
namespace Ev
open PySem PySem.Spec PyProof.Rows L2
open Sj25 (isDigit isLetter isSign numberOf)
/-! ### tokens -/
/-- a token stands at q -/
def TokAt (H : Hp) (q : Addr) : Sj25.Tok → Prop
  | Sj25.Tok.name l => ∃ r : Addr, H q = some (.tup [.str "name", .ref r]) ∧ H r = some (.tup (vN l))
  | Sj25.Tok.num n => H q = some (.tup [.str "number", .int n])
  | Sj25.Tok.sign s => H q = some (.tup [.str "sign", .int s])
theorem TokAt.same {H H' : Hp} {q : Addr} {t : Sj25.Tok} (e : Same H H') (h : TokAt H q t) : TokAt H' q t := by
  cases t with
  | name l =>
    obtain ⟨r, h1, h2⟩ := h
    exact ⟨r, e _ _ h1, e _ _ h2⟩
  | num n => exact e _ _ h
  | sign s => exact e _ _ h
section
variable {P : Program} {w : World} {K : PySem.W.Frag} {mg : Str → Option Value} {base : Heap} {c : Cs}
def spWant (BL : Addr) : Sp := fun vs H Q E => ∃ b : Bool, vs = [.bl b] ∧ (b = true → Q .non H) ∧ (b = false → E (.ref BL) none H)
noncomputable def D_want {f : Addr} {cdv : Value} {A : Around} {outer : List Env} {s : Shared} {H : Hp} {E : XK} {j : Nat} (T : Txt K mg c) (hr : Room j (A.deeper (envOfC "want" (defScope s_want) s.heap.objs.size f cdv))) :
    { t : TS // PSs (XN P w K mg base n_want "want" s_want f cdv A outer s H E) (defBody s_want) t } :=
  ⟨_, pss_one (ps_if (pt_not (pt_val (pv 0))) (pss_one (L2N.ps_raise rfl (L2N.takes_of rfl rfl rfl rfl) (L2N.pmk_own PySem.F.excBase_ValueError T.x.xL T.x.gL T.x.kL (raises_own T.x.sL T.x.tL) (by exact rfl)))) pss_nil)⟩
theorem ok_want (T : Txt K mg c) : Cal P w K mg base (L2N.CX P w) 1 "want" (spWant c.badLine) := by
  refine cal_of T.f.f_want sc_want b_want (fun vs H Q E h => ?_) (fun f cdv A outer s H vs Q E hr h => ⟨_, (D_want T hr).2, ?_⟩)
  · obtain ⟨b, rfl, _⟩ := h
    rfl
  · obtain ⟨b, rfl, k1, k2⟩ := h
    refine ⟨_, rfl, _, rfl, ?_⟩
    cases b with
    | true => exact k1 rfl
    | false => exact k2 rfl
def spLet : Sp := fun vs H Q _ => ∃ b : Nat, vs = [.int b] ∧ Q (.bl (isLetter b)) H
def spDig : Sp := fun vs H Q _ => ∃ b : Nat, vs = [.int b] ∧ Q (.bl (isDigit b)) H
theorem ok_is_digit (T : Txt K mg c) : Cal P w K mg base CX0 1 "is_digit" spDig := by
  refine cal_of0 T.f.f_is_digit sc_is_digit b_is_digit (fun vs H Q E h => ?_) (fun f cdv A outer s H vs Q E hr h => ⟨_, (D_is_digit T hr).2, ?_⟩)
  · obtain ⟨b, rfl, _⟩ := h
    rfl
  · obtain ⟨b, rfl, k⟩ := h
    unfold isDigit at k
    refine ⟨_, rfl, _, _, rfl, rfl, _, rfl, ite2 (fun q => ?_) (fun q => ?_)⟩
    · have hb : 48 ≤ b := by have := of_decide_eq_true q; omega
      rw [decide_eq_true hb, Bool.true_and] at k
      refine ⟨_, _, rfl, rfl, ?_⟩
      rw [show decide (b ≤ 57) = decide ((b : Int) ≤ 57) from decide_eq_decide.mpr (by omega)] at k
      exact k
    · have hb : ¬ 48 ≤ b := fun z => q (decide_eq_true (by omega))
      rw [decide_eq_false hb, Bool.false_and] at k
      exact k
theorem ok_is_letter (T : Txt K mg c) : Cal P w K mg base CX0 1 "is_letter" spLet := by
  refine cal_of0 T.f.f_is_letter sc_is_letter b_is_letter (fun vs H Q E h => ?_) (fun f cdv A outer s H vs Q E hr h => ⟨_, (D_is_letter T hr).2, ?_⟩)
  · obtain ⟨b, rfl, _⟩ := h
    rfl
  · obtain ⟨b, rfl, k⟩ := h
    have chain : ∀ (lo hi : Nat) (Q2 : VK), Q2 (.bl (decide (lo ≤ b) && decide (b ≤ hi))) H → tChain (rI0 fun i j => .bl (decide (i ≤ j))) (rI0 fun i j => .bl (decide (i ≤ j))) (tC (.int lo)) (tVar 0) (tC (.int hi)) (start n_is_letter [.int b]) H Q2 := by
      intro lo hi Q2 k2
      refine ⟨_, rfl, _, _, rfl, rfl, _, rfl, ite2 (fun q => ?_) (fun q => ?_)⟩
      · have hb : lo ≤ b := by have := of_decide_eq_true q; omega
        rw [decide_eq_true hb, Bool.true_and] at k2
        refine ⟨_, _, rfl, rfl, ?_⟩
        rw [show decide (b ≤ hi) = decide ((b : Int) ≤ hi) from decide_eq_decide.mpr (by omega)] at k2
        exact k2
      · have hb : ¬ lo ≤ b := fun z => q (decide_eq_true (by omega))
        rw [decide_eq_false hb, Bool.false_and] at k2
        exact k2
    have e1 : isLetter b = (decide (65 ≤ b) && decide (b ≤ 90) || (decide (97 ≤ b) && decide (b ≤ 122) || decide (b = 95))) := by
      unfold isLetter
      rw [Bool.or_comm (decide (97 ≤ b) && decide (b ≤ 122)), Bool.or_assoc]
      rfl
    rw [e1] at k
    refine chain 65 90 _ ⟨_, rfl, ite2 (fun q => ?_) (fun q => ?_)⟩
    · rw [q, Bool.true_or] at k
      exact k
    · rw [Bool.eq_false_iff.mpr q, Bool.false_or] at k
      refine chain 97 122 _ ⟨_, rfl, ite2 (fun q => ?_) (fun q => ?_)⟩
      · rw [q, Bool.true_or] at k
        exact k
      · rw [Bool.eq_false_iff.mpr q, Bool.false_or] at k
        refine ⟨_, rfl, rfl, ?_⟩
        rw [show decide (b = 95) = decide (V.int (b : Int) = V.int 95) from decide_eq_decide.mpr ⟨fun z => congrArg V.int (by omega), fun z => by have := V.int.inj z; omega⟩] at k
        exact k
def spRun (K : PySem.W.Frag) (p : Nat → Bool) : Sp := fun vs H Q _ => ∃ (a : Addr) (l : List Nat) (i : Nat), vs = [.ref a, .int i] ∧ SqL K H a (vN l) ∧ i ≤ l.length ∧ Q (.int (runEnd p l i)) H
theorem ok_digits_end (T : Txt K mg c) : Cal P w K mg base CX0 2 "digits_end" (spRun K isDigit) := by
  have GD : Cal P w K mg base CX0 1 "is_digit" spDig := ok_is_digit T
  refine cal_of0 T.f.f_digits_end sc_digits_end b_digits_end (fun vs H Q E h => ?_) (fun f cdv A outer s H vs Q E hr h => ⟨_, (D_digits_end T GD (Nat.le_refl _) hr).2, ?_⟩)
  · obtain ⟨a, l, i, rfl, _⟩ := h
    rfl
  · obtain ⟨a, l, i, rfl, hS, hi, k⟩ := h
    refine ⟨fun m σ H' => H' = H ∧ ∃ j : Nat, σ = [some (.ref a), some (.int j)] ∧ j ≤ l.length ∧ m = l.length - j ∧ runEnd isDigit l j = runEnd isDigit l i, ⟨_, rfl, i, rfl, hi, rfl, rfl⟩, ?_⟩
    rintro m σ H' ⟨rfl, j, rfl, hj, rfl, he⟩
    refine ⟨_, rfl, _, rfl, a, _, rfl, .inl hS, _, _, rfl, rfl, _, rfl, ite2 (fun q => ?_) (fun q => ?_)⟩
    · have hlt : j < l.length := by
        have := of_decide_eq_true q
        rw [vN_len] at this
        omega
      have hx : l[j]? = some (l[j]) := List.getElem?_eq_getElem hlt
      refine ⟨_, rfl, _, rfl, a, _, _, _, rfl, rfl, hS, atI_nat (map_at hx), _, rfl, _, rfl, ite2 (fun q => ?_) (fun q => ?_)⟩
      · refine ⟨fun σ' H2 => H2 = H' ∧ σ' = [some (.ref a), some (.int ((j + 1 : Nat) : Int))], fun σ' H2 ⟨h1, h2⟩ => ⟨l.length - (j + 1), by omega, h1, j + 1, h2, by omega, rfl, by rw [runEnd_step hx q]; exact he⟩, ?_⟩
        exact ⟨_, rfl, _, _, rfl, rfl, rfl, rfl⟩
      · rw [runEnd_stop hx (Bool.eq_false_iff.mpr q)] at he
        rw [← he] at k
        exact ⟨_, rfl, k⟩
    · have hge : l.length ≤ j := by
        have : ¬ ((j : Int) < (vN l).length) := fun z => q (decide_eq_true z)
        rw [vN_len] at this
        omega
      rw [runEnd_end hge] at he
      rw [← he] at k
      exact ⟨_, rfl, k⟩
theorem ok_name_end (T : Txt K mg c) : Cal P w K mg base CX0 2 "name_end" (spRun K isWord) := by
  have GD : Cal P w K mg base CX0 1 "is_digit" spDig := ok_is_digit T
  have GL : Cal P w K mg base CX0 1 "is_letter" spLet := ok_is_letter T
  refine cal_of0 T.f.f_name_end sc_name_end b_name_end (fun vs H Q E h => ?_) (fun f cdv A outer s H vs Q E hr h => ⟨_, (D_name_end T GD (Nat.le_refl _) GL (Nat.le_refl _) hr).2, ?_⟩)
  · obtain ⟨a, l, i, rfl, _⟩ := h
    rfl
  · obtain ⟨a, l, i, rfl, hS, hi, k⟩ := h
    refine ⟨fun m σ H' => H' = H ∧ ∃ j : Nat, σ = [some (.ref a), some (.int j)] ∧ j ≤ l.length ∧ m = l.length - j ∧ runEnd isWord l j = runEnd isWord l i, ⟨_, rfl, i, rfl, hi, rfl, rfl⟩, ?_⟩
    rintro m σ H' ⟨rfl, j, rfl, hj, rfl, he⟩
    refine ⟨_, rfl, _, rfl, a, _, rfl, .inl hS, _, _, rfl, rfl, _, rfl, ite2 (fun q => ?_) (fun q => ?_)⟩
    · have hlt : j < l.length := by
        have := of_decide_eq_true q
        rw [vN_len] at this
        omega
      have hx : l[j]? = some (l[j]) := List.getElem?_eq_getElem hlt
      have yes : isWord l[j] = true → ∃ N : L2.St → Hp → Prop, (∀ σ' H2, N σ' H2 → ∃ m', m' < l.length - j ∧ (H2 = H' ∧ ∃ j : Nat, σ' = [some (.ref a), some (.int j)] ∧ j ≤ l.length ∧ m' = l.length - j ∧ runEnd isWord l j = runEnd isWord l i)) ∧ N [some (.ref a), some (.int ((j : Int) + 1))] H' := fun hw =>
        ⟨fun σ' H2 => H2 = H' ∧ σ' = [some (.ref a), some (.int ((j + 1 : Nat) : Int))], fun σ' H2 ⟨h1, h2⟩ => ⟨l.length - (j + 1), by omega, h1, j + 1, h2, by omega, rfl, by rw [runEnd_step hx hw]; exact he⟩, rfl, rfl⟩
      refine ⟨_, rfl, _, rfl, a, _, _, _, rfl, rfl, hS, atI_nat (map_at hx), _, rfl, _, rfl, ite2 (fun q => ?_) (fun q => ?_)⟩
      · obtain ⟨N, h1, h2⟩ := yes (by unfold isWord; rw [q]; rfl)
        exact ⟨N, h1, _, rfl, _, _, rfl, rfl, h2⟩
      · refine ⟨_, rfl, _, rfl, a, _, _, _, rfl, rfl, hS, atI_nat (map_at hx), _, rfl, _, rfl, ite2 (fun q2 => ?_) (fun q2 => ?_)⟩
        · obtain ⟨N, h1, h2⟩ := yes (by unfold isWord; rw [q2, Bool.or_true])
          exact ⟨N, h1, _, rfl, _, _, rfl, rfl, h2⟩
        · rw [runEnd_stop hx (by unfold isWord; rw [Bool.eq_false_iff.mpr q, Bool.eq_false_iff.mpr q2]; rfl)] at he
          rw [← he] at k
          exact ⟨_, rfl, k⟩
    · have hge : l.length ≤ j := by
        have : ¬ ((j : Int) < (vN l).length) := fun z => q (decide_eq_true z)
        rw [vN_len] at this
        omega
      rw [runEnd_end hge] at he
      rw [← he] at k
      exact ⟨_, rfl, k⟩
def spNumOf : Sp := fun vs H Q _ => ∃ (a : Addr) (l : List Nat), vs = [.ref a] ∧ H a = some (.lst (vN l)) ∧ (∀ x ∈ l, 48 ≤ x) ∧ Q (.int (numberOf l)) H
theorem num_snoc (l : List Nat) (x : Nat) : numberOf (l ++ [x]) = 10 * numberOf l + (x - 48) := by
  unfold numberOf
  rw [List.foldl_append]
  rfl
theorem ok_number_of (T : Txt K mg c) : Cal P w K mg base CX0 1 "number_of" spNumOf := by
  refine cal_of0 T.f.f_number_of sc_number_of b_number_of (fun vs H Q E h => ?_) (fun f cdv A outer s H vs Q E hr h => ⟨_, (D_number_of T hr).2, ?_⟩)
  · obtain ⟨a, l, rfl, _⟩ := h
    rfl
  · obtain ⟨a, l, rfl, ha, hl, k⟩ := h
    refine ⟨_, rfl, a, rfl, ⟨_, SqL.of ha⟩, for_it (walk_list (xs := vN l)) (fun i σ H' => H' = H ∧ ∃ v2 : Option V, σ = [some (.ref a), some (.int (numberOf (l.take i))), v2]) ⟨rfl, none, rfl⟩ (fun i σ H' _ p => by rw [p.1]; exact SqL.of ha) ?_ ?_⟩
    · rintro i x σ H1 H2 hi ⟨rfl, v2, rfl⟩ ⟨rfl, hx⟩
      obtain ⟨y, hy, rfl⟩ := map_inv hx
      have hy48 := hl y (List.mem_of_getElem? hy)
      refine ⟨_, rfl, _, _, rfl, rfl, .inl ⟨by decide, by decide⟩, _, rfl, _, _, rfl, rfl, _, _, rfl, rfl, rfl, some (.int y), ?_⟩
      rw [take_snoc hy, num_snoc]
      have e : (10 * ((numberOf (l.take i) : Nat) : Int) + (y : Int) - 48) = ((10 * numberOf (l.take i) + (y - 48) : Nat) : Int) := by omega
      rw [← e]
      rfl
    · rintro σ H1 ⟨rfl, v2, rfl⟩
      rw [vN_len, List.take_length]
      exact ⟨_, rfl, k⟩
end
end Ev
namespace Ev
open PySem PySem.Spec PyProof.Rows L2
open Sj25 (isDigit isLetter isSign numberOf)
theorem sign_in (x : Nat) : inV (.int (x : Int)) [.int 33, .int 38, .int 40, .int 41, .int 43, .int 45, .int 47, .int 58, .int 60, .int 62, .int 63, .int 64, .int 94, .int 124, .int 126] = isSign x := by
  have e : ∀ y : Nat, eqV (.int (y : Int)) (.int (x : Int)) = (x == y) := fun y => by
    show ((y : Int) == (x : Int)) = (x == y)
    by_cases h : x = y
    · rw [h, beq_self_eq_true, beq_self_eq_true]
    · rw [beq_false_of_ne h, beq_false_of_ne (by omega)]
  show (eqV (.int ((33 : Nat) : Int)) _ || (eqV (.int ((38 : Nat) : Int)) _ || (eqV (.int ((40 : Nat) : Int)) _ || (eqV (.int ((41 : Nat) : Int)) _ || (eqV (.int ((43 : Nat) : Int)) _ || (eqV (.int ((45 : Nat) : Int)) _ || (eqV (.int ((47 : Nat) : Int)) _ || (eqV (.int ((58 : Nat) : Int)) _ || (eqV (.int ((60 : Nat) : Int)) _ || (eqV (.int ((62 : Nat) : Int)) _ || (eqV (.int ((63 : Nat) : Int)) _ || (eqV (.int ((64 : Nat) : Int)) _ || (eqV (.int ((94 : Nat) : Int)) _ || (eqV (.int ((124 : Nat) : Int)) _ || (eqV (.int ((126 : Nat) : Int)) _ || false))))))))))))))) = _
  simp only [e]
  unfold isSign
  simp only [List.contains_cons, List.contains_nil]
theorem TokAt.mut {H : Hp} {D q : Addr} {xs : List V} {o : HO} {t : Sj25.Tok} (hD : H D = some (.lst xs)) (h : TokAt H q t) : TokAt (upd H D o) q t := by
  cases t with
  | name l =>
    obtain ⟨r, h1, h2⟩ := h
    exact ⟨r, by rw [upd_ne (ne_of h1 hD (by intro z; cases z))]; exact h1, by rw [upd_ne (ne_of h2 hD (by intro z; cases z))]; exact h2⟩
  | num n => show upd H D o q = _; rw [upd_ne (ne_of h hD (by intro z; cases z))]; exact h
  | sign s => show upd H D o q = _; rw [upd_ne (ne_of h hD (by intro z; cases z))]; exact h
def ToksAt (H : Hp) (qs : List Addr) (ts : List Sj25.Tok) : Prop := qs.length = ts.length ∧ ∀ (i : Nat) (q : Addr), qs[i]? = some q → ∃ t, ts[i]? = some t ∧ TokAt H q t
theorem ToksAt.same {H H' : Hp} {qs : List Addr} {ts : List Sj25.Tok} (e : Same H H') (h : ToksAt H qs ts) : ToksAt H' qs ts := by
  refine ⟨h.1, fun i q hq => ?_⟩
  obtain ⟨t, h1, h2⟩ := h.2 i q hq
  exact ⟨t, h1, h2.same e⟩
theorem ToksAt.mut {H : Hp} {D : Addr} {xs : List V} {o : HO} {qs : List Addr} {ts : List Sj25.Tok} (hD : H D = some (.lst xs)) (h : ToksAt H qs ts) : ToksAt (upd H D o) qs ts := by
  refine ⟨h.1, fun i q hq => ?_⟩
  obtain ⟨t, h1, h2⟩ := h.2 i q hq
  exact ⟨t, h1, h2.mut hD⟩
theorem ToksAt.snoc {H : Hp} {qs : List Addr} {ts : List Sj25.Tok} {q : Addr} {t : Sj25.Tok} (h : ToksAt H qs ts) (hq : TokAt H q t) : ToksAt H (qs ++ [q]) (ts ++ [t]) := by
  refine ⟨by rw [List.length_append, List.length_append, h.1]; rfl, fun i r hr => ?_⟩
  by_cases hil : i < qs.length
  · rw [List.getElem?_append_left hil] at hr
    obtain ⟨t', h1, h2⟩ := h.2 i r hr
    exact ⟨t', by rw [List.getElem?_append_left (by rw [← h.1]; exact hil)]; exact h1, h2⟩
  · rw [List.getElem?_append_right (by omega)] at hr
    have h0 : i - qs.length = 0 := by
      have := (List.getElem?_eq_some_iff.mp hr).1
      simp at this
      omega
    rw [h0] at hr
    obtain rfl : q = r := Option.some.inj hr
    exact ⟨t, by rw [List.getElem?_append_right (by rw [← h.1]; omega), ← h.1, h0]; rfl, hq⟩
/-- what token_at, tokens_of answer -/
def spTokenAt (K : PySem.W.Frag) (BL : Addr) : Sp := fun vs H Q E => ∃ (a : Addr) (l : List Nat) (i x : Nat), vs = [.ref a, .int i] ∧ H a = some (.lst (vN l)) ∧ l[i]? = some x ∧
  (tok1 (l.drop i) = none → E (.ref BL) none H) ∧
  ∀ t j, tok1 (l.drop i) = some (t, l.drop j) → i < j → j ≤ l.length → ∀ H' p q, Same H H' → H' p = some (.tup [.ref q, .int j]) → TokAt H' q t → Q (.ref p) H'
def spTokens (BL : Addr) : Sp := fun vs H Q E => ∃ (a : Addr) (l : List Nat), vs = [.ref a] ∧ H a = some (.lst (vN l)) ∧ l.length ≤ 100000 ∧
  (tk l = none → ∀ H', Same H H' → E (.ref BL) none H') ∧
  ∀ ts, tk l = some ts → ∀ H' p (qs : List Addr) (e : Addr), Same H H' → H' p = some (.lst (qs.map V.ref ++ [.ref e])) → H' e = some (.tup [.str "end", .int 0]) → ToksAt H' qs ts → Q (.ref p) H'
section
variable {P : Program} {w : World} {K : PySem.W.Frag} {mg : Str → Option Value} {base : Heap} {c : Cs}
theorem ok_token_at (T : Txt K mg c) : Cal P w K mg base (L2N.CX P w) 3 "token_at" (spTokenAt K c.badLine) := by
  have GN : Cal P w K mg base CX0 2 "name_end" (spRun K isWord) := ok_name_end T
  have GW : Cal P w K mg base (L2N.CX P w) 1 "want" (spWant c.badLine) := ok_want T
  have GL : Cal P w K mg base CX0 1 "is_letter" spLet := ok_is_letter T
  have GE : Cal P w K mg base CX0 2 "digits_end" (spRun K isDigit) := ok_digits_end T
  have GO : Cal P w K mg base CX0 1 "number_of" spNumOf := ok_number_of T
  have GD : Cal P w K mg base CX0 1 "is_digit" spDig := ok_is_digit T
  obtain ⟨aS, gS, tS⟩ := T.k.t_SIGNS
  refine cal_of T.f.f_token_at sc_token_at b_token_at (fun vs H Q E h => ?_) (fun f cdv A outer s H vs Q E hr h => ⟨_, (D_token_at T GN (by decide) GW (by decide) GL (by decide) GE (by decide) GO (by decide) GD (by decide) gS hr).2, ?_⟩)
  · obtain ⟨a, l, i, x, rfl, _⟩ := h
    rfl
  · obtain ⟨a, l, i, x, rfl, ha, hx, kx, k⟩ := h
    have hS : SqL K H a (vN l) := SqL.of ha
    have hil : i < l.length := (List.getElem?_eq_some_iff.mp hx).1
    rw [tok1_at hx] at kx k
    refine ⟨_, rfl, _, rfl, a, _, _, _, rfl, rfl, hS, atI_nat (map_at hx), ?_⟩
    refine ⟨_, rfl, x, rfl, _, rfl, ite2 (fun q => ?_) (fun q => ?_)⟩
    · rw [if_pos q] at kx k
      have hb := runEnd_le isWord l (Nat.le_of_lt hil)
      have hlt := runEnd_self (p := isWord) hx (by unfold isWord; rw [q]; rfl)
      revert hb hlt kx k
      generalize hj : runEnd isWord l i = j
      intro kx k hb hlt
      refine ⟨_, rfl, _, rfl, a, l, i, rfl, hS, Nat.le_of_lt hil, ?_⟩
      rw [hj]
      refine ⟨_, rfl, _, rfl, _, _, rfl, rfl, _, _, rfl, rfl, decide ((j : Int) - i ≤ 16), rfl, fun hw => ?_, fun hw => kx (if_pos ?_)⟩
      · have hw := of_decide_eq_true hw
        rw [if_neg (by omega)] at k
        refine ⟨_, rfl, _, rfl, _, rfl, _, rfl, _, rfl, a, _, rfl, hS, fun p1 n1 => ?_⟩
        have e1 := Same.new (o := .lst (cutV (vN l) (some (i : Int)) (some (j : Int)))) n1
        refine ⟨p1, _, rfl, .inl ⟨SqL.of upd_same, fun p2 n2 => ?_⟩⟩
        have e2 := Same.new (o := .tup (cutV (vN l) (some (i : Int)) (some (j : Int)))) n2
        refine ⟨by show 2 ≤ sizeLine; decide, fun p3 n3 => ⟨_, rfl, by show 2 ≤ sizeLine; decide, fun p4 n4 => ?_⟩⟩
        have e3 := Same.new (o := .tup [.str "name", .ref p2]) n3
        have e4 := Same.new (o := .tup [.ref p3, .int (j : Int)]) n4
        refine k _ j rfl hlt hb.2 _ p4 p3 (((e1.trans e2).trans e3).trans e4) upd_same ⟨p2, e4 _ _ upd_same, ?_⟩
        rw [(e3.trans e4) _ _ upd_same, cut_nn _ _ _ (by rw [vN_len]; omega) (by rw [vN_len]; omega), vN_drop, vN_take]
      · have hw := of_decide_eq_false hw
        omega
    · rw [if_neg q] at kx k
      refine ⟨_, rfl, x, rfl, _, rfl, ite2 (fun q2 => ?_) (fun q2 => ?_)⟩
      · rw [if_pos q2] at kx k
        have hb := runEnd_le isDigit l (Nat.le_of_lt hil)
        have hlt := runEnd_self (p := isDigit) hx q2
        have htw : (l.drop i).take (runEnd isDigit l i - i) = (l.drop i).takeWhile isDigit := by
          rw [show runEnd isDigit l i - i = ((l.drop i).takeWhile isDigit).length by unfold runEnd; omega, (run_take _ _).1]
        revert hb hlt kx k htw
        generalize hj : runEnd isDigit l i = j
        intro kx k hb hlt htw
        refine ⟨_, rfl, _, rfl, a, l, i, rfl, hS, Nat.le_of_lt hil, ?_⟩
        rw [hj]
        refine ⟨_, rfl, _, rfl, _, _, rfl, rfl, _, _, rfl, rfl, decide ((j : Int) - i ≤ 5), rfl, fun hw => ?_, fun hw => kx (if_pos ?_)⟩
        · have hw := of_decide_eq_true hw
          rw [if_neg (by omega)] at k
          refine ⟨_, rfl, _, rfl, _, rfl, _, rfl, _, rfl, a, _, rfl, hS, fun p1 n1 => ?_⟩
          have e1 := Same.new (o := .lst (cutV (vN l) (some (i : Int)) (some (j : Int)))) n1
          refine ⟨p1, (l.drop i).take (j - i), rfl, ?_, fun y hy => ?_, ?_⟩
          · rw [upd_same, cut_nn _ _ _ (by rw [vN_len]; omega) (by rw [vN_len]; omega), vN_drop, vN_take]
          · rw [htw] at hy
            have := List.all_eq_true.mp (List.all_takeWhile (p := isDigit) (l := l.drop i)) y hy
            unfold isDigit at this
            simp only [Bool.and_eq_true, decide_eq_true_eq] at this
            exact this.1
          · refine ⟨by show 2 ≤ sizeLine; decide, fun p3 n3 => ⟨_, rfl, by show 2 ≤ sizeLine; decide, fun p4 n4 => ?_⟩⟩
            have e3 := Same.new (o := .tup [.str "number", .int (numberOf ((l.drop i).take (j - i)))]) n3
            have e4 := Same.new (o := .tup [.ref p3, .int (j : Int)]) n4
            exact k _ j rfl hlt hb.2 _ p4 p3 ((e1.trans e3).trans e4) upd_same (e4 _ _ upd_same)
        · have hw := of_decide_eq_false hw
          omega
      · rw [if_neg q2] at kx k
        refine ⟨_, rfl, aS, _, rfl, .inr tS.sq, rfl, rfl, isSign x, ?_, fun hw => ?_, fun hw => kx (if_neg (by rw [hw]; exact Bool.false_ne_true))⟩
        · rw [sign_in]
          rfl
        · rw [if_pos hw] at k
          refine ⟨_, rfl, by show 2 ≤ sizeLine; decide, fun p3 n3 => ⟨_, rfl, _, _, rfl, rfl, by show 2 ≤ sizeLine; decide, fun p4 n4 => ?_⟩⟩
          have e3 := Same.new (o := .tup [.str "sign", .int (x : Int)]) n3
          have e4 := Same.new (o := .tup [.ref p3, .int ((i : Int) + 1)]) n4
          exact k _ (i + 1) rfl (Nat.lt_succ_self _) hil _ p4 p3 (e3.trans e4) upd_same (e4 _ _ upd_same)
theorem tok1_full {l : List Nat} {i x : Nat} {t : Sj25.Tok} {r : List Nat} (hx : l[i]? = some x) (h : tok1 (l.drop i) = some (t, r)) : ∃ j, r = l.drop j ∧ i < j ∧ j ≤ l.length := by
  have hil : i < l.length := (List.getElem?_eq_some_iff.mp hx).1
  rw [tok1_at hx] at h
  by_cases h1 : isLetter x = true
  · rw [if_pos h1] at h
    by_cases h2 : 16 < runEnd isWord l i - i
    · rw [if_pos h2] at h
      cases h
    · rw [if_neg h2] at h
      cases h
      exact ⟨_, rfl, runEnd_self hx (by unfold isWord; rw [h1]; rfl), (runEnd_le isWord l (Nat.le_of_lt hil)).2⟩
  · rw [if_neg h1] at h
    by_cases h3 : isDigit x = true
    · rw [if_pos h3] at h
      by_cases h2 : 5 < runEnd isDigit l i - i
      · rw [if_pos h2] at h
        cases h
      · rw [if_neg h2] at h
        cases h
        exact ⟨_, rfl, runEnd_self hx h3, (runEnd_le isDigit l (Nat.le_of_lt hil)).2⟩
    · rw [if_neg h3] at h
      by_cases h4 : isSign x = true
      · rw [if_pos h4] at h
        cases h
        exact ⟨_, rfl, Nat.lt_succ_self _, hil⟩
      · rw [if_neg h4] at h
        cases h
theorem ok_tokens_of (T : Txt K mg c) : Cal P w K mg base (L2N.CX P w) 4 "tokens_of" (spTokens c.badLine) := by
  have GT : Cal P w K mg base (L2N.CX P w) 3 "token_at" (spTokenAt K c.badLine) := ok_token_at T
  refine cal_of T.f.f_tokens_of sc_tokens_of b_tokens_of (fun vs H Q E h => ?_) (fun f cdv A outer s H vs Q E hr h => ⟨_, (D_tokens_of T GT (by decide) hr).2, ?_⟩)
  · obtain ⟨a, l, rfl, _⟩ := h
    rfl
  · obtain ⟨a, l, rfl, ha, hl, kx, k⟩ := h
    refine ⟨by show 0 ≤ _; exact Nat.zero_le _, fun D hD => ?_⟩
    refine ⟨fun m σ H' => ∃ (i : Nat) (qs : List Addr) (ts : List Sj25.Tok) (v3 : Option V), σ = [some (.ref a), some (.ref D), some (.int i), v3] ∧ Same H H' ∧ H' D = some (.lst (qs.map V.ref)) ∧ i ≤ l.length ∧ m = l.length - i ∧ qs.length ≤ i ∧
      ToksAt H' qs ts ∧ tk l = (tk (l.drop i)).map (ts ++ ·), ⟨_, 0, [], [], none, rfl, Same.new hD, upd_same, Nat.zero_le _, rfl, Nat.le_refl _, ⟨rfl, fun i q h => by simp at h⟩, ?_⟩, ?_⟩
    · rw [List.drop_zero]
      cases tk l <;> rfl
    rintro m σ H1 ⟨i, qs, ts, v3, rfl, e1, h1, hi, rfl, hqi, hT, ht⟩
    have hS : SqL K H1 a (vN l) := SqL.of (e1 _ _ ha)
    refine ⟨_, rfl, _, rfl, a, _, rfl, .inl hS, _, _, rfl, rfl, _, rfl, ite2 (fun q => ?_) (fun q => ?_)⟩
    · have hlt : i < l.length := by
        have := of_decide_eq_true q
        rw [vN_len] at this
        omega
      have hx : l[i]? = some (l[i]) := List.getElem?_eq_getElem hlt
      have hdx : l.drop i = l[i] :: l.drop (i + 1) := List.drop_eq_getElem_cons hlt
      revert hx hdx
      generalize l[i] = x
      intro hx hdx
      refine ⟨_, fun σ' H2 h => h, _, rfl, _, rfl, a, _, _, _, rfl, rfl, hS, atI_nat (map_at hx), rfl, _, rfl, ite2 (fun q => ?_) (fun q => ?_)⟩
      · have hx32 : x = 32 := by have := V.int.inj (of_decide_eq_true q); omega
        refine ⟨_, rfl, _, _, rfl, rfl, l.length - (i + 1), by omega, i + 1, qs, ts, v3, rfl, e1, h1, hlt, rfl, by omega, hT, ?_⟩
        rw [ht, hdx, hx32, tk_sp]
      · have hx32 : x ≠ 32 := fun z => q (decide_eq_true (by rw [z]; rfl))
        have htk : tk (l.drop i) = match tok1 (l.drop i) with | none => none | some (t, s) => (tk s).map (t :: ·) := by
          rw [hdx]
          exact tk_tok hx32
        refine ⟨_, rfl, _, rfl, a, l, i, x, rfl, e1 _ _ ha, hx, fun hn => kx ?_ _ e1, fun t j h9 hij hj H2 p q e2 h2 h3 => ?_⟩
        · rw [ht, htk, hn]
          rfl
        · refine ⟨p, _, rfl, SqT.of h2, rfl, ?_⟩
          refine ⟨_, _, rfl, _, _, rfl, rfl, _, rfl, .inl ⟨rfl, _, SqL.of (e2 _ _ h1)⟩, _, rfl, D, _, _, rfl, rfl, e2 _ _ h1, ?_, l.length - j, by omega, j, qs ++ [q], ts ++ [t], _, rfl, (e1.trans e2).mut hD, ?_, hj, rfl, ?_, ((hT.same e2).snoc h3).mut (e2 _ _ h1), ?_⟩
          · rw [List.length_map]
            show qs.length < 16777216
            omega
          · rw [upd_same, List.map_append]
            rfl
          · rw [List.length_append, List.length_singleton]
            omega
          · rw [ht, htk, h9]
            show ((tk (l.drop j)).map (t :: ·)).map (ts ++ ·) = (tk (l.drop j)).map (ts ++ [t] ++ ·)
            cases tk (l.drop j) with
            | none => rfl
            | some z =>
              show some (ts ++ t :: z) = some (ts ++ [t] ++ z)
              rw [List.append_assoc]
              rfl
    · have hge : l.length ≤ i := by
        have : ¬ ((i : Int) < (vN l).length) := fun z => q (decide_eq_true z)
        rw [vN_len] at this
        omega
      rw [List.drop_eq_nil_of_le hge, tk_nil] at ht
      have ht : tk l = some ts := by rw [ht]; show some (ts ++ []) = _; rw [List.append_nil]
      refine ⟨_, rfl, by show 2 ≤ sizeLine; decide, fun p1 n1 => ⟨by show 1 ≤ sizeLine; decide, fun p2 n2 => ?_⟩⟩
      have f1 := Same.new (o := .tup [.str "end", .int 0]) n1
      have f2 := Same.new (o := .lst [.ref p1]) n2
      refine ⟨D, p2, _, _, rfl, rfl, (f1.trans f2) _ _ h1, upd_same, ?_, fun p3 n3 => ?_⟩
      · rw [List.length_map]
        show qs.length + 1 ≤ 16777216
        omega
      · have f3 := Same.new (o := .lst (qs.map V.ref ++ [.ref p1])) n3
        exact k ts ht _ p3 qs p1 (((e1.trans f1).trans f2).trans f3) upd_same ((f2.trans f3) _ _ upd_same) (hT.same ((f1.trans f2).trans f3))
end
end Ev
/-! the plain law: the parser -/
namespace Ev
open Sj25 (Cond simple kindOf lineOf Parsed)
abbrev Tk := Sj25.Tok
theorem read3 (nm : List (List Nat)) (f d : Nat) (t : List Tk) : Sj25.read nm (f + 1) 3 d t = match Sj25.read nm f 2 d t with
    | some (a, .sign 124 :: r) => (Sj25.read nm f 3 d r).map fun y => (.or a y.1, y.2)
    | x => x := rfl
theorem read2 (nm : List (List Nat)) (f d : Nat) (t : List Tk) : Sj25.read nm (f + 1) 2 d t = match Sj25.read nm f 1 d t with
    | some (a, .sign 38 :: r) => (Sj25.read nm f 2 d r).map fun y => (.and a y.1, y.2)
    | x => x := rfl
theorem read1 (nm : List (List Nat)) (f d : Nat) (t : List Tk) : Sj25.read nm (f + 1) 1 d t = match t with
    | .sign 33 :: r => (Sj25.read nm f 1 d r).map fun y => (.not y.1, y.2)
    | .sign 40 :: r => if 16 ≤ d then none else (match Sj25.read nm f 3 (d + 1) r with
      | some (a, .sign 41 :: s) => some (a, s)
      | _ => none)
    | t => simple nm t := rfl
/-- behind a sign -/
def hd (b : Nat) : List Tk → Option (List Tk)
  | .sign c :: r => if c = b then some r else none
  | _ => none
theorem hd_some {b : Nat} {t r : List Tk} (h : hd b t = some r) : t = .sign b :: r := by
  unfold hd at h
  split at h
  · split at h
    · cases h
      rename_i e
      rw [e]
    · cases h
  · cases h
theorem hd_self (b : Nat) (r : List Tk) : hd b (.sign b :: r) = some r := if_pos rfl
theorem read3' (nm : List (List Nat)) (f d : Nat) (t : List Tk) : Sj25.read nm (f + 1) 3 d t = (Sj25.read nm f 2 d t).bind fun x => match hd 124 x.2 with
    | some r => (Sj25.read nm f 3 d r).map fun y => (.or x.1 y.1, y.2)
    | none => some x := by
  rw [read3]
  split
  · rename_i a r e
    rw [e]
    simp only [Option.bind_some, hd_self]
  · rename_i h
    cases e : Sj25.read nm f 2 d t with
    | none => rfl
    | some x =>
      show some x = match hd 124 x.2 with | some r => _ | none => _
      cases e2 : hd 124 x.2 with
      | none => rfl
      | some r => exact absurd (show Sj25.read nm f 2 d t = some (x.1, .sign 124 :: r) by rw [e, ← hd_some e2]) (h _ _)
theorem read2' (nm : List (List Nat)) (f d : Nat) (t : List Tk) : Sj25.read nm (f + 1) 2 d t = (Sj25.read nm f 1 d t).bind fun x => match hd 38 x.2 with
    | some r => (Sj25.read nm f 2 d r).map fun y => (.and x.1 y.1, y.2)
    | none => some x := by
  rw [read2]
  split
  · rename_i a r e
    rw [e]
    simp only [Option.bind_some, hd_self]
  · rename_i h
    cases e : Sj25.read nm f 1 d t with
    | none => rfl
    | some x =>
      show some x = match hd 38 x.2 with | some r => _ | none => _
      cases e2 : hd 38 x.2 with
      | none => rfl
      | some r => exact absurd (show Sj25.read nm f 1 d t = some (x.1, .sign 38 :: r) by rw [e, ← hd_some e2]) (h _ _)
theorem read1' (nm : List (List Nat)) (f d : Nat) (t : List Tk) : Sj25.read nm (f + 1) 1 d t = match hd 33 t with
    | some r => (Sj25.read nm f 1 d r).map fun y => (.not y.1, y.2)
    | none => match hd 40 t with
      | some r => if 16 ≤ d then none else (Sj25.read nm f 3 (d + 1) r).bind fun x => (hd 41 x.2).map fun s => (x.1, s)
      | none => simple nm t := by
  rw [read1]
  split
  · rw [hd_self]
  · rename_i r
    have e0 : hd 33 (.sign 40 :: r) = none := rfl
    simp only [e0, hd_self]
    congr 1
    cases e : Sj25.read nm f 3 (d + 1) r with
    | none => rfl
    | some x =>
      obtain ⟨a, u⟩ := x
      show _ = (hd 41 u).map fun s => (a, s)
      cases e2 : hd 41 u with
      | some s => rw [hd_some e2]; rfl
      | none =>
        split
        · rename_i a' s' e3
          cases e3
          rw [hd_self] at e2
          cases e2
        · rfl
  · rename_i h1 h2
    cases e1 : hd 33 t with
    | some r => exact absurd (hd_some e1) (h1 r)
    | none =>
      cases e2 : hd 40 t with
      | some r => exact absurd (hd_some e2) (h2 r)
      | none => rfl
theorem hd_len {b : Nat} {t r : List Tk} (h : hd b t = some r) : t.length = r.length + 1 := by rw [hd_some h]; rfl
/-- a simple condition -/
theorem kindOf_lt {k : List Nat} {n : Nat} (h : kindOf k = some n) : n < 8 := by
  unfold kindOf at h
  split at h
  · split at h
    · cases h
      omega
    · cases h
  · cases h
theorem lineOf_lt {nm : List (List Nat)} {k : List Nat} {n : Nat} (h : lineOf nm k = some n) : n < nm.length := by
  unfold lineOf at h
  exact (List.findIdx?_eq_some_iff_findIdx_eq.mp h).1
def tName : List Tk → Option (List Nat × List Tk)
  | .name l :: r => some (l, r)
  | _ => none
def tNum : List Tk → Option (Nat × List Tk)
  | .num n :: r => some (n, r)
  | _ => none
theorem tName_some {t r : List Tk} {l : List Nat} (h : tName t = some (l, r)) : t = .name l :: r := by
  unfold tName at h
  split at h
  · cases h
    rfl
  · cases h
theorem tNum_some {t r : List Tk} {n : Nat} (h : tNum t = some (n, r)) : t = .num n :: r := by
  unfold tNum at h
  split at h
  · cases h
    rfl
  · cases h
/-- a number between two others -/
def tNumB (a b : Nat) (t : List Tk) : Option (Nat × List Tk) := (tNum t).bind fun x => if x.1 < a ∨ b < x.1 then none else some x
def tKind (t : List Tk) : Option (Nat × List Tk) := (tName t).bind fun x => (kindOf x.1).map fun k => (k, x.2)
def tLine (nm : List (List Nat)) (t : List Tk) : Option (Nat × List Tk) := (tName t).bind fun x => (lineOf nm x.1).map fun k => (k, x.2)
def pSum (t : List Tk) : Parsed := (tKind t).bind fun k => (hd 62 k.2).bind fun r => (tNumB 0 99999 r).map fun v => (.all k.1 v.1, v.2)
def pScore (t : List Tk) : Parsed := (hd 62 t).bind fun r => match hd 45 r with
  | some r => (tNumB 0 99999 r).map fun v => (.judge (-(v.1 : Int)), v.2)
  | none => (tNumB 0 99999 r).map fun v => (.judge (v.1 : Int), v.2)
def pSome (n : Nat) (t : List Tk) : Parsed := (tKind t).bind fun k => (hd 62 k.2).bind fun r => (tNumB 0 65535 r).map fun v => (.many n k.1 v.1, v.2)
def pKind (t : List Tk) : Parsed := (tKind t).bind fun k => match hd 126 k.2 with
  | some r => (tKind r).bind fun o => (hd 60 o.2).bind fun r => (tNumB 0 513 r).map fun v => (.near k.1 o.1 v.1, v.2)
  | none => (hd 62 k.2).bind fun r => (tNumB 0 65535 r).map fun v => (.many 1 k.1 v.1, v.2)
def simp1 (nm : List (List Nat)) (t : List Tk) : Parsed := match hd 43 t with
  | some r => pSum r
  | none => match hd 63 t with
    | some r => pScore r
    | none => match hd 64 t with
      | some r => (tLine nm r).map fun k => (.holds k.1, k.2)
      | none => match hd 94 t with
        | some r => (tLine nm r).map fun k => (.held k.1, k.2)
        | none => match tNum t with
          | some _ => (tNumB 1 16 t).bind fun n => pSome n.1 n.2
          | none => pKind t
/-- what is known of a token -/
def TokOk : Tk → Prop
  | .num n => n ≤ 99999
  | .name l => l.length ≤ 16
  | .sign _ => True
theorem simple_some {nm : List (List Nat)} {t : List Tk} {x : Cond × List Tk} (ok : ∀ y ∈ t, TokOk y) (h : simple nm t = some x) : simp1 nm t = some x := by
  unfold simple at h
  split at h
  · rename_i n k v r
    split at h
    · cases h
    · rename_i g
      simp only [not_or, Nat.not_lt] at g
      simp only [Option.map_eq_some_iff] at h
      obtain ⟨a, e1, rfl⟩ := h
      have g1 : ¬ (n < 1 ∨ 16 < n) := by omega
      have g2 : ¬ (v < 0 ∨ 65535 < v) := by omega
      simp only [simp1, hd, tNum, tNumB, tKind, tName, pSome, e1, Option.bind_some, Option.map_some, if_neg g1, if_neg g2, ↓reduceIte]
  · rename_i k v r
    split at h
    · cases h
    · rename_i g
      simp only [Option.map_eq_some_iff] at h
      obtain ⟨a, e1, rfl⟩ := h
      simp only [simp1, hd, tNum, tNumB, tKind, tName, pKind, e1, Option.bind_some, Option.map_some, ↓reduceIte, Nat.reduceEqDiff]
      rw [if_neg (by omega)]
      rfl
  · rename_i k v r
    simp only [Option.map_eq_some_iff] at h
    obtain ⟨a, e1, rfl⟩ := h
    have : v ≤ 99999 := ok (.num v) (by simp)
    simp only [simp1, hd, tNum, tNumB, tKind, tName, pSum, e1, Option.bind_some, Option.map_some, ↓reduceIte, Nat.reduceEqDiff]
    rw [if_neg (by omega)]
    rfl
  · rename_i a b v r
    split at h
    · cases h
    · rename_i g
      simp only [Option.bind_eq_some_iff, Option.map_eq_some_iff] at h
      obtain ⟨y, e1, z, e2, rfl⟩ := h
      simp only [simp1, hd, tNum, tNumB, tKind, tName, pKind, e1, e2, Option.bind_some, Option.map_some, ↓reduceIte, Nat.reduceEqDiff]
      rw [if_neg (by omega)]
      rfl
  · rename_i v r
    cases h
    have : v ≤ 99999 := ok (.num v) (by simp)
    simp only [simp1, hd, tNum, tNumB, pScore, Option.bind_some, Option.map_some, ↓reduceIte, Nat.reduceEqDiff]
    rw [if_neg (by omega)]
    rfl
  · rename_i v r
    cases h
    have : v ≤ 99999 := ok (.num v) (by simp)
    simp only [simp1, hd, tNum, tNumB, pScore, Option.bind_some, Option.map_some, ↓reduceIte, Nat.reduceEqDiff]
    rw [if_neg (by omega)]
    rfl
  · rename_i n r
    simp only [Option.map_eq_some_iff] at h
    obtain ⟨a, e1, rfl⟩ := h
    simp only [simp1, hd, tLine, tName, e1, Option.bind_some, Option.map_some, ↓reduceIte, Nat.reduceEqDiff]
  · rename_i n r
    simp only [Option.map_eq_some_iff] at h
    obtain ⟨a, e1, rfl⟩ := h
    simp only [simp1, hd, tLine, tName, e1, Option.bind_some, Option.map_some, ↓reduceIte, Nat.reduceEqDiff]
  · cases h
theorem tNumB_some {a b : Nat} {t : List Tk} {x : Nat × List Tk} (h : tNumB a b t = some x) : t = .num x.1 :: x.2 ∧ a ≤ x.1 ∧ x.1 ≤ b := by
  unfold tNumB at h
  obtain ⟨y, e1, h⟩ := Option.bind_eq_some_iff.mp h
  split at h
  · cases h
  · cases h
    exact ⟨tNum_some e1, by omega, by omega⟩
theorem tKind_some {t : List Tk} {x : Nat × List Tk} (h : tKind t = some x) : ∃ k, t = .name k :: x.2 ∧ kindOf k = some x.1 := by
  unfold tKind at h
  obtain ⟨y, e1, h⟩ := Option.bind_eq_some_iff.mp h
  obtain ⟨z, e2, rfl⟩ := Option.map_eq_some_iff.mp h
  exact ⟨y.1, tName_some e1, e2⟩
theorem tLine_some {nm : List (List Nat)} {t : List Tk} {x : Nat × List Tk} (h : tLine nm t = some x) : ∃ k, t = .name k :: x.2 ∧ lineOf nm k = some x.1 := by
  unfold tLine at h
  obtain ⟨y, e1, h⟩ := Option.bind_eq_some_iff.mp h
  obtain ⟨z, e2, rfl⟩ := Option.map_eq_some_iff.mp h
  exact ⟨y.1, tName_some e1, e2⟩
/-- the shapes of a simple condition, and what is known of it -/
theorem simp1_some {nm : List (List Nat)} {t : List Tk} {x : Cond × List Tk} (h : simp1 nm t = some x) : simple nm t = some x ∧ NumOk nm.length x.1 ∧ lv x.1 = 1 ∧ (∃ xs, simpV x.1 = some xs) ∧ ∃ j, 0 < j ∧ j ≤ t.length ∧ x.2 = t.drop j := by
  have num : ∀ {a b : Nat} {t : List Tk} {f : Nat → Cond} {x : Cond × List Tk}, (tNumB a b t).map (fun v => (f v.1, v.2)) = some x → ∃ v, t = .num v :: x.2 ∧ a ≤ v ∧ v ≤ b ∧ x.1 = f v := by
    intro a b t f x h
    obtain ⟨v, e, rfl⟩ := Option.map_eq_some_iff.mp h
    obtain ⟨e1, e2, e3⟩ := tNumB_some e
    exact ⟨v.1, e1, e2, e3, rfl⟩
  obtain ⟨cd, r⟩ := x
  unfold simp1 at h
  split at h
  · rename_i r1 e1
    obtain rfl := hd_some e1
    unfold pSum at h
    have h' := Option.bind_eq_some_iff.mp h
    clear h
    obtain ⟨k, e2, h⟩ := h'
    have h' := Option.bind_eq_some_iff.mp h
    clear h
    obtain ⟨r2, e3, h⟩ := h'
    obtain ⟨kn, rfl, ek⟩ := tKind_some e2
    have e4 := hd_some e3
    obtain ⟨v, e5, h1, h2, h3⟩ := num (f := fun v => .all k.1 v) h
    simp only at e5 h3
    subst h3
    rw [e4, e5]
    refine ⟨?_, ⟨kindOf_lt ek, by omega⟩, rfl, ⟨_, rfl⟩, 4, by decide, by simp, rfl⟩
    simp only [simple, ek, Option.map_some]
  · split at h
    · rename_i r1 e1
      obtain rfl := hd_some e1
      unfold pScore at h
      have h' := Option.bind_eq_some_iff.mp h
      clear h
      obtain ⟨r2, e3, h⟩ := h'
      obtain rfl := hd_some e3
      split at h
      · rename_i r3 e4
        obtain rfl := hd_some e4
        obtain ⟨v, e5, h1, h2, h3⟩ := num (f := fun v => .judge (-(v : Int))) h
        simp only at e5 h3
        subst h3
        rw [e5]
        exact ⟨rfl, by show (-(v : Int)).natAbs ≤ 100000; omega, rfl, ⟨_, rfl⟩, 4, by decide, by simp, rfl⟩
      · obtain ⟨v, e5, h1, h2, h3⟩ := num (f := fun v => .judge (v : Int)) h
        simp only at e5 h3
        subst h3
        rw [e5]
        exact ⟨rfl, by show ((v : Int)).natAbs ≤ 100000; omega, rfl, ⟨_, rfl⟩, 3, by decide, by simp, rfl⟩
    · split at h
      · rename_i r1 e1
        obtain rfl := hd_some e1
        obtain ⟨y, e2, e3⟩ := Option.map_eq_some_iff.mp h
        cases e3
        obtain ⟨kn, rfl, ek⟩ := tLine_some e2
        refine ⟨?_, lineOf_lt ek, rfl, ⟨_, rfl⟩, 2, by decide, by simp, rfl⟩
        simp only [simple, ek, Option.map_some]
      · split at h
        · rename_i r1 e1
          obtain rfl := hd_some e1
          obtain ⟨y, e2, e3⟩ := Option.map_eq_some_iff.mp h
          cases e3
          obtain ⟨kn, rfl, ek⟩ := tLine_some e2
          refine ⟨?_, lineOf_lt ek, rfl, ⟨_, rfl⟩, 2, by decide, by simp, rfl⟩
          simp only [simple, ek, Option.map_some]
        · split at h
          · have h' := Option.bind_eq_some_iff.mp h
            clear h
            obtain ⟨n, e0, h⟩ := h'
            obtain ⟨e10, g1, g2⟩ := tNumB_some e0
            clear e0
            subst e10
            unfold pSome at h
            have h' := Option.bind_eq_some_iff.mp h
            clear h
            obtain ⟨k, e2, h⟩ := h'
            have h' := Option.bind_eq_some_iff.mp h
            clear h
            obtain ⟨r2, e3, h⟩ := h'
            obtain ⟨kn, e6, ek⟩ := tKind_some e2
            have e4 := hd_some e3
            obtain ⟨v, e5, h1, h2, h3⟩ := num (f := fun v => .many n.1 k.1 v) h
            simp only at e5 h3
            subst h3
            rw [e6, e4, e5]
            refine ⟨?_, ⟨by omega, kindOf_lt ek, by omega⟩, rfl, ⟨_, rfl⟩, 4, by decide, by simp, rfl⟩
            simp only [simple, ek, Option.map_some]
            rw [if_neg (by omega)]
          · unfold pKind at h
            have h' := Option.bind_eq_some_iff.mp h
            clear h
            obtain ⟨k, e2, h⟩ := h'
            obtain ⟨kn, rfl, ek⟩ := tKind_some e2
            split at h
            · rename_i r3 e4
              have h' := Option.bind_eq_some_iff.mp h
              clear h
              obtain ⟨o, e7, h⟩ := h'
              have h' := Option.bind_eq_some_iff.mp h
              clear h
              obtain ⟨r2, e3, h⟩ := h'
              obtain ⟨on, rfl, eo⟩ := tKind_some e7
              have e8 := hd_some e3
              have e9 := hd_some e4
              obtain ⟨v, e5, h1, h2, h3⟩ := num (f := fun v => .near k.1 o.1 v) h
              simp only at e5 h3
              subst h3
              rw [e9, e8, e5]
              refine ⟨?_, ⟨kindOf_lt ek, kindOf_lt eo, by omega⟩, rfl, ⟨_, rfl⟩, 5, by decide, by simp, rfl⟩
              simp only [simple, ek, eo, Option.map_some, Option.bind_some]
              rw [if_neg (by omega)]
            · obtain ⟨r2, e3, h⟩ := Option.bind_eq_some_iff.mp h
              have e4 := hd_some e3
              obtain ⟨v, e5, h1, h2, h3⟩ := num (f := fun v => .many 1 k.1 v) h
              simp only at e5 h3
              subst h3
              rw [e4, e5]
              refine ⟨?_, ⟨by omega, kindOf_lt ek, by omega⟩, rfl, ⟨_, rfl⟩, 3, by decide, by simp, rfl⟩
              simp only [simple, ek, Option.map_some]
              rw [if_neg (by omega)]
theorem simple_is {nm : List (List Nat)} {t : List Tk} (ok : ∀ y ∈ t, TokOk y) : simple nm t = simp1 nm t := by
  cases e : simple nm t with
  | some x => rw [simple_some ok e]
  | none =>
    cases e2 : simp1 nm t with
    | none => rfl
    | some x => rw [(simp1_some e2).1] at e; cases e
/-- what a condition read keeps -/
theorem read_keeps {nm : List (List Nat)} : ∀ (f k d : Nat) (t : List Tk) (x : Cond × List Tk), 1 ≤ k → k ≤ 3 → (∀ y ∈ t, TokOk y) → Sj25.read nm f k d t = some x →
    NumOk nm.length x.1 ∧ x.2.length + lv x.1 ≤ t.length ∧ (∀ y ∈ x.2, TokOk y)
  | 0, k, d, t, x, _, _, _, h => by unfold Sj25.read at h; cases h
  | f + 1, k, d, t, x, h1, h3, ok, h => by
    have ih := fun k d t x => read_keeps (nm := nm) f k d t x
    rcases (by omega : k = 3 ∨ k = 2 ∨ k = 1) with rfl | rfl | rfl
    · rw [read3'] at h
      obtain ⟨a, e1, h⟩ := Option.bind_eq_some_iff.mp h
      obtain ⟨p1, p2, p3⟩ := ih 2 d t a (by decide) (by decide) ok e1
      split at h
      · rename_i r e2
        have e3 := hd_some e2
        obtain ⟨y, e4, rfl⟩ := Option.map_eq_some_iff.mp h
        have okr : ∀ y ∈ r, TokOk y := fun y hy => p3 y (by rw [e3]; exact List.mem_cons_of_mem _ hy)
        obtain ⟨q1, q2, q3⟩ := ih 3 d r y (by decide) (by decide) okr e4
        refine ⟨⟨p1, q1⟩, ?_, q3⟩
        rw [e3, List.length_cons] at p2
        show y.2.length + (lv a.1 + lv y.1) ≤ _
        omega
      · cases h
        exact ⟨p1, p2, p3⟩
    · rw [read2'] at h
      obtain ⟨a, e1, h⟩ := Option.bind_eq_some_iff.mp h
      obtain ⟨p1, p2, p3⟩ := ih 1 d t a (by decide) (by decide) ok e1
      split at h
      · rename_i r e2
        have e3 := hd_some e2
        obtain ⟨y, e4, rfl⟩ := Option.map_eq_some_iff.mp h
        have okr : ∀ y ∈ r, TokOk y := fun y hy => p3 y (by rw [e3]; exact List.mem_cons_of_mem _ hy)
        obtain ⟨q1, q2, q3⟩ := ih 2 d r y (by decide) (by decide) okr e4
        refine ⟨⟨p1, q1⟩, ?_, q3⟩
        rw [e3, List.length_cons] at p2
        show y.2.length + (lv a.1 + lv y.1) ≤ _
        omega
      · cases h
        exact ⟨p1, p2, p3⟩
    · rw [read1'] at h
      split at h
      · rename_i r e2
        have e3 := hd_some e2
        obtain ⟨y, e4, rfl⟩ := Option.map_eq_some_iff.mp h
        have okr : ∀ y ∈ r, TokOk y := fun y hy => ok y (by rw [e3]; exact List.mem_cons_of_mem _ hy)
        obtain ⟨q1, q2, q3⟩ := ih 1 d r y (by decide) (by decide) okr e4
        refine ⟨q1, ?_, q3⟩
        rw [e3, List.length_cons]
        show y.2.length + lv y.1 ≤ _
        omega
      · split at h
        · rename_i r e2
          have e3 := hd_some e2
          split at h
          · cases h
          · obtain ⟨a, e4, h⟩ := Option.bind_eq_some_iff.mp h
            obtain ⟨s, e5, rfl⟩ := Option.map_eq_some_iff.mp h
            have e6 := hd_some e5
            have okr : ∀ y ∈ r, TokOk y := fun y hy => ok y (by rw [e3]; exact List.mem_cons_of_mem _ hy)
            obtain ⟨q1, q2, q3⟩ := ih 3 (d + 1) r a (by decide) (by decide) okr e4
            rw [e6] at q3
            refine ⟨q1, ?_, fun y hy => q3 y (List.mem_cons_of_mem _ hy)⟩
            rw [e6, List.length_cons] at q2
            rw [e3, List.length_cons]
            show s.length + lv a.1 ≤ _
            omega
        · rw [simple_is ok] at h
          obtain ⟨_, p1, p2, _, j, j0, j1, j2⟩ := simp1_some h
          refine ⟨p1, ?_, fun y hy => ok y ?_⟩
          · rw [p2, j2, List.length_drop]
            omega
          · rw [j2] at hy
            exact List.mem_of_mem_drop hy
theorem read_lt {nm : List (List Nat)} {f k d : Nat} {t : List Tk} {x : Cond × List Tk} (h1 : 1 ≤ k) (h3 : k ≤ 3) (ok : ∀ y ∈ t, TokOk y) (h : Sj25.read nm f k d t = some x) : x.2.length < t.length := by
  have := (read_keeps f k d t x h1 h3 ok h).2.1
  have := lv_pos x.1
  omega
theorem read_fuel {nm : List (List Nat)} : ∀ (f g k d : Nat) (t : List Tk), 1 ≤ k → k ≤ 3 → (∀ y ∈ t, TokOk y) → k + 3 * t.length ≤ f → k + 3 * t.length ≤ g → Sj25.read nm f k d t = Sj25.read nm g k d t
  | 0, g, k, d, t, h1, _, _, hf, _ => by omega
  | f + 1, 0, k, d, t, h1, _, _, _, hg => by omega
  | f + 1, g + 1, k, d, t, h1, h3, ok, hf, hg => by
    have ih := fun k d t => read_fuel (nm := nm) f g k d t
    rcases (by omega : k = 3 ∨ k = 2 ∨ k = 1) with rfl | rfl | rfl
    · rw [read3', read3', ih 2 d t (by decide) (by decide) ok (by omega) (by omega)]
      cases e : Sj25.read nm g 2 d t with
      | none => rfl
      | some x =>
        have hl := read_lt (by decide) (by decide) ok e
        obtain ⟨_, _, okx⟩ := read_keeps g 2 d t x (by decide) (by decide) ok e
        simp only [Option.bind_some]
        cases e2 : hd 124 x.2 with
        | none => rfl
        | some r =>
          have := hd_len e2
          simp only
          rw [ih 3 d r (by decide) (by decide) (fun y hy => okx y (by rw [hd_some e2]; exact List.mem_cons_of_mem _ hy)) (by omega) (by omega)]
    · rw [read2', read2', ih 1 d t (by decide) (by decide) ok (by omega) (by omega)]
      cases e : Sj25.read nm g 1 d t with
      | none => rfl
      | some x =>
        have hl := read_lt (by decide) (by decide) ok e
        obtain ⟨_, _, okx⟩ := read_keeps g 1 d t x (by decide) (by decide) ok e
        simp only [Option.bind_some]
        cases e2 : hd 38 x.2 with
        | none => rfl
        | some r =>
          have := hd_len e2
          simp only
          rw [ih 2 d r (by decide) (by decide) (fun y hy => okx y (by rw [hd_some e2]; exact List.mem_cons_of_mem _ hy)) (by omega) (by omega)]
    · rw [read1', read1']
      cases e2 : hd 33 t with
      | some r =>
        have := hd_len e2
        simp only
        rw [ih 1 d r (by decide) (by decide) (fun y hy => ok y (by rw [hd_some e2]; exact List.mem_cons_of_mem _ hy)) (by omega) (by omega)]
      | none =>
        simp only
        cases e3 : hd 40 t with
        | none => rfl
        | some r =>
          have := hd_len e3
          simp only
          rw [ih 3 (d + 1) r (by decide) (by decide) (fun y hy => ok y (by rw [hd_some e3]; exact List.mem_cons_of_mem _ hy)) (by omega) (by omega)]
/-- a condition read, with steps enough -/
def rd (nm : List (List Nat)) (k d : Nat) (t : List Tk) : Parsed := Sj25.read nm (k + 3 * t.length) k d t
theorem rd_of {nm : List (List Nat)} {f k d : Nat} {t : List Tk} (h1 : 1 ≤ k) (h3 : k ≤ 3) (ok : ∀ y ∈ t, TokOk y) (h : k + 3 * t.length ≤ f) : Sj25.read nm f k d t = rd nm k d t := read_fuel _ _ _ _ _ h1 h3 ok h (Nat.le_refl _)
theorem rd3 {nm : List (List Nat)} {d : Nat} {t : List Tk} (ok : ∀ y ∈ t, TokOk y) : rd nm 3 d t = (rd nm 2 d t).bind fun x => match hd 124 x.2 with
    | some r => (rd nm 3 d r).map fun y => (.or x.1 y.1, y.2)
    | none => some x := by
  have e0 : rd nm 3 d t = Sj25.read nm ((2 + 3 * t.length) + 1) 3 d t := by unfold rd; congr 1; omega
  rw [e0, read3', rd_of (by decide) (by decide) ok (Nat.le_refl _)]
  cases e : rd nm 2 d t with
  | none => rfl
  | some x =>
    have hl := read_lt (by decide) (by decide) ok e
    obtain ⟨_, _, okx⟩ := read_keeps _ 2 d t x (by decide) (by decide) ok e
    simp only [Option.bind_some]
    cases e2 : hd 124 x.2 with
    | none => rfl
    | some r =>
      have := hd_len e2
      simp only
      rw [rd_of (by decide) (by decide) (fun y hy => okx y (by rw [hd_some e2]; exact List.mem_cons_of_mem _ hy)) (by omega)]
theorem rd2 {nm : List (List Nat)} {d : Nat} {t : List Tk} (ok : ∀ y ∈ t, TokOk y) : rd nm 2 d t = (rd nm 1 d t).bind fun x => match hd 38 x.2 with
    | some r => (rd nm 2 d r).map fun y => (.and x.1 y.1, y.2)
    | none => some x := by
  have e0 : rd nm 2 d t = Sj25.read nm ((1 + 3 * t.length) + 1) 2 d t := by unfold rd; congr 1; omega
  rw [e0, read2', rd_of (by decide) (by decide) ok (Nat.le_refl _)]
  cases e : rd nm 1 d t with
  | none => rfl
  | some x =>
    have hl := read_lt (by decide) (by decide) ok e
    obtain ⟨_, _, okx⟩ := read_keeps _ 1 d t x (by decide) (by decide) ok e
    simp only [Option.bind_some]
    cases e2 : hd 38 x.2 with
    | none => rfl
    | some r =>
      have := hd_len e2
      simp only
      rw [rd_of (by decide) (by decide) (fun y hy => okx y (by rw [hd_some e2]; exact List.mem_cons_of_mem _ hy)) (by omega)]
theorem rd1 {nm : List (List Nat)} {d : Nat} {t : List Tk} (ok : ∀ y ∈ t, TokOk y) : rd nm 1 d t = match hd 33 t with
    | some r => (rd nm 1 d r).map fun y => (.not y.1, y.2)
    | none => match hd 40 t with
      | some r => if 16 ≤ d then none else (rd nm 3 (d + 1) r).bind fun x => (hd 41 x.2).map fun s => (x.1, s)
      | none => simp1 nm t := by
  have e0 : rd nm 1 d t = Sj25.read nm (3 * t.length + 1) 1 d t := by unfold rd; congr 1; omega
  rw [e0, read1', simple_is ok]
  cases e2 : hd 33 t with
  | some r =>
    have := hd_len e2
    simp only
    rw [rd_of (by decide) (by decide) (fun y hy => ok y (by rw [hd_some e2]; exact List.mem_cons_of_mem _ hy)) (by omega)]
  | none =>
    simp only
    cases e3 : hd 40 t with
    | none => rfl
    | some r =>
      have := hd_len e3
      simp only
      rw [rd_of (by decide) (by decide) (fun y hy => ok y (by rw [hd_some e3]; exact List.mem_cons_of_mem _ hy)) (by omega)]
theorem rd_keeps {nm : List (List Nat)} {k d : Nat} {t : List Tk} {x : Cond × List Tk} (h1 : 1 ≤ k) (h3 : k ≤ 3) (ok : ∀ y ∈ t, TokOk y) (h : rd nm k d t = some x) : NumOk nm.length x.1 ∧ x.2.length + lv x.1 ≤ t.length ∧ (∀ y ∈ x.2, TokOk y) :=
  read_keeps _ _ _ _ _ h1 h3 ok h
/-- the tokens of a line are as they should be -/
theorem num_le (l : List Nat) (h : ∀ x ∈ l, Sj25.isDigit x = true) : Sj25.numberOf l < 10 ^ l.length := by
  have key : ∀ (l : List Nat) (a : Nat), (∀ x ∈ l, Sj25.isDigit x = true) → l.foldl (fun n c => 10 * n + (c - 48)) a < (a + 1) * 10 ^ l.length := by
    intro l
    induction l with
    | nil => intro a _; show a < (a + 1) * 1; omega
    | cons x r ih =>
      intro a hx
      have h1 := ih (10 * a + (x - 48)) fun y hy => hx y (List.mem_cons_of_mem _ hy)
      have h2 := hx x (List.mem_cons_self ..)
      unfold Sj25.isDigit at h2
      simp only [Bool.and_eq_true, decide_eq_true_eq] at h2
      show r.foldl (fun n c => 10 * n + (c - 48)) (10 * a + (x - 48)) < _
      refine Nat.lt_of_lt_of_le h1 ?_
      rw [List.length_cons, Nat.pow_succ, Nat.mul_comm (10 ^ r.length) 10, ← Nat.mul_assoc]
      exact Nat.mul_le_mul_right _ (by omega)
  have := key l 0 h
  rw [Nat.zero_add, Nat.one_mul] at this
  exact this
theorem tok1_ok {l : List Nat} {t : Tk} {r : List Nat} (h : tok1 l = some (t, r)) : TokOk t := by
  cases l with
  | nil => cases h
  | cons c s =>
    rw [tok1_cons] at h
    by_cases h1 : Sj25.isDigit c = true
    · rw [if_pos h1] at h
      split at h
      · cases h
      · rename_i g
        cases h
        have := num_le (c :: s.takeWhile Sj25.isDigit) (fun x hx => by
          rcases List.mem_cons.mp hx with rfl | hx
          · exact h1
          · exact List.all_eq_true.mp (List.all_takeWhile (p := Sj25.isDigit) (l := s)) x hx)
        have h9 : 10 ^ (c :: s.takeWhile Sj25.isDigit).length ≤ 10 ^ 5 := Nat.pow_le_pow_right (by decide) (by omega)
        show Sj25.numberOf _ ≤ 99999
        omega
    · rw [if_neg h1] at h
      split at h
      · split at h
        · cases h
        · cases h
          show (c :: s.takeWhile isWord).length ≤ 16
          omega
      · split at h
        · cases h
          exact True.intro
        · cases h
theorem tokens_ok : ∀ (f : Nat) (l : List Nat) (ts : List Tk), Sj25.tokens f l = some ts → (∀ y ∈ ts, TokOk y) ∧ ts.length ≤ l.length
  | 0, l, ts, h => by cases h; exact ⟨fun y hy => (nomatch hy), Nat.zero_le _⟩
  | f + 1, [], ts, h => by cases h; exact ⟨fun y hy => (nomatch hy), Nat.zero_le _⟩
  | f + 1, c :: r, ts, h => by
    by_cases hc : c = 32
    · rw [tokens_cons, if_pos hc] at h
      obtain ⟨h1, h2⟩ := tokens_ok f r ts h
      exact ⟨h1, Nat.le_succ_of_le h2⟩
    · rw [tokens_step f c r hc] at h
      split at h
      · cases h
      · rename_i t s e
        obtain ⟨u, e2, rfl⟩ := Option.map_eq_some_iff.mp h
        obtain ⟨h1, h2⟩ := tokens_ok f s u e2
        refine ⟨fun y hy => ?_, ?_⟩
        · rcases List.mem_cons.mp hy with rfl | hy
          · exact tok1_ok e
          · exact h1 y hy
        · have := tok1_lt e
          simp only [List.length_cons] at this ⊢
          omega
theorem tk_ok {l : List Nat} {ts : List Tk} (h : tk l = some ts) : (∀ y ∈ ts, TokOk y) ∧ ts.length ≤ l.length := tokens_ok _ _ _ h
/-- a whole line -/
def pLine (nm : List (List Nat)) (ts : List Tk) : Option Sj25.Line := (tName ts).bind fun n => if (lineOf nm n.1).isSome then none else (hd 58 n.2).bind fun t => (rd nm 3 0 t).bind fun x => match hd 47 x.2 with
  | some r => (tNumB 1 65535 r).bind fun v => if v.2 = [] then some ⟨n.1, x.1, v.1⟩ else none
  | none => if x.2 = [] then some ⟨n.1, x.1, 1⟩ else none
theorem lineFrom_is (nm : List (List Nat)) (l : List Nat) : Sj25.lineFrom nm l = (tk l).bind (pLine nm) := by
  unfold Sj25.lineFrom
  show (match tk l with | some (.name n :: .sign 58 :: t) => _ | _ => _) = _
  cases e : tk l with
  | none => rfl
  | some ts =>
    obtain ⟨ok, _⟩ := tk_ok e
    rw [Option.bind_some]
    cases e1 : tName ts with
    | none =>
      have e2 : pLine nm ts = none := by unfold pLine; rw [e1]; rfl
      rw [e2]
      split
      · rename_i h
        cases h
        cases e1
      · rfl
    | some n =>
      obtain ⟨n, t1⟩ := n
      obtain rfl := tName_some e1
      cases e3 : hd 58 t1 with
      | none =>
        have e2 : pLine nm (.name n :: t1) = none := by
          unfold pLine
          rw [e1]
          simp only [Option.bind_some, e3, Option.bind_none]
          split <;> rfl
        rw [e2]
        split
        · rename_i h
          cases h
          rw [hd_self] at e3
          cases e3
        · rfl
      | some t =>
        obtain rfl := hd_some e3
        unfold pLine
        rw [e1]
        simp only [Option.bind_some, e3]
        split
        · rfl
        · have okt : ∀ y ∈ t, TokOk y := fun y hy => ok y (List.mem_cons_of_mem _ (List.mem_cons_of_mem _ hy))
          rw [rd_of (by decide) (by decide) okt (by omega)]
          cases e4 : rd nm 3 0 t with
          | none => rfl
          | some x =>
            obtain ⟨cd, r⟩ := x
            simp only [Option.bind_some]
            cases r with
            | nil => rfl
            | cons a r =>
              cases e5 : hd 47 (a :: r) with
              | none =>
                simp only
                rw [if_neg (by simp)]
                split
                · rename_i h; cases h
                · rename_i h; cases h; rw [hd_self] at e5; cases e5
                · rfl
              | some r2 =>
                have e6 := hd_some e5
                cases e6
                simp only
                cases e7 : tNum r with
                | none =>
                  unfold tNumB
                  rw [e7]
                  simp only [Option.bind_none]
                  split
                  · rename_i h; cases h
                  · rename_i h; cases h; cases e7
                  · rfl
                | some v =>
                  obtain ⟨v, r3⟩ := v
                  obtain rfl := tNum_some e7
                  unfold tNumB
                  rw [e7]
                  simp only [Option.bind_some]
                  cases r3 with
                  | nil =>
                    simp only
                    split
                    · rfl
                    · rfl
                  | cons b r4 =>
                    simp only
                    split
                    · rfl
                    · simp
end Ev
namespace Ev
open PySem PySem.Spec PyProof.Rows L2
open Sj25 (Cond kindOf lineOf Parsed)
/-! ### a reader of tokens -/
/-- tuples stand -/
def TupK (H H' : Hp) : Prop := ∀ a xs, H a = some (.tup xs) → H' a = some (.tup xs)
theorem TupK.refl (H : Hp) : TupK H H := fun _ _ h => h
theorem TupK.trans {H H1 H2 : Hp} (a : TupK H H1) (b : TupK H1 H2) : TupK H H2 := fun p xs h => b p xs (a p xs h)
theorem TupK.of {H H' : Hp} (e : Same H H') : TupK H H' := fun p xs h => e p _ h
theorem TupK.ins {H H' : Hp} {p C dx : Addr} {fs : List (Str × V)} (hp : H p = some (.ins C dx fs)) (e : But (· = p) H H') : TupK H H' := fun a xs h => but_tup hp e h
theorem TupK.lst {H : Hp} {D : Addr} {xs : List V} {o : HO} (hD : H D = some (.lst xs)) : TupK H (upd H D o) := fun a ys h => by
  rw [upd_ne (ne_of h hD (by intro z; cases z))]
  exact h
theorem TokAt.keep {H H' : Hp} {q : Addr} {t : Tk} (k : TupK H H') (h : TokAt H q t) : TokAt H' q t := by
  cases t with
  | name l =>
    obtain ⟨r, h1, h2⟩ := h
    exact ⟨r, k _ _ h1, k _ _ h2⟩
  | num n => exact k _ _ h
  | sign s => exact k _ _ h
theorem ToksAt.keep {H H' : Hp} {qs : List Addr} {ts : List Tk} (k : TupK H H') (h : ToksAt H qs ts) : ToksAt H' qs ts := by
  refine ⟨h.1, fun i q hq => ?_⟩
  obtain ⟨t, h1, h2⟩ := h.2 i q hq
  exact ⟨t, h1, h2.keep k⟩
theorem CondAt.keep {H H' : Hp} (k : TupK H H') : ∀ {d : Nat} {v : Addr} {cd : Cond}, CondAt H d v cd → CondAt H' d v cd
  | 0, v, cd, h => by
    obtain ⟨xs, h1, h2⟩ := h
    exact ⟨xs, h1, k _ _ h2⟩
  | d + 1, v, cd, h => by
    rcases h with ⟨xs, h1, h2⟩ | ⟨n, q, c', h1, h0, h2, h3⟩ | ⟨b, t, qs, cs, h1, h2, h3, h4, h5, h6⟩
    · exact .inl ⟨xs, h1, k _ _ h2⟩
    · exact .inr (.inl ⟨n, q, c', k _ _ h1, h0, CondAt.keep k h2, h3⟩)
    · refine .inr (.inr ⟨b, t, qs, cs, k _ _ h1, k _ _ h2, h3, h4, fun i q hq => ?_, h6⟩)
      obtain ⟨c', h7, h8⟩ := h5 i q hq
      exact ⟨c', h7, CondAt.keep k h8⟩
theorem CondAt.le {H : Hp} {d d' : Nat} {v : Addr} {cd : Cond} (h : CondAt H d v cd) (hd : d ≤ d') : CondAt H d' v cd := by
  obtain ⟨n, rfl⟩ := Nat.exists_eq_add_of_le hd
  induction n with
  | zero => exact h
  | succ n ih => exact (ih (Nat.le_add_right _ _)).up
/-- the token next, or the end -/
def Top (H : Hp) (q : Addr) : List Tk → Prop
  | [] => H q = some (.tup [.str "end", .int 0])
  | t :: _ => TokAt H q t
def tag : List Tk → Str
  | [] => "end"
  | .name _ :: _ => "name"
  | .num _ :: _ => "number"
  | .sign _ :: _ => "sign"
/-- the key of a name; the numbers of the lines by their names -/
def nk (l : List Nat) : List Key := l.map fun n => .inl ((n : Nat) : Int)
theorem nk_V (l : List Nat) : (nk l).map kV = vN l := by
  unfold nk
  rw [List.map_map]
  rfl
theorem nk_inj {l r : List Nat} (h : nk l = nk r) : l = r := by
  unfold nk at h
  refine List.map_inj_right (f := fun n : Nat => (Sum.inl (n : Int) : Key)) (fun a b e => ?_) |>.mp h
  have := Sum.inl.inj e
  omega
def NmAt (H : Hp) (p : Addr) (nm : List (List Nat)) : Prop := ∃ kvs : List (List Key × V), H p = some (.dT kvs) ∧ kvs.length ≤ nm.length ∧ ∀ n, valV kvs (nk n) = (lineOf nm n).map fun i => V.int ((i : Nat) : Int)
theorem NmAt.but {H H' : Hp} {p r C dx : Addr} {fs : List (Str × V)} {nm : List (List Nat)} (hr : H r = some (.ins C dx fs)) (e : But (· = r) H H') (h : NmAt H p nm) : NmAt H' p nm := by
  obtain ⟨kvs, h1, h2⟩ := h
  exact ⟨kvs, e p _ h1 (ne_of h1 hr (by intro z; cases z)), h2⟩
theorem NmAt.same {H H' : Hp} {p : Addr} {nm : List (List Nat)} (e : Same H H') (h : NmAt H p nm) : NmAt H' p nm := by
  obtain ⟨kvs, h1, h2⟩ := h
  exact ⟨kvs, e p _ h1, h2⟩
def rdV (pt pn : Addr) (i d : Nat) : List (Str × V) := [("tokens", .ref pt), ("at", .int (i : Nat)), ("names", .ref pn), ("deep", .int (d : Nat))]
structure ReadAt (C : Addr) (H : Hp) (r : Addr) (nm : List (List Nat)) (t : List Tk) (d : Nat) : Prop where
  ex : ∃ (dx pt pn : Addr) (qs : List Addr) (e : Addr) (ts : List Tk) (i : Nat), H r = some (.ins C dx (rdV pt pn i d)) ∧ H pt = some (.lst (qs.map V.ref ++ [.ref e])) ∧ H e = some (.tup [.str "end", .int 0]) ∧
    ToksAt H qs ts ∧ (∀ y ∈ ts, TokOk y) ∧ i ≤ ts.length ∧ t = ts.drop i ∧ NmAt H pn nm
theorem ReadAt.ok {C : Addr} {H : Hp} {r : Addr} {nm : List (List Nat)} {t : List Tk} {d : Nat} (h : ReadAt C H r nm t d) : ∀ y ∈ t, TokOk y := by
  obtain ⟨dx, pt, pn, qs, e, ts, i, h1, h2, h3, h4, h5, h6, rfl, h8⟩ := h.ex
  exact fun y hy => h5 y (List.mem_of_mem_drop hy)
theorem ReadAt.same {C : Addr} {H H' : Hp} {r : Addr} {nm : List (List Nat)} {t : List Tk} {d : Nat} (s : Same H H') (h : ReadAt C H r nm t d) : ReadAt C H' r nm t d := by
  obtain ⟨dx, pt, pn, qs, e, ts, i, h1, h2, h3, h4, h5, h6, h7, h8⟩ := h.ex
  exact ⟨dx, pt, pn, qs, e, ts, i, s _ _ h1, s _ _ h2, s _ _ h3, h4.same s, h5, h6, h7, h8.same s⟩
theorem ReadAt.opens {C : Addr} {H : Hp} {r : Addr} {nm : List (List Nat)} {t : List Tk} {d : Nat} (h : ReadAt C H r nm t d) :
    ∃ (dx pt pn : Addr) (i : Nat) (xs : List V) (q : Addr), H r = some (.ins C dx (rdV pt pn i d)) ∧ H pt = some (.lst xs) ∧ xs[i]? = some (.ref q) ∧ Top H q t ∧ NmAt H pn nm ∧
      (∀ x t', t = x :: t' → ∀ H', But (· = r) H H' → H' r = some (.ins C dx (rdV pt pn (i + 1) d)) → ReadAt C H' r nm t' d) ∧
      (∀ H' d', But (· = r) H H' → H' r = some (.ins C dx (rdV pt pn i d')) → ReadAt C H' r nm t d') := by
  obtain ⟨dx, pt, pn, qs, e, ts, i, h1, h2, h3, h4, h5, h6, rfl, h8⟩ := h.ex
  have hit : ∃ q, (qs.map V.ref ++ [V.ref e])[i]? = some (.ref q) ∧ Top H q (ts.drop i) := by
    by_cases hi : i < ts.length
    · have hq : i < qs.length := by rw [h4.1]; exact hi
      obtain ⟨t, g1, g2⟩ := h4.2 i qs[i] (List.getElem?_eq_getElem hq)
      refine ⟨qs[i], ?_, ?_⟩
      · rw [List.getElem?_append_left (by rw [List.length_map]; exact hq), List.getElem?_map, List.getElem?_eq_getElem hq]
        rfl
      · rw [List.drop_eq_getElem_cons hi]
        have : ts[i] = t := Option.some.inj (by rw [← g1, List.getElem?_eq_getElem hi])
        rw [this]
        exact g2
    · have hi' : i = ts.length := by omega
      refine ⟨e, ?_, ?_⟩
      · rw [List.getElem?_append_right (by rw [List.length_map, h4.1]; omega), List.length_map, h4.1, hi', Nat.sub_self]
        rfl
      · rw [hi', List.drop_length]
        exact h3
  obtain ⟨q, g1, g2⟩ := hit
  refine ⟨dx, pt, pn, i, _, q, h1, h2, g1, g2, h8, fun x t' ht H' hb hr => ?_, fun H' d' hb hr => ?_⟩
  · have hk := TupK.ins h1 hb
    have hi : i < ts.length := by
      have := congrArg List.length ht
      rw [List.length_drop, List.length_cons] at this
      omega
    refine ⟨dx, pt, pn, qs, e, ts, i + 1, hr, but_lst h1 hb h2, hk _ _ h3, h4.keep hk, h5, hi, ?_, h8.but h1 hb⟩
    rw [List.drop_eq_getElem_cons hi] at ht
    exact (List.cons.inj ht).2.symm
  · have hk := TupK.ins h1 hb
    exact ⟨dx, pt, pn, qs, e, ts, i, hr, but_lst h1 hb h2, hk _ _ h3, h4.keep hk, h5, h6, rfl, h8.but h1 hb⟩
theorem ReadAt.is {C : Addr} {H : Hp} {r : Addr} {nm : List (List Nat)} {t : List Tk} {d : Nat} (h : ReadAt C H r nm t d) : ∃ dx pt pn i, H r = some (.ins C dx (rdV pt pn i d)) := by
  obtain ⟨dx, pt, pn, qs, e, ts, i, h1, _⟩ := h.ex
  exact ⟨dx, pt, pn, i, h1⟩
/-! tokens as data -/
def tokD : List Tk → PyData
  | [] => .tuple [.str "end", .int 0]
  | .name l :: _ => .tuple [.str "name", .tuple (l.map fun n => .int ((n : Nat) : Int))]
  | .num n :: _ => .tuple [.str "number", .int n]
  | .sign s :: _ => .tuple [.str "sign", .int s]
theorem dp_ints {K : PySem.W.Frag} {H : Hp} : ∀ l : List Nat, DpAll K H (vN l) (l.map fun n => .int ((n : Nat) : Int))
  | [] => .nil
  | n :: r => .cons (.int _) (dp_ints r)
theorem top_dp {K : PySem.W.Frag} {H : Hp} {q : Addr} : ∀ {t : List Tk}, Top H q t → Dp K H (.ref q) (tokD t)
  | [], h => .tup (SqT.of h) (.cons (.str _) (.cons (.int _) .nil))
  | .name l :: _, ⟨r, h1, h2⟩ => .tup (SqT.of h1) (.cons (.str _) (.cons (.tup (SqT.of h2) (dp_ints l)) .nil))
  | .num n :: _, h => .tup (SqT.of h) (.cons (.str _) (.cons (.int _) .nil))
  | .sign s :: _, h => .tup (SqT.of h) (.cons (.str _) (.cons (.int _) .nil))
theorem ints_lay : ∀ l : List Nat, PyData.canLayAll0 (l.map fun n => PyData.int ((n : Nat) : Int)) = true ∧ PyData.depthAll (l.map fun n => PyData.int ((n : Nat) : Int)) ≤ 1
  | [] => ⟨rfl, by simp [PyData.depthAll]⟩
  | n :: r => by
    obtain ⟨h1, h2⟩ := ints_lay r
    refine ⟨?_, ?_⟩
    · simp only [List.map_cons, PyData.canLayAll0, PyData.canLay0, h1, Bool.and_self]
    · simp only [List.map_cons, PyData.depthAll, PyData.depth]
      omega
theorem tok_shaped : ∀ t : List Tk, SeqAt.shaped (tokD t) = true
  | [] => by decide +kernel
  | .name l :: _ => by
    obtain ⟨h1, h2⟩ := ints_lay l
    have hn : PyData.strOk "name" = true := by decide +kernel
    refine Bool.and_eq_true_iff.mpr ⟨?_, decide_eq_true ?_⟩
    · simp only [tokD, PyData.canLay0, PyData.canLayAll0, h1, hn, Bool.and_true]
    · simp only [tokD, PyData.depth, PyData.depthAll]
      omega
  | .num n :: _ => by
    have hn : PyData.strOk "number" = true := by decide +kernel
    refine Bool.and_eq_true_iff.mpr ⟨?_, decide_eq_true ?_⟩
    · simp only [tokD, PyData.canLay0, PyData.canLayAll0, hn, Bool.and_true]
    · simp only [tokD, PyData.depth, PyData.depthAll]
      omega
  | .sign n :: _ => by
    have hn : PyData.strOk "sign" = true := by decide +kernel
    refine Bool.and_eq_true_iff.mpr ⟨?_, decide_eq_true ?_⟩
    · simp only [tokD, PyData.canLay0, PyData.canLayAll0, hn, Bool.and_true]
    · simp only [tokD, PyData.depth, PyData.depthAll]
      omega
theorem tok_eqv (b : Nat) : ∀ t : List Tk, PyData.eqv (tokD t) (tokD [.sign b]) = (hd b t).isSome
  | [] => by
    simp only [tokD, PyData.eqv, PyData.eqvAll, hd]
    rw [show (("end" : Str) == "sign") = false by decide]
    rfl
  | .name l :: _ => by
    simp only [tokD, PyData.eqv, PyData.eqvAll, hd]
    rw [show (("name" : Str) == "sign") = false by decide]
    rfl
  | .num n :: _ => by
    simp only [tokD, PyData.eqv, PyData.eqvAll, hd]
    rw [show (("number" : Str) == "sign") = false by decide]
    rfl
  | .sign s :: _ => by
    simp only [tokD, PyData.eqv, PyData.eqvAll, hd]
    by_cases h : s = b
    · subst h
      simp
    · rw [if_neg h]
      have : ((s : Int) == (b : Int)) = false := beq_false_of_ne (by omega)
      simp [this]
section
variable {P : Program} {w : World} {K : PySem.W.Frag} {mg : Str → Option Value} {base : Heap} {c : Cs}
def spIsNext (C : Addr) : Sp := fun vs H Q _ => ∃ (r : Addr) (z : Str) (nm : List (List Nat)) (t : List Tk) (d : Nat), vs = [.ref r, .str z] ∧ ReadAt C H r nm t d ∧ Q (.bl (decide (tag t = z))) H
theorem ok_is_next (T : Txt K mg c) : Met P w K mg base CX0 1 c.reader "is_next" (spIsNext c.reader) := by
  refine met_of0 T.c.c_Reader T.m.m_Reader_is_next sc_Reader_is_next b_Reader_is_next (fun vs H Q E h => ?_) (fun f cdv A outer s H vs Q E hr h => ⟨_, (D_Reader_is_next T hr).2, ?_⟩)
  · obtain ⟨r, z, nm, t, d, rfl, _⟩ := h
    rfl
  · obtain ⟨r, z, nm, t, d, rfl, hR, k⟩ := h
    obtain ⟨dx, pt, pn, i, xs, q, h1, h2, h3, h4, h5, _, _⟩ := hR.opens
    have key : ∃ ys, H q = some (.tup (.str (tag t) :: ys)) := by
      cases t with
      | nil => exact ⟨_, h4⟩
      | cons x t =>
        cases x with
        | name l =>
          obtain ⟨p, g1, g2⟩ := h4
          exact ⟨_, g1⟩
        | num n => exact ⟨_, h4⟩
        | sign s => exact ⟨_, h4⟩
    obtain ⟨ys, hq⟩ := key
    refine ⟨_, rfl, r, _, dx, _, _, rfl, h1, T.c.c_Reader, T.c.a_Reader_tokens, rfl, _, rfl, r, _, dx, _, _, rfl, h1, T.c.c_Reader, T.c.a_Reader_at, rfl, pt, _, _, _, rfl, rfl, SqL.of h2, atI_nat h3, q, _, _, _, rfl, rfl, SqT.of hq, atI_nat (j := 0) rfl, _, rfl, rfl, ?_⟩
    rw [show decide (tag t = z) = decide (V.str (tag t) = V.str z) from decide_eq_decide.mpr ⟨fun z => congrArg V.str z, fun z => V.str.inj z⟩] at k
    exact k
def spPasses (C : Addr) : Sp := fun vs H Q _ => ∃ (r : Addr) (b : Nat) (nm : List (List Nat)) (t : List Tk) (d : Nat), vs = [.ref r, .int b] ∧ ReadAt C H r nm t d ∧
  (hd b t = none → ∀ H', Same H H' → Q (.bl false) H') ∧ ∀ t', hd b t = some t' → ∀ H', But (· = r) H H' → ReadAt C H' r nm t' d → Q (.bl true) H'
theorem ok_passes (T : Txt K mg c) : Met P w K mg base CX0 1 c.reader "passes" (spPasses c.reader) := by
  refine met_of0 T.c.c_Reader T.m.m_Reader_passes sc_Reader_passes b_Reader_passes (fun vs H Q E h => ?_) (fun f cdv A outer s H vs Q E hr h => ⟨_, (D_Reader_passes T hr).2, ?_⟩)
  · obtain ⟨r, b, nm, t, d, rfl, _⟩ := h
    rfl
  · obtain ⟨r, b, nm, t, d, rfl, hR, k0, k1⟩ := h
    obtain ⟨dx, pt, pn, i, xs, q, h1, h2, h3, h4, h5, h6, _⟩ := hR.opens
    refine ⟨_, rfl, r, _, dx, _, _, rfl, h1, T.c.c_Reader, T.c.a_Reader_tokens, rfl, _, rfl, r, _, dx, _, _, rfl, h1, T.c.c_Reader, T.c.a_Reader_at, rfl, pt, _, _, _, rfl, rfl, SqL.of h2, atI_nat h3, ?_⟩
    refine ⟨_, rfl, by show 2 ≤ sizeLine; decide, fun p n => ?_⟩
    have e := Same.new (o := .tup [.str "sign", .int (b : Int)]) n
    refine ⟨tokD t, tokD [.sign b], top_dp ?_, top_dp (t := [.sign b]) upd_same, tok_shaped _, tok_shaped _, _, rfl, ?_⟩
    · cases t with
      | nil => exact e _ _ h4
      | cons x t => exact TokAt.same e h4
    rw [tok_eqv]
    cases hh : hd b t with
    | none => exact ite_yes rfl (k0 hh _ e)
    | some t' =>
      refine ite_no rfl ?_
      refine ⟨_, rfl, r, _, dx, _, _, rfl, e _ _ h1, T.c.c_Reader, T.c.a_Reader_at, rfl, _, _, rfl, rfl, dx, _, e _ _ h1, by show 4 < 1000; decide, k1 t' hh _ ((But.of e).trans (but_fld But.refl)) (h6 _ _ (hd_some hh) _ ((But.of e).trans (but_fld But.refl)) upd_same)⟩
end
end Ev
namespace Ev
open PySem PySem.Spec PyProof.Rows L2
open Sj25 (Cond kindOf lineOf Parsed)
section
variable {P : Program} {w : World} {K : PySem.W.Frag} {mg : Str → Option Value} {base : Heap} {c : Cs}
def spTakeSign (C BL : Addr) : Sp := fun vs H Q E => ∃ (r : Addr) (b : Nat) (nm : List (List Nat)) (t : List Tk) (d : Nat), vs = [.ref r, .int b] ∧ ReadAt C H r nm t d ∧
  (hd b t = none → ∀ H', But (· = r) H H' → E (.ref BL) none H') ∧ ∀ t', hd b t = some t' → ∀ H', But (· = r) H H' → ReadAt C H' r nm t' d → Q .non H'
theorem ok_take_sign (T : Txt K mg c) : Met P w K mg base (L2N.CX P w) 2 c.reader "take_sign" (spTakeSign c.reader c.badLine) := by
  have GW : Cal P w K mg base (L2N.CX P w) 1 "want" (spWant c.badLine) := ok_want T
  have GP : Met P w K mg base CX0 1 c.reader "passes" (spPasses c.reader) := ok_passes T
  refine met_of T.c.c_Reader T.m.m_Reader_take_sign sc_Reader_take_sign b_Reader_take_sign (fun vs H Q E h => ?_) (fun f cdv A outer s H vs Q E hr h => ⟨_, (D_Reader_take_sign T GW (by decide) GP (by decide) hr).2, ?_⟩)
  · obtain ⟨r, b, nm, t, d, rfl, _⟩ := h
    rfl
  · obtain ⟨r, b, nm, t, d, rfl, hR, kx, k⟩ := h
    obtain ⟨dx, pt, pn, i, h1⟩ := hR.is
    refine ⟨_, rfl, r, dx, _, rfl, h1, rfl, _, rfl, r, b, nm, t, d, rfl, hR, fun hn H' e => ?_, fun t' hs H' e hR' => ?_⟩
    · exact ⟨false, rfl, fun z => (nomatch z), fun _ => kx hn H' (But.of e)⟩
    · exact ⟨true, rfl, fun _ => k t' hs H' e hR', fun z => (nomatch z)⟩
def spTake (C BL : Addr) : Sp := fun vs H Q E => ∃ (r : Addr) (z : Str) (nm : List (List Nat)) (t : List Tk) (d : Nat), vs = [.ref r, .str z] ∧ ReadAt C H r nm t d ∧
  ((z = "name" ∧ (tName t = none → ∀ H', But (· = r) H H' → E (.ref BL) none H') ∧ ∀ l t', tName t = some (l, t') → ∀ H' q, But (· = r) H H' → ReadAt C H' r nm t' d → H' q = some (.tup (vN l)) → Q (.ref q) H') ∨
   (z = "number" ∧ (tNum t = none → ∀ H', But (· = r) H H' → E (.ref BL) none H') ∧ ∀ n t', tNum t = some (n, t') → ∀ H', But (· = r) H H' → ReadAt C H' r nm t' d → Q (.int n) H'))
theorem n_end_name {q : Prop} (h : ("end" : Str) = "name") : q := absurd h (by decide)
theorem n_number_name {q : Prop} (h : ("number" : Str) = "name") : q := absurd h (by decide)
theorem n_sign_name {q : Prop} (h : ("sign" : Str) = "name") : q := absurd h (by decide)
theorem n_end_number {q : Prop} (h : ("end" : Str) = "number") : q := absurd h (by decide)
theorem n_name_number {q : Prop} (h : ("name" : Str) = "number") : q := absurd h (by decide)
theorem n_sign_number {q : Prop} (h : ("sign" : Str) = "number") : q := absurd h (by decide)
theorem tag_name {t : List Tk} : (tag t = "name" → ∃ l t', t = .name l :: t') ∧ (tag t ≠ "name" → tName t = none) := by
  cases t with
  | nil => exact ⟨fun h => n_end_name h, fun _ => rfl⟩
  | cons x t =>
    cases x with
    | name l => exact ⟨fun _ => ⟨l, t, rfl⟩, fun h => absurd rfl h⟩
    | num n => exact ⟨fun h => n_number_name h, fun _ => rfl⟩
    | sign s => exact ⟨fun h => n_sign_name h, fun _ => rfl⟩
theorem tag_num {t : List Tk} : (tag t = "number" → ∃ n t', t = .num n :: t') ∧ (tag t ≠ "number" → tNum t = none) := by
  cases t with
  | nil => exact ⟨fun h => n_end_number h, fun _ => rfl⟩
  | cons x t =>
    cases x with
    | num l => exact ⟨fun _ => ⟨l, t, rfl⟩, fun h => absurd rfl h⟩
    | name n => exact ⟨fun h => n_name_number h, fun _ => rfl⟩
    | sign s => exact ⟨fun h => n_sign_number h, fun _ => rfl⟩
theorem ok_take (T : Txt K mg c) : Met P w K mg base (L2N.CX P w) 2 c.reader "take" (spTake c.reader c.badLine) := by
  have GW : Cal P w K mg base (L2N.CX P w) 1 "want" (spWant c.badLine) := ok_want T
  have GI : Met P w K mg base CX0 1 c.reader "is_next" (spIsNext c.reader) := ok_is_next T
  refine met_of T.c.c_Reader T.m.m_Reader_take sc_Reader_take b_Reader_take (fun vs H Q E h => ?_) (fun f cdv A outer s H vs Q E hr h => ⟨_, (D_Reader_take T GW (by decide) GI (by decide) hr).2, ?_⟩)
  · obtain ⟨r, z, nm, t, d, rfl, _⟩ := h
    rfl
  · obtain ⟨r, z, nm, t, d, rfl, hR, hz⟩ := h
    obtain ⟨dx, pt, pn, i, xs, q, h1, h2, h3, h4, h5, h6, _⟩ := hR.opens
    refine ⟨_, rfl, r, dx, _, rfl, h1, rfl, _, rfl, r, z, nm, t, d, rfl, hR, _, rfl, fun ht => ?_, fun ht => ?_⟩
    · have ht := of_decide_eq_true ht
      have go : ∀ (x : Tk) (t' : List Tk) (y v : V), t = x :: t' → H q = some (.tup [y, v]) → (∀ H', But (· = r) H H' → ReadAt c.reader H' r nm t' d → Q v H') →
          (tSeq (sFldAug K (tVar 0) (tC (.int 1)) (rI0 fun i j => .int (i + j)) "at") (tRet (tOp (rIxT K) (tOp (rIxL K) (tFld K (tVar 0) "tokens") (tOp (rI0 fun i j => .int (i - j)) (tFld K (tVar 0) "at") (tC (.int 1)))) (tC (.int 1))))) { nx := fun _ H' => Q .non H', rt := Q } (start n_Reader_take [.ref r, .str z]) H := by
        intro x t' y v hx hq k
        have b1 : But (· = r) H (upd H r (.ins c.reader dx (rdV pt pn (i + 1) d))) := but_fld But.refl
        have hR' := h6 x t' hx _ b1 upd_same
        have h2' := but_lst h1 b1 h2
        have hq' := but_tup h1 b1 hq
        refine ⟨_, rfl, r, _, dx, _, _, rfl, h1, T.c.c_Reader, T.c.a_Reader_at, rfl, _, _, rfl, rfl, dx, _, h1, by show 4 < 1000; decide, ?_⟩
        refine ⟨_, rfl, r, _, dx, _, _, rfl, upd_same, T.c.c_Reader, T.c.a_Reader_tokens, rfl, _, rfl, r, _, dx, _, _, rfl, upd_same, T.c.c_Reader, T.c.a_Reader_at, rfl, _, _, rfl, rfl, pt, _, _, _, rfl, rfl, SqL.of h2', ?_, q, _, _, _, rfl, rfl, SqT.of hq', atI_nat (j := 1) rfl, k _ b1 hR'⟩
        rw [Int.add_sub_cancel]
        exact atI_nat h3
      rcases hz with ⟨rfl, kx, k⟩ | ⟨rfl, kx, k⟩
      · obtain ⟨l, t', rfl⟩ := tag_name.1 ht
        obtain ⟨p, g1, g2⟩ := h4
        exact go _ _ _ _ rfl g1 fun H' b hR' => k l t' rfl H' p b hR' (but_tup h1 b g2)
      · obtain ⟨n, t', rfl⟩ := tag_num.1 ht
        exact go _ _ _ _ rfl h4 fun H' b hR' => k n t' rfl H' b hR'
    · have ht := of_decide_eq_false ht
      rcases hz with ⟨rfl, kx, k⟩ | ⟨rfl, kx, k⟩
      · exact kx (tag_name.2 ht) _ But.refl
      · exact kx (tag_num.2 ht) _ But.refl
/-- what a method that reads a number answers: a number, a kind, a line -/
def spTakes (C BL : Addr) (n : Nat) (f : List V → List (List Nat) → List Tk → Option (Nat × List Tk)) : Sp := fun vs H Q E => ∃ (r : Addr) (us : List V) (nm : List (List Nat)) (t : List Tk) (d : Nat), vs = .ref r :: us ∧ us.length = n ∧ (n = 2 → ∃ a b : Nat, us = [.int a, .int b]) ∧ ReadAt C H r nm t d ∧
  (f us nm t = none → ∀ H', But (· = r) H H' → E (.ref BL) none H') ∧ ∀ v t', f us nm t = some (v, t') → ∀ H', But (· = r) H H' → ReadAt C H' r nm t' d → Q (.int v) H'
def fNum : List V → List (List Nat) → List Tk → Option (Nat × List Tk) := fun us _ t => match us with | [.int (.ofNat a), .int (.ofNat b)] => tNumB a b t | _ => none
theorem ok_take_number (T : Txt K mg c) : Met P w K mg base (L2N.CX P w) 3 c.reader "take_number" (spTakes c.reader c.badLine 2 fNum) := by
  have GT : Met P w K mg base (L2N.CX P w) 2 c.reader "take" (spTake c.reader c.badLine) := ok_take T
  have GW : Cal P w K mg base (L2N.CX P w) 1 "want" (spWant c.badLine) := ok_want T
  refine met_of T.c.c_Reader T.m.m_Reader_take_number sc_Reader_take_number b_Reader_take_number (fun vs H Q E h => ?_) (fun f cdv A outer s H vs Q E hr h => ⟨_, (D_Reader_take_number T GT (by decide) GW (by decide) hr).2, ?_⟩)
  · obtain ⟨r, us, nm, t, d, rfl, hl, _⟩ := h
    show us.length + 1 = 3
    rw [hl]
  · obtain ⟨r, us, nm, t, d, rfl, _, hus, hR, kx, k⟩ := h
    obtain ⟨a, b, rfl⟩ := hus rfl
    have kx : tNumB a b t = none → _ := kx
    have k : ∀ v t', tNumB a b t = some (v, t') → _ := k
    obtain ⟨dx, pt, pn, i, h1⟩ := hR.is
    refine ⟨_, rfl, r, dx, _, rfl, h1, rfl, r, _, nm, t, d, rfl, hR, .inr ⟨rfl, fun hn H' e => kx (by unfold tNumB; rw [hn]; rfl) H' e, fun n t' hs H' e hR' => ?_⟩⟩
    have en : tNumB a b t = if n < a ∨ b < n then none else some (n, t') := by unfold tNumB; rw [hs]; rfl
    rw [en] at kx k
    have yes : ∀ q : Bool, (q = true ↔ a ≤ n ∧ n ≤ b) → (∃ b1 : Bool, [V.bl q] = [.bl b1] ∧ (b1 = true → Q (.int n) H') ∧ (b1 = false → E (.ref c.badLine) none H')) := fun q hq => by
      refine ⟨q, rfl, fun z => ?_, fun z => ?_⟩
      · have := hq.mp z
        rw [if_neg (by omega)] at k
        exact k _ _ rfl H' e hR'
      · have : ¬ (a ≤ n ∧ n ≤ b) := fun y => by rw [hq.mpr y] at z; cases z
        rw [if_pos (by omega)] at kx
        exact kx rfl H' e
    refine ⟨_, rfl, _, rfl, _, _, rfl, rfl, _, rfl, ite2 (fun q => ?_) (fun q => ?_)⟩
    · have ha := of_decide_eq_true q
      refine ⟨_, rfl, _, _, rfl, rfl, ?_⟩
      obtain ⟨b1, g1, g2, g3⟩ := yes (decide ((n : Int) ≤ b)) ⟨fun z => ⟨by omega, by have := of_decide_eq_true z; omega⟩, fun z => decide_eq_true (by omega)⟩
      exact ⟨b1, g1, fun z => ⟨_, rfl, g2 z⟩, g3⟩
    · obtain ⟨b1, g1, g2, g3⟩ := yes false ⟨fun z => (nomatch z), fun z => absurd (decide_eq_true (by omega)) q⟩
      exact ⟨b1, g1, fun z => ⟨_, rfl, g2 z⟩, g3⟩
def fKind : List V → List (List Nat) → List Tk → Option (Nat × List Tk) := fun _ _ t => tKind t
def fLine : List V → List (List Nat) → List Tk → Option (Nat × List Tk) := fun _ nm t => tLine nm t
theorem ok_take_kind (T : Txt K mg c) : Met P w K mg base (L2N.CX P w) 3 c.reader "take_kind" (spTakes c.reader c.badLine 0 fKind) := by
  have GT : Met P w K mg base (L2N.CX P w) 2 c.reader "take" (spTake c.reader c.badLine) := ok_take T
  have GW : Cal P w K mg base (L2N.CX P w) 1 "want" (spWant c.badLine) := ok_want T
  refine met_of T.c.c_Reader T.m.m_Reader_take_kind sc_Reader_take_kind b_Reader_take_kind (fun vs H Q E h => ?_) (fun f cdv A outer s H vs Q E hr h => ⟨_, (D_Reader_take_kind T GT (by decide) GW (by decide) hr).2, ?_⟩)
  · obtain ⟨r, us, nm, t, d, rfl, hl, _⟩ := h
    show us.length + 1 = 1
    rw [hl]
  · obtain ⟨r, us, nm, t, d, rfl, hl, _, hR, kx, k⟩ := h
    obtain rfl := List.length_eq_zero_iff.mp hl
    have kx : tKind t = none → _ := kx
    have k : ∀ v t', tKind t = some (v, t') → _ := k
    obtain ⟨dx, pt, pn, i, h1⟩ := hR.is
    refine ⟨_, rfl, r, dx, _, rfl, h1, rfl, r, _, nm, t, d, rfl, hR, .inl ⟨rfl, fun hn H' e => kx (by unfold tKind; rw [hn]; rfl) H' e, fun l t' hs H' q e hR' hq => ?_⟩⟩
    have en : tKind t = (kindOf l).map fun x => (x, t') := by unfold tKind; rw [hs]; rfl
    rw [en] at kx k
    refine ⟨_, rfl, q, _, rfl, .inr (SqT.of hq), rfl, _, rfl, ite2 (fun y => ?_) (fun y => ?_)⟩
    · have h1 : l.length = 1 := by
        have := V.int.inj (of_decide_eq_true y)
        rw [vN_len] at this
        omega
      match l, h1 with
      | [x], _ =>
        have ek : kindOf [x] = if 97 ≤ x ∧ x ≤ 104 then some (x - 97) else none := rfl
        rw [ek] at kx k
        refine ⟨_, rfl, q, _, _, _, rfl, rfl, SqT.of hq, atI_nat (j := 0) rfl, _, _, rfl, rfl, _, rfl, ite2 (fun z => ?_) (fun z => ?_)⟩
        · have h97 := of_decide_eq_true z
          refine ⟨_, _, rfl, rfl, _, _, rfl, rfl, _, rfl, fun g => ?_, fun g => ?_⟩
          · have g := of_decide_eq_true g
            rw [if_pos (by omega)] at k
            refine ⟨_, rfl, q, _, _, _, rfl, rfl, SqT.of hq, atI_nat (j := 0) rfl, _, _, rfl, rfl, ?_⟩
            show Q (.int ((x : Int) - 97)) H'
            rw [show ((x : Int) - 97) = ((x - 97 : Nat) : Int) by omega]
            exact k _ _ rfl H' e hR'
          · have g := of_decide_eq_false g
            rw [if_neg (by omega)] at kx
            exact kx rfl H' e
        · refine ⟨_, rfl, fun g => (nomatch g), fun _ => ?_⟩
          have : ¬ ((97 : Int) ≤ x) := fun g => z (decide_eq_true g)
          rw [if_neg (by omega)] at kx
          exact kx rfl H' e
    · have h1 : l.length ≠ 1 := fun z => y (decide_eq_true (by rw [vN_len, z]; rfl))
      have ek : kindOf l = none := by
        match l, h1 with
        | [], _ => rfl
        | [x], h => exact absurd rfl h
        | _ :: _ :: _, _ => rfl
      rw [ek] at kx
      exact ⟨_, rfl, fun g => (nomatch g), fun _ => kx rfl H' e⟩
theorem ok_take_line (T : Txt K mg c) : Met P w K mg base (L2N.CX P w) 3 c.reader "take_line" (spTakes c.reader c.badLine 0 fLine) := by
  have GT : Met P w K mg base (L2N.CX P w) 2 c.reader "take" (spTake c.reader c.badLine) := ok_take T
  have GW : Cal P w K mg base (L2N.CX P w) 1 "want" (spWant c.badLine) := ok_want T
  refine met_of T.c.c_Reader T.m.m_Reader_take_line sc_Reader_take_line b_Reader_take_line (fun vs H Q E h => ?_) (fun f cdv A outer s H vs Q E hr h => ⟨_, (D_Reader_take_line T GT (by decide) GW (by decide) hr).2, ?_⟩)
  · obtain ⟨r, us, nm, t, d, rfl, hl, _⟩ := h
    show us.length + 1 = 1
    rw [hl]
  · obtain ⟨r, us, nm, t, d, rfl, hl, _, hR, kx, k⟩ := h
    obtain rfl := List.length_eq_zero_iff.mp hl
    have kx : tLine nm t = none → _ := kx
    have k : ∀ v t', tLine nm t = some (v, t') → _ := k
    obtain ⟨dx, pt, pn, i, h1⟩ := hR.is
    refine ⟨_, rfl, r, dx, _, rfl, h1, rfl, r, _, nm, t, d, rfl, hR, .inl ⟨rfl, fun hn H' e => kx (by unfold tLine; rw [hn]; rfl) H' e, fun l t' hs H' q e hR' hq => ?_⟩⟩
    have en : tLine nm t = (lineOf nm l).map fun x => (x, t') := by unfold tLine; rw [hs]; rfl
    rw [en] at kx k
    obtain ⟨dx, pt, pn, i, xs, q1, g1, g2, g3, g4, ⟨kvs, g5, g6, g7⟩, g8, g9⟩ := hR'.opens
    have hD : DGet H' pn (.ref q) (valV kvs (nk l)) := DGet.t g5 (by rw [nk_V]; exact hq)
    rw [g7] at hD
    refine ⟨_, rfl, _, rfl, r, _, dx, _, _, rfl, g1, T.c.c_Reader, T.c.a_Reader_names, rfl, pn, _, rfl, hD, _, rfl, fun y => ?_, fun y => ?_⟩
    · cases ho : lineOf nm l with
      | none =>
        rw [ho] at y
        cases y
      | some n =>
        rw [ho] at k hD
        exact ⟨_, rfl, r, _, dx, _, _, rfl, g1, T.c.c_Reader, T.c.a_Reader_names, rfl, _, rfl, pn, _, rfl, hD, k n t' rfl H' e hR'⟩
    · cases ho : lineOf nm l with
      | none =>
        rw [ho] at kx
        exact kx rfl H' e
      | some n =>
        rw [ho] at y
        cases y
end
end Ev
namespace Ev
open PySem PySem.Spec PyProof.Rows L2
open Sj25 (Cond kindOf lineOf)
/-- what a method answers that reads a condition -/
def spParse (C BL : Addr) (dep dd : Nat) (n : Nat) (f : List V → List (List Nat) → List Tk → Sj25.Parsed) : Sp := fun vs H Q E => ∃ (r : Addr) (us : List V) (nm : List (List Nat)) (t : List Tk) (d : Nat), vs = .ref r :: us ∧ us.length = n ∧ (n = 1 → ∃ a : Nat, us = [.int a]) ∧ (dd ≤ 16 → d = dd) ∧ t.length ≤ 100000 ∧ ReadAt C H r nm t d ∧
  (f us nm t = none → ∀ H', But (· = r) H H' → E (.ref BL) none H') ∧ ∀ cd t', f us nm t = some (cd, t') → ∀ H' v, But (· = r) H H' → ReadAt C H' r nm t' d → CondAt H' dep v cd → Q (.ref v) H'
section
variable {P : Program} {w : World} {K : PySem.W.Frag} {mg : Str → Option Value} {base : Heap} {c : Cs}
/-- the way of a taking method -/
theorem tk_num {C BL r : Addr} {H : Hp} {Q : VK} {E : XK} {nm : List (List Nat)} {t : List Tk} {d a b : Nat} (hR : ReadAt C H r nm t d)
    (kx : tNumB a b t = none → ∀ H', But (· = r) H H' → E (.ref BL) none H') (k : ∀ v t', tNumB a b t = some (v, t') → ∀ H', But (· = r) H H' → ReadAt C H' r nm t' d → Q (.int v) H') : spTakes C BL 2 fNum [.ref r, .int a, .int b] H Q E :=
  ⟨r, _, nm, t, d, rfl, rfl, fun _ => ⟨a, b, rfl⟩, hR, kx, k⟩
theorem tk_kind {C BL r : Addr} {H : Hp} {Q : VK} {E : XK} {nm : List (List Nat)} {t : List Tk} {d : Nat} (hR : ReadAt C H r nm t d)
    (kx : tKind t = none → ∀ H', But (· = r) H H' → E (.ref BL) none H') (k : ∀ v t', tKind t = some (v, t') → ∀ H', But (· = r) H H' → ReadAt C H' r nm t' d → Q (.int v) H') : spTakes C BL 0 fKind [.ref r] H Q E :=
  ⟨r, _, nm, t, d, rfl, rfl, fun z => (nomatch z), hR, kx, k⟩
theorem tk_line {C BL r : Addr} {H : Hp} {Q : VK} {E : XK} {nm : List (List Nat)} {t : List Tk} {d : Nat} (hR : ReadAt C H r nm t d)
    (kx : tLine nm t = none → ∀ H', But (· = r) H H' → E (.ref BL) none H') (k : ∀ v t', tLine nm t = some (v, t') → ∀ H', But (· = r) H H' → ReadAt C H' r nm t' d → Q (.int v) H') : spTakes C BL 0 fLine [.ref r] H Q E :=
  ⟨r, _, nm, t, d, rfl, rfl, fun z => (nomatch z), hR, kx, k⟩
theorem tk_sign {C BL r : Addr} {H : Hp} {Q : VK} {E : XK} {nm : List (List Nat)} {t : List Tk} {d b : Nat} (hR : ReadAt C H r nm t d)
    (kx : hd b t = none → ∀ H', But (· = r) H H' → E (.ref BL) none H') (k : ∀ t', hd b t = some t' → ∀ H', But (· = r) H H' → ReadAt C H' r nm t' d → Q .non H') : spTakeSign C BL [.ref r, .int b] H Q E :=
  ⟨r, b, nm, t, d, rfl, hR, kx, k⟩
theorem tk_pass {C r : Addr} {H : Hp} {Q : VK} {E : XK} {nm : List (List Nat)} {t : List Tk} {d b : Nat} (hR : ReadAt C H r nm t d)
    (k0 : hd b t = none → ∀ H', Same H H' → ReadAt C H' r nm t d → Q (.bl false) H') (k : ∀ t', hd b t = some t' → ∀ H', But (· = r) H H' → ReadAt C H' r nm t' d → Q (.bl true) H') : spPasses C [.ref r, .int b] H Q E :=
  ⟨r, b, nm, t, d, rfl, hR, fun h H' e => k0 h H' e (hR.same e), k⟩
/-- self.m(..) -/
theorem self_met {C r : Addr} {H : Hp} {σ : L2.St} {m : Str} {sp : Sp} {E : XK} {ts : TA} {Q : VK} {nm : List (List Nat)} {t : List Tk} {d : Nat} (h0 : σ[0]? = some (some (.ref r))) (hm : ((rdV 0 0 0 0).lookup m).isSome = false) (hR : ReadAt C H r nm t d)
    (h : ts σ H fun us H1 => sp (.ref r :: us) H1 Q E) : tMet C m sp E (tVar 0) ts σ H Q := by
  obtain ⟨dx, pt, pn, i, h1⟩ := hR.is
  refine ⟨_, h0, r, dx, _, rfl, h1, ?_, h⟩
  cases e : (rdV pt pn i d).lookup m with
  | none => rfl
  | some v =>
    have : ∀ (pt pn i d pt' pn' i' d' : Nat), ((rdV pt pn i d).lookup m).isSome = ((rdV pt' pn' i' d').lookup m).isSome := by
      intro pt pn i d pt' pn' i' d'
      unfold rdV
      simp only [List.lookup_cons]
      split
      · rfl
      · split
        · rfl
        · split
          · rfl
          · split
            · rfl
            · rfl
    rw [this 0 0 0 0 pt pn i d, e] at hm
    cases hm
theorem self0 {C r : Addr} {H : Hp} {σ : L2.St} {m : Str} {sp : Sp} {E : XK} {Q : VK} {nm : List (List Nat)} {t : List Tk} {d : Nat} (h0 : σ[0]? = some (some (.ref r))) (hm : ((rdV 0 0 0 0).lookup m).isSome = false) (hR : ReadAt C H r nm t d)
    (h : sp [.ref r] H Q E) : tMet C m sp E (tVar 0) tNil σ H Q := self_met h0 hm hR h
theorem self1 {C r : Addr} {H : Hp} {σ : L2.St} {m : Str} {sp : Sp} {E : XK} {Q : VK} {nm : List (List Nat)} {t : List Tk} {d : Nat} {x : V} (h0 : σ[0]? = some (some (.ref r))) (hm : ((rdV 0 0 0 0).lookup m).isSome = false) (hR : ReadAt C H r nm t d)
    (h : sp [.ref r, x] H Q E) : tMet C m sp E (tVar 0) (tCons (tC x) tNil) σ H Q := self_met h0 hm hR h
theorem self2 {C r : Addr} {H : Hp} {σ : L2.St} {m : Str} {sp : Sp} {E : XK} {Q : VK} {nm : List (List Nat)} {t : List Tk} {d : Nat} {x y : V} (h0 : σ[0]? = some (some (.ref r))) (hm : ((rdV 0 0 0 0).lookup m).isSome = false) (hR : ReadAt C H r nm t d)
    (h : sp [.ref r, x, y] H Q E) : tMet C m sp E (tVar 0) (tCons (tC x) (tCons (tC y) tNil)) σ H Q := self_met h0 hm hR h
theorem ok_read_sum (T : Txt K mg c) : Met P w K mg base (L2N.CX P w) 4 c.reader "read_sum" (spParse c.reader c.badLine 0 17 0 fun _ _ t => pSum t) := by
  have GK : Met P w K mg base (L2N.CX P w) 3 c.reader "take_kind" (spTakes c.reader c.badLine 0 fKind) := ok_take_kind T
  have GS : Met P w K mg base (L2N.CX P w) 2 c.reader "take_sign" (spTakeSign c.reader c.badLine) := ok_take_sign T
  have GN : Met P w K mg base (L2N.CX P w) 3 c.reader "take_number" (spTakes c.reader c.badLine 2 fNum) := ok_take_number T
  refine met_of T.c.c_Reader T.m.m_Reader_read_sum sc_Reader_read_sum b_Reader_read_sum (fun vs H Q E h => ?_) (fun f cdv A outer s H vs Q E hr h => ⟨_, (D_Reader_read_sum T GK (by decide) GS (by decide) GN (by decide) hr).2, ?_⟩)
  · obtain ⟨r, us, nm, t, d, rfl, hl, _⟩ := h
    show us.length + 1 = 1
    rw [hl]
  · obtain ⟨r, us, nm, t, d, rfl, hl, _, _, ht, hR, kx, k⟩ := h
    obtain rfl := List.length_eq_zero_iff.mp hl
    unfold pSum at kx k
    dsimp only at kx k
    refine self0 rfl rfl hR (tk_kind hR (fun hn H' e => kx (by rw [hn]; rfl) H' e) fun v t1 h1 H1 e1 hR1 => ?_)
    rw [h1] at kx k
    refine self1 rfl rfl hR1 (tk_sign (b := 62) hR1 (fun hn H' e => kx (by simp only [Option.bind_some, hn]; rfl) H' (e1.trans e)) fun t2 h2 H2 e2 hR2 => ?_)
    simp only [Option.bind_some, h2] at kx k
    refine ⟨_, rfl, self2 rfl rfl hR2 (tk_num (a := 0) (b := 99999) hR2 (fun hn H' e => kx (by rw [hn]; rfl) H' ((e1.trans e2).trans e)) fun v3 t3 h3 H3 e3 hR3 => ?_)⟩
    rw [h3] at k
    refine ⟨by show 3 ≤ sizeLine; decide, fun p n => ?_⟩
    have e4 := Same.new (o := .tup [.str "sum", .int (v : Int), .int (v3 : Int)]) n
    exact k _ _ rfl _ p (((e1.trans e2).trans e3).trans (But.of e4)) (hR3.same e4) ⟨_, rfl, upd_same⟩
theorem ok_read_some (T : Txt K mg c) : Met P w K mg base (L2N.CX P w) 4 c.reader "read_some" (spParse c.reader c.badLine 0 17 1 fun us _ t => match us with | [.int (.ofNat m)] => pSome m t | _ => none) := by
  have GK : Met P w K mg base (L2N.CX P w) 3 c.reader "take_kind" (spTakes c.reader c.badLine 0 fKind) := ok_take_kind T
  have GS : Met P w K mg base (L2N.CX P w) 2 c.reader "take_sign" (spTakeSign c.reader c.badLine) := ok_take_sign T
  have GN : Met P w K mg base (L2N.CX P w) 3 c.reader "take_number" (spTakes c.reader c.badLine 2 fNum) := ok_take_number T
  refine met_of T.c.c_Reader T.m.m_Reader_read_some sc_Reader_read_some b_Reader_read_some (fun vs H Q E h => ?_) (fun f cdv A outer s H vs Q E hr h => ⟨_, (D_Reader_read_some T GK (by decide) GS (by decide) GN (by decide) hr).2, ?_⟩)
  · obtain ⟨r, us, nm, t, d, rfl, hl, _⟩ := h
    show us.length + 1 = 2
    rw [hl]
  · obtain ⟨r, us, nm, t, d, rfl, hl, hu, _, ht, hR, kx, k⟩ := h
    obtain ⟨m, rfl⟩ := hu rfl
    have kx : pSome m t = none → _ := kx
    have k : ∀ cd t', pSome m t = some (cd, t') → _ := k
    unfold pSome at kx k
    refine self0 rfl rfl hR (tk_kind hR (fun hn H' e => kx (by rw [hn]; rfl) H' e) fun v t1 h1 H1 e1 hR1 => ?_)
    rw [h1] at kx k
    refine self1 rfl rfl hR1 (tk_sign (b := 62) hR1 (fun hn H' e => kx (by simp only [Option.bind_some, hn]; rfl) H' (e1.trans e)) fun t2 h2 H2 e2 hR2 => ?_)
    simp only [Option.bind_some, h2] at kx k
    refine ⟨_, rfl, _, rfl, self2 rfl rfl hR2 (tk_num (a := 0) (b := 65535) hR2 (fun hn H' e => kx (by rw [hn]; rfl) H' ((e1.trans e2).trans e)) fun v3 t3 h3 H3 e3 hR3 => ?_)⟩
    rw [h3] at k
    refine ⟨by show 4 ≤ sizeLine; decide, fun p n => ?_⟩
    have e4 := Same.new (o := .tup [.str "some", .int (m : Int), .int (v : Int), .int (v3 : Int)]) n
    exact k _ _ rfl _ p (((e1.trans e2).trans e3).trans (But.of e4)) (hR3.same e4) ⟨_, rfl, upd_same⟩
theorem ok_read_score (T : Txt K mg c) : Met P w K mg base (L2N.CX P w) 4 c.reader "read_score" (spParse c.reader c.badLine 0 17 0 fun _ _ t => pScore t) := by
  have GP : Met P w K mg base CX0 1 c.reader "passes" (spPasses c.reader) := ok_passes T
  have GS : Met P w K mg base (L2N.CX P w) 2 c.reader "take_sign" (spTakeSign c.reader c.badLine) := ok_take_sign T
  have GN : Met P w K mg base (L2N.CX P w) 3 c.reader "take_number" (spTakes c.reader c.badLine 2 fNum) := ok_take_number T
  refine met_of T.c.c_Reader T.m.m_Reader_read_score sc_Reader_read_score b_Reader_read_score (fun vs H Q E h => ?_) (fun f cdv A outer s H vs Q E hr h => ⟨_, (D_Reader_read_score T GS (by decide) GN (by decide) GP (by decide) hr).2, ?_⟩)
  · obtain ⟨r, us, nm, t, d, rfl, hl, _⟩ := h
    show us.length + 1 = 1
    rw [hl]
  · obtain ⟨r, us, nm, t, d, rfl, hl, hu, _, ht, hR, kx, k⟩ := h
    obtain rfl := List.length_eq_zero_iff.mp hl
    dsimp only at kx k
    unfold pScore at kx k
    refine self1 rfl rfl hR (tk_sign (b := 62) hR (fun hn H' e => kx (by rw [hn]; rfl) H' e) fun t1 h1 H1 e1 hR1 => ?_)
    rw [h1] at kx k
    rw [Option.bind_some] at kx k
    refine self1 rfl rfl hR1 (tk_pass (b := 45) hR1 (fun h2 H2 e2 hR2 => ?_) fun t2 h2 H2 e2 hR2 => ?_)
    · rw [h2] at kx k
      dsimp only at kx k
      refine ⟨_, rfl, ite_no rfl ?_⟩
      refine self2 rfl rfl hR2 (tk_num (a := 0) (b := 99999) hR2 (fun hn H' e => kx (by rw [hn]; rfl) H' ((e1.trans (But.of e2)).trans e)) fun v3 t3 h3 H3 e3 hR3 => ?_)
      rw [h3] at k
      refine ⟨by show 2 ≤ sizeLine; decide, fun p n => ?_⟩
      have e4 := Same.new (o := .tup [.str "score", .int (v3 : Int)]) n
      exact k _ _ rfl _ p (((e1.trans (But.of e2)).trans e3).trans (But.of e4)) (hR3.same e4) ⟨_, rfl, upd_same⟩
    · rw [h2] at kx k
      dsimp only at kx k
      refine ⟨_, rfl, ite_yes rfl ?_⟩
      refine self2 rfl rfl hR2 (tk_num (a := 0) (b := 99999) hR2 (fun hn H' e => kx (by rw [hn]; rfl) H' ((e1.trans e2).trans e)) fun v3 t3 h3 H3 e3 hR3 => ?_)
      rw [h3] at k
      refine ⟨_, _, rfl, rfl, by show 2 ≤ sizeLine; decide, fun p n => ?_⟩
      rw [show ((fun i j : Int => V.int (i - j)) 0 (v3 : Int)) = V.int (-(v3 : Int)) by show V.int (0 - (v3 : Int)) = _; rw [Int.zero_sub]] at *
      have e4 := Same.new (o := .tup [.str "score", .int (-(v3 : Int))]) n
      exact k _ _ rfl _ p (((e1.trans e2).trans e3).trans (But.of e4)) (hR3.same e4) ⟨_, rfl, upd_same⟩
theorem ok_read_kind (T : Txt K mg c) : Met P w K mg base (L2N.CX P w) 4 c.reader "read_kind" (spParse c.reader c.badLine 0 17 0 fun _ _ t => pKind t) := by
  have GP : Met P w K mg base CX0 1 c.reader "passes" (spPasses c.reader) := ok_passes T
  have GK : Met P w K mg base (L2N.CX P w) 3 c.reader "take_kind" (spTakes c.reader c.badLine 0 fKind) := ok_take_kind T
  have GS : Met P w K mg base (L2N.CX P w) 2 c.reader "take_sign" (spTakeSign c.reader c.badLine) := ok_take_sign T
  have GN : Met P w K mg base (L2N.CX P w) 3 c.reader "take_number" (spTakes c.reader c.badLine 2 fNum) := ok_take_number T
  refine met_of T.c.c_Reader T.m.m_Reader_read_kind sc_Reader_read_kind b_Reader_read_kind (fun vs H Q E h => ?_) (fun f cdv A outer s H vs Q E hr h => ⟨_, (D_Reader_read_kind T GK (by decide) GS (by decide) GN (by decide) GP (by decide) hr).2, ?_⟩)
  · obtain ⟨r, us, nm, t, d, rfl, hl, _⟩ := h
    show us.length + 1 = 1
    rw [hl]
  · obtain ⟨r, us, nm, t, d, rfl, hl, hu, _, ht, hR, kx, k⟩ := h
    obtain rfl := List.length_eq_zero_iff.mp hl
    dsimp only at kx k
    unfold pKind at kx k
    refine self0 rfl rfl hR (tk_kind hR (fun hn H' e => kx (by rw [hn]; rfl) H' e) fun v t1 h1 H1 e1 hR1 => ?_)
    rw [h1] at kx k
    rw [Option.bind_some] at kx k
    dsimp only at kx k
    refine self1 rfl rfl hR1 (tk_pass (b := 126) hR1 (fun h2 H2 e2 hR2 => ?_) fun t2 h2 H2 e2 hR2 => ?_)
    · rw [h2] at kx k
      dsimp only at kx k
      refine ⟨_, rfl, ite_no rfl ?_⟩
      have e12 := e1.trans (But.of e2)
      refine self1 rfl rfl hR2 (tk_sign (b := 62) hR2 (fun hn H' e => kx (by rw [hn]; rfl) H' (e12.trans e)) fun t3 h3 H3 e3 hR3 => ?_)
      rw [h3] at kx k
      rw [Option.bind_some] at kx k
      refine ⟨_, rfl, self2 rfl rfl hR3 (tk_num (a := 0) (b := 65535) hR3 (fun hn H' e => kx (by rw [hn]; rfl) H' ((e12.trans e3).trans e)) fun v4 t4 h4 H4 e4 hR4 => ?_)⟩
      rw [h4] at k
      refine ⟨by show 4 ≤ sizeLine; decide, fun p n => ?_⟩
      have e5 := Same.new (o := .tup [.str "some", .int 1, .int (v : Int), .int (v4 : Int)]) n
      exact k _ _ rfl _ p (((e12.trans e3).trans e4).trans (But.of e5)) (hR4.same e5) ⟨_, rfl, upd_same⟩
    · rw [h2] at kx k
      dsimp only at kx k
      refine ⟨_, rfl, ite_yes rfl ?_⟩
      have e12 := e1.trans e2
      refine self0 rfl rfl hR2 (tk_kind hR2 (fun hn H' e => kx (by rw [hn]; rfl) H' (e12.trans e)) fun o t3 h3 H3 e3 hR3 => ?_)
      rw [h3] at kx k
      rw [Option.bind_some] at kx k
      dsimp only at kx k
      refine self1 rfl rfl hR3 (tk_sign (b := 60) hR3 (fun hn H' e => kx (by rw [hn]; rfl) H' ((e12.trans e3).trans e)) fun t4 h4 H4 e4 hR4 => ?_)
      rw [h4] at kx k
      rw [Option.bind_some] at kx k
      refine ⟨_, rfl, _, rfl, self2 rfl rfl hR4 (tk_num (a := 0) (b := 513) hR4 (fun hn H' e => kx (by rw [hn]; rfl) H' (((e12.trans e3).trans e4).trans e)) fun v5 t5 h5 H5 e5 hR5 => ?_)⟩
      rw [h5] at k
      refine ⟨by show 4 ≤ sizeLine; decide, fun p n => ?_⟩
      have e6 := Same.new (o := .tup [.str "near", .int (v : Int), .int (o : Int), .int (v5 : Int)]) n
      exact k _ _ rfl _ p ((((e12.trans e3).trans e4).trans e5).trans (But.of e6)) (hR5.same e6) ⟨_, rfl, upd_same⟩
end
end Ev
namespace Ev
open PySem PySem.Spec PyProof.Rows L2
open Sj25 (Cond kindOf lineOf)
section
variable {P : Program} {w : World} {K : PySem.W.Frag} {mg : Str → Option Value} {base : Heap} {c : Cs}
theorem ps0 {C BL r : Addr} {dep dd : Nat} {H : Hp} {Q : VK} {E : XK} {nm : List (List Nat)} {t : List Tk} {d : Nat} {f : List V → List (List Nat) → List Tk → Sj25.Parsed} (hR : ReadAt C H r nm t d) (hd : dd ≤ 16 → d = dd) (ht : t.length ≤ 100000)
    (kx : f [] nm t = none → ∀ H', But (· = r) H H' → E (.ref BL) none H') (k : ∀ cd t', f [] nm t = some (cd, t') → ∀ H' v, But (· = r) H H' → ReadAt C H' r nm t' d → CondAt H' dep v cd → Q (.ref v) H') : spParse C BL dep dd 0 f [.ref r] H Q E :=
  ⟨r, _, nm, t, d, rfl, rfl, fun z => (nomatch z), hd, ht, hR, kx, k⟩
theorem tag_is {t : List Tk} : (tag t = "number") ↔ (tNum t).isSome = true := by
  constructor
  · intro h
    obtain ⟨n, t', rfl⟩ := tag_num.1 h
    rfl
  · intro h
    refine Decidable.byContradiction fun z => ?_
    rw [tag_num.2 z] at h
    cases h
theorem hd_le {b : Nat} {t r : List Tk} {n : Nat} (h : hd b t = some r) (ht : t.length ≤ n) : r.length ≤ n := by
  have := hd_len h
  omega
theorem ok_read_simple (T : Txt K mg c) : Met P w K mg base (L2N.CX P w) 5 c.reader "read_simple" (spParse c.reader c.badLine 0 17 0 fun _ nm t => simp1 nm t) := by
  have GP : Met P w K mg base CX0 1 c.reader "passes" (spPasses c.reader) := ok_passes T
  have GI : Met P w K mg base CX0 1 c.reader "is_next" (spIsNext c.reader) := ok_is_next T
  have GL : Met P w K mg base (L2N.CX P w) 3 c.reader "take_line" (spTakes c.reader c.badLine 0 fLine) := ok_take_line T
  have GN : Met P w K mg base (L2N.CX P w) 3 c.reader "take_number" (spTakes c.reader c.badLine 2 fNum) := ok_take_number T
  have GSum : Met P w K mg base (L2N.CX P w) 4 c.reader "read_sum" (spParse c.reader c.badLine 0 17 0 fun _ _ t => pSum t) := ok_read_sum T
  have GSc : Met P w K mg base (L2N.CX P w) 4 c.reader "read_score" (spParse c.reader c.badLine 0 17 0 fun _ _ t => pScore t) := ok_read_score T
  have GSo : Met P w K mg base (L2N.CX P w) 4 c.reader "read_some" (spParse c.reader c.badLine 0 17 1 fun us _ t => match us with | [.int (.ofNat m)] => pSome m t | _ => none) := ok_read_some T
  have GKi : Met P w K mg base (L2N.CX P w) 4 c.reader "read_kind" (spParse c.reader c.badLine 0 17 0 fun _ _ t => pKind t) := ok_read_kind T
  refine met_of T.c.c_Reader T.m.m_Reader_read_simple sc_Reader_read_simple b_Reader_read_simple (fun vs H Q E h => ?_) (fun f cdv A outer s H vs Q E hr h => ⟨_, (D_Reader_read_simple T GSum (by decide) GP (by decide) GSc (by decide) GL (by decide) GSo (by decide) GN (by decide) GI (by decide) GKi (by decide) hr).2, ?_⟩)
  · obtain ⟨r, us, nm, t, d, rfl, hl, _⟩ := h
    show us.length + 1 = 1
    rw [hl]
  · obtain ⟨r, us, nm, t, d, rfl, hl, hu, _, ht, hR, kx, k⟩ := h
    obtain rfl := List.length_eq_zero_iff.mp hl
    dsimp only at kx k
    unfold simp1 at kx k
    refine self1 rfl rfl hR (tk_pass (b := 43) hR (fun h1 H1 e1 hR1 => ?_) fun t1 h1 H1 e1 hR1 => ?_)
    rotate_left
    · rw [h1] at kx k
      dsimp only at kx k
      refine ⟨_, rfl, ite_yes rfl (self0 rfl rfl hR1 (ps0 hR1 (fun z => absurd z (by decide)) (hd_le h1 ht) (fun hn H' e => kx hn H' (e1.trans e)) fun cd t' hs H' v e hR' hC => k cd t' hs H' v (e1.trans e) hR' hC))⟩
    rw [h1] at kx k
    dsimp only at kx k
    refine ⟨_, rfl, ite_no rfl ?_⟩
    refine self1 rfl rfl hR1 (tk_pass (b := 63) hR1 (fun h2 H2 e2 hR2 => ?_) fun t1 h2 H2 e2 hR2 => ?_)
    rotate_left
    · rw [h2] at kx k
      dsimp only at kx k
      have e12 := (But.of e1).trans e2
      refine ⟨_, rfl, ite_yes rfl (self0 rfl rfl hR2 (ps0 hR2 (fun z => absurd z (by decide)) (hd_le h2 ht) (fun hn H' e => kx hn H' (e12.trans e)) fun cd t' hs H' v e hR' hC => k cd t' hs H' v (e12.trans e) hR' hC))⟩
    rw [h2] at kx k
    dsimp only at kx k
    have e12 := e1.trans e2
    refine ⟨_, rfl, ite_no rfl ?_⟩
    refine self1 rfl rfl hR2 (tk_pass (b := 64) hR2 (fun h3 H3 e3 hR3 => ?_) fun t1 h3 H3 e3 hR3 => ?_)
    rotate_left
    · rw [h3] at kx k
      dsimp only at kx k
      have e13 := (But.of e12).trans e3
      refine ⟨_, rfl, ite_yes rfl (self0 rfl rfl hR3 (tk_line hR3 (fun hn H' e => kx (by rw [hn]; rfl) H' (e13.trans e)) fun v t' hs H4 e hR4 => ?_))⟩
      rw [hs] at k
      refine ⟨by show 2 ≤ sizeLine; decide, fun p n => ?_⟩
      have e4 := Same.new (o := .tup [.str "line", .int (v : Int)]) n
      exact k _ _ rfl _ p ((e13.trans e).trans (But.of e4)) (hR4.same e4) ⟨_, rfl, upd_same⟩
    rw [h3] at kx k
    dsimp only at kx k
    have e13 := e12.trans e3
    refine ⟨_, rfl, ite_no rfl ?_⟩
    refine self1 rfl rfl hR3 (tk_pass (b := 94) hR3 (fun h4 H4 e4 hR4 => ?_) fun t1 h4 H4 e4 hR4 => ?_)
    rotate_left
    · rw [h4] at kx k
      dsimp only at kx k
      have e14 := (But.of e13).trans e4
      refine ⟨_, rfl, ite_yes rfl (self0 rfl rfl hR4 (tk_line hR4 (fun hn H' e => kx (by rw [hn]; rfl) H' (e14.trans e)) fun v t' hs H5 e hR5 => ?_))⟩
      rw [hs] at k
      refine ⟨by show 2 ≤ sizeLine; decide, fun p n => ?_⟩
      have e6 := Same.new (o := .tup [.str "before", .int (v : Int)]) n
      exact k _ _ rfl _ p ((e14.trans e).trans (But.of e6)) (hR5.same e6) ⟨_, rfl, upd_same⟩
    rw [h4] at kx k
    dsimp only at kx k
    have e14 := e13.trans e4
    refine ⟨_, rfl, ite_no rfl ?_⟩
    refine self1 rfl rfl hR4 ⟨r, _, nm, t, d, rfl, hR4, _, rfl, ite2 (fun q => ?_) (fun q => ?_)⟩
    · have q := tag_is.mp (of_decide_eq_true q)
      cases e5 : tNum t with
      | none =>
        rw [e5] at q
        cases q
      | some n =>
        rw [e5] at kx k
        dsimp only at kx k
        refine self_met rfl rfl hR4 (self2 rfl rfl hR4 (tk_num (a := 1) (b := 16) hR4 (fun hn H' e => kx (by rw [hn]; rfl) H' ((But.of e14).trans e)) fun v t' hs H5 e5 hR5 => ?_))
        rw [hs] at kx k
        rw [Option.bind_some] at kx k
        have hl : t'.length ≤ 100000 := by
          have := (tNumB_some hs).1
          rw [this] at ht
          rw [List.length_cons] at ht
          exact Nat.le_trans (Nat.le_succ _) ht
        have e15 := (But.of e14).trans e5
        exact ⟨r, _, nm, t', d, rfl, rfl, fun _ => ⟨v, rfl⟩, fun z => absurd z (by decide), hl, hR5, fun hn H' e => kx hn H' (e15.trans e), fun cd t2 hs H' v e hR' hC => k cd t2 hs H' v (e15.trans e) hR' hC⟩
    · have e5 : tNum t = none := by
        cases e5 : tNum t with
        | none => rfl
        | some n => exact absurd (decide_eq_true (tag_is.mpr (by rw [e5]; rfl))) q
      rw [e5] at kx k
      dsimp only at kx k
      exact self0 rfl rfl hR4 (ps0 hR4 (fun z => absurd z (by decide)) ht (fun hn H' e => kx hn H' ((But.of e14).trans e)) fun cd t' hs H' v e hR' hC => k cd t' hs H' v ((But.of e14).trans e) hR' hC)
end
end Ev
namespace Ev
open PySem PySem.Spec PyProof.Rows L2
open Sj25 (Cond kindOf lineOf)
def kk (b : Bool) : Nat := if b then 1 else 2
def sg (b : Bool) : Nat := if b then 38 else 124
theorem rdB (b : Bool) {nm : List (List Nat)} {d : Nat} {t : List Tk} (ok : ∀ y ∈ t, TokOk y) : rd nm (kk b + 1) d t = (rd nm (kk b) d t).bind fun x => match hd (sg b) x.2 with
    | some r => (rd nm (kk b + 1) d r).map fun y => (joinL b x.1 y.1, y.2)
    | none => some x := by
  cases b with
  | true => exact rd2 ok
  | false => exact rd3 ok
/-- conditions read so far, and what is next -/
def cont (b : Bool) (nm : List (List Nat)) (d : Nat) (cs : List Cond) (t : List Tk) : Sj25.Parsed := match hd (sg b) t with
  | some r => (rd nm (kk b + 1) d r).map fun y => (seqL b (cs ++ [y.1]), y.2)
  | none => some (seqL b cs, t)
theorem cont_start (b : Bool) {nm : List (List Nat)} {d : Nat} {t : List Tk} (ok : ∀ y ∈ t, TokOk y) : rd nm (kk b + 1) d t = (rd nm (kk b) d t).bind fun x => cont b nm d [x.1] x.2 := rdB b ok
theorem seq_two (b : Bool) (cs : List Cond) (a y : Cond) : seqL b (cs ++ [joinL b a y]) = seqL b ((cs ++ [a]) ++ [y]) := by
  rw [List.append_assoc]
  exact seq_flat b [a, y] (by simp) cs
theorem cont_step (b : Bool) {nm : List (List Nat)} {d : Nat} {cs : List Cond} {t r : List Tk} (h : hd (sg b) t = some r) (ok : ∀ y ∈ r, TokOk y) : cont b nm d cs t = (rd nm (kk b) d r).bind fun x => cont b nm d (cs ++ [x.1]) x.2 := by
  unfold cont
  rw [h]
  dsimp only
  rw [rdB b ok]
  cases e : rd nm (kk b) d r with
  | none => rfl
  | some x =>
    simp only [Option.bind_some]
    cases e2 : hd (sg b) x.2 with
    | none => rfl
    | some r2 =>
      dsimp only
      rw [Option.map_map]
      congr 1
      funext y
      show (seqL b (cs ++ [joinL b x.1 y.1]), y.2) = _
      rw [seq_two]
theorem cond_ne_end {H : Hp} {d : Nat} {v : Addr} {cd : Cond} (hC : CondAt H d v cd) (h : H v = some (.tup [.str "end", .int 0])) : False := by
  have no : ∀ {z : Str} {r : List V}, H v = some (.tup (.str z :: r)) → z ≠ "end" → False := fun {z r} h2 hz => by
    rw [h] at h2
    exact hz (V.str.inj (List.cons.inj (HO.tup.inj (Option.some.inj h2))).1).symm
  rcases cond_view hC with ⟨xs, hs, hv⟩ | ⟨d', rfl, ⟨n, q, c', hv, _⟩ | ⟨b, t, qs, cs, hv, _⟩⟩
  · cases cd with
    | many _ _ _ => cases hs; exact no hv (by decide)
    | all _ _ => cases hs; exact no hv (by decide)
    | near _ _ _ => cases hs; exact no hv (by decide)
    | judge _ => cases hs; exact no hv (by decide)
    | holds _ => cases hs; exact no hv (by decide)
    | held _ => cases hs; exact no hv (by decide)
    | not _ => cases hs
    | and _ _ => cases hs
    | or _ _ => cases hs
  · exact no hv (by decide)
  · exact no hv (by cases b <;> decide)
def CondsAt (H : Hp) (d : Nat) (qs : List Addr) (cs : List Cond) : Prop := qs.length = cs.length ∧ ∀ (i : Nat) (q : Addr), qs[i]? = some q → ∃ c', cs[i]? = some c' ∧ CondAt H d q c'
theorem CondsAt.keep {H H' : Hp} {d : Nat} {qs : List Addr} {cs : List Cond} (k : TupK H H') (h : CondsAt H d qs cs) : CondsAt H' d qs cs := by
  refine ⟨h.1, fun i q hq => ?_⟩
  obtain ⟨c', h1, h2⟩ := h.2 i q hq
  exact ⟨c', h1, h2.keep k⟩
theorem CondsAt.snoc {H : Hp} {d : Nat} {qs : List Addr} {cs : List Cond} {q : Addr} {cd : Cond} (h : CondsAt H d qs cs) (hq : CondAt H d q cd) : CondsAt H d (qs ++ [q]) (cs ++ [cd]) := by
  refine ⟨by rw [List.length_append, List.length_append, h.1]; rfl, fun i r hr => ?_⟩
  by_cases hil : i < qs.length
  · rw [List.getElem?_append_left hil] at hr
    obtain ⟨t', h1, h2⟩ := h.2 i r hr
    exact ⟨t', by rw [List.getElem?_append_left (by rw [← h.1]; exact hil)]; exact h1, h2⟩
  · rw [List.getElem?_append_right (by omega)] at hr
    have h0 : i - qs.length = 0 := by
      have := (List.getElem?_eq_some_iff.mp hr).1
      simp at this
      omega
    rw [h0] at hr
    obtain rfl : q = r := Option.some.inj hr
    exact ⟨cd, by rw [List.getElem?_append_right (by rw [← h.1]; omega), ← h.1, h0]; rfl, hq⟩
/-- a list of conditions changes: not the list of the tokens -/
theorem ReadAt.lst {C : Addr} {H : Hp} {r D : Addr} {nm : List (List Nat)} {t : List Tk} {d dep : Nat} {qs : List Addr} {cs : List Cond} {o : HO} (h : ReadAt C H r nm t d) (hD : H D = some (.lst (qs.map V.ref))) (hne : cs ≠ []) (hq : CondsAt H dep qs cs) : ReadAt C (upd H D o) r nm t d := by
  obtain ⟨dx, pt, pn, ps, e, ts, i, h1, h2, h3, h4, h5, h6, h7, h8⟩ := h.ex
  have hk : TupK H (upd H D o) := TupK.lst hD
  refine ⟨dx, pt, pn, ps, e, ts, i, by rw [upd_ne (ne_of h1 hD (by intro z; cases z))]; exact h1, ?_, hk _ _ h3, h4.keep hk, h5, h6, h7, ?_⟩
  · have hne : pt ≠ D := fun z => by
      subst z
      rw [hD] at h2
      have e1 := HO.lst.inj (Option.some.inj h2)
      have hl : qs ≠ [] := fun z => hne (List.length_eq_zero_iff.mp (by rw [← hq.1, z]; rfl))
      obtain ⟨qi, ql, rfl⟩ : ∃ qi ql, qs = qi ++ [ql] := ⟨qs.dropLast, qs.getLast hl, (List.dropLast_concat_getLast _).symm⟩
      rw [List.map_append] at e1
      have e2 := (List.append_inj' e1 rfl).2
      obtain rfl : ql = e := V.ref.inj (List.cons.inj e2).1
      obtain ⟨c', _, hC⟩ := hq.2 qi.length ql (by rw [List.getElem?_append_right (Nat.le_refl _), Nat.sub_self]; rfl)
      exact cond_ne_end hC h3
    rw [upd_ne hne]
    exact h2
  · obtain ⟨kvs, g1, g2⟩ := h8
    exact ⟨kvs, by rw [upd_ne (ne_of g1 hD (by intro z; cases z))]; exact g1, g2⟩
theorem But.mut {S : Addr → Prop} {H H' : Hp} {p : Addr} {o : HO} (e : But S H H') (h : H p = none) : But S H (upd H' p o) := fun a u ha hs => by
  rw [upd_ne (ne_of_none ha h)]
  exact e a u ha hs
section
variable {P : Program} {w : World} {K : PySem.W.Frag} {mg : Str → Option Value} {base : Heap} {c : Cs}
theorem loop_read {C BL : Addr} {b : Bool} {dep dd : Nat} {m : Str} {E : XK} {Q : VK} {H : Hp} {r : Addr} {nm : List (List Nat)} {t : List Tk} (hm : ((rdV 0 0 0 0).lookup m).isSome = false) (hd16 : dd ≤ 16) (ht : t.length ≤ 100000) (hR : ReadAt C H r nm t dd)
    (kx : rd nm (kk b + 1) dd t = none → ∀ H', But (· = r) H H' → E (.ref BL) none H') (k : ∀ cd t', rd nm (kk b + 1) dd t = some (cd, t') → ∀ H' v, But (· = r) H H' → ReadAt C H' r nm t' dd → CondAt H' (dep + 1) v cd → Q (.ref v) H') :
    tSeq (tAsg (tLst (tCons (tMet C m (spParse C BL dep dd 0 fun _ nm t => rd nm (kk b) dd t) E (tVar 0) tNil) tNil)) (gName 1)) (tSeq (tWhile (tB (tMet C "passes" (spPasses C) E0 (tVar 0) (tCons (tC (.int (sg b : Nat))) tNil))) (tDrop (tBM K "list" rAppend (tVar 1) (tCons (tMet C m (spParse C BL dep dd 0 fun _ nm t => rd nm (kk b) dd t) E (tVar 0) tNil) tNil))))
      (tRet (tCal spJoined E0 (tCons (tC (.str (seqW b))) (tCons (tVar 1) tNil))))) { nx := fun _ H' => Q .non H', rt := Q } [some (.ref r), none] H := by
  have hkk : 1 ≤ kk b ∧ kk b ≤ 3 := by cases b <;> exact ⟨by decide, by decide⟩
  have okt := hR.ok
  rw [cont_start b okt] at kx k
  refine self0 rfl hm hR (ps0 hR (fun _ => rfl) ht (fun hn H' e => kx (by rw [hn]; rfl) H' e) fun cd t1 h1 H1 v e1 hR1 hC1 => ?_)
  obtain ⟨_, hlv, _⟩ := rd_keeps hkk.1 hkk.2 okt h1
  rw [h1] at kx k
  rw [Option.bind_some] at kx k
  dsimp only at kx k hlv
  refine ⟨by show 1 ≤ sizeLine; decide, fun D hD => ?_⟩
  have f1 := Same.new (o := .lst [.ref v]) hD
  refine ⟨fun n σ H' => ∃ (qs : List Addr) (cs : List Cond) (t2 : List Tk), σ = [some (.ref r), some (.ref D)] ∧ But (· = r) H H' ∧ H' D = some (.lst (qs.map V.ref)) ∧ ReadAt C H' r nm t2 dd ∧ CondsAt H' dep qs cs ∧ cs ≠ [] ∧ n = t2.length ∧
    (cs.map lv).sum + t2.length ≤ t.length ∧ cont b nm dd [cd] t1 = cont b nm dd cs t2,
    ⟨_, [v], [cd], t1, rfl, e1.trans (But.of f1), upd_same, hR1.same f1, ⟨rfl, fun i q hq => ?_⟩, by simp, rfl, ?_, rfl⟩, ?_⟩
  · cases i with
    | zero =>
      obtain rfl : v = q := Option.some.inj hq
      exact ⟨cd, rfl, hC1.same f1⟩
    | succ i => simp at hq
  · rw [List.map_cons, List.map_nil, List.sum_cons, List.sum_nil]
    omega
  rintro n σ H2 ⟨qs, cs, t2, rfl, e2, hD2, hR2, hC2, hne, rfl, hs2, hc2⟩
  rw [hc2] at kx k
  have hlen := (sum_ge cs).1
  refine self1 rfl rfl hR2 (tk_pass (b := sg b) hR2 (fun h3 H3 e3 hR3 => ?_) fun t3 h3 H3 e3 hR3 => ?_)
  · refine ⟨_, rfl, ite_no rfl ?_⟩
    have ec : cont b nm dd cs t2 = some (seqL b cs, t2) := by unfold cont; rw [h3]
    rw [ec] at k
    refine ⟨_, rfl, b, D, dep, qs, cs, rfl, e3 _ _ hD2, hC2.1, hne, by omega, (hC2.keep (TupK.of e3)).2, fun H4 v4 e4 hC4 => ?_⟩
    exact k _ _ rfl H4 v4 ((e2.trans (But.of e3)).trans (But.of e4)) (hR3.same e4) hC4
  · have okr := hR3.ok
    rw [cont_step b h3 okr] at kx k
    have hl3 := hd_len h3
    refine ⟨_, rfl, ite_yes rfl ⟨_, fun σ' H2 h => h, ?_⟩⟩
    have hr2 := hR2.is
    obtain ⟨_, _, _, _, hr2⟩ := hr2
    have hD3 := but_lst hr2 e3 hD2
    refine ⟨_, rfl, .inl ⟨rfl, _, SqL.of hD3⟩, self0 rfl hm hR3 (ps0 hR3 (fun _ => rfl) (by omega) (fun hn H' e => kx (by rw [hn]; rfl) H' ((e2.trans e3).trans e)) fun cd4 t4 h4 H4 v4 e4 hR4 hC4 => ?_)⟩
    obtain ⟨_, _, _, _, hr3⟩ := hR3.is
    have hD4 := but_lst hr3 e4 hD3
    have hCs4 := (hC2.keep (TupK.ins hr2 e3)).keep (TupK.ins hr3 e4)
    obtain ⟨_, hlv4, _⟩ := rd_keeps hkk.1 hkk.2 okr h4
    dsimp only at hlv4
    have hHD : H D = none ∨ ∃ o, H D = some o := by cases H D with | none => exact .inl rfl | some o => exact .inr ⟨o, rfl⟩
    refine ⟨D, _, _, rfl, rfl, hD4, ?_, t4.length, by omega, qs ++ [v4], cs ++ [cd4], t4, rfl, ?_, by rw [upd_same, List.map_append]; rfl, hR4.lst hD4 hne hCs4, (hCs4.snoc hC4).keep (TupK.lst hD4), by simp, rfl, ?_, ?_⟩
    · rw [List.length_map, hC2.1]
      show cs.length < 16777216
      omega
    · refine ((e2.trans e3).trans e4).mut ?_
      cases hHD with
      | inl h => exact h
      | inr h =>
        obtain ⟨o, h⟩ := h
        by_cases hDr : D = r
        · subst hDr
          obtain ⟨_, _, _, _, hz⟩ := hR1.is
          rw [hD] at hz
          cases hz
        · have := e1 D o h hDr
          rw [hD] at this
          cases this
    · rw [List.map_append, List.sum_append, List.map_cons, List.map_nil, List.sum_cons, List.sum_nil]
      omega
    · rw [hc2, cont_step b h3 okr, h4]
      rfl
theorem ok_conjunction (T : Txt K mg c) {lvl dep dd : Nat} (h1 : 1 ≤ lvl) (hd16 : dd ≤ 16) (GU : Met P w K mg base (L2N.CX P w) lvl c.reader "read_unary" (spParse c.reader c.badLine dep dd 0 fun _ nm t => rd nm 1 dd t)) :
    Met P w K mg base (L2N.CX P w) (lvl + 1) c.reader "read_conjunction" (spParse c.reader c.badLine (dep + 1) dd 0 fun _ nm t => rd nm 2 dd t) := by
  have GP : Met P w K mg base CX0 1 c.reader "passes" (spPasses c.reader) := ok_passes T
  have GJ : Cal P w K mg base CX0 1 "joined" spJoined := ok_joined T
  refine met_of T.c.c_Reader T.m.m_Reader_read_conjunction sc_Reader_read_conjunction b_Reader_read_conjunction (fun vs H Q E h => ?_) (fun f cdv A outer s H vs Q E hr h => ⟨_, (D_Reader_read_conjunction T GU (Nat.le_refl _) GP h1 GJ h1 hr).2, ?_⟩)
  · obtain ⟨r, us, nm, t, d, rfl, hl, _⟩ := h
    show us.length + 1 = 1
    rw [hl]
  · obtain ⟨r, us, nm, t, d, rfl, hl, hu, hdd, ht, hR, kx, k⟩ := h
    obtain rfl := List.length_eq_zero_iff.mp hl
    obtain rfl := hdd hd16
    exact loop_read (b := true) rfl hd16 ht hR kx k
theorem ok_condition (T : Txt K mg c) {lvl dep dd : Nat} (h1 : 1 ≤ lvl) (hd16 : dd ≤ 16) (GU : Met P w K mg base (L2N.CX P w) lvl c.reader "read_conjunction" (spParse c.reader c.badLine dep dd 0 fun _ nm t => rd nm 2 dd t)) :
    Met P w K mg base (L2N.CX P w) (lvl + 1) c.reader "read_condition" (spParse c.reader c.badLine (dep + 1) dd 0 fun _ nm t => rd nm 3 dd t) := by
  have GP : Met P w K mg base CX0 1 c.reader "passes" (spPasses c.reader) := ok_passes T
  have GJ : Cal P w K mg base CX0 1 "joined" spJoined := ok_joined T
  refine met_of T.c.c_Reader T.m.m_Reader_read_condition sc_Reader_read_condition b_Reader_read_condition (fun vs H Q E h => ?_) (fun f cdv A outer s H vs Q E hr h => ⟨_, (D_Reader_read_condition T GU (Nat.le_refl _) GP h1 GJ h1 hr).2, ?_⟩)
  · obtain ⟨r, us, nm, t, d, rfl, hl, _⟩ := h
    show us.length + 1 = 1
    rw [hl]
  · obtain ⟨r, us, nm, t, d, rfl, hl, hu, hdd, ht, hR, kx, k⟩ := h
    obtain rfl := List.length_eq_zero_iff.mp hl
    obtain rfl := hdd hd16
    exact loop_read (b := false) rfl hd16 ht hR kx k
end
end Ev
namespace Ev
open PySem PySem.Spec PyProof.Rows L2
open Sj25 (Cond kindOf lineOf)
section
variable {P : Program} {w : World} {K : PySem.W.Frag} {mg : Str → Option Value} {base : Heap} {c : Cs}
theorem ok_unary (T : Txt K mg c) {lvl dep dd : Nat} {spC : Sp} (h1 : 5 ≤ lvl) (hd16 : dd ≤ 16) (GC : Met P w K mg base (L2N.CX P w) lvl c.reader "read_condition" spC)
    (hC : dd < 16 → ∀ vs H Q E, spParse c.reader c.badLine dep (dd + 1) 0 (fun _ nm t => rd nm 3 (dd + 1) t) vs H Q E → spC vs H Q E) :
    Met P w K mg base (L2N.CX P w) (lvl + 1) c.reader "read_unary" (spParse c.reader c.badLine (dep + 1) dd 0 fun _ nm t => rd nm 1 dd t) := by
  have GP : Met P w K mg base CX0 1 c.reader "passes" (spPasses c.reader) := ok_passes T
  have GD : Cal P w K mg base CX0 1 "denied" spDenied := ok_denied T
  have GS : Met P w K mg base (L2N.CX P w) 5 c.reader "read_simple" (spParse c.reader c.badLine 0 17 0 fun _ nm t => simp1 nm t) := ok_read_simple T
  have GW : Cal P w K mg base (L2N.CX P w) 1 "want" (spWant c.badLine) := ok_want T
  have GT : Met P w K mg base (L2N.CX P w) 2 c.reader "take_sign" (spTakeSign c.reader c.badLine) := ok_take_sign T
  refine met_of T.c.c_Reader T.m.m_Reader_read_unary sc_Reader_read_unary b_Reader_read_unary (fun vs H Q E h => ?_) (fun f cdv A outer s H vs Q E hr h => ⟨_, (D_Reader_read_unary T GP (by omega) GD (by omega) GS (by omega) GW (by omega) GC (Nat.le_refl _) GT (by omega) hr).2, ?_⟩)
  · obtain ⟨r, us, nm, t, d, rfl, hl, _⟩ := h
    show us.length + 1 = 1
    rw [hl]
  · obtain ⟨r, us, nm, t, d, rfl, hl, hu, hdd, ht, hR, kx, k⟩ := h
    obtain rfl := List.length_eq_zero_iff.mp hl
    obtain rfl := hdd hd16
    dsimp only at kx k
    refine ⟨fun m σ H' => ∃ (n : Nat) (t1 : List Tk), σ = [some (.ref r), some (.int (n : Nat)), none] ∧ But (· = r) H H' ∧ ReadAt c.reader H' r nm t1 d ∧ m = t1.length ∧ t1.length ≤ t.length ∧ rd nm 1 d t = (rd nm 1 d t1).map fun y => (nots n y.1, y.2),
      ⟨_, 0, t, rfl, But.refl, hR, rfl, Nat.le_refl _, ?_⟩, ?_⟩
    · cases rd nm 1 d t <;> rfl
    rintro m σ H1 ⟨n, t1, rfl, e1, hR1, rfl, hl1, hrd⟩
    have ok1 := hR1.ok
    rw [hrd, rd1 ok1] at kx k
    refine self1 rfl rfl hR1 (tk_pass (b := 33) hR1 (fun h2 H2 e2 hR2 => ?_) fun t2 h2 H2 e2 hR2 => ?_)
    rotate_left
    · have hl2 := hd_len h2
      refine ⟨_, rfl, ite_yes rfl ⟨_, fun σ' H2 h => h, _, rfl, _, _, rfl, rfl, t2.length, by omega, n + 1, t2, rfl, e1.trans e2, hR2, rfl, by omega, ?_⟩⟩
      rw [hrd, rd1 ok1, h2]
      dsimp only
      rw [Option.map_map]
      congr 1
      funext y
      show (nots n (nots 1 y.1), y.2) = (nots (n + 1) y.1, y.2)
      rw [nots_add]
    rw [h2] at kx k
    dsimp only at kx k
    refine ⟨_, rfl, ite_no rfl ?_⟩
    have e12 := e1.trans (But.of e2)
    refine self1 rfl rfl hR2 (tk_pass (b := 40) hR2 (fun h3 H3 e3 hR3 => ?_) fun t3 h3 H3 e3 hR3 => ?_)
    · rw [h3] at kx k
      dsimp only at kx k
      have e13 := e12.trans (But.of e3)
      refine ⟨_, rfl, ite_yes rfl ⟨_, rfl, self0 rfl rfl hR3 (ps0 hR3 (fun z => absurd z (by decide)) (by omega) (fun hn H' e => kx (by rw [hn]; rfl) H' (e13.trans e)) fun cd t4 hs H4 v e4 hR4 hC4 => ?_)⟩⟩
      rw [hs] at k
      exact ⟨n, 0, v, cd, rfl, hC4, fun H5 v5 e5 hC5 => k _ _ rfl H5 v5 ((e13.trans e4).trans (But.of e5)) (hR4.same e5) (hC5.le (by omega))⟩
    · rw [h3] at kx k
      dsimp only at kx k
      refine ⟨_, rfl, ite_no rfl ?_⟩
      have e13 := e12.trans e3
      obtain ⟨dx, pt, pn, i, xs, q, g1, g2, g3, g4, g5, g6, g7⟩ := hR3.opens
      refine ⟨_, rfl, r, _, dx, _, _, rfl, g1, T.c.c_Reader, T.c.a_Reader_deep, rfl, _, _, rfl, rfl, _, rfl, fun hw => ?_, fun hw => ?_⟩
      rotate_left
      · have hw := of_decide_eq_false hw
        rw [if_pos (by omega)] at kx
        exact kx rfl H3 e13
      have hw := of_decide_eq_true hw
      have hlt : d < 16 := by omega
      rw [if_neg (by omega)] at kx k
      refine ⟨_, rfl, r, _, dx, _, _, rfl, g1, T.c.c_Reader, T.c.a_Reader_deep, rfl, _, _, rfl, rfl, dx, _, g1, by show 4 < 1000; decide, ?_⟩
      have e4 : But (· = r) H3 (upd H3 r (.ins c.reader dx (rdV pt pn i (d + 1)))) := but_fld But.refl
      have hR4 := g7 _ (d + 1) e4 upd_same
      refine self0 rfl rfl hR4 (hC hlt _ _ _ _ (ps0 hR4 (fun _ => rfl) (by have := hd_len h3; omega) (fun hn H' e => kx (by rw [hn]; rfl) H' ((e13.trans e4).trans e)) fun cd t5 hs H5 v e5 hR5 hC5 => ?_))
      rw [hs] at kx k
      rw [Option.bind_some] at kx k
      have e15 := (e13.trans e4).trans e5
      refine self1 rfl rfl hR5 (tk_sign (b := 41) hR5 (fun hn H' e => kx (by rw [hn]; rfl) H' (e15.trans e)) fun t6 h6 H6 e6 hR6 => ?_)
      rw [h6] at kx k
      obtain ⟨_, _, _, _, hr5⟩ := hR5.is
      have hC6 := hC5.keep (TupK.ins hr5 e6)
      obtain ⟨dx6, pt6, pn6, i6, xs6, q6, f1, f2, f3, f4, f5, f6, f7⟩ := hR6.opens
      refine ⟨_, rfl, r, _, dx6, _, _, rfl, f1, T.c.c_Reader, T.c.a_Reader_deep, rfl, _, _, rfl, rfl, dx6, _, f1, by show 4 < 1000; decide, ?_⟩
      have e7 : But (· = r) H6 (upd H6 r (.ins c.reader dx6 (rdV pt6 pn6 i6 d))) := but_fld But.refl
      have hR7 := f7 _ d e7 upd_same
      have hC7 := hC6.keep (TupK.ins f1 e7)
      have ed : (putF "deep" (.int (((d + 1 : Nat) : Int) - 1)) (rdV pt6 pn6 i6 (d + 1))) = rdV pt6 pn6 i6 d := by
        rw [show (((d + 1 : Nat) : Int) - 1) = (d : Int) by omega]
        rfl
      dsimp only
      rw [ed]
      refine ⟨_, rfl, _, rfl, n, dep, v, cd, rfl, hC7, fun H8 v8 e8 hC8 => k _ _ rfl H8 v8 (((e15.trans e6).trans e7).trans (But.of e8)) (hR7.same e8) hC8⟩
theorem no_condition (T : Txt K mg c) : Met P w K mg base (L2N.CX P w) 5 c.reader "read_condition" (fun _ _ _ _ => False) :=
  met_of (k := 4) T.c.c_Reader T.m.m_Reader_read_condition sc_Reader_read_condition b_Reader_read_condition (fun vs H Q E h => h.elim) (fun f cdv A outer s H vs Q E hr h => h.elim)
theorem ok_conds (T : Txt K mg c) : ∀ n : Nat, n ≤ 16 → Met P w K mg base (L2N.CX P w) (8 + 3 * n) c.reader "read_condition" (spParse c.reader c.badLine (3 + 3 * n) (16 - n) 0 fun _ nm t => rd nm 3 (16 - n) t)
  | 0, _ => by
    have GC : Met P w K mg base (L2N.CX P w) 5 c.reader "read_condition" (fun _ _ _ _ => False) := no_condition T
    have U := ok_unary (dep := 0) (dd := 16) T (Nat.le_refl _) (Nat.le_refl _) GC (fun z => absurd z (by decide))
    exact ok_condition T (by decide) (Nat.le_refl _) (ok_conjunction T (by decide) (Nat.le_refl _) U)
  | n + 1, h => by
    have GC : Met P w K mg base (L2N.CX P w) (8 + 3 * n) c.reader "read_condition" (spParse c.reader c.badLine (3 + 3 * n) (16 - n) 0 fun _ nm t => rd nm 3 (16 - n) t) := ok_conds T n (by omega)
    have e : 16 - n = 16 - (n + 1) + 1 := by omega
    have U := ok_unary (dep := 3 + 3 * n) (dd := 16 - (n + 1)) T (by omega) (by omega) GC (fun _ vs H Q E h => by rw [e]; exact h)
    have C := ok_condition T (by omega) (by omega) (ok_conjunction T (by omega) (by omega) U)
    have e1 : 8 + 3 * (n + 1) = 8 + 3 * n + 1 + 1 + 1 := by omega
    have e2 : 3 + 3 * (n + 1) = 3 + 3 * n + 1 + 1 + 1 := by omega
    rw [e1, e2]
    exact C
theorem ok_read_condition (T : Txt K mg c) : Met P w K mg base (L2N.CX P w) 56 c.reader "read_condition" (spParse c.reader c.badLine 51 0 0 fun _ nm t => rd nm 3 0 t) := ok_conds T 16 (Nat.le_refl _)
/-! lines of a menu -/
def lineF (pn pc : Addr) (e h p k : Int) : List (Str × V) := [("name", .ref pn), ("condition", .ref pc), ("prescale", .int e), ("held", .int h), ("passed", .int p), ("kept", .int k)]
/-- a line that was read: what it tells never changes, but its counts do -/
structure LineAt (C : Addr) (H : Hp) (x : Addr) (l : Sj25.Line) (h p k : Nat) : Prop where
  ex : ∃ (dx pn pc : Addr), H x = some (.ins C dx (lineF pn pc (l.every : Nat) h p k)) ∧ H pn = some (.tup (vN l.name)) ∧ CondAt H 51 pc l.c
theorem LineAt.same {C : Addr} {H H' : Hp} {x : Addr} {l : Sj25.Line} {h p k : Nat} (e : Same H H') (hL : LineAt C H x l h p k) : LineAt C H' x l h p k := by
  obtain ⟨dx, pn, pc, h1, h2, h3⟩ := hL.ex
  exact ⟨dx, pn, pc, e _ _ h1, e _ _ h2, h3.same e⟩
def spLineInit (C : Addr) : Sp := fun vs H Q _ => ∃ (x dx pn pc : Addr) (l : Sj25.Line), vs = [.ref x, .ref pn, .ref pc, .int (l.every : Nat)] ∧ H x = some (.ins C dx []) ∧ H pn = some (.tup (vN l.name)) ∧ CondAt H 51 pc l.c ∧
  ∀ H', But (· = x) H H' → LineAt C H' x l 0 0 0 → Q .non H'
theorem ok_Line_init (T : Txt K mg c) : Mak P w K mg base CX0 1 "Line" c.line (spLineInit c.line) := by
  refine mak_of0 T.m.m_Line_init sc_Line_init b_Line_init (fun vs H Q E h => ?_) (fun f cdv A outer s H vs Q E hr h => ⟨_, (D_Line_init T hr).2, ?_⟩)
  · obtain ⟨x, dx, pn, pc, l, rfl, _⟩ := h
    rfl
  · obtain ⟨x, dx, pn, pc, l, rfl, hx, hn, hC, k⟩ := h
    refine ⟨_, rfl, _, rfl, x, _, dx, _, rfl, hx, T.c.c_Line, T.c.a_Line_name, by show 0 < 1000; decide, ?_⟩
    refine ⟨_, rfl, _, rfl, x, _, dx, _, rfl, upd_same, T.c.c_Line, T.c.a_Line_condition, by show 1 < 1000; decide, ?_⟩
    refine ⟨_, rfl, _, rfl, x, _, dx, _, rfl, upd_same, T.c.c_Line, T.c.a_Line_prescale, by show 2 < 1000; decide, ?_⟩
    refine ⟨_, rfl, x, _, dx, _, rfl, upd_same, T.c.c_Line, T.c.a_Line_held, by show 3 < 1000; decide, ?_⟩
    refine ⟨_, rfl, x, _, dx, _, rfl, upd_same, T.c.c_Line, T.c.a_Line_passed, by show 4 < 1000; decide, ?_⟩
    refine ⟨_, rfl, x, _, dx, _, rfl, upd_same, T.c.c_Line, T.c.a_Line_kept, by show 5 < 1000; decide, ?_⟩
    have kp : ∀ H', But (· = x) H H' → TupK H H' := fun _ b => TupK.ins hx b
    have b6 := fun {o1 o2 o3 o4 o5 o6 : HO} => (but_fld (but_fld (but_fld (but_fld (but_fld (but_fld But.refl))))) : But (· = x) H (upd (upd (upd (upd (upd (upd H x o1) x o2) x o3) x o4) x o5) x o6))
    exact k _ b6 ⟨dx, pn, pc, upd_same, kp _ b6 _ _ hn, hC.keep (kp _ b6)⟩
end
end Ev
namespace Ev
open PySem PySem.Spec PyProof.Rows L2
open Sj25 (Cond kindOf lineOf)
section
variable {P : Program} {w : World} {K : PySem.W.Frag} {mg : Str → Option Value} {base : Heap} {c : Cs}
def spReaderInit (C BL : Addr) : Sp := fun vs H Q E => ∃ (r dx a pn : Addr) (l : List Nat) (nm : List (List Nat)), vs = [.ref r, .ref a, .ref pn] ∧ H r = some (.ins C dx []) ∧ H a = some (.lst (vN l)) ∧ l.length ≤ 100000 ∧ NmAt H pn nm ∧
  (tk l = none → ∀ H', But (· = r) H H' → E (.ref BL) none H') ∧ ∀ ts, tk l = some ts → ∀ H', But (· = r) H H' → ReadAt C H' r nm ts 0 → Q .non H'
theorem ok_Reader_init (T : Txt K mg c) : Mak P w K mg base (L2N.CX P w) 5 "Reader" c.reader (spReaderInit c.reader c.badLine) := by
  have GT : Cal P w K mg base (L2N.CX P w) 4 "tokens_of" (spTokens c.badLine) := ok_tokens_of T
  refine mak_of T.m.m_Reader_init sc_Reader_init b_Reader_init (fun vs H Q E h => ?_) (fun f cdv A outer s H vs Q E hr h => ⟨_, (D_Reader_init T GT (by decide) hr).2, ?_⟩)
  · obtain ⟨r, dx, a, pn, l, nm, rfl, _⟩ := h
    rfl
  · obtain ⟨r, dx, a, pn, l, nm, rfl, hr0, ha, hl, hN, kx, k⟩ := h
    refine ⟨_, rfl, a, l, rfl, ha, hl, fun hn H' e => kx hn H' (But.of e), fun ts hs H1 p qs e e1 h1 h2 hT => ?_⟩
    refine ⟨_, rfl, r, _, dx, _, rfl, e1 _ _ hr0, T.c.c_Reader, T.c.a_Reader_tokens, by show 0 < 1000; decide, ?_⟩
    refine ⟨_, rfl, r, _, dx, _, rfl, upd_same, T.c.c_Reader, T.c.a_Reader_at, by show 1 < 1000; decide, ?_⟩
    refine ⟨_, rfl, _, rfl, r, _, dx, _, rfl, upd_same, T.c.c_Reader, T.c.a_Reader_names, by show 2 < 1000; decide, ?_⟩
    refine ⟨_, rfl, r, _, dx, _, rfl, upd_same, T.c.c_Reader, T.c.a_Reader_deep, by show 3 < 1000; decide, ?_⟩
    have b4 := fun {o1 o2 o3 o4 : HO} => (but_fld (but_fld (but_fld (but_fld But.refl))) : But (· = r) H1 (upd (upd (upd (upd H1 r o1) r o2) r o3) r o4))
    have hr1 := e1 _ _ hr0
    have kp : ∀ H', But (· = r) H1 H' → TupK H1 H' := fun _ b => TupK.ins hr1 b
    exact k ts hs _ ((But.of e1).trans b4) ⟨dx, p, pn, qs, e, ts, 0, upd_same, but_lst hr1 b4 h1, kp _ b4 _ _ h2, hT.keep (kp _ b4), (tk_ok hs).1, Nat.zero_le _, rfl, (hN.same e1).but hr1 b4⟩
def spReadLine (C CL BL : Addr) : Sp := fun vs H Q E => ∃ (r : Addr) (nm : List (List Nat)) (t : List Tk), vs = [.ref r] ∧ t.length ≤ 100000 ∧ ReadAt C H r nm t 0 ∧
  (pLine nm t = none → ∀ H', But (· = r) H H' → E (.ref BL) none H') ∧ ∀ l, pLine nm t = some l → ∀ H' x, But (· = r) H H' → LineAt CL H' x l 0 0 0 → Q (.ref x) H'
theorem ne_name_end {q : Prop} (h : ("name" : Str) = "end") : q := absurd h (by decide)
theorem n_number_end {q : Prop} (h : ("number" : Str) = "end") : q := absurd h (by decide)
theorem n_sign_end {q : Prop} (h : ("sign" : Str) = "end") : q := absurd h (by decide)
theorem tag_end {t : List Tk} : tag t = "end" ↔ t = [] := by
  constructor
  · intro h
    cases t with
    | nil => rfl
    | cons x t =>
      cases x with
      | name l => exact ne_name_end h
      | num l => exact n_number_end h
      | sign l => exact n_sign_end h
  · rintro rfl
    rfl
theorem ok_read_line (T : Txt K mg c) : Met P w K mg base (L2N.CX P w) 57 c.reader "read_line" (spReadLine c.reader c.line c.badLine) := by
  have GT : Met P w K mg base (L2N.CX P w) 2 c.reader "take" (spTake c.reader c.badLine) := ok_take T
  have GW : Cal P w K mg base (L2N.CX P w) 1 "want" (spWant c.badLine) := ok_want T
  have GS : Met P w K mg base (L2N.CX P w) 2 c.reader "take_sign" (spTakeSign c.reader c.badLine) := ok_take_sign T
  have GC : Met P w K mg base (L2N.CX P w) 56 c.reader "read_condition" (spParse c.reader c.badLine 51 0 0 fun _ nm t => rd nm 3 0 t) := ok_read_condition T
  have GN : Met P w K mg base (L2N.CX P w) 3 c.reader "take_number" (spTakes c.reader c.badLine 2 fNum) := ok_take_number T
  have GP : Met P w K mg base CX0 1 c.reader "passes" (spPasses c.reader) := ok_passes T
  have GI : Met P w K mg base CX0 1 c.reader "is_next" (spIsNext c.reader) := ok_is_next T
  have GL : Mak P w K mg base CX0 1 "Line" c.line (spLineInit c.line) := ok_Line_init T
  refine met_of T.c.c_Reader T.m.m_Reader_read_line sc_Reader_read_line b_Reader_read_line (fun vs H Q E h => ?_) (fun f cdv A outer s H vs Q E hr h => ⟨_, (D_Reader_read_line T GT (by decide) GW (by decide) GS (by decide) GC (by decide) GN (by decide) GP (by decide) GI (by decide) GL (by decide) hr).2, ?_⟩)
  · obtain ⟨r, nm, t, rfl, _⟩ := h
    rfl
  · obtain ⟨r, nm, t, rfl, ht, hR, kx, k⟩ := h
    unfold pLine at kx k
    refine self1 rfl rfl hR ⟨r, _, nm, t, 0, rfl, hR, .inl ⟨rfl, fun hn H' e => kx (by rw [hn]; rfl) H' e, fun n t1 h1 H1 q e1 hR1 hq => ?_⟩⟩
    have ht1 : t1.length ≤ 100000 := by
      have := tName_some h1
      rw [this, List.length_cons] at ht
      omega
    rw [h1] at kx k
    rw [Option.bind_some] at kx k
    dsimp only at kx k
    obtain ⟨dx, pt, pn, i, xs, q1, g1, g2, g3, g4, ⟨kvs, g5, g6, g7⟩, g8, g9⟩ := hR1.opens
    have hD : DGet H1 pn (.ref q) (valV kvs (nk n)) := DGet.t g5 (by rw [nk_V]; exact hq)
    rw [g7] at hD
    have his : ((lineOf nm n).map fun i => V.int ((i : Nat) : Int)).isSome = (lineOf nm n).isSome := by cases lineOf nm n <;> rfl
    refine ⟨_, rfl, _, rfl, r, _, dx, _, _, rfl, g1, T.c.c_Reader, T.c.a_Reader_names, rfl, pn, _, rfl, hD, _, rfl, fun y => ?_, fun y => ?_⟩
    rotate_left
    · rw [his] at y
      rw [if_pos (by rw [← Bool.not_eq_false']; exact y)] at kx
      exact kx rfl H1 e1
    rw [his] at y
    have hno : ¬ ((lineOf nm n).isSome = true) := by
      rw [Bool.not_eq_true] 
      simpa using y
    rw [if_neg hno] at kx k
    refine self1 rfl rfl hR1 (tk_sign (b := 58) hR1 (fun hn H' e => kx (by rw [hn]; rfl) H' (e1.trans e)) fun t2 h2 H2 e2 hR2 => ?_)
    rw [h2] at kx k
    rw [Option.bind_some] at kx k
    have ht2 := hd_le h2 ht1
    have e12 := e1.trans e2
    have hq2 := but_tup g1 e2 hq
    refine self0 rfl rfl hR2 (ps0 hR2 (fun _ => rfl) ht2 (fun hn H' e => kx (by rw [hn]; rfl) H' (e12.trans e)) fun cd t3 h3 H3 v e3 hR3 hC3 => ?_)
    rw [h3] at kx k
    rw [Option.bind_some] at kx k
    dsimp only at kx k
    have e13 := e12.trans e3
    obtain ⟨_, _, _, _, f2⟩ := hR2.is
    have hq3 := but_tup f2 e3 hq2
    have fin : ∀ (H4 : Hp) (t4 : List Tk) (n4 : Nat), But (· = r) H H4 → ReadAt c.reader H4 r nm t4 0 → H4 q = some (.tup (vN n)) → CondAt H4 51 v cd → (t4 ≠ [] → ∀ H', But (· = r) H H' → E (.ref c.badLine) none H') →
        (t4 = [] → ∀ H' x, But (· = r) H H' → LineAt c.line H' x ⟨n, cd, n4⟩ 0 0 0 → Q (.ref x) H') →
        (tSeq (tDrop (tCal (spWant c.badLine) E (tCons (tMet c.reader "is_next" (spIsNext c.reader) E0 (tVar 0) (tCons (tC (.str "end")) tNil)) tNil))) (tRet (tMak c.line (spLineInit c.line) E0 (tCons (tVar 1) (tCons (tVar 2) (tCons (tVar 3) tNil)))))) { nx := fun _ H' => Q .non H', rt := Q }
          [some (.ref r), some (.ref q), some (.ref v), some (.int (n4 : Nat))] H4 := by
      intro H4 t4 n4 e4 hR4 hq4 hC4 kx k
      refine self1 rfl rfl hR4 ⟨r, _, nm, t4, 0, rfl, hR4, _, rfl, fun y => ?_, fun y => ?_⟩
      · have hnil := tag_end.mp (of_decide_eq_true y)
        refine ⟨_, rfl, _, rfl, _, rfl, fun x dx hx hdx hne => ?_⟩
        have m1 := made_same (o := .ins c.line dx []) hx hdx But.refl
        exact ⟨x, dx, q, v, ⟨n, cd, n4⟩, rfl, upd_same, m1 _ _ hq4, hC4.same m1, fun H5 e5 hL => ⟨rfl, k hnil H5 x (e4.trans (But.of (made_same hx hdx e5))) hL⟩⟩
      · exact kx (fun z => of_decide_eq_false y (tag_end.mpr z)) H4 e4
    refine self1 rfl rfl hR3 (tk_pass (b := 47) hR3 (fun h4 H4 e4 hR4 => ?_) fun t4 h4 H4 e4 hR4 => ?_)
    · rw [h4] at kx k
      dsimp only at kx k
      refine ⟨_, rfl, ite_no rfl ?_⟩
      refine fin H4 t3 1 (e13.trans (But.of e4)) hR4 (e4 _ _ hq3) (hC3.same e4) (fun z => kx (if_neg z)) fun z => ?_
      rw [if_pos z] at k
      exact k _ rfl
    · rw [h4] at kx k
      dsimp only at kx k
      refine ⟨_, rfl, ite_yes rfl ?_⟩
      have e14 := e13.trans e4
      refine self2 rfl rfl hR4 (tk_num (a := 1) (b := 65535) hR4 (fun hn H' e => kx (by rw [hn]; rfl) H' (e14.trans e)) fun v5 t5 h5 H5 e5 hR5 => ?_)
      rw [h5] at kx k
      rw [Option.bind_some] at kx k
      dsimp only at kx k
      obtain ⟨_, _, _, _, f3⟩ := hR3.is
      obtain ⟨_, _, _, _, f4⟩ := hR4.is
      refine fin H5 t5 v5 (e14.trans e5) hR5 (but_tup f4 e5 (but_tup f3 e4 hq3)) ((hC3.keep (TupK.ins f3 e4)).keep (TupK.ins f4 e5)) (fun z => kx (if_neg z)) fun z => ?_
      rw [if_pos z] at k
      exact k _ rfl
end
end Ev
namespace Ev
open PySem PySem.Spec PyProof.Rows L2
open Sj25 (parted blank)
theorem parted_ne (l : List Nat) : parted l ≠ [] := by
  cases l with
  | nil => simp [parted]
  | cons x r =>
    unfold parted
    split
    · simp
    · split <;> simp
/-- a byte more behind the last line -/
def addLast (x : Nat) : List (List Nat) → List (List Nat)
  | [] => [[x]]
  | [l] => [l ++ [x]]
  | l :: r => l :: addLast x r
theorem addLast_app (x : Nat) (l : List Nat) : ∀ ls : List (List Nat), addLast x (ls ++ [l]) = ls ++ [l ++ [x]]
  | [] => rfl
  | a :: r => by
    cases hr : r ++ [l] with
    | nil => exact absurd hr (by simp)
    | cons b s =>
      show addLast x (a :: (r ++ [l])) = _
      rw [hr]
      show a :: addLast x (b :: s) = _
      rw [← hr, addLast_app x l r]
      rfl
theorem parted_snoc (x : Nat) : ∀ l : List Nat, parted (l ++ [x]) = if x = 10 then parted l ++ [[]] else addLast x (parted l)
  | [] => by
    show parted [x] = _
    unfold parted
    by_cases h : x = 10
    · rw [if_pos h, if_pos h]
      rfl
    · rw [if_neg h, if_neg h]
      rfl
  | y :: r => by
    have ih := parted_snoc x r
    have hne := parted_ne r
    show parted (y :: (r ++ [x])) = _
    rw [parted, ih]
    by_cases hy : y = 10
    · rw [if_pos hy]
      have e : parted (y :: r) = [] :: parted r := by rw [parted, if_pos hy]
      rw [e]
      by_cases hx : x = 10
      · rw [if_pos hx, if_pos hx]
        rfl
      · rw [if_neg hx, if_neg hx]
        cases hp : parted r with
        | nil => exact absurd hp hne
        | cons a b => rfl
    · rw [if_neg hy]
      have e : parted (y :: r) = match parted r with | [] => [[y]] | l :: ls => (y :: l) :: ls := by
        rw [parted, if_neg hy]
        rfl
      rw [e]
      cases hp : parted r with
      | nil => exact absurd hp hne
      | cons a b =>
        by_cases hx : x = 10
        · rw [if_pos hx, if_pos hx]
          rfl
        · rw [if_neg hx, if_neg hx]
          cases b with
          | nil => rfl
          | cons a2 b2 => rfl
/-- lists of a list, each one's own -/
def LinesAt (H : Hp) (p : Addr) (ls : List (List Nat)) : Prop := ∃ qs : List Addr, H p = some (.lst (qs.map V.ref)) ∧ qs.length = ls.length ∧ qs.Nodup ∧ p ∉ qs ∧ ∀ (i : Nat) (q : Addr), qs[i]? = some q → ∃ l, ls[i]? = some l ∧ H q = some (.lst (vN l))
theorem LinesAt.same {H H' : Hp} {p : Addr} {ls : List (List Nat)} (e : Same H H') (h : LinesAt H p ls) : LinesAt H' p ls := by
  obtain ⟨qs, h1, h2, h3, h4, h5⟩ := h
  refine ⟨qs, e _ _ h1, h2, h3, h4, fun i q hq => ?_⟩
  obtain ⟨l, h6, h7⟩ := h5 i q hq
  exact ⟨l, h6, e _ _ h7⟩
theorem LinesAt.get {H : Hp} {p : Addr} {ls : List (List Nat)} {i : Nat} {x : V} (h : LinesAt H p ls) {xs : List V} (hp : H p = some (.lst xs)) (hx : xs[i]? = some x) : ∃ q l, x = .ref q ∧ ls[i]? = some l ∧ H q = some (.lst (vN l)) := by
  obtain ⟨qs, h1, h2, h3, h4, h5⟩ := h
  obtain rfl := HO.lst.inj (Option.some.inj (hp.symm.trans h1))
  obtain ⟨q, hq, rfl⟩ := map_inv hx
  obtain ⟨l, h6, h7⟩ := h5 i q hq
  exact ⟨q, l, rfl, h6, h7⟩
section
variable {P : Program} {w : World} {K : PySem.W.Frag} {mg : Str → Option Value} {base : Heap} {c : Cs}
def spTextLines : Sp := fun vs H Q _ => ∃ (a : Addr) (l : List Nat), vs = [.ref a] ∧ H a = some (.lst (vN l)) ∧ l.length ≤ 100000 ∧ ∀ H' p, Same H H' → LinesAt H' p (parted l) → H p = none → (∀ qs : List Addr, H' p = some (.lst (qs.map V.ref)) → ∀ q ∈ qs, H q = none) → Q (.ref p) H'
theorem parted_len (l : List Nat) : (parted l).length ≤ l.length + 1 := by
  induction l with
  | nil => exact Nat.le_refl _
  | cons x r ih =>
    unfold parted
    split
    · simp only [List.length_cons]
      omega
    · split
      · simp
      · rename_i l ls e
        rw [e] at ih
        simp only [List.length_cons] at *
        omega
theorem ok_text_lines (T : Txt K mg c) : Cal P w K mg base CX0 1 "text_lines" spTextLines := by
  refine cal_of0 T.f.f_text_lines sc_text_lines b_text_lines (fun vs H Q E h => ?_) (fun f cdv A outer s H vs Q E hr h => ⟨_, (D_text_lines T hr).2, ?_⟩)
  · obtain ⟨a, l, rfl, _⟩ := h
    rfl
  · obtain ⟨a, l, rfl, ha, hl, k⟩ := h
    refine ⟨by show 0 ≤ _; exact Nat.zero_le _, fun q0 n0 => ⟨by show 1 ≤ sizeLine; decide, fun D nD => ?_⟩⟩
    have f0 := Same.new (o := .lst []) n0
    have fD := Same.new (o := .lst [.ref q0]) nD
    have hq0D : q0 ≠ D := ne_of_none upd_same nD
    refine ⟨_, rfl, a, rfl, ⟨_, SqL.of ((f0.trans fD) _ _ ha)⟩, for_it (walk_list (xs := vN l)) (fun i σ H' => Same H H' ∧ LinesAt H' D (parted (l.take i)) ∧ H D = none ∧ (∀ qs : List Addr, H' D = some (.lst (qs.map V.ref)) → ∀ q ∈ qs, H q = none) ∧ (∀ ls ∈ parted (l.take i), ls.length ≤ i) ∧ ∃ v2, σ = [some (.ref a), some (.ref D), v2])
      ⟨f0.trans fD, ⟨[q0], upd_same, rfl, by simp, by simpa using Ne.symm hq0D, fun i q hq => ?_⟩, f0.free nD, fun qs hqs q hq => ?_, fun ls hls => ?_, none, rfl⟩ (fun i σ H' _ p => SqL.of (p.1 _ _ ha)) ?_ ?_⟩
    · cases i with
      | zero =>
        obtain rfl : q0 = q := Option.some.inj hq
        exact ⟨[], rfl, fD _ _ upd_same⟩
      | succ i => simp at hq
    · rw [upd_same] at hqs
      have := HO.lst.inj (Option.some.inj hqs)
      cases qs with
      | nil => cases hq
      | cons b r =>
        cases r with
        | nil =>
          obtain rfl := V.ref.inj (List.cons.inj this).1
          rw [List.mem_singleton.mp hq]
          exact n0
        | cons b2 r2 => simp at this
    · rw [List.take_zero] at hls
      obtain rfl : ls = [] := by simpa [parted] using hls
      exact Nat.le_refl _
    · rintro i x σ H1 H2 hi ⟨e1, ⟨qs, h1, h2, h3, h4, h5⟩, hD, hqs, hlen, v2, rfl⟩ ⟨rfl, hx⟩
      obtain ⟨y, hy, rfl⟩ := map_inv hx
      rw [vN_len] at hi
      have hpl := parted_len (l.take i)
      rw [List.length_take] at hpl
      rw [take_snoc hy, parted_snoc]
      refine ⟨_, rfl, rfl, _, rfl, ite2 (fun q => ?_) (fun q => ?_)⟩
      · have hy10 : y = 10 := by have := V.int.inj (of_decide_eq_true q); omega
        rw [if_pos hy10]
        refine ⟨_, rfl, .inl ⟨rfl, _, SqL.of h1⟩, by exact Nat.zero_le _, fun p np => ?_⟩
        have fp := Same.new (o := .lst []) np
        have hpD : p ≠ D := (ne_of_none h1 np).symm
        refine ⟨D, _, _, rfl, rfl, fp _ _ h1, ?_, (e1.trans fp).mut hD, ⟨qs ++ [p], by rw [upd_same, List.map_append]; rfl, by rw [List.length_append, List.length_append, h2]; rfl, ?_, ?_, fun j q hj => ?_⟩, hD, fun rs hrs r hr => ?_, fun ls hls => ?_, _, rfl⟩
        · rw [List.length_map, h2]
          show _ < 16777216
          omega
        · refine List.nodup_append.mpr ⟨h3, by simp, fun a ha b hb => ?_⟩
          rw [List.mem_singleton.mp hb]
          intro z
          subst z
          obtain ⟨j, hj⟩ := List.getElem?_of_mem ha
          obtain ⟨l', _, hl'⟩ := h5 j a hj
          rw [np] at hl'
          cases hl'
        · rw [List.mem_append, List.mem_singleton]
          rintro (z | z)
          · exact h4 z
          · exact hpD z.symm
        · by_cases hjl : j < qs.length
          · rw [List.getElem?_append_left hjl] at hj
            obtain ⟨l', g1, g2⟩ := h5 j q hj
            refine ⟨l', by rw [List.getElem?_append_left (by omega)]; exact g1, ?_⟩
            rw [upd_ne (by intro z; subst z; exact h4 (List.mem_of_getElem? hj))]
            exact fp _ _ g2
          · rw [List.getElem?_append_right (by omega)] at hj
            have h0 : j - qs.length = 0 := by
              have := (List.getElem?_eq_some_iff.mp hj).1
              simp at this
              omega
            rw [h0] at hj
            obtain rfl : p = q := Option.some.inj hj
            refine ⟨[], by rw [List.getElem?_append_right (by omega), ← h2, h0]; rfl, ?_⟩
            rw [upd_ne hpD, upd_same]
            rfl
        · rw [upd_same] at hrs
          have e := HO.lst.inj (Option.some.inj hrs)
          have e2 : rs = qs ++ [p] := by
            refine (List.map_inj_right (f := V.ref) (fun a b z => V.ref.inj z)).mp ?_
            rw [← e, List.map_append]
            rfl
          rw [e2] at hr
          rcases List.mem_append.mp hr with z | z
          · exact hqs qs h1 r z
          · rw [List.mem_singleton.mp z]
            exact e1.free np
        · rcases List.mem_append.mp hls with z | z
          · exact Nat.le_succ_of_le (hlen ls z)
          · rw [List.mem_singleton.mp z]
            exact Nat.zero_le _
      · have hy10 : y ≠ 10 := fun z => q (decide_eq_true (by rw [z]; rfl))
        rw [if_neg hy10]
        have hne := parted_ne (l.take i)
        revert h2 h5 hlen hpl hne
        generalize parted (l.take i) = ps
        intro h2 hlen h5 hpl hne
        obtain ⟨pi, pl, rfl⟩ : ∃ pi pl, ps = pi ++ [pl] := ⟨ps.dropLast, ps.getLast hne, (List.dropLast_concat_getLast _).symm⟩
        have hqne : qs ≠ [] := fun z => by rw [z] at h2; simp at h2
        obtain ⟨qi, ql, rfl⟩ : ∃ qi ql, qs = qi ++ [ql] := ⟨qs.dropLast, qs.getLast hqne, (List.dropLast_concat_getLast _).symm⟩
        have hli : qi.length = pi.length := by
          rw [List.length_append, List.length_append] at h2
          simpa using h2
        have em : (qi ++ [ql]).map V.ref = qi.map V.ref ++ [V.ref ql] := by rw [List.map_append]; rfl
        obtain ⟨l', g1, g2⟩ := h5 qi.length ql (by rw [List.getElem?_append_right (Nat.le_refl _), Nat.sub_self]; rfl)
        rw [List.getElem?_append_right (by omega), hli, Nat.sub_self] at g1
        obtain rfl : pl = l' := Option.some.inj g1
        have hqD : ql ≠ D := fun z => h4 (by rw [← z]; simp)
        have hqn : ql ∉ qi := fun z => (List.nodup_append.mp h3).2.2 ql z ql (by simp) rfl
        rw [addLast_app]
        refine ⟨_, rfl, _, rfl, D, qi.map V.ref ++ [V.ref ql], _, V.ref ql, rfl, rfl, SqL.of (by rw [← em]; exact h1), atI_last _ _, ?_⟩
        refine ⟨.inl ⟨rfl, _, SqL.of g2⟩, _, rfl, ql, _, _, rfl, rfl, g2, ?_, e1.mut (hqs _ h1 ql (by simp)), ⟨qi ++ [ql], by rw [upd_ne (Ne.symm hqD)]; exact h1, by simp [hli], h3, h4, fun j q hj => ?_⟩, hD, fun rs hrs r hr => ?_, fun ls hls => ?_, _, rfl⟩
        · rw [vN_len]
          show pl.length < 16777216
          have := hlen pl (by simp)
          omega
        · by_cases hjl : j < qi.length
          · rw [List.getElem?_append_left hjl] at hj
            obtain ⟨l', f1, f2⟩ := h5 j q (by rw [List.getElem?_append_left hjl]; exact hj)
            rw [List.getElem?_append_left (by omega)] at f1
            refine ⟨l', by rw [List.getElem?_append_left (by omega)]; exact f1, ?_⟩
            rw [upd_ne (by intro z; subst z; exact hqn (List.mem_of_getElem? hj))]
            exact f2
          · rw [List.getElem?_append_right (by omega)] at hj
            have h0 : j - qi.length = 0 := by
              have := (List.getElem?_eq_some_iff.mp hj).1
              simp at this
              omega
            rw [h0] at hj
            obtain rfl : ql = q := Option.some.inj hj
            refine ⟨pl ++ [y], by rw [List.getElem?_append_right (by omega), ← hli, h0]; rfl, ?_⟩
            rw [upd_same, vN_app]
            rfl
        · rw [upd_ne (Ne.symm hqD)] at hrs
          exact hqs rs hrs r hr
        · rcases List.mem_append.mp hls with z | z
          · exact Nat.le_succ_of_le (hlen ls (List.mem_append_left _ z))
          · rw [List.mem_singleton.mp z, List.length_append]
            exact Nat.succ_le_succ (hlen pl (by simp))
    · rintro σ H1 ⟨e1, hL, hD, hqs, _, v2, rfl⟩
      rw [vN_len, List.take_length] at hL
      exact ⟨_, rfl, k _ D e1 hL hD hqs⟩
def spIgnored : Sp := fun vs H Q _ => ∃ (a : Addr) (l : List Nat), vs = [.ref a] ∧ H a = some (.lst (vN l)) ∧ l.length ≤ 100000 ∧ ∀ H', Same H H' → Q (.bl (blank l)) H'
theorem ok_is_ignored (T : Txt K mg c) : Cal P w K mg base CX0 1 "is_ignored" spIgnored := by
  refine cal_of0 T.f.f_is_ignored sc_is_ignored b_is_ignored (fun vs H Q E h => ?_) (fun f cdv A outer s H vs Q E hr h => ⟨_, (D_is_ignored T hr).2, ?_⟩)
  · obtain ⟨a, l, rfl, _⟩ := h
    rfl
  · obtain ⟨a, l, rfl, ha, hl, k⟩ := h
    refine ⟨_, rfl, a, rfl, ⟨_, SqL.of ha⟩, fun D hD => lc_it (walk_list (xs := vN l)) (fun i H' => Same H H' ∧ H' D = some (.lst ((l.take i).map fun x => V.bl (x == 32)))) ⟨Same.new hD, upd_same⟩ (fun i H' _ p => SqL.of (p.1 _ _ ha)) ?_ ?_⟩
    · rintro i x H1 H2 hi ⟨e1, h1⟩ ⟨rfl, hx⟩
      obtain ⟨y, hy, rfl⟩ := map_inv hx
      refine ⟨rfl, _, rfl, rfl, _, h1, ?_, e1.mut hD, ?_⟩
      · rw [List.length_map, List.length_take]
        rw [vN_len] at hi
        show _ < 16777216
        omega
      · rw [upd_same, take_snoc hy, List.map_append]
        have : decide (V.int (y : Int) = V.int 32) = (y == 32) := by
          rw [Bool.eq_iff_iff, decide_eq_true_iff, beq_iff_eq]
          exact ⟨fun z => by have := V.int.inj z; omega, fun z => by rw [z]; rfl⟩
        rw [this]
        rfl
    · rintro H1 ⟨e1, h1⟩
      rw [vN_len, List.take_length] at h1
      refine ⟨D, l.map fun x => (x == 32), rfl, SqL.of ?_, ?_⟩
      · rw [List.map_map]
        exact h1
      · have : (l.map fun x => (x == 32)).all id = blank l := by
          unfold blank
          rw [List.all_map]
          rfl
        rw [this]
        exact k _ e1
end
end Ev
namespace Ev
open PySem PySem.Spec PyProof.Rows L2
/-! ### calls whose way out looks at the slots -/
def tMetS (C : Addr) (m : Str) (sp : Sp) (E : L2.St → XK) (ta : TE) : TE := fun σ H Q => ta σ H fun x H1 => ∃ a dx fs, x = .ref a ∧ H1 a = some (.ins C dx fs) ∧ fs.lookup m = none ∧ sp [x] H1 Q (E σ)
def tMakS (C : Addr) (sp : Sp) (E : L2.St → XK) (t : TA) : TE := fun σ H Q => t σ H fun vs H1 => ∀ x dx, H1 x = none → H1 dx = none → dx ≠ x →
  sp (.ref x :: vs) (upd (upd H1 dx (.own x)) x (.ins C dx [])) (fun v H2 => v = .non ∧ Q (.ref x) H2) (E σ)
section
variable {X : Cx} {CX : CXT} {k j : Nat} {f C : Addr} {fd : FuncData} {ps : List Str} {sp : Sp} {x m : Str} {p pos apos : Pos} {e o : Expr} {es : List Expr} {ta : TE} {t : TA}
theorem new_sig {pins : List (Addr × Obj)} {σ : L2.St} {H : Hp} {s : Shared} {Q : VK} {E1 : XK} {as : List Value} {ws : List V} (mk : Mk X.K C f) (fo : FnOk X.prog X.w X.K X.mg X.base CX k f fd ps sp) (rm : Room (k + 1) X.A) (bd : Binds X.K fd ps [])
    (out : PassesAt CX X σ E1) (iv : Inv X pins σ H s) (rv : Vals ws as)
    (q : ∀ x dx, H x = none → H dx = none → dx ≠ x → sp (.ref x :: ws) (upd (upd H dx (.own x)) x (.ins C dx [])) (fun v H2 => v = .non ∧ Q (.ref x) H2) E1) :
    wpAny (model X.prog X.w) X.A (call (.ref C) as) (EP X pins σ Q) X.xe s := by
  have q1 := q (s.heap.objs.size + 1) s.heap.objs.size (iv.hok.fresh (Nat.le_succ _)) (iv.hok.fresh (Nat.le_refl _)) (Nat.ne_of_lt (Nat.lt_succ_self _))
  have iv2 := Inv.made (C := C) iv
  have rv2 : Vals (V.ref (s.heap.objs.size + 1) :: ws) (Value.ref (s.heap.objs.size + 1) :: as) := .cons rfl rv
  have len : (Value.ref (s.heap.objs.size + 1) :: as).length = ps.length := rv2.length.symm.trans (fo.len _ _ _ _ q1)
  have bs := bd _ (Value.ref (s.heap.objs.size + 1) :: as) iv2.kIn (by rw [List.append_nil]; exact len)
  rw [List.append_nil] at bs
  have go := fo.run _ X.stack _ _ ⟨Value.ref (s.heap.objs.size + 1) :: as, []⟩ (Value.ref (s.heap.objs.size + 1) :: as) _ _ E1 (rm.make C as []) (iv2.env0.make C as []) bs rv2 q1
  refine wpAny_call (make_map (f := f) iv.kIn mk.makes mk.init (beq_iff_eq.mp mk.fn) (codeAny_mono go fun r s2 w => ?_))
  match r, w with
  | .error er, w => exact out pins _ _ er s2 iv2 w
  | .ok (.ret u), w =>
    obtain ⟨v, H3, iv3, rel, ev, q3⟩ := iv2.after w
    subst ev
    exact ⟨rel, ⟨V.ref (s.heap.objs.size + 1), H3, iv3, rfl, q3⟩⟩
  | .ok .next, w => exact w.elim
  | .ok .brk, w => exact w.elim
  | .ok .cont, w => exact w.elim
theorem pe_makS {E : L2.St → XK} (c : Mak X.prog X.w X.K X.mg X.base CX k x C sp) (hr : Room j X.A) (hk : k + 1 ≤ j) (hg : Gl X x) (hx : ∀ σ, PassesAt CX X σ (E σ)) (ha : PA X (e :: es) t)
    (hdb : (x == ("__debug__" : Str)) = false := by decide)
    (he : starEach (e :: es) X.env = (false, eval e X.env) :: starEach es X.env := by rfl) (plain : (backTo pos (starEach es X.env)).any (·.1) = false := by rfl) :
    PE X (.Call (.Name x p) (e :: es) [] pos) (tMakS C sp E t) := by
  obtain ⟨f, fd, ps, F, M, hm, b⟩ := c.ex
  refine ⟨fun pins s σ H Q iv q => wpAny_Call_Name_kw (ld_glob iv hg hm ?_ hdb)⟩
  refine PySem.W.callWith_K (h₀ := X.base) iv.ok.mod.kin M.kp (thn (ha.run pos pins s σ H _ iv q) fun as s1 ⟨ws, H1, iv1, r, q1⟩ => ⟨iv1.kIn, new_sig M F (hr.mono hk) b (hx σ) iv1 r q1⟩) he plain
theorem pe_metS {E : L2.St → XK} {pl : Sem Bool} (c : Met X.prog X.w X.K X.mg X.base CX k C m sp) (hr : Room j X.A) (hk : k ≤ j) (hx : ∀ σ, PassesAt CX X σ (E σ)) (he : PE X o ta)
    (tree : eval (.Call (.Attribute o m apos) [] [] pos) X.env = (do
      let obj ← eval o X.env
      standAt apos.atName
      let (fn, us) ← holding [obj] (getMethod obj m pl)
      callWith pos fn us (backTo pos (starEach [] X.env)) (backToKw pos (keywordEach [] X.env)))) :
    PE X (.Call (.Attribute o m apos) [] [] pos) (tMetS C m sp E ta) := by
  obtain ⟨f, fd, ps, F, hm, cl, b⟩ := c.ex
  refine ⟨fun pins s σ H Q iv q => PySem.W.methodCall_KW (pl := pl) (thn (he.run pins s σ H _ iv q) fun u s1 ⟨y, H1, iv1, ry, a, dx, fs, ey, ea, l, q1⟩ => ?_) tree⟩
  subst ey
  obtain rfl : u = Value.ref a := ry
  exact getmeth_ok iv1 ea cl hm l (PySem.W.callWith_K0 (first := [.ref a]) iv1.kIn hm.kp (run_fnS (us := [.ref a]) (vs := [.ref a]) F (hr.mono hk) b (hx σ) iv1 (.cons rfl .nil) q1))
end
section
variable {P : Program} {w : World} {K : PySem.W.Frag} {mg : Str → Option Value} {base : Heap} {c : Cs}
/-! ### BadMenu -/
def spBMI (BM : Addr) : Sp := fun vs H Q _ => ∃ (a : Addr) (n : Nat), vs = [.ref a, .int n] ∧ H a = some (exo a BM none) ∧ ∀ dx, H dx = none → dx ≠ a → Q .non (upd (upd H dx (exd dx [("place", .int n)])) a (exo a BM (some dx)))
structure BadMk (P : Program) (w : World) (K : PySem.W.Frag) (mg : Str → Option Value) (base : Heap) (BM : Addr) : Prop where
  ex : ∃ (f : Addr) (fd : FuncData), FnOk P w K mg base CX0 1 f fd ["self", "place"] (spBMI BM) ∧ L2H.FnH P w K mg base CX0 1 f fd ["self", "place"] (spBMI BM) ∧
    PySem.W.findIn K (.ref BM) "__init__" = some (some (.ref f)) ∧ PySem.W.typeIn K (.ref f) = some (.type "function") ∧ Binds K fd ["self", "place"] []
theorem ok_BadMenu (T : Txt K mg c) : BadMk P w K mg base c.badMenu := by
  obtain ⟨f, fd, F, hi, ht⟩ := T.x.iM
  have len : ∀ (vs : List V) (H : Hp) (Q : VK) (E : XK), spBMI c.badMenu vs H Q E → vs.length = ["self", "place"].length := fun vs H Q E h => by
    obtain ⟨a, n, rfl, _⟩ := h
    rfl
  refine ⟨f, fd, fn_body F sc_BadMenu_init len (body0 fun f cdv A outer s H vs Q E hr h => ?_), ?_, hi, ht, F.binds b_BadMenu_init⟩
  · refine ⟨_, pss_cons (ps_expr (pe_veinit rfl T.k.z_ValueError T.x.vV (pa_cons (pv 0) (pa_cons pe_str pa_nil)))) (pss_one (ps_ost (pv 0) (pv 1))), ?_⟩
    obtain ⟨a, n, rfl, ha, k⟩ := h
    exact ⟨_, rfl, a, c.badMenu, _, rfl, by show 1 ≤ 1000; decide, T.x.oM, ha, _, rfl, _, rfl, a, c.badMenu, rfl, T.x.oM, T.x.nM, .inl ⟨ha, fun dx hd hn => k dx hd hn⟩⟩
  · obtain ⟨_, _, _, _, _, _, _, _, _, rfl, there, code⟩ := F.ex
    refine L2H.fn_ofH there code sc_BadMenu_init len fun A outer s H vs Q E p hot hr h => ?_
    refine ⟨_, pss_cons (ps_expr (pe_veinit rfl T.k.z_ValueError T.x.vV (pa_cons (pv 0) (pa_cons pe_str pa_nil)))) (pss_one (ps_ost (pv 0) (pv 1))), ?_⟩
    obtain ⟨a, n, rfl, ha, k⟩ := h
    exact ⟨_, rfl, a, c.badMenu, _, rfl, by show 1 ≤ 1000; decide, T.x.oM, ha, _, rfl, _, rfl, a, c.badMenu, rfl, T.x.oM, T.x.nM, .inl ⟨ha, fun dx hd hn => k dx hd hn⟩⟩
/-! ### line_told -/
def BadAt (BM : Addr) (E : XK) (H : Hp) (n : Nat) : Prop := ∀ H' d, Same H H' → H' d = some (.xd [("place", .int n)]) → E (.ref BM) (some d) H'
def spTold (CL BM : Addr) : Sp := fun vs H Q E => ∃ (a pn : Addr) (n : Nat) (l : List Nat) (nm : List (List Nat)), vs = [.ref a, .int n, .ref pn] ∧ H a = some (.lst (vN l)) ∧ l.length ≤ 100000 ∧ NmAt H pn nm ∧
  (Sj25.lineFrom nm l = none → BadAt BM E H n) ∧ ∀ ln, Sj25.lineFrom nm l = some ln → ∀ H' x, Same H H' → LineAt CL H' x ln 0 0 0 → Q (.ref x) H'
noncomputable def D_line_told {f : Addr} {cdv : Value} {A : Around} {outer : List Env} {s : Shared} {H : Hp} {E : XK} {j : Nat} (T : Txt K mg c) {fI : Addr} {fd : FuncData} (FH : L2H.FnH P w K mg base CX0 1 fI fd ["self", "place"] (spBMI c.badMenu))
    (iC : PySem.W.findIn K (.ref c.badMenu) "__init__" = some (some (.ref fI))) (tI : PySem.W.typeIn K (.ref fI) = some (.type "function")) (bI : Binds K fd ["self", "place"] [])
    (GR : Met P w K mg base (L2N.CX P w) 57 c.reader "read_line" (spReadLine c.reader c.line c.badLine)) (GI : Mak P w K mg base (L2N.CX P w) 5 "Reader" c.reader (spReaderInit c.reader c.badLine)) (hj : 57 ≤ j)
    (hr : Room j (A.deeper (envOfC "line_told" (defScope s_line_told) s.heap.objs.size f cdv))) :
    { t : TS // PSs (XM P w K mg base n_line_told "line_told" s_line_told f cdv A outer s H E) (defBody s_line_told) t } :=
  ⟨_, pss_cons (L2H.ps_try_onlyX (tb := fun W => tAsg (tMetS c.reader "read_line" (spReadLine c.reader c.line c.badLine) (WE W) (tMakS c.reader (spReaderInit c.reader c.badLine) (WE W) (tCons (tVar 0) (tCons (tVar 2) tNil)))) (gName 3))
      (ts := fun _ _ _ => fun _ σ H => tMkO c.badMenu (spBMI c.badMenu) [] (tCons (tVar 1) tNil) σ H fun cls d H' => E cls d H') (Wout := fun cls d _ H => E cls d H) rfl rfl ⟨rfl, by decide, .inl T.x.gL⟩ (fun hd => L2H.passesAt_of rfl hd) (takes_of rfl rfl rfl rfl)
      (fun W pn xe tk _ _ => pss_one (ps_set (i := 3) sc_line_told.nd rfl (Or.inl rfl) (pe_metS (pl := _) GR (hr : Room j _) hj (fun σ => L2N.passAt tk σ) (pe_makS GI (hr : Room j _) (by omega) rfl (fun σ => L2N.passAt tk σ) (pa_cons (pv 0) (pa_cons (pv 2) pa_nil))) (mcall_of (by rfl) fun ov => by rfl))))
      (fun a oe cls d pn hz hf tk hot => pss_one (L2H.ps_raiseHN hot tk (L2H.pmk5_oexH T.x.oM iC tI FH ((L2H.roomH_mark (hr.mono (by omega : 2 ≤ j)) _)) hot bI pass0 rfl T.x.gM (pa_cons (pv 1) pa_nil)))))
    (pss_one (ps_ret (pv 3)))⟩
end
end Ev
namespace Ev
open PySem PySem.Spec PyProof.Rows L2
section
variable {P : Program} {w : World} {K : PySem.W.Frag} {mg : Str → Option Value} {base : Heap} {c : Cs}
/-- a BadMenu is made -/
theorem mk_bad {BM : Addr} {E : XK} {H H1 : Hp} {n : Nat} (e : Same H H1) (kx : BadAt BM E H n) {Q : XK} (hQ : ∀ d H', E (.ref BM) d H' → Q (.ref BM) d H') : [V.int (n : Int)].length ≤ 1000 ∧ ∀ a, H1 a = none → spBMI BM (.ref a :: ([V.int (n : Int)] ++ [])) (upd H1 a (exo a BM none))
    (fun v H2 => v = .non ∧ ∃ (d : Addr) (fs : List (Str × V)), H2 a = some (exo a BM (some d)) ∧ H2 d = some (exd d fs) ∧ H1 d = none ∧ Q (.ref BM) (some d) (upd (del H2 a) d (.xd fs))) (fun _ _ _ => False) := by
  refine ⟨by show 1 ≤ 1000; decide, fun a ha => ⟨a, n, rfl, upd_same, fun dx hd hne => ⟨rfl, dx, _, upd_same, by rw [upd_ne hne]; exact upd_same, by rw [upd_ne hne] at hd; exact hd, hQ _ _ (kx _ dx (fun b o hb => ?_) upd_same)⟩⟩⟩
  have h1 := e _ _ hb
  rw [upd_ne hne] at hd
  have hba : b ≠ a := ne_of_none h1 ha
  have hbd : b ≠ dx := ne_of_none h1 hd
  rw [upd_ne hbd, del_ne hba, upd_ne hba, upd_ne hbd, upd_ne hba]
  exact h1
theorem ok_line_told (T : Txt K mg c) : Cal P w K mg base (L2.CX P w) 58 "line_told" (spTold c.line c.badMenu) := by
  obtain ⟨fI, fd, _, FH, iC, tI, bI⟩ := (ok_BadMenu (P := P) (w := w) (base := base) T).ex
  have GR : Met P w K mg base (L2N.CX P w) 57 c.reader "read_line" (spReadLine c.reader c.line c.badLine) := ok_read_line T
  have GI : Mak P w K mg base (L2N.CX P w) 5 "Reader" c.reader (spReaderInit c.reader c.badLine) := ok_Reader_init T
  refine cal_of T.f.f_line_told sc_line_told b_line_told (fun vs H Q E h => ?_) (fun f cdv A outer s H vs Q E hr h => ⟨_, (D_line_told T FH iC tI bI GR GI (Nat.le_refl _) hr).2, ?_⟩)
  · obtain ⟨a, pn, n, l, nm, rfl, _⟩ := h
    rfl
  · obtain ⟨a, pn, n, l, nm, rfl, ha, hl, hN, kx, k⟩ := h
    rw [lineFrom_is] at kx k
    have bad : Sj25.lineFrom nm l = none → ∀ (D : Ends) (H' : Hp), Same H H' → wOnly K (.ref c.badLine) (fun _ _ _ => fun _ σ H => tMkO c.badMenu (spBMI c.badMenu) [] (tCons (tVar 1) tNil) σ H fun cls d H' => E cls d H') (fun cls d _ H => E cls d H) D (.ref c.badLine) none
        (start n_line_told [.ref a, .int (n : Int), .ref pn]) H' := by
      intro h0 D H' e
      rw [lineFrom_is] at h0
      exact ⟨true, T.x.eL, fun _ a2 _ => ⟨_, rfl, mk_bad e (kx h0) fun _ _ z => z⟩, fun z => (nomatch z)⟩
    refine ⟨_, rfl, _, rfl, fun r dx hx hdx hne => ⟨r, dx, a, pn, l, nm, rfl, upd_same, ?_, hl, hN.same (made_same hx hdx But.refl), fun hn H' e => ?_, fun ts hs H1 e1 hR => ⟨rfl, ?_⟩⟩⟩
    · exact (made_same hx hdx But.refl) _ _ ha
    · exact bad (by rw [lineFrom_is, hn]; rfl) _ H' (made_same hx hdx e)
    · rw [hs] at kx k
      obtain ⟨dx2, pt, pn2, i, h1⟩ := hR.is
      have s1 : Same H H1 := made_same hx hdx e1
      have hts := (tk_ok hs).2
      refine ⟨r, dx2, _, rfl, h1, rfl, r, nm, ts, rfl, by omega, hR, fun hn H' e => ?_, fun ln hln H' x e hL => ?_⟩
      · exact bad (by rw [lineFrom_is, hs]; exact hn) _ H' (made_same hx hdx (e1.trans e))
      · exact ⟨_, rfl, k ln hln H' x (made_same hx hdx (e1.trans e)) hL⟩
end
end Ev
/-! the plain law: menus -/
namespace Ev
open Sj25 (lineOf lineFrom menuFrom blank)
structure LnOk (n : Nat) (l : Sj25.Line) : Prop where
  c : NumOk n l.c
  w : lv l.c ≤ 100000
  nm : l.name.length ≤ 16
  e1 : 1 ≤ l.every
  e2 : l.every ≤ 65535
theorem pLine_ok {nm : List (List Nat)} {ts : List Tk} {l : Sj25.Line} (ok : ∀ y ∈ ts, TokOk y) (hl : ts.length ≤ 100000) (h : pLine nm ts = some l) : LnOk nm.length l ∧ lineOf nm l.name = none := by
  unfold pLine at h
  obtain ⟨n, e1, h1⟩ := Option.bind_eq_some_iff.mp h
  clear h
  have en := tName_some e1
  have okn : n.1.length ≤ 16 := ok (.name n.1) (by rw [en]; exact List.mem_cons_self ..)
  have ok1 : ∀ y ∈ n.2, TokOk y := fun y hy => ok y (by rw [en]; exact List.mem_cons_of_mem _ hy)
  have hl1 : n.2.length ≤ 100000 := by rw [en, List.length_cons] at hl; omega
  split at h1
  · cases h1
  · rename_i hno
    have hno : lineOf nm n.1 = none := by
      cases e : lineOf nm n.1 with
      | none => rfl
      | some _ => rw [e] at hno; exact absurd rfl hno
    obtain ⟨t, e2, h2⟩ := Option.bind_eq_some_iff.mp h1
    have et := hd_some e2
    have ok2 : ∀ y ∈ t, TokOk y := fun y hy => ok1 y (by rw [et]; exact List.mem_cons_of_mem _ hy)
    have hl2 : t.length ≤ 100000 := by rw [et, List.length_cons] at hl1; omega
    obtain ⟨x, e3, h3⟩ := Option.bind_eq_some_iff.mp h2
    obtain ⟨p1, p2, _⟩ := rd_keeps (by decide) (by decide) ok2 e3
    split at h3
    · rename_i r e4
      obtain ⟨v, e5, h5⟩ := Option.bind_eq_some_iff.mp h3
      obtain ⟨_, b1, b2⟩ := tNumB_some e5
      split at h5
      · cases h5
        exact ⟨⟨p1, by show lv x.1 ≤ _; omega, okn, b1, b2⟩, hno⟩
      · cases h5
    · split at h3
      · cases h3
        exact ⟨⟨p1, by show lv x.1 ≤ _; omega, okn, Nat.le_refl _, by show 1 ≤ 65535; decide⟩, hno⟩
      · cases h3
theorem lineFrom_ok {nm : List (List Nat)} {l : List Nat} {ln : Sj25.Line} (hl : l.length ≤ 100000) (h : lineFrom nm l = some ln) : LnOk nm.length ln ∧ lineOf nm ln.name = none := by
  rw [lineFrom_is] at h
  obtain ⟨ts, e1, h1⟩ := Option.bind_eq_some_iff.mp h
  obtain ⟨o1, o2⟩ := tk_ok e1
  exact pLine_ok o1 (by omega) h1
structure MenuOk (m : List Sj25.Line) : Prop where
  len : m.length ≤ 64
  ok : ∀ (i : Nat) (l : Sj25.Line), m[i]? = some l → LnOk i l
theorem MenuOk.nil : MenuOk [] := ⟨by decide, fun i l h => by simp at h⟩
theorem MenuOk.snoc {m : List Sj25.Line} {l : Sj25.Line} (h : MenuOk m) (hm : m.length < 64) (hl : LnOk m.length l) : MenuOk (m ++ [l]) := by
  refine ⟨by rw [List.length_append]; exact hm, fun i x hx => ?_⟩
  by_cases hi : i < m.length
  · rw [List.getElem?_append_left hi] at hx
    exact h.ok i x hx
  · rw [List.getElem?_append_right (by omega)] at hx
    have h0 : i - m.length = 0 := by
      have := (List.getElem?_eq_some_iff.mp hx).1
      simp at this
      omega
    rw [h0] at hx
    obtain rfl : l = x := Option.some.inj hx
    rw [show i = m.length by omega]
    exact hl
theorem menuFrom_nil (k : Nat) (m : List Sj25.Line) : menuFrom k m [] = .ok m := rfl
theorem menuFrom_blank {k : Nat} {m : List Sj25.Line} {l : List Nat} {r : List (List Nat)} (h : blank l = true) : menuFrom k m (l :: r) = menuFrom (k + 1) m r := if_pos h
theorem menuFrom_none {k : Nat} {m : List Sj25.Line} {l : List Nat} {r : List (List Nat)} (h : blank l = false) (h2 : lineFrom (m.map fun x => x.name) l = none) : menuFrom k m (l :: r) = .error k := by
  unfold menuFrom
  rw [if_neg (by rw [h]; exact Bool.false_ne_true), h2]
theorem menuFrom_full {k : Nat} {m : List Sj25.Line} {l : List Nat} {r : List (List Nat)} (h : blank l = false) (h2 : 64 ≤ m.length) : menuFrom k m (l :: r) = .error k := by
  unfold menuFrom
  rw [if_neg (by rw [h]; exact Bool.false_ne_true)]
  split
  · rfl
  · exact if_pos h2
theorem menuFrom_some {k : Nat} {m : List Sj25.Line} {l : List Nat} {r : List (List Nat)} {x : Sj25.Line} (h : blank l = false) (h2 : lineFrom (m.map fun x => x.name) l = some x) (h3 : m.length < 64) : menuFrom k m (l :: r) = menuFrom (k + 1) (m ++ [x]) r := by
  rw [menuFrom, if_neg (by rw [h]; exact Bool.false_ne_true), h2]
  exact if_neg (Nat.not_le.mpr h3)
theorem lineOf_snoc (nm : List (List Nat)) (x n : List Nat) : lineOf (nm ++ [x]) n = match lineOf nm n with | some i => some i | none => if x = n then some nm.length else none := by
  unfold lineOf
  rw [List.findIdx?_append]
  cases e : nm.findIdx? fun y => y == n with
  | some i => rfl
  | none =>
    show Option.map (fun i => i + nm.length) (List.findIdx? (fun y => y == n) [x]) = _
    rw [List.findIdx?_cons]
    by_cases h : x = n
    · rw [if_pos h, if_pos (by rw [h]; exact beq_self_eq_true n)]
      show some (0 + nm.length) = _
      rw [Nat.zero_add]
    · rw [if_neg h, if_neg (by simpa using h)]
      rfl
end Ev
namespace Ev
open PySem PySem.Spec PyProof.Rows L2
open Sj25 (lineOf lineFrom menuFrom blank parted Count)
/-! ### menus -/
/-- the lines of a menu, with their counts -/
structure LnsAt (CL : Addr) (H : Hp) (qs : List Addr) (m : List Sj25.Line) (cs : List Count) : Prop where
  len : qs.length = m.length
  cnt : cs.length = m.length
  nd : qs.Nodup
  at_ : ∀ (i : Nat) (q : Addr), qs[i]? = some q → ∃ l k, m[i]? = some l ∧ cs[i]? = some k ∧ LineAt CL H q l k.raw k.passed k.kept
theorem LnsAt.same {CL : Addr} {H H' : Hp} {qs : List Addr} {m : List Sj25.Line} {cs : List Count} (e : Same H H') (h : LnsAt CL H qs m cs) : LnsAt CL H' qs m cs :=
  ⟨h.len, h.cnt, h.nd, fun i q hq => by
    obtain ⟨l, k, h1, h2, h3⟩ := h.at_ i q hq
    exact ⟨l, k, h1, h2, h3.same e⟩⟩
def menuV (pl pb : Addr) : List (Str × V) := [("lines", .ref pl), ("before", .ref pb)]
/-- a menu at x: its own object, its list of lines, its lines, what held before -/
structure MenuAt (C CL : Addr) (H : Hp) (x : Addr) (m : List Sj25.Line) (cs : List Count) (bs : List Bool) : Prop where
  ex : ∃ (dx pl pb : Addr) (qs : List Addr), H x = some (.ins C dx (menuV pl pb)) ∧ H pl = some (.lst (qs.map V.ref)) ∧ LnsAt CL H qs m cs ∧ H pb = some (.lst (bV bs))
theorem MenuAt.same {C CL : Addr} {H H' : Hp} {x : Addr} {m : List Sj25.Line} {cs : List Count} {bs : List Bool} (e : Same H H') (h : MenuAt C CL H x m cs bs) : MenuAt C CL H' x m cs bs := by
  obtain ⟨dx, pl, pb, qs, h1, h2, h3, h4⟩ := h.ex
  exact ⟨dx, pl, pb, qs, e _ _ h1, e _ _ h2, h3.same e, e _ _ h4⟩
/-- two instances with different first fields are not one -/
theorem ins_ne {H : Hp} {a b C C' dx dx' : Addr} {f g : Str} {v u : V} {fs gs : List (Str × V)} (ha : H a = some (.ins C dx ((f, v) :: fs))) (hb : H b = some (.ins C' dx' ((g, u) :: gs))) (h : f ≠ g) : a ≠ b := fun z => by
  subst z
  rw [ha] at hb
  have := (HO.ins.inj (Option.some.inj hb)).2.2
  exact h (Prod.mk.inj (List.cons.inj this).1).1
theorem LineAt.keep {CL : Addr} {H H' : Hp} {q : Addr} {l : Sj25.Line} {h p k : Nat} (e : ∀ dx fs, H q = some (.ins CL dx fs) → H' q = some (.ins CL dx fs)) (t : TupK H H') (hL : LineAt CL H q l h p k) : LineAt CL H' q l h p k := by
  obtain ⟨dx, pn, pc, h1, h2, h3⟩ := hL.ex
  exact ⟨dx, pn, pc, e _ _ h1, t _ _ h2, h3.keep t⟩
/-- lists and other things may change -/
theorem LnsAt.keep {CL : Addr} {H H' : Hp} {qs : List Addr} {m : List Sj25.Line} {cs : List Count} (e : ∀ q ∈ qs, ∀ dx fs, H q = some (.ins CL dx fs) → H' q = some (.ins CL dx fs)) (t : TupK H H') (h : LnsAt CL H qs m cs) : LnsAt CL H' qs m cs :=
  ⟨h.len, h.cnt, h.nd, fun i q hq => by
    obtain ⟨l, k, h1, h2, h3⟩ := h.at_ i q hq
    exact ⟨l, k, h1, h2, h3.keep (e q (List.mem_of_getElem? hq)) t⟩⟩
def zeros (n : Nat) : List Count := List.replicate n ⟨0, 0, 0⟩
def spMenuInit (C CL : Addr) : Sp := fun vs H Q _ => ∃ (x dx pl : Addr) (qs : List Addr) (m : List Sj25.Line), vs = [.ref x, .ref pl] ∧ H x = some (.ins C dx []) ∧ H pl = some (.lst (qs.map V.ref)) ∧ LnsAt CL H qs m (zeros m.length) ∧ m.length ≤ 64 ∧
  ∀ H' pb, But (· = x) H H' → H pb = none → H' x = some (.ins C dx (menuV pl pb)) → H' pb = some (.lst (bV (List.replicate m.length false))) → Q .non H'
section
variable {P : Program} {w : World} {K : PySem.W.Frag} {mg : Str → Option Value} {base : Heap} {c : Cs}
theorem bV_rep (n : Nat) : bV (List.replicate n false) = List.replicate n (V.bl false) := by
  unfold bV
  rw [List.map_replicate]
theorem ok_Menu_init (T : Txt K mg c) : Mak P w K mg base CX0 1 "Menu" c.menu (spMenuInit c.menu c.line) := by
  refine mak_of0 T.m.m_Menu_init sc_Menu_init b_Menu_init (fun vs H Q E h => ?_) (fun f cdv A outer s H vs Q E hr h => ⟨_, (D_Menu_init T hr).2, ?_⟩)
  · obtain ⟨x, dx, pl, qs, m, rfl, _⟩ := h
    rfl
  · obtain ⟨x, dx, pl, qs, m, rfl, hx, hpl, hL, hm, k⟩ := h
    refine ⟨_, rfl, _, rfl, x, _, dx, _, rfl, hx, T.c.c_Menu, T.c.a_Menu_lines, by show 0 < 1000; decide, ?_⟩
    have b1 : But (· = x) H (upd H x (.ins c.menu dx [("lines", .ref pl)])) := but_fld But.refl
    have hpl1 := but_lst hx b1 hpl
    refine rd_rep (n := m.length) (by omega) (fun H1 e1 R r => ⟨_, rfl, pl, _, rfl, .inl (SqL.of (e1 _ _ hpl1)), by rw [List.length_map, hL.len]; exact r⟩) fun H1 p e1 np hp => ?_
    refine ⟨_, rfl, x, _, dx, _, rfl, e1 _ _ upd_same, T.c.c_Menu, T.c.a_Menu_before, by show 1 < 1000; decide, ?_⟩
    have hx1 : H1 x = _ := e1 _ _ upd_same
    have b2 : But (· = x) H1 (upd H1 x (.ins c.menu dx (menuV pl p))) := but_fld But.refl
    have bb := (b1.trans (But.of e1)).trans b2
    refine k _ p bb (b1.free np ?_) upd_same ?_
    · exact (ne_of_none upd_same np).symm
    · rw [bV_rep]
      exact but_lst hx1 b2 hp
end
end Ev
namespace Ev
open PySem PySem.Spec PyProof.Rows L2
open Sj25 (lineOf lineFrom menuFrom blank parted Count)
theorem parted_item (l : List Nat) : ∀ x ∈ parted l, x.length ≤ l.length := by
  induction l with
  | nil =>
    intro x hx
    obtain rfl : x = [] := by simpa [parted] using hx
    exact Nat.le_refl _
  | cons y r ih =>
    intro x hx
    unfold parted at hx
    split at hx
    · rcases List.mem_cons.mp hx with rfl | hx
      · exact Nat.zero_le _
      · exact Nat.le_succ_of_le (ih x hx)
    · split at hx
      · rw [List.mem_singleton.mp hx]
        exact Nat.succ_le_succ (Nat.zero_le _)
      · rename_i a ls e
        rw [e] at ih
        rcases List.mem_cons.mp hx with rfl | hx
        · exact Nat.succ_le_succ (ih a (List.mem_cons_self ..))
        · exact Nat.le_succ_of_le (ih x (List.mem_cons_of_mem _ hx))
theorem zeros_snoc (n : Nat) : zeros n ++ [⟨0, 0, 0⟩] = zeros (n + 1) := List.replicate_succ'.symm
theorem LnsAt.snoc {CL : Addr} {H : Hp} {qs : List Addr} {m : List Sj25.Line} {q : Addr} {l : Sj25.Line} (h : LnsAt CL H qs m (zeros m.length)) (hq : LineAt CL H q l 0 0 0) (hn : q ∉ qs) : LnsAt CL H (qs ++ [q]) (m ++ [l]) (zeros (m ++ [l]).length) := by
  have el : (m ++ [l]).length = m.length + 1 := by rw [List.length_append]; rfl
  rw [el, ← zeros_snoc]
  refine ⟨by rw [List.length_append, List.length_append, h.len]; rfl, by rw [List.length_append, List.length_append, h.cnt]; rfl, ?_, fun i r hr => ?_⟩
  · refine List.nodup_append.mpr ⟨h.nd, by simp, fun a ha b hb => ?_⟩
    rw [List.mem_singleton.mp hb]
    intro z
    exact hn (z ▸ ha)
  · by_cases hil : i < qs.length
    · rw [List.getElem?_append_left hil] at hr
      obtain ⟨l', k', h1, h2, h3⟩ := h.at_ i r hr
      refine ⟨l', k', by rw [List.getElem?_append_left (by rw [← h.len]; exact hil)]; exact h1, by rw [List.getElem?_append_left (by rw [h.cnt, ← h.len]; exact hil)]; exact h2, h3⟩
    · rw [List.getElem?_append_right (by omega)] at hr
      have h0 : i - qs.length = 0 := by
        have := (List.getElem?_eq_some_iff.mp hr).1
        simp at this
        omega
      rw [h0] at hr
      obtain rfl : q = r := Option.some.inj hr
      refine ⟨l, ⟨0, 0, 0⟩, ?_, ?_, hq⟩
      · rw [List.getElem?_append_right (by rw [← h.len]; omega), ← h.len, h0]
        rfl
      · rw [List.getElem?_append_right (by rw [h.cnt, ← h.len]; omega), h.cnt, ← h.len, h0]
        rfl
/-- a name more -/
theorem NmAt.put {H : Hp} {p : Addr} {nm : List (List Nat)} {x : List Nat} {kvs : List (List Key × V)} (hno : lineOf nm x = none) (hl : kvs.length ≤ nm.length) (hk : ∀ n, valV kvs (nk n) = (lineOf nm n).map fun i => V.int ((i : Nat) : Int)) :
    NmAt (upd H p (.dT (putK kvs (nk x) (.int (nm.length : Nat))))) p (nm ++ [x]) := by
  refine ⟨_, upd_same, ?_, fun n => ?_⟩
  · rw [List.length_append]
    exact Nat.le_trans (length_putK _ _ _) (Nat.succ_le_succ hl)
  · rw [valV_put, lineOf_snoc]
    by_cases h : n = x
    · subst h
      rw [if_pos rfl, hno]
      simp only [if_true]
      rfl
    · rw [if_neg (fun z => h (nk_inj z)), hk]
      cases lineOf nm n with
      | some i => rfl
      | none =>
        simp only
        rw [if_neg (fun z => h z.symm)]
section
variable {P : Program} {w : World} {K : PySem.W.Frag} {mg : Str → Option Value} {base : Heap} {c : Cs}
def LinesAt' (H : Hp) (p : Addr) (ps : List Addr) (ls : List (List Nat)) : Prop := H p = some (.lst (ps.map V.ref)) ∧ ∀ (i : Nat) (q : Addr), ps[i]? = some q → ∃ l, ls[i]? = some l ∧ H q = some (.lst (vN l))
/-- a menu just read: its lists are new -/
structure MenuNew (C CL : Addr) (H H' : Hp) (x : Addr) (m : List Sj25.Line) : Prop where
  ex : ∃ (dx pl pb : Addr) (qs : List Addr), H' x = some (.ins C dx (menuV pl pb)) ∧ H' pl = some (.lst (qs.map V.ref)) ∧ LnsAt CL H' qs m (zeros m.length) ∧ H' pb = some (.lst (bV (List.replicate m.length false))) ∧ H pl = none ∧ H pb = none
def spReadMenu (C CL BM : Addr) : Sp := fun vs H Q E => ∃ (a : Addr) (l : List Nat), vs = [.ref a] ∧ H a = some (.lst (vN l)) ∧ l.length ≤ 10000 ∧
  (∀ k, menuFrom 0 [] (parted l) = .error k → BadAt BM E H k) ∧ ∀ m, menuFrom 0 [] (parted l) = .ok m → MenuOk m → ∀ H' x, Same H H' → MenuNew C CL H H' x m → Q (.ref x) H'
noncomputable def D_read_menu {f : Addr} {cdv : Value} {A : Around} {outer : List Env} {s : Shared} {H : Hp} {E : XK} {j : Nat} (T : Txt K mg c) {fI : Addr} {fd : FuncData} (F1 : FnOk P w K mg base CX0 1 fI fd ["self", "place"] (spBMI c.badMenu))
    (iC : PySem.W.findIn K (.ref c.badMenu) "__init__" = some (some (.ref fI))) (tI : PySem.W.typeIn K (.ref fI) = some (.type "function")) (bI : Binds K fd ["self", "place"] [])
    (GT : Cal P w K mg base CX0 1 "text_lines" spTextLines) (GI : Cal P w K mg base CX0 1 "is_ignored" spIgnored) (GL : Cal P w K mg base (L2.CX P w) 58 "line_told" (spTold c.line c.badMenu)) (GM : Mak P w K mg base CX0 1 "Menu" c.menu (spMenuInit c.menu c.line)) (hj : 58 ≤ j)
    (hr : Room j (A.deeper (envOfC "read_menu" (defScope s_read_menu) s.heap.objs.size f cdv))) :
    { t : TS // PSs (XM P w K mg base n_read_menu "read_menu" s_read_menu f cdv A outer s H E) (defBody s_read_menu) t } :=
  ⟨_, pss_cons (ps_set (i := 1) sc_read_menu.nd rfl (Or.inl rfl) (pe_lst pa_nil))
    (pss_cons (ps_set (i := 2) sc_read_menu.nd rfl (Or.inl rfl) pe_dnewT)
    (pss_cons (ps_for ownM rfl (pi_enum rfl T.k.z_enumerate (pa_cons (pe_cal GT hr (by omega) rfl pass0 (pa_cons (pv 0) pa_nil)) pa_nil)) (pg_tup rfl (pgs_cons (pg_name (i := 3) sc_read_menu.nd rfl (Or.inl rfl)) (pgs_cons (pg_name (i := 4) sc_read_menu.nd rfl (Or.inl rfl)) pgs_nil)))
      (pss_one (ps_if (pt_not (pt_val (pe_cal GI hr (by omega) rfl pass0 (pa_cons (pv 4) pa_nil))))
        (pss_cons (ps_if (pt_cmpR op_eq (pe_callB call_len_seq (by rfl) T.k.z_len bt_len (pa_cons (pv 1) pa_nil)) (pe_gi rfl T.k.k_MOST_LINES) (nomark _)) (pss_one (ps_raise rfl (takes_of rfl rfl rfl rfl) (pmk_oex T.x.oM iC tI F1 (hr.mono (by omega : 2 ≤ j)) bI .nil pass0 rfl T.x.gM (pa_cons (pv 3) pa_nil)))) pss_nil)
        (pss_cons (ps_set (i := 5) sc_read_menu.nd rfl (Or.inl rfl) (pe_cal GL hr hj rfl passM (pa_cons (pv 4) (pa_cons (pv 3) (pa_cons (pv 2) pa_nil)))))
        (pss_cons (ps_dput (hu_of hr) (pv 2) (pe_fld (pv 5) rfl) (pe_callB call_len_seq (by rfl) T.k.z_len bt_len (pa_cons (pv 1) pa_nil)) rfl)
        (pss_one (ps_expr (pe_bm PySem.F.plainAttrs_list PySem.F.slot_list_append PySem.F.type_list_append mt_append (pv 1) (pa_cons (pv 5) pa_nil))))))) pss_nil)))
    (pss_one (ps_ret (pe_mak GM hr (by omega) rfl pass0 (pa_cons (pv 1) pa_nil))))))⟩
theorem ok_read_menu (T : Txt K mg c) : Cal P w K mg base (L2.CX P w) 59 "read_menu" (spReadMenu c.menu c.line c.badMenu) := by
  obtain ⟨fI, fd, F1, _, iC, tI, bI⟩ := (ok_BadMenu (P := P) (w := w) (base := base) T).ex
  have GT : Cal P w K mg base CX0 1 "text_lines" spTextLines := ok_text_lines T
  have GI : Cal P w K mg base CX0 1 "is_ignored" spIgnored := ok_is_ignored T
  have GL : Cal P w K mg base (L2.CX P w) 58 "line_told" (spTold c.line c.badMenu) := ok_line_told T
  have GM : Mak P w K mg base CX0 1 "Menu" c.menu (spMenuInit c.menu c.line) := ok_Menu_init T
  refine cal_of T.f.f_read_menu sc_read_menu b_read_menu (fun vs H Q E h => ?_) (fun f cdv A outer s H vs Q E hr h => ⟨_, (D_read_menu T F1 iC tI bI GT GI GL GM (Nat.le_refl _) hr).2, ?_⟩)
  · obtain ⟨a, l, rfl, _⟩ := h
    rfl
  · obtain ⟨a, l, rfl, ha, hl, kx, k⟩ := h
    refine ⟨by exact Nat.zero_le _, fun D nD => fun N nN => ?_⟩
    have fD := Same.new (o := .lst []) nD
    have fN := Same.new (o := .dT []) nN
    have nDN : D ≠ N := ne_of_none upd_same nN
    refine ⟨_, rfl, a, l, rfl, (fD.trans fN) _ _ ha, by omega, fun H1 p e1 hLs hpn hqn => ?_⟩
    obtain ⟨ps, hp, hpl, _, _, hps⟩ := hLs
    have hqn := hqn ps hp
    have e01 := (fD.trans fN).trans e1
    have hDc : (upd (upd H D (.lst [])) N (.dT [])) D = some (.lst []) := fN _ _ upd_same
    have hpD : p ≠ D := (ne_of_none hDc hpn).symm
    have hqD : ∀ q ∈ ps, q ≠ D := fun q hq => (ne_of_none hDc (hqn q hq)).symm
    refine ⟨p, _, rfl, SqL.of hp, for_it (walk_enum (xs := ps.map V.ref)) (fun i σ H' => ∃ (m : List Sj25.Line) (qs : List Addr) (v3 v4 v5 : Option V), σ = [some (.ref a), some (.ref D), some (.ref N), v3, v4, v5] ∧ Same H H' ∧ H' D = some (.lst (qs.map V.ref)) ∧
        LnsAt c.line H' qs m (zeros m.length) ∧ MenuOk m ∧ NmAt H' N (m.map fun x => x.name) ∧ LinesAt' H' p ps (parted l) ∧ menuFrom 0 [] (parted l) = menuFrom i m ((parted l).drop i))
      ⟨[], [], none, none, none, rfl, e01, (fN.trans e1) _ _ upd_same, ⟨rfl, rfl, by simp, fun i q h => by simp at h⟩, MenuOk.nil, ⟨[], e1 _ _ upd_same, Nat.le_refl _, fun n => rfl⟩, ⟨hp, hps⟩, rfl⟩ (fun i σ H' _ p => ?_) ?_ ?_⟩
    · obtain ⟨m, qs, v3, v4, v5, rfl, _, _, _, _, _, ⟨g, _⟩, _⟩ := p
      exact SqL.of g
    · rintro i x σ H2 H3 hi ⟨m, qs, v3, v4, v5, rfl, e2, hD2, hL2, hM, hN2, ⟨hp2, hps2⟩, hlaw⟩ ⟨Tp, x1, y, rfl, nT, rfl, hx, hy⟩
      obtain rfl := Option.some.inj hx
      obtain ⟨q, hq, rfl⟩ := map_inv hy
      obtain ⟨ln, hln, hqv⟩ := hps2 i q hq
      have hlnl : ln.length ≤ l.length := parted_item l ln (List.mem_of_getElem? hln)
      have hdr : (parted l).drop i = ln :: (parted l).drop (i + 1) := by
        rw [List.drop_eq_getElem_cons (List.getElem?_eq_some_iff.mp hln).1, (List.getElem?_eq_some_iff.mp hln).2]
      rw [hdr] at hlaw
      have e3 : Same H2 (upd H2 Tp (.tup [.int (i : Nat), .ref q])) := Same.new nT
      refine ⟨Tp, _, rfl, SqT.of upd_same, rfl, _, _, rfl, _, _, rfl, rfl, ?_⟩
      revert e3
      generalize upd H2 Tp (.tup [.int (i : Nat), .ref q]) = H3
      intro e3
      refine ⟨_, rfl, q, ln, rfl, e3 _ _ hqv, by omega, fun H4 e4 => ?_⟩
      have e24 := e3.trans e4
      cases hb : blank ln with
      | true =>
        rw [menuFrom_blank hb] at hlaw
        exact ⟨_, rfl, ite_no rfl ⟨m, qs, _, _, _, rfl, e2.trans e24, e24 _ _ hD2, hL2.same e24, hM, hN2.same e24, ⟨e24 _ _ hp2, fun i q hq => by
          obtain ⟨l', g1, g2⟩ := hps2 i q hq
          exact ⟨l', g1, e24 _ _ g2⟩⟩, hlaw⟩⟩
      | false =>
        refine ⟨_, rfl, ite_yes rfl ?_⟩
        refine ⟨_, rfl, D, _, rfl, .inl (SqL.of (e24 _ _ hD2)), rfl, _, rfl, ite2 (fun y => ?_) (fun y => ?_)⟩
        · have h64 : 64 ≤ m.length := by
            have := V.int.inj (of_decide_eq_true y)
            rw [List.length_map, hL2.len] at this
            omega
          rw [menuFrom_full hb h64] at hlaw
          exact ⟨_, rfl, mk_bad (e2.trans e24) (kx _ hlaw) fun _ _ z => z⟩
        · have h64 : m.length < 64 := by
            have h1 := hM.len
            have h2 : m.length ≠ 64 := fun z => y (decide_eq_true (by rw [List.length_map, hL2.len, z]; rfl))
            omega
          refine ⟨_, rfl, _, rfl, _, rfl, q, N, i, ln, m.map (fun x => x.name), rfl, e24 _ _ hqv, by omega, hN2.same e24, fun hn => ?_, fun l2 hl2 H5 z e5 hL5 => ?_⟩
          · rw [menuFrom_none hb hn] at hlaw
            intro H' d e hd
            exact kx _ hlaw H' d ((e2.trans e24).trans e) hd
          · rw [menuFrom_some hb hl2 h64] at hlaw
            obtain ⟨okl, hno⟩ := lineFrom_ok (by omega) hl2
            rw [List.length_map] at okl
            have e25 := e24.trans e5
            obtain ⟨dxz, pn, pc, hz1, hz2, hz3⟩ := hL5.ex
            obtain ⟨kvs, g1, g2, g3⟩ := hN2.same e25
            have hD5 := e25 _ _ hD2
            refine ⟨_, rfl, D, _, rfl, .inl (SqL.of hD5), _, rfl, _, rfl, z, _, dxz, _, _, rfl, hz1, T.c.c_Line, T.c.a_Line_name, rfl, N, _, rfl, DPut.t g1 (by rw [nk_V]; exact hz2) ?_, ?_⟩
            · rw [List.length_map] at g2
              show kvs.length < 16777216
              omega
            · have hzq : z ∉ qs := fun hz => by
                obtain ⟨i2, hi2⟩ := List.getElem?_of_mem hz
                obtain ⟨l3, k3, f1, f2, f3⟩ := hL2.at_ i2 z hi2
                obtain ⟨dx3, pn3, pc3, f4, f5, f6⟩ := (f3.same e25).ex
                rw [hz1] at f4
                have f7 := (HO.ins.inj (Option.some.inj f4)).2.2
                obtain rfl : pn = pn3 := V.ref.inj (Prod.mk.inj (List.cons.inj f7).1).2
                rw [hz2] at f5
                have f8 : l2.name = l3.name := by
                  refine (List.map_inj_right (f := fun n : Nat => V.int (n : Int)) (fun a b e => ?_)).mp (HO.tup.inj (Option.some.inj f5))
                  have := V.int.inj e
                  omega
                have f9 := List.findIdx?_eq_none_iff.mp hno l3.name (List.mem_map.mpr ⟨l3, List.mem_of_getElem? f1, rfl⟩)
                rw [f8] at f9
                simp at f9
              have hDN' : D ≠ N := nDN
              have t6 : TupK H5 (upd H5 N (.dT (putK kvs (nk l2.name) (.int ((qs.map V.ref).length : Nat))))) := fun b xs hb2 => by
                rw [upd_ne (ne_of hb2 g1 (by intro z; cases z))]
                exact hb2
              have i6 : ∀ {b C dx : Addr} {fs : List (Str × V)}, H5 b = some (.ins C dx fs) → upd H5 N (.dT (putK kvs (nk l2.name) (.int ((qs.map V.ref).length : Nat)))) b = some (.ins C dx fs) := fun {b C dx fs} hb2 => by
                rw [upd_ne (ne_of hb2 g1 (by intro z; cases z))]
                exact hb2
              have l6 : ∀ {b : Addr} {xs : List V}, H5 b = some (.lst xs) → upd H5 N (.dT (putK kvs (nk l2.name) (.int ((qs.map V.ref).length : Nat)))) b = some (.lst xs) := fun {b xs} hb2 => by
                rw [upd_ne (ne_of hb2 g1 (by intro z; cases z))]
                exact hb2
              have n6 : NmAt (upd H5 N (.dT (putK kvs (nk l2.name) (.int ((qs.map V.ref).length : Nat))))) N ((m ++ [l2]).map fun x => x.name) := by
                rw [List.map_append]
                have := NmAt.put (H := H5) (p := N) hno g2 g3
                rw [List.length_map] at this
                rw [List.length_map, hL2.len]
                exact this
              have s6 : Same H (upd H5 N (.dT (putK kvs (nk l2.name) (.int ((qs.map V.ref).length : Nat))))) := (e2.trans e25).mut (by rw [← fD.free nN]) 
              have hD6 := l6 hD5
              have L6 : LnsAt c.line (upd H5 N (.dT (putK kvs (nk l2.name) (.int ((qs.map V.ref).length : Nat))))) qs m (zeros m.length) := (hL2.same e25).keep (fun q _ dx fs h => i6 h) t6
              have z6 : LineAt c.line (upd H5 N (.dT (putK kvs (nk l2.name) (.int ((qs.map V.ref).length : Nat))))) z l2 0 0 0 := hL5.keep (fun dx fs h => i6 h) t6
              have p6 : LinesAt' (upd H5 N (.dT (putK kvs (nk l2.name) (.int ((qs.map V.ref).length : Nat))))) p ps (parted l) := ⟨l6 (e25 _ _ hp2), fun i q hq => by
                obtain ⟨l', g1, g2⟩ := hps2 i q hq
                exact ⟨l', g1, l6 (e25 _ _ g2)⟩⟩
              revert n6 s6 hD6 L6 z6 p6
              generalize upd H5 N (.dT (putK kvs (nk l2.name) (.int ((qs.map V.ref).length : Nat)))) = H6
              intro n6 s6 hD6 L6 z6 p6
              have t7 : TupK H6 (upd H6 D (.lst (qs.map V.ref ++ [V.ref z]))) := TupK.lst hD6
              have i7 : ∀ {b C dx : Addr} {fs : List (Str × V)}, H6 b = some (.ins C dx fs) → upd H6 D (.lst (qs.map V.ref ++ [V.ref z])) b = some (.ins C dx fs) := fun {b C dx fs} hb2 => by
                rw [upd_ne (ne_of hb2 hD6 (by intro z; cases z))]
                exact hb2
              refine ⟨_, rfl, .inl ⟨rfl, _, SqL.of hD6⟩, _, rfl, D, _, _, rfl, rfl, hD6, ?_, m ++ [l2], qs ++ [z], _, _, _, rfl, s6.mut nD, by rw [upd_same, List.map_append]; rfl, ?_, hM.snoc h64 okl, ?_, ⟨?_, fun i q hq => ?_⟩, hlaw⟩
              · rw [List.length_map, hL2.len]
                show m.length < 16777216
                omega
              · exact (L6.keep (fun q _ dx fs h => i7 h) t7).snoc (z6.keep (fun dx fs h => i7 h) t7) hzq
              · obtain ⟨kv2, f1, f2⟩ := n6
                exact ⟨kv2, by rw [upd_ne (Ne.symm nDN)]; exact f1, f2⟩
              · rw [upd_ne hpD]
                exact p6.1
              · obtain ⟨l', f1, f2⟩ := p6.2 i q hq
                exact ⟨l', f1, by rw [upd_ne (hqD q (List.mem_of_getElem? hq))]; exact f2⟩
    · rintro σ H2 ⟨m, qs, v3, v4, v5, rfl, e2, hD2, hL2, hM, hN2, _, hlaw⟩
      have e0 : menuFrom 0 [] (parted l) = .ok m := by
        rw [hlaw, List.length_map, hpl, List.drop_length]
        rfl
      refine ⟨_, rfl, fun x dx hx hdx hne => ?_⟩
      have s1 := made_same (o := .ins c.menu dx []) hx hdx But.refl
      refine ⟨x, dx, D, qs, m, rfl, upd_same, s1 _ _ hD2, hL2.same s1, hM.len, fun H3 pb e3 npb hx3 hpb3 => ⟨rfl, k m e0 hM H3 x (e2.trans (made_same hx hdx e3)) ⟨dx, D, pb, qs, hx3, made_same hx hdx e3 _ _ hD2, hL2.same (made_same hx hdx e3), hpb3, nD, (e2.trans s1).free npb⟩⟩⟩
end
end Ev
/-! ### list(zip(a, b)) -/
namespace Ev
open PySem PySem.Spec PyProof.Rows L2
theorem zl_len : typeLookup (.type "zip") "__len__" = pure none := am_miss_of_fast (by decide +kernel)
theorem zl_hint : typeLookup (.type "zip") "__length_hint__" = pure none := am_miss_of_fast (by decide +kernel)
/-- a zip behind i turns, whose tuples are all held -/
structure ZSt (h : Heap) (S z TI TO i1 i2 l1 l2 : Addr) (i : Nat) : Prop where
  ti : IsPair h TI (.ref i1) (.ref i2)
  j1 : h.IsListIter i1 l1 i
  j2 : h.IsListIter i2 l2 i
  to : ∃ o, h.get? TO = some o
  zz : (IsZip h z TI TO .none ∧ ∃ a b, IsPair h TO a b) ∨ ∃ T f oT, IsZipHeld h z TI TO T f ∧ h.get? T = some oT ∧ T ≠ z ∧ T ≠ i1 ∧ T ≠ i2 ∧ T ≠ S
theorem ZSt.keep {h h' : Heap} {S z TI TO i1 i2 l1 l2 : Addr} {i : Nat} (hS : S ∉ [z, TI, TO, i1, i2]) (k : ∀ b o, b ≠ S → h.get? b = some o → h'.get? b = some o) (x : ZSt h S z TI TO i1 i2 l1 l2 i) : ZSt h' S z TI TO i1 i2 l1 l2 i := by
  simp only [List.mem_cons, List.not_mem_nil, or_false, not_or] at hS
  obtain ⟨n1, n2, n3, n4, n5⟩ := hS
  refine ⟨k _ _ (Ne.symm n2) x.ti, x.j1.at fun o e => k _ o (Ne.symm n4) e, x.j2.at fun o e => k _ o (Ne.symm n5) e, x.to.elim fun o e => ⟨o, k _ _ (Ne.symm n3) e⟩, ?_⟩
  rcases x.zz with ⟨hz, a, b, hTO⟩ | ⟨T, f, oT, hz, hT, r1, r2, r3, r4⟩
  · exact .inl ⟨k _ _ (Ne.symm n1) hz, a, b, k _ _ (Ne.symm n3) hTO⟩
  · exact .inr ⟨T, f, oT, k _ _ (Ne.symm n1) hz, k _ _ r4 hT, r1, r2, r3, r4⟩
/-- the pairs of two lists -/
def PairsAt (H : Hp) (qs : List Addr) (xs ys : List V) : Prop := ∀ (j : Nat) (q : Addr), qs[j]? = some q → ∃ x y, xs[j]? = some x ∧ ys[j]? = some y ∧ H q = some (.tup [x, y])
section
variable {X : Cx} {pins : List (Addr × Obj)} {σ : L2.St}
/-- one turn of the loop that fills a list -/
theorem li_turn {P : Program} {w : World} {A : Around} {R : Result → Shared → Prop} {s : Shared} {S z : Addr} {res : Value}
    (h : wpAny (model P w) A.in1 (pyNext (.ref z) >>= fun v => match v with
      | none => ret res
      | some v => updateSeq S (·.push v) >>= fun _ => again (.builtin "list.extend.loop" ⟨[.ref S, .ref z, res], []⟩)) (fun fin t => match fin with | .done f => R (.ok f) t | .again c => c.quiet = true ∧ codeAny (model P w) A c R t) (fun e t => R (.error e) t) s) :
    codeAny (model P w) A (.builtin "list.extend.loop" ⟨[.ref S, .ref z, res], []⟩) R s := by
  refine codeAny_builtin F.entry_extend_loop (Eq.mpr (congrArg (fun B => wpAny _ B _ _ _ s) (Around.under_plainId F.plain_extend_loop _)) ?_)
  exact h
theorem zl_drain {A : Around} {R : Result → Shared → Prop} {S z TI TO i1 i2 l1 l2 : Addr} {res : Value} {xs ys : List V} {H0 : Hp} (hh : A.handled = none) (D : ZipApart z TI TO i1 i2 l1 l2) (hS : S ∉ [z, TI, TO, i1, i2]) (hS0 : H0 S = none) (hlen : xs.length = ys.length) (hsz : xs.length ≤ 1000000)
    (h1 : SqL X.K H0 l1 xs) (h2 : SqL X.K H0 l2 ys)
    (fin : ∀ s' H' qs, Inv X pins σ H' s' → Same H0 H' → H' S = some (.lst (qs.map V.ref)) → qs.length = xs.length → PairsAt H' qs xs ys → R (.ok (.ret res)) s') :
    ∀ (m i : Nat) (s : Shared) (H : Hp) (qs : List Addr), i + m = xs.length → Inv X pins σ H s → Same H0 H → H S = some (.lst (qs.map V.ref)) → qs.length = i → PairsAt H qs xs ys → (∀ b ∈ [z, TI, TO, i1, i2], FpOk X pins H b) → ZSt s.heap S z TI TO i1 i2 l1 l2 i →
      codeAny (model X.prog X.w) A (.builtin "list.extend.loop" ⟨[.ref S, .ref z, res], []⟩) R s := by
  intro m
  induction m with
  | zero =>
    intro i s H qs hi I e0 hH hq hP hf st
    obtain ⟨its, rv, p, _⟩ := I.list (e0.seq h1)
    obtain ⟨its2, rv2, p2, _⟩ := I.list (e0.seq h2)
    have n1 := rv.length
    have he : its.toArray[i]? = none ∨ its2.toArray[i]? = none := .inl (by rw [List.getElem?_toArray, List.getElem?_eq_none]; omega)
    refine li_turn ?_
    rcases st.zz with ⟨hz, a, b, hTO⟩ | ⟨T, f, oT, hz, hT, r1, r2, r3, r4⟩
    · refine wpAny_bind (wpAny_pyNext_zip_end hh D hz st.ti hTO st.j1 st.j2 p.isList p2.isList he fun h' hk => ?_)
      exact wpAny_pure (fin _ H qs (I.turnedL (t' := s.toks) (ch := [z, TI, TO, i1, i2]) (fun c o hb q => hk c o (fun q' => hb (by simp [q'])) (fun q' => hb (by simp [q'])) (fun q' => hb (by simp [q'])) (fun q' => hb (by simp [q'])) q) hf) e0 hH (by omega) hP)
    · refine wpAny_bind (wpAny_pyNext_zip_end_held hh D hz hT st.ti st.j1 st.j2 p.isList p2.isList he fun h' hk => ?_)
      exact wpAny_pure (fin _ H qs (I.turnedL (t' := s.toks) (ch := [z, TI, TO, i1, i2]) (fun c o hb q => hk c o (fun q' => hb (by simp [q'])) (fun q' => hb (by simp [q'])) (fun q' => hb (by simp [q'])) q) hf) e0 hH (by omega) hP)
  | succ m ih =>
    intro i s H qs hi I e0 hH hq hP hf st
    obtain ⟨its, rv, p, _⟩ := I.list (e0.seq h1)
    obtain ⟨its2, rv2, p2, _⟩ := I.list (e0.seq h2)
    have hx : xs[i]? = some xs[i] := List.getElem?_eq_getElem (by omega)
    have hy : ys[i]? = some ys[i] := List.getElem?_eq_getElem (by omega)
    revert hx hy
    generalize xs[i] = x
    generalize ys[i] = y
    intro hx hy
    obtain ⟨⟨u, hu, ru⟩, u2, hu2, ru2⟩ := And.intro (rv.get hx) (rv2.get hy)
    have lt : ∀ {c o}, s.heap.get? c = some o → s.heap.objs.size ≠ c := fun e => (Nat.ne_of_lt (Heap.lt_size e)).symm
    have nS : s.heap.objs.size ≠ S := Nat.ne_of_gt (I.hok.lt hH)
    have nj1 : s.heap.objs.size ≠ i1 := let ⟨_, e, _⟩ := st.j1; lt e
    have nj2 : s.heap.objs.size ≠ i2 := let ⟨_, e, _⟩ := st.j2; lt e
    have nTI : s.heap.objs.size ≠ TI := lt st.ti
    have hn : H s.heap.objs.size = none := I.hok.fresh Nat.le.refl
    -- behind one item
    have after : ∀ h' : Heap, (∀ c o, c ∉ [z, TI, TO, i1, i2] → s.heap.get? c = some o → h'.get? c = some o) → IsPair h' s.heap.objs.size u u2 → ZSt h' S z TI TO i1 i2 l1 l2 (i + 1) → s.heap.objs.size ≠ z → s.heap.objs.size ≠ TO →
        wpAny (model X.prog X.w) A.in1 (updateSeq S (·.push (.ref s.heap.objs.size)) >>= fun _ => again (.builtin "list.extend.loop" ⟨[.ref S, .ref z, res], []⟩))
          (fun fin s' => match fin with | .done f => R (.ok f) s' | .again c' => c'.quiet = true ∧ codeAny (model X.prog X.w) A c' R s') (fun e s' => R (.error e) s') { s with heap := h' } := by
      intro h' hk hT st' nz nTO
      have new : ObjOk X.prog X.w (upd H s.heap.objs.size (.tup [x, y])) h' s.heap.objs.size (.tup [x, y]) := ⟨by show 2 ≤ sizeLine; decide, [u, u2], .cons ru (.cons ru2 .nil), ⟨_, hT, rfl, _, rfl⟩⟩
      have I1 : Inv X pins σ (upd H s.heap.objs.size (.tup [x, y])) { s with heap := h' } := I.turnedNew (t' := s.toks) (ch := [z, TI, TO, i1, i2]) hk hf (Nat.le_refl _) new
      have hH1 : upd H s.heap.objs.size (.tup [x, y]) S = some (.lst (qs.map V.ref)) := by rw [upd_ne (Ne.symm nS)]; exact hH
      obtain ⟨hz1, ls, n, r, hl, e⟩ := I1.lstM hH1
      have hsz2 : ls.length = i := by rw [← hl, List.length_map, hq]
      refine wpAny_bind ?_
      refine wpAny_updateSeq e rfl (wpAny_pure ⟨plainId_quiet F.plain_extend_loop _, ?_⟩) (by rw [List.size_toArray, hsz2]; show i ≤ 16777216; omega) (by show (ls.toArray.push _).size ≤ 16777217; rw [Array.size_push, List.size_toArray, hsz2]; omega)
      have I2 := I1.lset (t' := s.toks) (its' := ls ++ [.ref s.heap.objs.size]) (ys := qs.map V.ref ++ [.ref s.heap.objs.size]) (f := (·.push (.ref s.heap.objs.size))) hH1 e (by simp) (r.append (.cons (show RelV (.ref s.heap.objs.size) (.ref s.heap.objs.size) from rfl) .nil)) (by rw [List.length_append, List.length_map, hq]; show i + 1 ≤ 16777216; omega)
      refine ih (i + 1) _ _ (qs ++ [s.heap.objs.size]) (by omega) I2 ?_ ?_ ?_ ?_ ?_ ?_
      · exact (e0.trans (Same.new hn)).mut hS0
      · rw [upd_same, List.map_append]
        rfl
      · rw [List.length_append, hq]
        rfl
      · intro j q hj
        by_cases hjl : j < qs.length
        · rw [List.getElem?_append_left hjl] at hj
          obtain ⟨x', y', g1, g2, g3⟩ := hP j q hj
          refine ⟨x', y', g1, g2, ?_⟩
          rw [upd_ne (ne_of g3 hH (by intro z; cases z)), upd_ne (ne_of_none g3 hn)]
          exact g3
        · rw [List.getElem?_append_right (by omega)] at hj
          have h0 : j - qs.length = 0 := by
            have := (List.getElem?_eq_some_iff.mp hj).1
            simp at this
            omega
          rw [h0] at hj
          obtain rfl : s.heap.objs.size = q := Option.some.inj hj
          have hji : j = i := by omega
          rw [hji]
          refine ⟨x, y, hx, hy, ?_⟩
          rw [upd_ne nS, upd_same]
      · intro b hb
        have f := hf b hb
        refine ⟨?_, f.2⟩
        have hbS : b ≠ S := fun z => hS (z ▸ hb)
        have hbT : b ≠ s.heap.objs.size := by
          intro w
          subst w
          simp [nz, nTI, nTO, nj1, nj2] at hb
        rw [upd_ne hbS, upd_ne hbT]
        exact f.1
      · exact st'.keep hS fun b o hb e => (Heap.get?_update_other _ _ (Ne.symm hb)).trans e
    refine li_turn ?_
    rcases st.zz with ⟨hz, a, b, hTO⟩ | ⟨T, f, oT, hz, hT, r1, r2, r3, r4⟩
    · refine wpAny_bind (wpAny_pyNext_zip_item D hz st.ti hTO st.j1 st.j2 p.isList p2.isList (x := u) (y := u2) (by simpa using hu) (by simpa using hu2) fun h' z' TO' h1' h2' hT' hsz' hk => ?_)
      exact after h' (fun c o hb q => hk c o (fun q' => hb (by simp [q'])) (fun q' => hb (by simp [q'])) (fun q' => hb (by simp [q'])) (fun q' => hb (by simp [q'])) q) hT'
        ⟨hk _ _ D.TIz D.TITO D.TIi1 D.TIi2 st.ti, h1', h2', ⟨_, TO'⟩, .inr ⟨s.heap.objs.size, false, _, z', hT', lt hz, nj1, nj2, nS⟩⟩ (lt hz) (lt hTO)
    · obtain ⟨oTO, hTO⟩ := st.to
      refine wpAny_bind (wpAny_pyNext_zip_item_held D hz hT st.ti st.j1 st.j2 p.isList p2.isList (x := u) (y := u2) (by simpa using hu) (by simpa using hu2) fun h' z' h1' h2' hT' hsz' hk => ?_)
      exact after h' (fun c o hb q => hk c o (fun q' => hb (by simp [q'])) (fun q' => hb (by simp [q'])) (fun q' => hb (by simp [q'])) q) hT'
        ⟨hk _ _ D.TIz D.TIi1 D.TIi2 st.ti, h1', h2', ⟨oTO, hk _ _ D.TOz D.TOi1 D.TOi2 hTO⟩, .inr ⟨T, true, oT, z', hk _ _ r1 r2 r3 hT, r1, r2, r3, r4⟩⟩ (lt hz) (lt hTO)
/-- h has what s has; the place behind s is the new list's own -/
def Over (s : Shared) (h : Heap) : Prop := ∀ b o, b ≠ s.heap.objs.size → s.heap.get? b = some o → h.get? b = some o
theorem Over.at_ {s : Shared} {h : Heap} (q : Over s h) (f : Obj → Obj) : Over s (h.update s.heap.objs.size f) :=
  fun b o n e => (Heap.get?_update_other h f n.symm).trans (q b o n e)
/-- a list without items -/
abbrev bare0 (n : Nat) : Obj := { cls := .type "list", data := .seq #[] n }
theorem li_items {M : Model} {A : Around} {E : Value → Shared → Prop} {s : Shared} {a : Addr} {n : Nat} {Q : Array Value → Shared → Prop} (e : s.heap.get? a = some (bare0 n)) (q : Q #[] s) : wpAny M A (Builtin.List.listItems (.ref a)) Q E s := by
  delta Builtin.List.listItems
  exact wpAny_bind (wpAny_seqItems e rfl (wpAny_pure q))
theorem li_room {M : Model} {A : Around} {E : Value → Shared → Prop} {s t : Shared} {n : Nat} {Q : Unit → Shared → Prop} (e : t.heap.get? s.heap.objs.size = some (bare0 n)) (o : Over s t.heap)
    (q : ∀ h m, h.get? s.heap.objs.size = some (bare0 m) → Over s h → Q () { t with heap := h }) : wpAny M A (Builtin.List.listTouch (.ref s.heap.objs.size)) Q E t := by
  have e1 := Heap.get?_update_self (Obj.mapSeq fun l => l.push Value.none) e rfl
  have e2 := Heap.get?_update_self (Obj.mapSeq fun l => l.pop) e1 rfl
  show wpAny _ _ (updateSeq _ (fun l => l.push Value.none) >>= fun _ => updateSeq _ fun l => l.pop) _ _ _
  exact wpAny_bind (wpAny_updateSeq e rfl (wpAny_updateSeq (hz := by seq_fits) e1 rfl (q _ _ e2 ((o.at_ _).at_ _))))
/-- list(z) of an iterator that is its own and tells no length: what is left is the loop over it -/
theorem li_begin {P : Program} {w : World} {A : Around} {s : Shared} {z : Addr} {T : String} {Q E : Value → Shared → Prop} (nz : s.heap.objs.size ≠ z) (nl : typeLookup (.type T) "__len__" = pure none) (nh : typeLookup (.type T) "__length_hint__" = pure none)
    (n1 : (Value.type T == Value.type "list") = false) (n2 : (Value.type T == Value.type "tuple") = false) (ty : ∀ h : Heap, Over s h → ({ s with heap := h } : Shared).TypeIs (.ref z) T)
    (it : ∀ (h : Heap) (Q1 : Value → Shared → Prop) (E1 : Value → Shared → Prop) (A1 : Around), Over s h → Q1 (.ref z) { s with heap := h } → wpAny (model P w) A1 (pyIter (.ref z)) Q1 E1 { s with heap := h })
    (go : ∀ (h : Heap) (n : Nat), h.get? s.heap.objs.size = some (bare0 n) → Over s h → codeAny (model P w) A.in1 (.builtin "list.extend.loop" ⟨[.ref s.heap.objs.size, .ref z, .none], []⟩) (wants (fun r t => r = .none ∧ Q (.ref s.heap.objs.size) t) E) { s with heap := h }) :
    wpAny (model P w) A (call (.type "list") [.ref z]) Q E s := by
  have o0 : Over s (s.heap.push (bare0 0)) := fun b o _ e => Heap.get?_push_of_some _ e
  have a0 : (s.heap.push (bare0 0)).get? s.heap.objs.size = some (bare0 0) := Heap.get?_push_size s.heap rfl
  have a1 := Heap.get?_update_self (Obj.mapSeq fun _ => (#[] : Array Value)) a0 rfl
  have o1 := o0.at_ (Obj.mapSeq fun _ => (#[] : Array Value))
  refine callType_codes (Q₁ := fun x t => x = .ref s.heap.objs.size ∧ t = { s with heap := s.heap.push (bare0 0) })
    F.called_list (F.typeCall_list_1 _) F.entry_list_init (code_list_new _ ⟨rfl, rfl⟩) fun x t q => ?_
  obtain ⟨rfl, rfl⟩ := q
  refine ⟨⟨_, a0, rfl⟩, F.args_list_init_2 _ _, wpAny_bind (li_items a0 ?_)⟩
  show wpAny _ _ (updateSeq _ (fun _ => #[]) >>= fun _ => letGo _ >>= fun _ => Builtin.List.listExtendWith _ (.ref z) .none) _ _ _
  refine wpAny_bind (wpAny_updateSeq a0 rfl (wpAny_bind (wpAny_letGo ?_)))
  delta Builtin.List.listExtendWith
  have e1 : Builtin.List.listSameRef (.ref s.heap.objs.size) (.ref z) = false := by simp [Builtin.List.listSameRef, nz]
  refine wpAny_bind (wpAny_typeOf (ty _ o1) ?_)
  simp only [e1, n1, n2, Bool.or_false, Bool.false_eq_true, if_false]
  refine wpAny_bind (it _ _ _ _ o1 (wpAny_bind (wpAny_holding ?_)))
  delta Builtin.List.listLengthHint
  refine wpAny_bind (wpAny_specialOf (ty _ o1) nl ?_)
  show wpAny _ _ (specialOf _ (Str.ofString "__length_hint__") >>= _) _ _ _
  refine wpAny_bind (wpAny_specialOf (ty _ o1) nh (wpAny_pure ?_))
  show wpAny _ _ (rule _ >>= fun _ => Builtin.List.listTouch (.ref s.heap.objs.size) >>= fun _ => again (.builtin "list.extend.loop" ⟨_, []⟩)) _ _ _
  exact wpAny_bind (wpAny_rule (wpAny_bind (li_room (s := s) a1 o1 fun h n e o => wpAny_pure ⟨plainId_quiet F.plain_extend_loop _, go h n e o⟩)))
theorem zl_call {s : Shared} {H : Hp} {z TI TO i1 i2 l1 l2 : Addr} {xs ys : List V} {Q : Value → Shared → Prop} {E : Value → Shared → Prop} (hh : X.A.handled = none) (D : ZipApart z TI TO i1 i2 l1 l2) (hlen : xs.length = ys.length) (hsz : xs.length ≤ 1000000)
    (I : Inv X pins σ H s) (h1 : SqL X.K H l1 xs) (h2 : SqL X.K H l2 ys) (hf : ∀ b ∈ [z, TI, TO, i1, i2], FpOk X pins H b) (st : IsPair s.heap TI (.ref i1) (.ref i2) ∧ s.heap.IsListIter i1 l1 0 ∧ s.heap.IsListIter i2 l2 0 ∧ IsZip s.heap z TI TO .none ∧ ∃ a b, IsPair s.heap TO a b)
    (fin : ∀ s' H' p qs, Inv X pins σ H' s' → Same H H' → H' p = some (.lst (qs.map V.ref)) → qs.length = xs.length → PairsAt H' qs xs ys → Q (.ref p) s') : wpAny (model X.prog X.w) X.A (call (.type "list") [.ref z]) Q E s := by
  obtain ⟨hTI, j1, j2, hz, a, b, hTO⟩ := st
  have lt : ∀ {c o}, s.heap.get? c = some o → c ≠ s.heap.objs.size := fun e => Nat.ne_of_lt (Heap.lt_size e)
  have out : s.heap.objs.size ∉ [z, TI, TO, i1, i2] := by
    simp only [List.mem_cons, List.not_mem_nil, or_false, not_or]
    exact ⟨(lt hz).symm, (lt hTI).symm, (lt hTO).symm, let ⟨_, e, _⟩ := j1; (lt e).symm, let ⟨_, e, _⟩ := j2; (lt e).symm⟩
  have hn : H s.heap.objs.size = none := I.hok.fresh Nat.le.refl
  have st0 : ZSt s.heap s.heap.objs.size z TI TO i1 i2 l1 l2 0 := ⟨hTI, j1, j2, ⟨_, hTO⟩, .inl ⟨hz, a, b, hTO⟩⟩
  refine li_begin (T := "zip") (lt hz).symm zl_len zl_hint (by decide) (by decide) (fun h o => ⟨_, o _ _ (lt hz) hz, rfl⟩) (fun h Q1 E1 A1 o q => wpAny_pyIter_zip (s := { s with heap := h }) (o _ _ (lt hz) hz) q) fun h n e o => ?_
  have I1 : Inv X pins σ (upd H s.heap.objs.size (.lst [])) { s with heap := h } := I.laid (t' := s.toks) (fun b o' q => o b o' (lt q) q) Nat.le.refl ⟨Nat.zero_le _, [], _, .nil, e⟩
  refine zl_drain (A := X.A.in1) hh D out hn hlen hsz h1 h2 (fun s' H' qs J e hp hq hP => ⟨rfl, fin s' H' _ qs J e hp hq hP⟩) xs.length 0 _ _ [] (by omega) I1 (Same.new hn) upd_same rfl (fun j q h => by simp at h) (fun b hb => ⟨?_, (hf b hb).2⟩) (st0.keep out o)
  rw [upd_ne (by intro w; subst w; exact out hb)]
  exact (hf b hb).1
end
/-- list(zip(a, b)), a and b lists of one length -/
def tListZip (K : PySem.W.Frag) (ta : TA) : TE := fun σ H Q => ta σ H fun vs H1 => ∃ (a b : Addr) (xs ys : List V), vs = [.ref a, .ref b] ∧ SqL K H1 a xs ∧ SqL K H1 b ys ∧ xs.length = ys.length ∧ xs.length ≤ 1000000 ∧
  ∀ H' p qs, Same H1 H' → H' p = some (.lst (qs.map V.ref)) → qs.length = xs.length → PairsAt H' qs xs ys → Q (.ref p) H'
theorem pe_listzip {X : Cx} {e e2 : Expr} {ta : TA} {p1 p2 p3 p4 : Pos} (hc : X.calm = true) (gl : Gl X "list") (ml : X.mg "list" = none) (gz : Gl X "zip") (mz : X.mg "zip" = none) (ha : PA X [e, e2] ta)
    (hs : starEach [e, e2] X.env = (false, eval e X.env) :: starEach [e2] X.env := by rfl) (hp : (backTo p3 (starEach [e2] X.env)).any (·.1) = false := by rfl)
    (hs1 : starEach [.Call (.Name "zip" p2) [e, e2] [] p3] X.env = (false, eval (.Call (.Name "zip" p2) [e, e2] [] p3) X.env) :: starEach [] X.env := by rfl) (hp1 : (backTo p4 (starEach [] X.env)).any (·.1) = false := by rfl) :
    PE X (.Call (.Name "list" p1) [.Call (.Name "zip" p2) [e, e2] [] p3] [] p4) (tListZip X.K ta) := by
  refine ⟨fun pins s σ H Q I h => ?_⟩
  refine wpAny_Call_Name_kw (ld_blt I gl ml bt_list ?_)
  refine callWith_type1 ?_ hs1 hp1
  rw [hs1]
  show wpAny _ _ (spliced ((false, eval (.Call (.Name "zip" p2) [e, e2] [] p3) X.env) :: [])) _ _ s
  refine Calls.spliced_cons ?_
  refine wpAny_Call_Name_kw (ld_blt I gz mz boot_zip ?_)
  refine callWith_type1 (thn (ha.run p3 pins s σ H _ I h) fun us s1 ⟨vs, H1, I1, r1, q1⟩ => ?_) hs hp
  obtain ⟨a, b, xs, ys, ex, hqx, hqy, hlen, hsz, q⟩ := q1
  subst ex
  cases r1 with
  | cons r rr =>
    cases rr with
    | cons r' rr =>
      cases rr
      cases r
      cases r'
      obtain ⟨its, rv, pa, _⟩ := I1.list hqx
      obtain ⟨its2, rv2, pb, _⟩ := I1.list hqy
      refine call_zip_2 pa.isList pb.isList fun h' hz hTI hTO j1 j2 hsz' hk => ?_
      refine Calls.spliced_nil ?_
      refine zl_call (I1.ok.hd hc) (PySem.W.ktu_apart s1.heap.objs.size a b pa.lt pb.lt) hlen hsz (I1.kept (t' := s1.toks) hk) hqx hqy (fun c hcm => ?_) ⟨hTI, j1, j2, hz, _, _, hTO⟩ fun s' H' p qs J e hp hq hP => ⟨.ref p, H', J, rfl, q H' p qs e hp hq hP⟩
      have le : s1.heap.objs.size ≤ c := by
        simp only [List.mem_cons, List.not_mem_nil, or_false] at hcm
        rcases hcm with w | w | w | w | w
        all_goals (rw [w]; first | exact Nat.le_refl _ | exact Nat.le_add_right _ _)
      exact I1.fpOk le (I1.hok.fresh le)
end Ev
namespace Ev
open PySem PySem.Spec PyProof.Rows L2
open Sj25 (Count)
theorem bV_len (l : List Bool) : (bV l).length = l.length := List.length_map _
theorem bV_app (l r : List Bool) : bV (l ++ r) = bV l ++ bV r := List.map_append
theorem bV_at {l : List Bool} {i : Nat} {b : Bool} (h : l[i]? = some b) : (bV l)[i]? = some (.bl b) := by
  unfold bV
  rw [List.getElem?_map, h]
  rfl
theorem bV_inv {l : List Bool} {i : Nat} {x : V} (h : (bV l)[i]? = some x) : ∃ b, l[i]? = some b ∧ x = .bl b := map_inv h
section
variable {P : Program} {w : World} {K : PySem.W.Frag} {mg : Str → Option Value} {base : Heap} {c : Cs}
def spBits : Sp := fun vs H Q _ => ∃ (a : Addr) (l : List Bool), vs = [.ref a] ∧ H a = some (.lst (bV l)) ∧ Q (.int (Sj25.mask l : Nat)) H
theorem mask_cons (b : Bool) (l : List Bool) : Sj25.mask (b :: l) = (if b then 1 else 0) + 2 * Sj25.mask l := rfl
theorem ok_bits_of (T : Txt K mg c) : Cal P w K mg base CX0 1 "bits_of" spBits := by
  refine cal_of0 T.f.f_bits_of sc_bits_of b_bits_of (fun vs H Q E h => ?_) (fun f cdv A outer s H vs Q E hr h => ⟨_, (D_bits_of T hr).2, ?_⟩)
  · obtain ⟨a, l, rfl, _⟩ := h
    rfl
  · obtain ⟨a, l, rfl, ha, k⟩ := h
    refine ⟨_, rfl, a, bV l, rfl, SqL.of ha, for_it (walk_rev (xs := bV l)) (fun i σ H' => H' = H ∧ ∃ v2 : Option V, σ = [some (.ref a), some (.int (Sj25.mask (l.drop (l.length - i)) : Nat)), v2]) ⟨rfl, none, ?_⟩ (fun i σ H' _ p => by rw [p.1]; exact SqL.of ha) ?_ ?_⟩
    · rw [Nat.sub_zero, List.drop_length]
      rfl
    · rintro i x σ H1 H2 hi ⟨rfl, v2, rfl⟩ ⟨rfl, hx⟩
      obtain ⟨b, hb, rfl⟩ := bV_inv hx
      rw [bV_len] at hi hb
      have hd : l.drop (l.length - (i + 1)) = b :: l.drop (l.length - i) := by
        have hlt : l.length - (i + 1) < l.length := by omega
        rw [show l.length - 1 - i = l.length - (i + 1) by omega] at hb
        rw [List.drop_eq_getElem_cons hlt, (List.getElem?_eq_some_iff.mp hb).2, show l.length - (i + 1) + 1 = l.length - i by omega]
      refine ⟨_, rfl, _, _, rfl, rfl, .inl ⟨by decide, by decide⟩, _, rfl, .inr ⟨b, rfl, _, _, rfl, rfl, rfl, some (.bl b), ?_⟩⟩
      rw [hd, mask_cons]
      have e : (2 * ((Sj25.mask (l.drop (l.length - i)) : Nat) : Int) + (if b = true then 1 else 0)) = (((if b = true then 1 else 0) + 2 * Sj25.mask (l.drop (l.length - i)) : Nat) : Int) := by
        cases b <;> simp <;> omega
      show [some (V.ref a), some (V.int (2 * ((Sj25.mask (l.drop (l.length - i)) : Nat) : Int) + (if b = true then 1 else 0))), some (V.bl b)] = _
      rw [e]
    · rintro σ H1 ⟨rfl, v2, rfl⟩
      rw [bV_len, Nat.sub_self, List.drop_zero]
      exact ⟨_, rfl, k⟩
/-! ### all_held -/
def spAllHeld (C CL CF : Addr) : Sp := fun vs H Q _ => ∃ (x fa : Addr) (G : Hp) (l : List Sj25.Thing) (z : Int) (bs bef : List Bool) (m : List Sj25.Line) (cs : List Count) (b0 : List Bool), vs = [.ref x, .ref fa] ∧ FactsIn CF G H fa l z bs [] ∧ G fa = none ∧ MenuAt C CL G x m cs b0 ∧ MenuOk m ∧ ThOk l ∧ l.length ≤ 64 ∧ BefOk bs bef ∧ bs.length = m.length ∧
  ∀ H' r, Same G H' → G r = none → H' r = some (.lst (bV (Sj25.raw m l z bef))) → Q (.ref r) H'
theorem raw_take {m : List Sj25.Line} {l : List Sj25.Thing} {z : Int} {bef : List Bool} {i : Nat} {ln : Sj25.Line} (h : m[i]? = some ln) : Sj25.raw (m.take (i + 1)) l z bef = Sj25.raw (m.take i) l z bef ++ [Sj25.holds l z (Sj25.raw (m.take i) l z bef) bef ln.c] := by
  rw [take_snoc h]
  unfold Sj25.raw
  rw [List.foldl_append]
  rfl
theorem raw_len (m : List Sj25.Line) (l : List Sj25.Thing) (z : Int) (bef : List Bool) : (Sj25.raw m l z bef).length = m.length := by
  have key : ∀ (m : List Sj25.Line) (now : List Bool), (m.foldl (fun now x => now ++ [Sj25.holds l z now bef x.c]) now).length = now.length + m.length := by
    intro m
    induction m with
    | nil => intro now; rfl
    | cons a r ih =>
      intro now
      show (r.foldl _ (now ++ [Sj25.holds l z now bef a.c])).length = _
      rw [ih]
      simp only [List.length_append, List.length_cons, List.length_nil]
      omega
  have := key m []
  rw [List.length_nil, Nat.zero_add] at this
  exact this
theorem ok_all_held (T : Txt K mg c) : Met P w K mg base CX0 54 c.menu "all_held" (spAllHeld c.menu c.line c.facts) := by
  have GD : Cal P w K mg base CX0 53 "does_hold" (spHold c.facts 51) := ok_does_hold T 51
  refine met_of0 T.c.c_Menu T.m.m_Menu_all_held sc_Menu_all_held b_Menu_all_held (fun vs H Q E h => ?_) (fun f cdv A outer s H vs Q E hr h => ⟨_, (D_Menu_all_held T GD (Nat.le_refl _) hr).2, ?_⟩)
  · obtain ⟨x, fa, G, l, z, bs, bef, m, cs, b0, rfl, _⟩ := h
    rfl
  · obtain ⟨x, fa, G, l, z, bs, bef, m, cs, b0, rfl, hF, hGf, hM, hMk, hok, hl, hbef, hbl, k⟩ := h
    obtain ⟨dxf, pa, pn, pb, ph, H0, f1, f2, f3, f4, f5, f6, f7, f8, f9⟩ := hF.ex
    have hG0 : Same G H0 := fun b o hb => f9 b o hb (ne_of_none hb hGf)
    have hGp : G ph = none := hG0.free f2
    obtain ⟨dx, pl, pbm, qs, g1, g2, g3, g4⟩ := (hM.same hG0).ex
    have e0 : Same H0 H := f4
    refine ⟨_, rfl, x, _, dx, _, _, rfl, e0 _ _ g1, T.c.c_Menu, T.c.a_Menu_lines, rfl, pl, rfl, ⟨_, SqL.of (e0 _ _ g2)⟩, for_it (walk_list (xs := qs.map V.ref)) (fun i σ H' => Same H0 H' ∧ H' fa = some (.ins c.facts dxf (factV pa pn z pb ph)) ∧ H' ph = some (.lst (bV (Sj25.raw (m.take i) l z bef))) ∧ ∃ v2, σ = [some (.ref x), some (.ref fa), v2])
      ⟨e0, f1, f8, none, rfl⟩ (fun i σ H' _ p => SqL.of (p.1 _ _ g2)) ?_ ?_⟩
    · rintro i v σ H1 H2 hi ⟨e1, h1, h2, v2, rfl⟩ ⟨rfl, hv⟩
      obtain ⟨q, hq, rfl⟩ := map_inv hv
      obtain ⟨ln, ct, hln, hct, hL⟩ := g3.at_ i q hq
      obtain ⟨dxl, pnm, pc, l1, l2, l3⟩ := (hL.same e1).ex
      have him : i < m.length := (List.getElem?_eq_some_iff.mp hln).1
      have hrl : (Sj25.raw (m.take i) l z bef).length = i := by rw [raw_len, List.length_take]; omega
      have okl := hMk.ok i ln hln
      refine ⟨_, rfl, fa, _, dxf, _, _, rfl, h1, T.c.c_Facts, T.c.a_Facts_held, rfl, .inl ⟨rfl, _, SqL.of h2⟩, _, rfl, q, _, dxl, _, _, rfl, l1, T.c.c_Line, T.c.a_Line_condition, rfl, _, rfl, ?_⟩
      refine ⟨pc, fa, ln.c, l, z, bs, Sj25.raw (m.take i) l z bef, bef, rfl, l3, ⟨dxf, pa, pn, pb, ph, H0, h1, f2, f3, e1, f5, f6, f7, h2⟩, hok, hl, hbef, ?_, ?_, okl.w, fun H3 e3 => ?_⟩
      · rw [hrl]
        exact numOk_cond _ _ okl.c
      · rw [hrl, hbl]
        omega
      · refine ⟨ph, _, _, rfl, rfl, e3 _ _ h2, ?_, (e1.trans e3).mut f2, ?_, ?_, _, rfl⟩
        · rw [bV_len, hrl]
          have := hMk.len
          show i < 16777216
          omega
        · rw [upd_ne (ne_of h1 h2 (by intro z; cases z)).symm.symm]
          exact e3 _ _ h1
        · rw [upd_same, raw_take hln, bV_app]
          rfl
    · rintro σ H1 ⟨e1, h1, h2, v2, rfl⟩
      rw [List.length_map, g3.len, List.take_length] at h2
      refine ⟨_, rfl, fa, _, dxf, _, _, rfl, h1, T.c.c_Facts, T.c.a_Facts_held, rfl, ph, _, rfl, .inl (SqL.of h2), fun r hr => k _ r ((hG0.trans e1).trans (Same.new hr)) ((hG0.trans e1).free hr) upd_same⟩
end
end Ev
namespace Ev
open PySem PySem.Spec PyProof.Rows L2
open Sj25 (Count)
section
variable {P : Program} {w : World} {K : PySem.W.Frag} {mg : Str → Option Value} {base : Heap} {c : Cs}
noncomputable def D_Menu_all_passing {f : Addr} {cdv : Value} {A : Around} {outer : List Env} {s : Shared} {H : Hp} {E : XK} {j : Nat} (T : Txt K mg c) (hr : Room j (A.deeper (envOfC "Menu.all_passing" (defScope s_Menu_all_passing) s.heap.objs.size f cdv))) :
    { t : TS // PSs (XO P w K mg base n_Menu_all_passing "Menu.all_passing" s_Menu_all_passing f cdv A outer s H E) (defBody s_Menu_all_passing) t } :=
  ⟨_, pss_cons (ps_set (i := 2) sc_Menu_all_passing.nd rfl (Or.inl rfl) (pe_listzip rfl rfl T.k.z_list rfl T.k.z_zip (pa_cons (pe_fld (pv 0) rfl) (pa_cons (pv 1) pa_nil))))
    (pss_one (ps_ret (pe_lc (own := [("line", 3), ("is_held", 4)]) rfl sc_Menu_all_passing.nd (pi_list (pv 2)) (blkOk_by (own := [("line", 3), ("is_held", 4)]) (N := n_Menu_all_passing) (sc := defScope s_Menu_all_passing) (by decide +kernel))
      (fun _ _ _ _ _ => (pg_tupK (n := 2) (K := K) rfl rfl (pgs_cons (pg_name (i := 3) sc_Menu_all_passing.nd rfl (Or.inl rfl)) (pgs_cons (pg_name (i := 4) sc_Menu_all_passing.nd rfl (Or.inl rfl)) pgs_nil)))) (fun _ _ _ _ _ => pts_nil)
      (fun _ _ _ _ _ => (pe_and (pv 4) (pe_one (pe_cmpR op_eq (pe_op op_mod (pe_op op_add (pe_fldK (K := K) rfl (pv 3) rfl) pe_int) (pe_fldK (K := K) rfl (pv 3) rfl)) pe_int (nomark _))))))))⟩
def spAllPassing (C CL : Addr) : Sp := fun vs H Q _ => ∃ (x ph : Addr) (m : List Sj25.Line) (cs : List Count) (b0 r : List Bool), vs = [.ref x, .ref ph] ∧ MenuAt C CL H x m cs b0 ∧ MenuOk m ∧ H ph = some (.lst (bV r)) ∧ r.length = m.length ∧ (∀ k ∈ cs, k.raw ≤ 1000000) ∧
  ∀ H' p, Same H H' → H p = none → H' p = some (.lst (bV (Sj25.passes m cs r))) → Q (.ref p) H'
theorem passes_at {m : List Sj25.Line} {cs : List Count} {r : List Bool} {i : Nat} {l : Sj25.Line} {k : Count} {b : Bool} (hm : m[i]? = some l) (hk : cs[i]? = some k) (hb : r[i]? = some b) (hk2 : k.raw ≤ 1000000) : (Sj25.passes m cs r)[i]? = some (b && (k.raw + 1) % l.every == 0) := by
  unfold Sj25.passes
  rw [List.getElem?_map, List.getElem?_zipIdx, hm]
  simp only [Option.map_some, Nat.zero_add]
  rw [List.getD_eq_getElem?_getD, List.getD_eq_getElem?_getD, hk, hb]
  simp only [Option.getD_some]
  unfold Sj25.up
  rw [Nat.mod_eq_of_lt (a := k.raw + 1) (by show _ < 2 ^ 64; omega)]
theorem passes_len (m : List Sj25.Line) (cs : List Count) (r : List Bool) : (Sj25.passes m cs r).length = m.length := by
  unfold Sj25.passes
  rw [List.length_map, List.length_zipIdx]
theorem ok_all_passing (T : Txt K mg c) : Met P w K mg base CX0 1 c.menu "all_passing" (spAllPassing c.menu c.line) := by
  refine met_of0 T.c.c_Menu T.m.m_Menu_all_passing sc_Menu_all_passing b_Menu_all_passing (fun vs H Q E h => ?_) (fun f cdv A outer s H vs Q E hr h => ⟨_, (D_Menu_all_passing T hr).2, ?_⟩)
  · obtain ⟨x, ph, m, cs, b0, r, rfl, _⟩ := h
    rfl
  · obtain ⟨x, ph, m, cs, b0, r, rfl, hM, hMk, hph, hrl, hcs, k⟩ := h
    obtain ⟨dx, pl, pbm, qs, g1, g2, g3, g4⟩ := hM.ex
    refine ⟨_, rfl, x, _, dx, _, _, rfl, g1, T.c.c_Menu, T.c.a_Menu_lines, rfl, _, rfl, pl, ph, qs.map V.ref, bV r, rfl, SqL.of g2, SqL.of hph, by rw [List.length_map, bV_len, g3.len, hrl], by rw [List.length_map, g3.len]; have := hMk.len; omega, fun H1 pp ps e1 hp hpl hps => ?_⟩
    rw [List.length_map, g3.len] at hpl
    refine ⟨_, rfl, pp, rfl, ⟨_, SqL.of hp⟩, fun D hD => lc_it (walk_list (xs := ps.map V.ref)) (fun i H' => Same H1 H' ∧ H' D = some (.lst (bV ((Sj25.passes m cs r).take i)))) ⟨Same.new hD, upd_same⟩ (fun i H' _ p => SqL.of (p.1 _ _ hp)) ?_ ?_⟩
    · rintro i v H2 H3 hi ⟨e2, h2⟩ ⟨rfl, hv⟩
      obtain ⟨t, ht, rfl⟩ := map_inv hv
      obtain ⟨xv, yv, hx, hy, htt⟩ := hps i t ht
      obtain ⟨q, hq, rfl⟩ := map_inv hx
      obtain ⟨b, hb, rfl⟩ := bV_inv hy
      obtain ⟨ln, ct, hln, hct, hL⟩ := g3.at_ i q hq
      obtain ⟨dxl, pnm, pc, l1, l2, l3⟩ := (hL.same (e1.trans e2)).ex
      have hp1 := passes_at hln hct hb (hcs ct (List.mem_of_getElem? hct))
      have okl := hMk.ok i ln hln
      have him : i < m.length := (List.getElem?_eq_some_iff.mp hln).1
      refine ⟨t, _, rfl, SqT.of (e2 _ _ htt), rfl, _, _, rfl, _, _, rfl, rfl, rfl, ?_⟩
      have fin : ∀ v : Bool, v = (b && (ct.raw + 1) % ln.every == 0) → ∃ acc, H3 D = some (.lst acc) ∧ acc.length < sizeLine ∧ Same H1 (upd H3 D (.lst (acc ++ [.bl v]))) ∧ upd H3 D (.lst (acc ++ [.bl v])) D = some (.lst (bV ((Sj25.passes m cs r).take (i + 1)))) := by
        rintro v rfl
        refine ⟨_, h2, ?_, e2.mut hD, ?_⟩
        · rw [bV_len, List.length_take]
          have := hMk.len
          show _ < 16777216
          omega
        · rw [upd_same, take_snoc hp1, bV_app]
          rfl
      refine ⟨_, rfl, _, rfl, ite2 (fun q0 => ?_) (fun q0 => ?_)⟩
      · refine ⟨_, rfl, q, _, dxl, _, _, rfl, l1, T.c.c_Line, T.c.a_Line_held, rfl, _, _, rfl, rfl, _, rfl, q, _, dxl, _, _, rfl, l1, T.c.c_Line, T.c.a_Line_prescale, rfl, _, _, rfl, rfl, ?_, rfl, fin _ ?_⟩
        · have := okl.e1
          show (0 : Int) < (ln.every : Nat)
          omega
        · rw [q0, Bool.true_and]
          show decide (V.int ((((ct.raw : Nat) : Int) + 1) % (ln.every : Nat)) = V.int 0) = _
          have em : (((ct.raw : Nat) : Int) + 1) % (ln.every : Nat) = (((ct.raw + 1) % ln.every : Nat) : Int) := by
            rw [Int.natCast_emod]
            rfl
          rw [em, Bool.eq_iff_iff, decide_eq_true_iff, beq_iff_eq]
          exact ⟨fun z => by have := V.int.inj z; omega, fun z => by rw [z]; rfl⟩
      · exact fin false (by rw [Bool.eq_false_iff.mpr q0, Bool.false_and])
    · rintro H2 ⟨e2, h2⟩
      rw [List.length_map, hpl, ← passes_len m cs r, List.take_length] at h2
      exact k _ D (e1.trans e2) (e1.free hD) h2
end
end Ev
namespace Ev
open PySem PySem.Spec PyProof.Rows L2
open Sj25 (Count)
/-- the lines with their counts, the counts by the place -/
def LnsF (CL : Addr) (H : Hp) (qs : List Addr) (m : List Sj25.Line) (f : Nat → Count) : Prop := ∀ (i : Nat) (q : Addr), qs[i]? = some q → ∃ l, m[i]? = some l ∧ LineAt CL H q l (f i).raw (f i).passed (f i).kept
theorem LnsF.congr {CL : Addr} {H : Hp} {qs : List Addr} {m : List Sj25.Line} {f g : Nat → Count} (h : LnsF CL H qs m f) (e : ∀ i, i < m.length → f i = g i) : LnsF CL H qs m g := fun i q hq => by
  obtain ⟨l, h1, h2⟩ := h i q hq
  rw [e i (List.getElem?_eq_some_iff.mp h1).1] at h2
  exact ⟨l, h1, h2⟩
theorem LnsF.same {CL : Addr} {H H' : Hp} {qs : List Addr} {m : List Sj25.Line} {f : Nat → Count} (e : Same H H') (h : LnsF CL H qs m f) : LnsF CL H' qs m f := fun i q hq => by
  obtain ⟨l, h1, h2⟩ := h i q hq
  exact ⟨l, h1, h2.same e⟩
theorem nodup_at {qs : List Addr} (hn : qs.Nodup) {i j : Nat} {q r : Addr} (hi : qs[i]? = some q) (hj : qs[j]? = some r) (h : i ≠ j) : r ≠ q := fun z => by
  subst z
  obtain ⟨h1, e1⟩ := List.getElem?_eq_some_iff.mp hi
  obtain ⟨h2, e2⟩ := List.getElem?_eq_some_iff.mp hj
  have pw := List.pairwise_iff_getElem.mp hn
  rcases Nat.lt_or_gt_of_ne h with g | g
  · exact pw i j h1 h2 g (e1.trans e2.symm)
  · exact pw j i h2 h1 g (e2.trans e1.symm)
theorem LnsF.set {CL : Addr} {H : Hp} {qs : List Addr} {m : List Sj25.Line} {f : Nat → Count} (h : LnsF CL H qs m f) (hn : qs.Nodup) {i : Nat} {q dx pn pc : Addr} {l : Sj25.Line} {e a b d : Int} (hq : qs[i]? = some q) (hl : m[i]? = some l)
    (h0 : H q = some (.ins CL dx (lineF pn pc e a b d))) (he : e = (l.every : Nat)) (h1 : H pn = some (.tup (vN l.name))) (h2 : CondAt H 51 pc l.c) (k : Count) : LnsF CL (upd H q (.ins CL dx (lineF pn pc e (k.raw : Nat) (k.passed : Nat) (k.kept : Nat)))) qs m (fun j => if j = i then k else f j) := by
  subst he
  have t : TupK H (upd H q (.ins CL dx (lineF pn pc (l.every : Nat) (k.raw : Nat) (k.passed : Nat) (k.kept : Nat)))) := fun b xs hb => by
    rw [upd_ne (ne_of hb h0 (by intro z; cases z))]
    exact hb
  intro j r hr
  by_cases hji : j = i
  · subst hji
    obtain rfl : q = r := Option.some.inj (hq.symm.trans hr)
    simp only [if_true]
    exact ⟨l, hl, dx, pn, pc, upd_same, t _ _ h1, h2.keep t⟩
  · obtain ⟨l', g1, g2⟩ := h j r hr
    simp only [if_neg hji]
    exact ⟨l', g1, g2.keep (fun dx' fs hd => by rw [upd_ne (nodup_at hn hq hr (Ne.symm hji))]; exact hd) t⟩
theorem LnsAt.fn {CL : Addr} {H : Hp} {qs : List Addr} {m : List Sj25.Line} {cs : List Count} (h : LnsAt CL H qs m cs) : LnsF CL H qs m (fun i => cs.getD i ⟨0, 0, 0⟩) := fun i q hq => by
  obtain ⟨l, k, h1, h2, h3⟩ := h.at_ i q hq
  have e : cs.getD i ⟨0, 0, 0⟩ = k := by rw [List.getD_eq_getElem?_getD, h2]; rfl
  refine ⟨l, h1, ?_⟩
  show LineAt CL H q l (cs.getD i ⟨0, 0, 0⟩).raw (cs.getD i ⟨0, 0, 0⟩).passed (cs.getD i ⟨0, 0, 0⟩).kept
  rw [e]
  exact h3
theorem LnsF.at {CL : Addr} {H : Hp} {qs : List Addr} {m : List Sj25.Line} {f : Nat → Count} {cs : List Count} (h : LnsF CL H qs m f) (hl : qs.length = m.length) (hc : cs.length = m.length) (hn : qs.Nodup) (e : ∀ (i : Nat) (k : Count), cs[i]? = some k → f i = k) : LnsAt CL H qs m cs :=
  ⟨hl, hc, hn, fun i q hq => by
    obtain ⟨l, h1, h2⟩ := h i q hq
    have hi : i < cs.length := by rw [hc]; exact (List.getElem?_eq_some_iff.mp h1).1
    have hk : cs[i]? = some cs[i] := List.getElem?_eq_getElem hi
    rw [e i _ hk] at h2
    exact ⟨l, _, h1, hk, h2⟩⟩
theorem but_in {S : Addr → Prop} {H H' : Hp} {q : Addr} {o : HO} (b : But S H H') (h : S q) : But S H (upd H' q o) := fun a u ha hs => by
  rw [upd_ne (by intro z; subst z; exact hs h)]
  exact b a u ha hs
def upIf (b : Bool) (n : Nat) : Nat := if b then Sj25.up n else n
theorem up_int {n : Nat} {b : Bool} (h : n < 2 ^ 64) : (((n : Nat) : Int) + (if b = true then 1 else 0)) % 18446744073709551616 = ((upIf b n : Nat) : Int) := by
  unfold upIf Sj25.up Sj25.W
  cases b with
  | true => simp only [if_true]; rw [Int.natCast_emod]; rfl
  | false => simp only [Bool.false_eq_true, if_false]; omega
theorem counted_at {cs : List Count} {r p : List Bool} {kept : Bool} {i : Nat} {k : Count} (h : (Sj25.counted cs r p kept)[i]? = some k) : ∃ k0, cs[i]? = some k0 ∧ k = ⟨upIf (r.getD i false) k0.raw, upIf (p.getD i false) k0.passed, upIf (kept && p.getD i false) k0.kept⟩ := by
  unfold Sj25.counted at h
  rw [List.getElem?_map, List.getElem?_zipIdx] at h
  cases e : cs[i]? with
  | none => rw [e] at h; cases h
  | some k0 =>
    rw [e] at h
    simp only [Option.map_some, Nat.zero_add] at h
    exact ⟨k0, rfl, (Option.some.inj h).symm⟩
theorem counted_len (cs : List Count) (r p : List Bool) (kept : Bool) : (Sj25.counted cs r p kept).length = cs.length := by
  unfold Sj25.counted
  rw [List.length_map, List.length_zipIdx]
section
variable {P : Program} {w : World} {K : PySem.W.Frag} {mg : Str → Option Value} {base : Heap} {c : Cs}
def spNote (C CL : Addr) : Sp := fun vs H Q _ => ∃ (x ph pp dx pl pb : Addr) (qs : List Addr) (m : List Sj25.Line) (cs : List Count) (r p : List Bool) (kept : Bool), vs = [.ref x, .ref ph, .ref pp, .bl kept] ∧ H x = some (.ins C dx (menuV pl pb)) ∧ H pl = some (.lst (qs.map V.ref)) ∧ LnsAt CL H qs m cs ∧
  H ph = some (.lst (bV r)) ∧ H pp = some (.lst (bV p)) ∧ r.length = m.length ∧ p.length = m.length ∧ (∀ k ∈ cs, k.raw < 2 ^ 64 ∧ k.passed < 2 ^ 64 ∧ k.kept < 2 ^ 64) ∧
  ∀ H' pb', But (fun a => a = x ∨ a ∈ qs) H H' → H pb' = none → H' x = some (.ins C dx (menuV pl pb')) → H' pb' = some (.lst (bV r)) → LnsAt CL H' qs m (Sj25.counted cs r p kept) → Q .non H'
theorem ok_note (T : Txt K mg c) : Met P w K mg base CX0 1 c.menu "note" (spNote c.menu c.line) := by
  refine met_of0 T.c.c_Menu T.m.m_Menu_note sc_Menu_note b_Menu_note (fun vs H Q E h => ?_) (fun f cdv A outer s H vs Q E hr h => ⟨_, (D_Menu_note T hr).2, ?_⟩)
  · obtain ⟨x, ph, pp, dx, pl, pb, qs, m, cs, r, p, kept, rfl, _⟩ := h
    rfl
  · obtain ⟨x, ph, pp, dx, pl, pb, qs, m, cs, r, p, kept, rfl, hx, hpl, hL, hph, hpp, hrl, hpln, hcs, k⟩ := h
    have hins : ∀ a, a = x ∨ a ∈ qs → ∃ C dx fs, H a = some (.ins C dx fs) := by
      rintro a (rfl | ha)
      · exact ⟨_, _, _, hx⟩
      · obtain ⟨i, hi⟩ := List.getElem?_of_mem ha
        obtain ⟨l, k, _, _, h3⟩ := hL.at_ i a hi
        obtain ⟨dxl, _, _, h4, _⟩ := h3.ex
        exact ⟨_, _, _, h4⟩
    have lst : ∀ {H' : Hp} {a : Addr} {xs : List V}, But (fun a => a = x ∨ a ∈ qs) H H' → H a = some (.lst xs) → H' a = some (.lst xs) := fun {H' a xs} b ha => b _ _ ha fun z => by
      obtain ⟨C, dx, fs, h1⟩ := hins a z
      rw [ha] at h1
      cases h1
    have hqx : ∀ q ∈ qs, x ≠ q := fun q hq => by
      obtain ⟨i, hi⟩ := List.getElem?_of_mem hq
      obtain ⟨l, k, _, _, h3⟩ := hL.at_ i q hi
      obtain ⟨dxl, _, _, h4, _⟩ := h3.ex
      exact ins_ne hx h4 (by decide)
    have hc : ∀ i : Nat, (cs.getD i ⟨0, 0, 0⟩).raw < 2 ^ 64 ∧ (cs.getD i ⟨0, 0, 0⟩).passed < 2 ^ 64 ∧ (cs.getD i ⟨0, 0, 0⟩).kept < 2 ^ 64 := fun i => by
      rw [List.getD_eq_getElem?_getD]
      cases e : cs[i]? with
      | none => exact ⟨by decide, by decide, by decide⟩
      | some k => exact hcs k (List.mem_of_getElem? e)
    -- the first loop
    refine ⟨_, rfl, x, _, dx, _, _, rfl, hx, T.c.c_Menu, T.c.a_Menu_lines, rfl, _, rfl, pl, ph, qs.map V.ref, bV r, rfl, SqL.of hpl, SqL.of hph, for_it (walk_zip (n := m.length) (xs := qs.map V.ref) (ys := bV r) (by rw [List.length_map, bV_len, hL.len, hrl, Nat.min_self]))
      (fun i σ H' => But (fun a => a = x ∨ a ∈ qs) H H' ∧ H' x = some (.ins c.menu dx (menuV pl pb)) ∧ LnsF c.line H' qs m (fun j => if j < i then ⟨upIf (r.getD j false) (cs.getD j ⟨0, 0, 0⟩).raw, (cs.getD j ⟨0, 0, 0⟩).passed, (cs.getD j ⟨0, 0, 0⟩).kept⟩ else cs.getD j ⟨0, 0, 0⟩) ∧
        ∃ v4 v5 : Option V, σ = [some (.ref x), some (.ref ph), some (.ref pp), some (.bl kept), v4, v5, none])
      ⟨But.refl, hx, hL.fn.congr fun i _ => (by simp), none, none, rfl⟩ (fun i σ H' _ p => ⟨SqL.of (lst p.1 hpl), SqL.of (lst p.1 hph)⟩) ?_ ?_⟩
    · rintro i v σ H1 H2 hi ⟨b1, hx1, hF, v4, v5, rfl⟩ ⟨Tp, xv, yv, rfl, nT, rfl, hxv, hyv⟩
      obtain ⟨q, hq, rfl⟩ := map_inv hxv
      obtain ⟨b, hb, rfl⟩ := bV_inv hyv
      have e2 : Same H1 (upd H1 Tp (.tup [.ref q, .bl b])) := Same.new nT
      refine ⟨Tp, _, rfl, SqT.of upd_same, rfl, _, _, rfl, _, _, rfl, rfl, ?_⟩
      revert e2
      generalize upd H1 Tp (.tup [.ref q, .bl b]) = H2
      intro e2
      have hF2 := hF.same e2
      obtain ⟨ln, hln, hLn⟩ := hF2 i q hq
      simp only [Nat.lt_irrefl, if_false] at hLn
      obtain ⟨dxl, pn, pc, l1, l2, l3⟩ := hLn.ex
      have hbr : r.getD i false = b := by rw [List.getD_eq_getElem?_getD, hb]; rfl
      refine ⟨_, rfl, q, _, dxl, _, _, rfl, l1, T.c.c_Line, T.c.a_Line_held, rfl, _, rfl, .inr ⟨b, rfl, _, _, rfl, rfl, _, _, rfl, rfl, by show (0 : Int) < 18446744073709551616; decide, _, rfl, q, _, dxl, _, rfl, l1, T.c.c_Line, T.c.a_Line_held, by show 6 < 1000; decide, ?_⟩⟩
      have hs := hF2.set hL.nd hq hln l1 rfl l2 l3 ⟨upIf b (cs.getD i ⟨0, 0, 0⟩).raw, (cs.getD i ⟨0, 0, 0⟩).passed, (cs.getD i ⟨0, 0, 0⟩).kept⟩
      have ev := up_int (b := b) (hc i).1
      rw [show ((fun i j : Int => V.int (i % j)) ((((cs.getD i ⟨0, 0, 0⟩).raw : Nat) : Int) + (if b = true then 1 else 0)) 18446744073709551616) = V.int ((upIf b (cs.getD i ⟨0, 0, 0⟩).raw : Nat) : Int) from congrArg V.int ev]
      have hqm := List.mem_of_getElem? hq
      refine ⟨but_in (b1.trans (But.of e2)) (.inr hqm), by rw [upd_ne (hqx q hqm)]; exact e2 _ _ hx1, hs.congr fun j hj => ?_, _, _, rfl⟩
      by_cases hji : j = i
      · subst hji
        rw [if_pos rfl, if_pos (Nat.lt_succ_self _), hbr]
      · rw [if_neg hji]
        by_cases hlt : j < i
        · rw [if_pos hlt, if_pos (by omega)]
        · rw [if_neg hlt, if_neg (by omega)]
    · rintro σ H1 ⟨b1, hx1, hF, v4, v5, rfl⟩
      have hF1 := hF.congr (g := fun j => (⟨upIf (r.getD j false) (cs.getD j ⟨0, 0, 0⟩).raw, (cs.getD j ⟨0, 0, 0⟩).passed, (cs.getD j ⟨0, 0, 0⟩).kept⟩ : Count)) fun i hi => if_pos hi
      clear hF
      -- the second loop
      refine ⟨_, rfl, x, _, dx, _, _, rfl, hx1, T.c.c_Menu, T.c.a_Menu_lines, rfl, _, rfl, pl, pp, qs.map V.ref, bV p, rfl, SqL.of (lst b1 hpl), SqL.of (lst b1 hpp), for_it (walk_zip (n := m.length) (xs := qs.map V.ref) (ys := bV p) (by rw [List.length_map, bV_len, hL.len, hpln, Nat.min_self]))
        (fun i σ H' => But (fun a => a = x ∨ a ∈ qs) H H' ∧ H' x = some (.ins c.menu dx (menuV pl pb)) ∧ LnsF c.line H' qs m (fun j => if j < i then ⟨upIf (r.getD j false) (cs.getD j ⟨0, 0, 0⟩).raw, upIf (p.getD j false) (cs.getD j ⟨0, 0, 0⟩).passed, upIf (kept && p.getD j false) (cs.getD j ⟨0, 0, 0⟩).kept⟩ else
            ⟨upIf (r.getD j false) (cs.getD j ⟨0, 0, 0⟩).raw, (cs.getD j ⟨0, 0, 0⟩).passed, (cs.getD j ⟨0, 0, 0⟩).kept⟩) ∧
          ∃ v4 v5 v6 : Option V, σ = [some (.ref x), some (.ref ph), some (.ref pp), some (.bl kept), v4, v5, v6])
        ⟨b1, hx1, hF1.congr fun i _ => (by simp), _, _, _, rfl⟩ (fun i σ H' _ p => ⟨SqL.of (lst p.1 hpl), SqL.of (lst p.1 hpp)⟩) ?_ ?_⟩
      · rintro i v σ H2 H3 hi ⟨b2, hx2, hF, v4, v5, v6, rfl⟩ ⟨Tp, xv, yv, rfl, nT, rfl, hxv, hyv⟩
        obtain ⟨q, hq, rfl⟩ := map_inv hxv
        obtain ⟨b, hb, rfl⟩ := bV_inv hyv
        have e3 : Same H2 (upd H2 Tp (.tup [.ref q, .bl b])) := Same.new nT
        refine ⟨Tp, _, rfl, SqT.of upd_same, rfl, _, _, rfl, _, _, rfl, rfl, ?_⟩
        revert e3
        generalize upd H2 Tp (.tup [.ref q, .bl b]) = H3
        intro e3
        have hF3 := hF.same e3
        obtain ⟨ln, hln, hLn⟩ := hF3 i q hq
        simp only [Nat.lt_irrefl, if_false] at hLn
        obtain ⟨dxl, pn, pc, l1, l2, l3⟩ := hLn.ex
        have hbr : p.getD i false = b := by rw [List.getD_eq_getElem?_getD, hb]; rfl
        have hqm := List.mem_of_getElem? hq
        refine ⟨_, rfl, q, _, dxl, _, _, rfl, l1, T.c.c_Line, T.c.a_Line_passed, rfl, _, rfl, .inr ⟨b, rfl, _, _, rfl, rfl, _, _, rfl, rfl, by show (0 : Int) < 18446744073709551616; decide, _, rfl, q, _, dxl, _, rfl, l1, T.c.c_Line, T.c.a_Line_passed, by show 6 < 1000; decide, ?_⟩⟩
        have hs := hF3.set hL.nd hq hln l1 rfl l2 l3 ⟨upIf (r.getD i false) (cs.getD i ⟨0, 0, 0⟩).raw, upIf b (cs.getD i ⟨0, 0, 0⟩).passed, (cs.getD i ⟨0, 0, 0⟩).kept⟩
        rw [show ((fun i j : Int => V.int (i % j)) ((((cs.getD i ⟨0, 0, 0⟩).passed : Nat) : Int) + (if b = true then 1 else 0)) 18446744073709551616) = V.int ((upIf b (cs.getD i ⟨0, 0, 0⟩).passed : Nat) : Int) from congrArg V.int (up_int (b := b) (hc i).2.1)]
        have t3 : TupK H3 (upd H3 q (.ins c.line dxl (lineF pn pc (ln.every : Nat) ((upIf (r.getD i false) (cs.getD i ⟨0, 0, 0⟩).raw : Nat) : Int) ((upIf b (cs.getD i ⟨0, 0, 0⟩).passed : Nat) : Int) ((cs.getD i ⟨0, 0, 0⟩).kept : Nat)))) := fun b xs hb => by
          rw [upd_ne (ne_of hb l1 (by intro z; cases z))]
          exact hb
        have l2' := t3 _ _ l2
        have l3' := l3.keep t3
        have l1' : upd H3 q (.ins c.line dxl (lineF pn pc (ln.every : Nat) ((upIf (r.getD i false) (cs.getD i ⟨0, 0, 0⟩).raw : Nat) : Int) ((upIf b (cs.getD i ⟨0, 0, 0⟩).passed : Nat) : Int) ((cs.getD i ⟨0, 0, 0⟩).kept : Nat))) q = some (.ins c.line dxl (lineF pn pc (ln.every : Nat) ((upIf (r.getD i false) (cs.getD i ⟨0, 0, 0⟩).raw : Nat) : Int) ((upIf b (cs.getD i ⟨0, 0, 0⟩).passed : Nat) : Int) ((cs.getD i ⟨0, 0, 0⟩).kept : Nat))) := upd_same
        have b4 : But (fun a => a = x ∨ a ∈ qs) H (upd H3 q (.ins c.line dxl (lineF pn pc (ln.every : Nat) ((upIf (r.getD i false) (cs.getD i ⟨0, 0, 0⟩).raw : Nat) : Int) ((upIf b (cs.getD i ⟨0, 0, 0⟩).passed : Nat) : Int) ((cs.getD i ⟨0, 0, 0⟩).kept : Nat)))) := but_in (b2.trans (But.of e3)) (.inr hqm)
        have hx4 : upd H3 q (.ins c.line dxl (lineF pn pc (ln.every : Nat) ((upIf (r.getD i false) (cs.getD i ⟨0, 0, 0⟩).raw : Nat) : Int) ((upIf b (cs.getD i ⟨0, 0, 0⟩).passed : Nat) : Int) ((cs.getD i ⟨0, 0, 0⟩).kept : Nat))) x = some (.ins c.menu dx (menuV pl pb)) := by rw [upd_ne (hqx q hqm)]; exact e3 _ _ hx2
        have and_ : ∀ (H' : Hp) (R : VK), R (.bl (kept && b)) H' → tAndV (tVar 6) (tVar 3) [some (.ref x), some (.ref ph), some (.ref pp), some (.bl kept), some (.ref q), v5, some (.bl b)] H' R := fun H' R hR => by
          refine ⟨_, rfl, b, rfl, ite2 (fun z => ?_) (fun z => ?_)⟩
          · rw [z, Bool.and_true] at hR
            exact ⟨_, rfl, hR⟩
          · rw [Bool.eq_false_iff.mpr z, Bool.and_false] at hR
            exact hR
        revert l1' l2' l3' b4 hx4 hs t3
        generalize hH4 : upd H3 q (.ins c.line dxl (lineF pn pc (ln.every : Nat) ((upIf (r.getD i false) (cs.getD i ⟨0, 0, 0⟩).raw : Nat) : Int) ((upIf b (cs.getD i ⟨0, 0, 0⟩).passed : Nat) : Int) ((cs.getD i ⟨0, 0, 0⟩).kept : Nat))) = H4
        intro hs t3 l2' l3' l1' b4 hx4
        have eo : upd H3 q (.ins c.line dxl (putF "passed" (.int ((upIf b (cs.getD i ⟨0, 0, 0⟩).passed : Nat) : Int)) (lineF pn pc (ln.every : Nat) ((upIf (r.getD i false) (cs.getD i ⟨0, 0, 0⟩).raw : Nat) : Int) ((cs.getD i ⟨0, 0, 0⟩).passed : Nat) ((cs.getD i ⟨0, 0, 0⟩).kept : Nat)))) = H4 := hH4
        rw [eo]
        refine ⟨_, rfl, q, _, dxl, _, _, rfl, l1', T.c.c_Line, T.c.a_Line_kept, rfl, and_ _ _ (.inr ⟨kept && b, rfl, _, _, rfl, rfl, _, _, rfl, rfl, by show (0 : Int) < 18446744073709551616; decide, _, rfl, q, _, dxl, _, rfl, l1', T.c.c_Line, T.c.a_Line_kept, by show 6 < 1000; decide, ?_⟩)⟩
        rw [show ((fun i j : Int => V.int (i % j)) ((((cs.getD i ⟨0, 0, 0⟩).kept : Nat) : Int) + (if (kept && b) = true then 1 else 0)) 18446744073709551616) = V.int ((upIf (kept && b) (cs.getD i ⟨0, 0, 0⟩).kept : Nat) : Int) from congrArg V.int (up_int (b := kept && b) (hc i).2.2)]
        have hs2 := hs.set hL.nd hq hln l1' rfl l2' l3' ⟨upIf (r.getD i false) (cs.getD i ⟨0, 0, 0⟩).raw, upIf b (cs.getD i ⟨0, 0, 0⟩).passed, upIf (kept && b) (cs.getD i ⟨0, 0, 0⟩).kept⟩
        refine ⟨but_in b4 (.inr hqm), by rw [upd_ne (hqx q hqm)]; exact hx4, hs2.congr fun j hj => ?_, _, _, _, rfl⟩
        by_cases hji : j = i
        · subst hji
          rw [if_pos rfl, if_pos (Nat.lt_succ_self _), hbr]
        · rw [if_neg hji, if_neg hji]
          by_cases hlt : j < i
          · rw [if_pos hlt, if_pos (by omega)]
          · rw [if_neg hlt, if_neg (by omega)]
      · rintro σ H2 ⟨b2, hx2, hF, v4, v5, v6, rfl⟩
        have hF2 := hF.congr (g := fun j => (⟨upIf (r.getD j false) (cs.getD j ⟨0, 0, 0⟩).raw, upIf (p.getD j false) (cs.getD j ⟨0, 0, 0⟩).passed, upIf (kept && p.getD j false) (cs.getD j ⟨0, 0, 0⟩).kept⟩ : Count)) fun i hi => if_pos hi
        refine ⟨_, rfl, ph, _, rfl, .inl (SqL.of (lst b2 hph)), fun np hnp => ?_⟩
        have en := Same.new (o := .lst (bV r)) hnp
        have hcl : (Sj25.counted cs r p kept).length = m.length := by rw [counted_len, hL.cnt]
        have hLF : LnsAt c.line H2 qs m (Sj25.counted cs r p kept) := hF2.at hL.len hcl hL.nd fun i k hk => by
          obtain ⟨k0, g1, g2⟩ := counted_at hk
          have e : cs.getD i ⟨0, 0, 0⟩ = k0 := by rw [List.getD_eq_getElem?_getD, g1]; rfl
          rw [g2]
          simp only [e]
        refine ⟨_, rfl, x, _, dx, _, rfl, en _ _ hx2, T.c.c_Menu, T.c.a_Menu_before, by show 2 < 1000; decide, ?_⟩
        have hnH : H np = none := by
          cases e : H np with
          | none => rfl
          | some o =>
            by_cases hs : np = x ∨ np ∈ qs
            · rcases hs with rfl | hs
              · rw [hx2] at hnp
                cases hnp
              · obtain ⟨i, hi⟩ := List.getElem?_of_mem hs
                obtain ⟨l, _, h3⟩ := hF2 i np hi
                obtain ⟨_, _, _, h4, _⟩ := h3.ex
                rw [hnp] at h4
                cases h4
            · have := b2 np o e hs
              rw [hnp] at this
              cases this
        have hxn : np ≠ x := fun z => by rw [z, hx2] at hnp; cases hnp
        refine k _ np (but_in (b2.trans (But.of en)) (.inl rfl)) hnH upd_same (by rw [upd_ne hxn, upd_same]) ((hLF.same en).keep (fun q hq dx' fs h => by rw [upd_ne (Ne.symm (hqx q hq))]; exact h) fun a xs ha => ?_)
        rw [upd_ne (ne_of ha (en _ _ hx2) (by intro z; cases z))]
        exact ha
end
end Ev
namespace Ev
open PySem PySem.Spec PyProof.Rows L2
open Sj25 (Count House)
/-! ### a trigger -/
def trigV (d w m : Int) (pn : Addr) (vm : V) (lt : Int) (po pk pr : Addr) : List (Str × V) :=
  [("dead", .int d), ("window", .int w), ("most", .int m), ("net", .ref pn), ("menu", vm), ("last_time", .int lt), ("last_objects", .ref po), ("kept_times", .ref pk), ("reasons", .ref pr)]
def timeI : Option Nat → Int
  | none => -2
  | some t => (t : Nat)
/-- the menu of a house at a value -/
def MenuV (c : Cs) (G : Hp) (vm : V) (h : House) : Prop := match h.menu with
  | none => vm = .non
  | some m => ∃ (x : Addr) (b0 : List Bool), vm = .ref x ∧ MenuAt c.menu c.line G x m h.counts b0 ∧ MenuOk m ∧ BefOk b0 h.before ∧ b0.length = m.length
/-- a house at t: G is all that it owns, G2 what of it changes through the menu alone -/
structure HouseAt (c : Cs) (G : Hp) (t : Addr) (h : House) : Prop where
  ex : ∃ (dx pn : Addr) (vm : V) (po pk pr : Addr) (G2 : Hp), G t = some (.ins c.trigger dx (trigV h.dead h.window h.most pn vm (timeI h.time) po pk pr)) ∧ G pk = some (.lst (vN h.kept.reverse)) ∧ G pr = some (.lst (vN h.sums.tail)) ∧
    G2 t = none ∧ G2 pk = none ∧ G2 pr = none ∧ pk ≠ pr ∧ Same G2 G ∧ NetAt c.net G2 pn h.net ∧ ObjsAt G2 po h.seen ∧ MenuV c G2 vm h
/-- what is known of a house behind n events -/
structure HouseOk (h : House) (n : Nat) : Prop where
  nn : n ≤ 10000
  net : NetOk h.net
  sh : h.net.shift ≤ 15
  th : ThOk h.seen
  sl : h.seen.length ≤ 64
  kl : h.kept.length ≤ n
  sums : ∃ a b d e : Nat, h.sums = [a + b + d + e, a, b, d, e] ∧ a + b + d + e ≤ n
  no : h.menu = none → h.counts = []
  me : ∀ m, h.menu = some m → MenuOk m ∧ h.counts.length = m.length ∧ (∀ k ∈ h.counts, k.raw ≤ n ∧ k.passed ≤ n ∧ k.kept ≤ n)
def house0 (d w m : Nat) : House := ⟨d, w, m, Sj25.net0, none, [], none, [], [], List.replicate 5 0, []⟩
theorem house0_ok (d w m : Nat) : HouseOk (house0 d w m) 0 :=
  ⟨by decide, ⟨rfl, rfl, rfl, by show 1 ≤ 65535; decide⟩, by show 0 ≤ 15; decide, fun t h => (nomatch h), by show 0 ≤ 64; decide, Nat.le_refl _, ⟨0, 0, 0, 0, rfl, Nat.le_refl _⟩, fun _ => rfl, fun m h => (nomatch h)⟩
section
variable {P : Program} {w : World} {K : PySem.W.Frag} {mg : Str → Option Value} {base : Heap} {c : Cs}
def spTrigInit (c : Cs) : Sp := fun vs H Q _ => ∃ (t dx : Addr) (a b e : Nat), vs = [.ref t, .int a, .int b, .int e] ∧ H t = some (.ins c.trigger dx []) ∧
  ∀ H' G, But (· = t) H H' → HouseAt c G t (house0 a b e) → Same G H' → (∀ x, x ≠ t → H x ≠ none → G x = none) → Q .non H'
theorem ok_Trigger_init (T : Txt K mg c) : Mak P w K mg base CX0 3 "Trigger" c.trigger (spTrigInit c) := by
  have GN : Mak P w K mg base CX0 1 "Net" c.net (spNetInit c.net) := ok_Net_init T
  refine mak_of0 T.m.m_Trigger_init sc_Trigger_init b_Trigger_init (fun vs H Q E h => ?_) (fun f cdv A outer s H vs Q E hr h => ⟨_, (D_Trigger_init T GN (by decide) hr).2, ?_⟩)
  · obtain ⟨t, dx, a, b, e, rfl, _⟩ := h
    rfl
  · obtain ⟨t, dx, a, b, e, rfl, ht, k⟩ := h
    refine ⟨_, rfl, _, rfl, t, _, dx, _, rfl, ht, T.c.c_Trigger, T.c.a_Trigger_dead, (by show 0 < 1000; decide), ?_⟩
    refine ⟨_, rfl, _, rfl, t, _, dx, _, rfl, upd_same, T.c.c_Trigger, T.c.a_Trigger_window, (by show 1 < 1000; decide), ?_⟩
    refine ⟨_, rfl, _, rfl, t, _, dx, _, rfl, upd_same, T.c.c_Trigger, T.c.a_Trigger_most, (by show 2 < 1000; decide), ?_⟩
    have st : ∀ (H1 : Hp) (fs : List (Str × V)), But (· = t) H H1 → But (· = t) H (upd H1 t (.ins c.trigger dx fs)) := fun H1 fs b1 => but_fld b1
    have b3 := fun {o1 o2 o3 : HO} => (but_fld (but_fld (but_fld But.refl)) : But (· = t) H (upd (upd (upd H t o1) t o2) t o3))
    have h3 : ∀ {H1 : Hp} {o : HO}, upd H1 t o t = some o := upd_same
    refine (fun (z : ∀ H3 : Hp, But (· = t) H H3 → H3 t = some (.ins c.trigger dx [("dead", .int a), ("window", .int b), ("most", .int e)]) → _) => z _ b3 upd_same) ?_
    intro H3 b3 h3
    refine fun x dx2 hx hdx hne => ⟨x, dx2, 0, 1, 0, 0, rfl, upd_same, fun H4 p1 p2 p3 b4 f1 f2 f3 hx4 hN => ⟨rfl, ?_⟩⟩
    have s4 : Same H3 H4 := made_same hx hdx b4
    have fr : ∀ {y : Addr}, upd (upd H3 dx2 (.own x)) x (.ins c.net dx2 []) y = none → H3 y = none := fun {y} hy => by
      cases z : H3 y with
      | none => rfl
      | some o => rw [made_same (o := .ins c.net dx2 []) hx hdx But.refl y o z] at hy; cases hy
    have xt : x ≠ t := (ne_of_none h3 hx).symm
    have d1 : p1 ≠ t := (ne_of_none h3 (fr f1)).symm
    have d2 : p2 ≠ t := (ne_of_none h3 (fr f2)).symm
    have d3 : p3 ≠ t := (ne_of_none h3 (fr f3)).symm
    have fx : H x = none := b3.free hx xt
    have g1 : H p1 = none := b3.free (fr f1) d1
    have g2 : H p2 = none := b3.free (fr f2) d2
    have g3 : H p3 = none := b3.free (fr f3) d3
    refine ⟨_, rfl, t, _, dx, _, rfl, s4 _ _ h3, T.c.c_Trigger, T.c.a_Trigger_net, (by show 3 < 1000; decide), ?_⟩
    refine ⟨_, rfl, t, _, dx, _, rfl, upd_same, T.c.c_Trigger, T.c.a_Trigger_menu, (by show 4 < 1000; decide), ?_⟩
    refine ⟨_, rfl, t, _, dx, _, rfl, upd_same, T.c.c_Trigger, T.c.a_Trigger_last_time, (by show 5 < 1000; decide), ?_⟩
    have b5 := fun {o1 o2 o3 : HO} => (but_fld (but_fld (but_fld But.refl)) : But (· = t) H4 (upd (upd (upd H4 t o1) t o2) t o3))
    refine (fun (z : ∀ H5 : Hp, But (· = t) H4 H5 → H5 t = some (.ins c.trigger dx [("dead", .int a), ("window", .int b), ("most", .int e), ("net", .ref x), ("menu", .non), ("last_time", .int (-2))]) → _) => z _ b5 upd_same) ?_
    intro H5 b5 h5
    refine ⟨by exact Nat.zero_le _, fun po n1 => ⟨_, rfl, t, _, dx, _, rfl, Same.new n1 _ _ h5, T.c.c_Trigger, T.c.a_Trigger_last_objects, (by show 6 < 1000; decide), ?_⟩⟩
    refine ⟨by exact Nat.zero_le _, fun pk n2 => ⟨_, rfl, t, _, dx, _, rfl, Same.new n2 _ _ upd_same, T.c.c_Trigger, T.c.a_Trigger_kept_times, (by show 7 < 1000; decide), ?_⟩⟩
    refine ⟨by show 4 ≤ sizeLine; decide, fun pr n3 => ⟨_, rfl, t, _, dx, _, rfl, Same.new n3 _ _ upd_same, T.c.c_Trigger, T.c.a_Trigger_reasons, (by show 8 < 1000; decide), ?_⟩⟩
    have pot : po ≠ t := (ne_of_none h5 n1).symm
    have pkt : pk ≠ t := (ne_of_none upd_same n2).symm
    have prt : pr ≠ t := (ne_of_none upd_same n3).symm
    have m1 : H5 pk = none := by
      rw [upd_ne pkt] at n2
      exact (Same.new n1).free n2
    have pkpo : pk ≠ po := fun z => by
      rw [upd_ne pkt, z, upd_same] at n2
      cases n2
    have m2 := n3
    rw [upd_ne prt] at m2
    have prpk : pr ≠ pk := fun z => by
      rw [z, upd_same] at m2
      cases m2
    rw [upd_ne prpk, upd_ne prt] at m2
    have prpo : pr ≠ po := fun z => by
      rw [z, upd_same] at m2
      cases m2
    rw [upd_ne prpo] at m2
    have b35 : But (· = t) H H5 := (b3.trans (But.of s4)).trans b5
    have fpo : H po = none := b35.free n1 pot
    have fpk : H pk = none := b35.free m1 pkt
    have fpr : H pr = none := b35.free m2 prt
    have v5 : ∀ {y : Addr} {o : HO}, H4 y = some o → y ≠ t → H5 y = some o ∧ y ≠ po ∧ y ≠ pk ∧ y ≠ pr := fun {y o} hy ht => by
      have h := b5 y o hy ht
      exact ⟨h, ne_of_none h n1, ne_of_none h m1, ne_of_none h m2⟩
    let HE := upd (upd (upd (upd (upd (upd H5 po (.lst [])) t (.ins c.trigger dx (putF "last_objects" (.ref po) [("dead", .int a), ("window", .int b), ("most", .int e), ("net", .ref x), ("menu", .non), ("last_time", .int (-2))]))) pk (.lst [])) t (.ins c.trigger dx (putF "kept_times" (.ref pk) (putF "last_objects" (.ref po) [("dead", .int a), ("window", .int b), ("most", .int e), ("net", .ref x), ("menu", .non), ("last_time", .int (-2))])))) pr (.lst [.int 0, .int 0, .int 0, .int 0])) t
      (.ins c.trigger dx (trigV a b e x .non (-2) po pk pr))
    have hE : ∀ {y : Addr}, y ≠ po → y ≠ pk → y ≠ pr → y ≠ t → HE y = H5 y := fun {y} n1 n2 n3 n4 => by
      show upd _ _ _ y = _
      rw [upd_ne n4, upd_ne n3, upd_ne n4, upd_ne n2, upd_ne n4, upd_ne n1]
    have hEpo : HE po = some (.lst []) := by
      show upd _ _ _ po = _
      rw [upd_ne pot, upd_ne (Ne.symm prpo), upd_ne pot, upd_ne (Ne.symm pkpo), upd_ne pot, upd_same]
    have hEpk : HE pk = some (.lst []) := by
      show upd _ _ _ pk = _
      rw [upd_ne pkt, upd_ne (Ne.symm prpk), upd_ne pkt, upd_same]
    have hEpr : HE pr = some (.lst [.int 0, .int 0, .int 0, .int 0]) := by
      show upd _ _ _ pr = _
      rw [upd_ne prt, upd_same]
    have hEt : HE t = some (.ins c.trigger dx (trigV a b e x .non (-2) po pk pr)) := upd_same
    have bE : But (· = t) H HE := fun y o hy ht => by
      have h := b35 y o hy ht
      rw [hE (ne_of_none h n1) (ne_of_none h m1) (ne_of_none h m2) ht]
      exact h
    let G2 : Hp := fun y => if y = t ∨ y = pk ∨ y = pr then none else if (H y).isSome = true then none else HE y
    let G : Hp := fun y => if y = t then HE t else if (H y).isSome = true then none else HE y
    have o2 : ∀ {y : Addr} {o : HO}, H4 y = some o → y ≠ t → H y = none → G2 y = some o := fun {y o} hy ht hn => by
      obtain ⟨q1, q2, q3, q4⟩ := v5 hy ht
      show (if y = t ∨ y = pk ∨ y = pr then none else if (H y).isSome = true then none else HE y) = _
      rw [if_neg (by rintro (z | z | z); exact ht z; exact q3 z; exact q4 z), hn, if_neg (by simp), hE q2 q3 q4 ht]
      exact q1
    have oo : G2 po = some (.lst []) := by
      show (if po = t ∨ po = pk ∨ po = pr then none else if (H po).isSome = true then none else HE po) = _
      rw [if_neg (by rintro (z | z | z); exact pot z; exact pkpo z.symm; exact prpo z.symm), fpo, if_neg (by simp)]
      exact hEpo
    have gg : ∀ {y : Addr}, y ≠ t → H y = none → G y = HE y := fun {y} ht hn => by
      show (if y = t then HE t else if (H y).isSome = true then none else HE y) = _
      rw [if_neg ht, hn, if_neg (by simp)]
    have gt : G t = HE t := if_pos rfl
    refine k HE G bE ⟨dx, x, .non, po, pk, pr, G2, by rw [gt]; exact hEt, by rw [gg pkt fpk]; exact hEpk, by rw [gg prt fpr]; exact hEpr, if_pos (.inl rfl), if_pos (.inr (.inl rfl)), if_pos (.inr (.inr rfl)), Ne.symm prpk, fun y o hy => ?_, ⟨dx2, p1, p2, p3, o2 hx4 xt fx, o2 hN.h1 d1 g1, o2 hN.h2 d2 g2, o2 hN.h3 d3 g3⟩, ⟨[], oo, rfl, fun i q h => by simp at h⟩, rfl⟩ (fun y o hy => ?_) fun y ht hy => ?_
    · have hy : (if y = t ∨ y = pk ∨ y = pr then none else if (H y).isSome = true then none else HE y) = some o := hy
      show (if y = t then HE t else if (H y).isSome = true then none else HE y) = _
      by_cases h1 : y = t ∨ y = pk ∨ y = pr
      · rw [if_pos h1] at hy
        cases hy
      · rw [if_neg h1] at hy
        rw [if_neg (fun z => h1 (.inl z))]
        exact hy
    · have hy : (if y = t then HE t else if (H y).isSome = true then none else HE y) = some o := hy
      by_cases h1 : y = t
      · rw [if_pos h1] at hy
        rw [h1]
        exact hy
      · rw [if_neg h1] at hy
        by_cases h2 : (H y).isSome = true
        · rw [if_pos h2] at hy
          cases hy
        · rw [if_neg h2] at hy
          exact hy
    · show (if y = t then HE t else if (H y).isSome = true then none else HE y) = none
      rw [if_neg ht, if_pos (by cases e : H y with | none => exact absurd e hy | some _ => rfl)]
end
end Ev
namespace Ev
open PySem PySem.Spec PyProof.Rows L2
open Sj25 (Count House)
def hasB (h : House) (k : Int) : Bool := match h.menu with
  | none => false
  | some m => decide (0 ≤ k) && decide (k < (m.length : Nat))
def whyOf (dead window most : Nat) (kl : List Nat) (t : Nat) (b : Bool) : Nat :=
  if b = false then 1 else if (kl.any fun k => decide (t < k + dead)) = true then 2 else if most ≤ (kl.filter fun k => decide (t < k + window)).length then 3 else 0
theorem why_is (h : House) (t : Nat) (p : List Bool) : Sj25.why h t p = whyOf h.dead h.window h.most h.kept.reverse t (p.any id) := by
  unfold Sj25.why whyOf
  have e1 : (p.all fun b => !b) = !(p.any id) := by
    induction p with
    | nil => rfl
    | cons a r ih => rw [List.all_cons, List.any_cons, ih, Bool.not_or]; rfl
  rw [e1, List.any_reverse, List.filter_reverse, List.length_reverse]
  cases p.any id with
  | true => rfl
  | false => rfl
section
variable {P : Program} {w : World} {K : PySem.W.Frag} {mg : Str → Option Value} {base : Heap} {c : Cs}
def spHasLine (c : Cs) : Sp := fun vs H Q _ => ∃ (t dx pn po pk pr : Addr) (vm : V) (k lt a b e : Int) (h : House), vs = [.ref t, .int k] ∧ H t = some (.ins c.trigger dx (trigV a b e pn vm lt po pk pr)) ∧ MenuV c H vm h ∧ Q (.bl (hasB h k)) H
theorem ok_has_line (T : Txt K mg c) : Met P w K mg base CX0 1 c.trigger "has_line" (spHasLine c) := by
  refine met_of0 T.c.c_Trigger T.m.m_Trigger_has_line sc_Trigger_has_line b_Trigger_has_line (fun vs H Q E h => ?_) (fun f cdv A outer s H vs Q E hr h => ⟨_, (D_Trigger_has_line T hr).2, ?_⟩)
  · obtain ⟨t, dx, pn, po, pk, pr, vm, k, lt, a, b, e, h, rfl, _⟩ := h
    rfl
  · obtain ⟨t, dx, pn, po, pk, pr, vm, n, lt, a, b, e, h, rfl, ht, hM, k⟩ := h
    unfold MenuV at hM
    unfold hasB at k
    cases hm : h.menu with
    | none =>
      rw [hm] at hM k
      dsimp only at hM k
      subst hM
      exact ⟨_, rfl, t, _, dx, _, _, rfl, ht, T.c.c_Trigger, T.c.a_Trigger_menu, rfl, _, rfl, ite_no rfl k⟩
    | some m =>
      rw [hm] at hM k
      dsimp only at hM k
      obtain ⟨x, b0, rfl, hMA, _⟩ := hM
      obtain ⟨dxm, pl, pb, qs, g1, g2, g3, g4⟩ := hMA.ex
      refine ⟨_, rfl, t, _, dx, _, _, rfl, ht, T.c.c_Trigger, T.c.a_Trigger_menu, rfl, _, rfl, ite_yes rfl ?_⟩
      refine ⟨_, rfl, _, _, rfl, rfl, _, rfl, ite2 (fun q => ?_) (fun q => ?_)⟩
      · rw [q, Bool.true_and] at k
        refine ⟨_, rfl, t, _, dx, _, _, rfl, ht, T.c.c_Trigger, T.c.a_Trigger_menu, rfl, x, _, dxm, _, _, rfl, g1, T.c.c_Menu, T.c.a_Menu_lines, rfl, pl, _, rfl, .inl (SqL.of g2), _, _, rfl, rfl, ?_⟩
        rw [List.length_map, g3.len]
        exact k
      · rw [Bool.eq_false_iff.mpr q, Bool.false_and] at k
        exact k
def spLinesBefore (c : Cs) : Sp := fun vs H Q _ => ∃ (t dx pn po pk pr x : Addr) (k lt a b e : Int) (m : List Sj25.Line) (cs : List Count) (b0 : List Bool), vs = [.ref t, .int k] ∧ H t = some (.ins c.trigger dx (trigV a b e pn (.ref x) lt po pk pr)) ∧ MenuAt c.menu c.line H x m cs b0 ∧ m.length ≤ 64 ∧
  ∀ H' r, Same H H' → H' r = some (.lst (bV (if lt = k - 1 then b0 else List.replicate m.length false))) → Q (.ref r) H'
theorem ok_lines_before (T : Txt K mg c) : Met P w K mg base CX0 1 c.trigger "lines_before" (spLinesBefore c) := by
  refine met_of0 T.c.c_Trigger T.m.m_Trigger_lines_before sc_Trigger_lines_before b_Trigger_lines_before (fun vs H Q E h => ?_) (fun f cdv A outer s H vs Q E hr h => ⟨_, (D_Trigger_lines_before T hr).2, ?_⟩)
  · obtain ⟨t, dx, pn, po, pk, pr, x, k, lt, a, b, e, m, cs, b0, rfl, _⟩ := h
    rfl
  · obtain ⟨t, dx, pn, po, pk, pr, x, n, lt, a, b, e, m, cs, b0, rfl, ht, hM, hm, k⟩ := h
    obtain ⟨dxm, pl, pb, qs, g1, g2, g3, g4⟩ := hM.ex
    refine ⟨_, rfl, t, _, dx, _, _, rfl, ht, T.c.c_Trigger, T.c.a_Trigger_last_time, rfl, _, rfl, _, _, rfl, rfl, rfl, _, rfl, ite2 (fun q => ?_) (fun q => ?_)⟩
    · have hq : lt = n - 1 := V.int.inj (of_decide_eq_true q)
      rw [if_pos hq] at k
      exact ⟨_, rfl, t, _, dx, _, _, rfl, ht, T.c.c_Trigger, T.c.a_Trigger_menu, rfl, x, _, dxm, _, _, rfl, g1, T.c.c_Menu, T.c.a_Menu_before, rfl, pb, _, rfl, .inl (SqL.of g4), fun r hr => k _ r (Same.new hr) upd_same⟩
    · have hq : lt ≠ n - 1 := fun z => q (decide_eq_true (by rw [z]))
      rw [if_neg hq] at k
      refine rd_rep (n := m.length) (by omega) (fun H1 e1 R r => ⟨_, rfl, t, _, dx, _, _, rfl, e1 _ _ ht, T.c.c_Trigger, T.c.a_Trigger_menu, rfl, x, _, dxm, _, _, rfl, e1 _ _ g1, T.c.c_Menu, T.c.a_Menu_lines, rfl, pl, _, rfl, .inl (SqL.of (e1 _ _ g2)), by rw [List.length_map, g3.len]; exact r⟩) fun H1 p e1 _ hp => ?_
      rw [← bV_rep] at hp
      exact k _ p e1 hp
def spReason (c : Cs) : Sp := fun vs H Q _ => ∃ (t dx pn po pk pr : Addr) (vm : V) (lt : Int) (n dead window most : Nat) (b : Bool) (kl : List Nat), vs = [.ref t, .int n, .bl b] ∧ H t = some (.ins c.trigger dx (trigV dead window most pn vm lt po pk pr)) ∧ H pk = some (.lst (vN kl)) ∧ kl.length ≤ 10000 ∧
  ∀ H', Same H H' → Q (.int (whyOf dead window most kl n b : Nat)) H'
theorem ok_reason_at (T : Txt K mg c) : Met P w K mg base CX0 1 c.trigger "reason_at" (spReason c) := by
  refine met_of0 T.c.c_Trigger T.m.m_Trigger_reason_at sc_Trigger_reason_at b_Trigger_reason_at (fun vs H Q E h => ?_) (fun f cdv A outer s H vs Q E hr h => ⟨_, (D_Trigger_reason_at T hr).2, ?_⟩)
  · obtain ⟨t, dx, pn, po, pk, pr, vm, lt, n, dead, window, most, b, kl, rfl, _⟩ := h
    rfl
  · obtain ⟨t, dx, pn, po, pk, pr, vm, lt, n, dead, window, most, b, kl, rfl, ht, hk, hl, k⟩ := h
    unfold whyOf at k
    refine ⟨_, rfl, _, rfl, ite2 (fun q => ?_) (fun q => ?_)⟩
    · have hb : b = false := by simpa using q
      rw [if_pos hb] at k
      exact k _ (Same.refl _)
    · have hb : ¬ b = false := fun z => q (by rw [z]; rfl)
      rw [if_neg hb] at k
      refine ⟨_, rfl, t, _, dx, _, _, rfl, ht, T.c.c_Trigger, T.c.a_Trigger_kept_times, rfl, pk, rfl, ⟨_, SqL.of hk⟩, fun D hD => lc_it (walk_list (xs := vN kl)) (fun i H' => Same H H' ∧ H' D = some (.lst (bV ((kl.take i).map fun k => decide (n < k + dead))))) ⟨Same.new hD, upd_same⟩ (fun i H' _ p => SqL.of (p.1 _ _ hk)) ?_ ?_⟩
      · rintro i v H1 H2 hi ⟨e1, h1⟩ ⟨rfl, hv⟩
        obtain ⟨y, hy, rfl⟩ := map_inv hv
        refine ⟨rfl, _, rfl, _, rfl, _, rfl, t, _, dx, _, _, rfl, e1 _ _ ht, T.c.c_Trigger, T.c.a_Trigger_dead, rfl, _, _, rfl, rfl, _, _, rfl, rfl, _, h1, ?_, e1.mut hD, ?_⟩
        · rw [bV_len, List.length_map, List.length_take]
          rw [vN_len] at hi
          show _ < 16777216
          omega
        · rw [upd_same, take_snoc hy, List.map_append, bV_app]
          have : decide ((n : Int) < (y : Int) + dead) = decide (n < y + dead) := decide_eq_decide.mpr (by omega)
          show some (HO.lst (_ ++ [V.bl (decide ((n : Int) < (y : Int) + dead))])) = _
          rw [this]
          rfl
      · rintro H1 ⟨e1, h1⟩
        rw [vN_len, List.take_length] at h1
        have ea : (kl.map fun k => decide (n < k + dead)).any id = kl.any fun k => decide (n < k + dead) := by rw [List.any_map]; rfl
        refine ⟨D, kl.map fun k => decide (n < k + dead), rfl, SqL.of h1, _, rfl, ite2 (fun q2 => ?_) (fun q2 => ?_)⟩
        · rw [ea] at q2
          rw [if_pos q2] at k
          exact k _ e1
        · rw [ea] at q2
          rw [if_neg q2] at k
          have hk1 := e1 _ _ hk
          have ht1 := e1 _ _ ht
          refine ⟨_, rfl, t, _, dx, _, _, rfl, ht1, T.c.c_Trigger, T.c.a_Trigger_kept_times, rfl, pk, rfl, ⟨_, SqL.of hk1⟩, fun F hF => lc_it (walk_list (xs := vN kl)) (fun i H' => Same H1 H' ∧ H' F = some (.lst (vN ((kl.take i).filter fun k => decide (n < k + window))))) ⟨Same.new hF, upd_same⟩ (fun i H' _ p => SqL.of (p.1 _ _ hk1)) ?_ ?_⟩
          · rintro i v H2 H3 hi ⟨e2, h2⟩ ⟨rfl, hv⟩
            obtain ⟨y, hy, rfl⟩ := map_inv hv
            have et : decide ((n : Int) < (y : Int) + window) = decide (n < y + window) := decide_eq_decide.mpr (by omega)
            refine ⟨rfl, _, rfl, _, rfl, _, rfl, t, _, dx, _, _, rfl, e2 _ _ ht1, T.c.c_Trigger, T.c.a_Trigger_window, rfl, _, _, rfl, rfl, _, _, rfl, rfl, _, rfl, ite2 (fun q3 => ?_) (fun q3 => ?_)⟩
            · rw [et] at q3
              refine ⟨_, rfl, _, h2, ?_, e2.mut hF, ?_⟩
              · rw [vN_len]
                rw [vN_len] at hi
                have := List.length_filter_le (fun k => decide (n < k + window)) (kl.take i)
                rw [List.length_take] at this
                show _ < 16777216
                omega
              · rw [upd_same, take_snoc hy, List.filter_append, vN_app, List.filter_cons, if_pos q3]
                rfl
            · rw [et] at q3
              refine ⟨e2, ?_⟩
              rw [take_snoc hy, List.filter_append, List.filter_cons, if_neg q3, List.filter_nil, List.append_nil]
              exact h2
          · rintro H2 ⟨e2, h2⟩
            rw [vN_len, List.take_length] at h2
            refine ⟨F, _, rfl, .inl (SqL.of h2), _, rfl, t, _, dx, _, _, rfl, e2 _ _ ht1, T.c.c_Trigger, T.c.a_Trigger_most, rfl, _, _, rfl, rfl, _, rfl, ite2 (fun q3 => ?_) (fun q3 => ?_)⟩
            · have q3 := of_decide_eq_true q3
              rw [vN_len] at q3
              rw [if_pos (by omega)] at k
              exact k _ (e1.trans e2)
            · have q3 : ¬ ((most : Int) ≤ (vN (kl.filter fun k => decide (n < k + window))).length) := fun z => q3 (decide_eq_true z)
              rw [vN_len] at q3
              rw [if_neg (by omega)] at k
              exact k _ (e1.trans e2)
end
end Ev
namespace Ev
open PySem PySem.Spec PyProof.Rows L2
open Sj25 (Count House)
/-! ### a heap without some -/
open Classical in
noncomputable def cut (W : Addr → Prop) (H : Hp) : Hp := fun y => if W y then none else H y
theorem cut_in {W : Addr → Prop} {H : Hp} {y : Addr} (h : W y) : cut W H y = none := if_pos h
theorem cut_out {W : Addr → Prop} {H : Hp} {y : Addr} (h : ¬ W y) : cut W H y = H y := if_neg h
theorem cut_same (W : Addr → Prop) (H : Hp) : Same (cut W H) H := fun y o h => by
  by_cases w : W y
  · rw [cut_in w] at h
    cases h
  · rw [cut_out w] at h
    exact h
theorem cut_mono {W : Addr → Prop} {H H' : Hp} (e : But W H H') : Same (cut W H) (cut W H') := fun y o h => by
  by_cases w : W y
  · rw [cut_in w] at h
    cases h
  · rw [cut_out w] at h ⊢
    exact e y o h w
theorem cut_le {W : Addr → Prop} {G H : Hp} (e : Same G H) (n : ∀ y, W y → G y = none) : Same G (cut W H) := fun y o h => by
  have w : ¬ W y := fun w => by rw [n y w] at h; cases h
  rw [cut_out w]
  exact e y o h
def Wd (F : Addr → Prop) (t pk pr : Addr) : Addr → Prop := fun y => F y ∨ y = t ∨ y = pk ∨ y = pr
/-- a house at t, away from F -/
structure HouseIn (c : Cs) (F : Addr → Prop) (H : Hp) (t pk pr : Addr) (h : House) : Prop where
  ex : ∃ (dx pn : Addr) (vm : V) (po : Addr), H t = some (.ins c.trigger dx (trigV h.dead h.window h.most pn vm (timeI h.time) po pk pr)) ∧ H pk = some (.lst (vN h.kept.reverse)) ∧ H pr = some (.lst (vN h.sums.tail)) ∧
    ¬ F t ∧ ¬ F pk ∧ ¬ F pr ∧ pk ≠ pr ∧ NetAt c.net (cut (Wd F t pk pr) H) pn h.net ∧ ObjsAt (cut (Wd F t pk pr) H) po h.seen ∧ MenuV c (cut (Wd F t pk pr) H) vm h
theorem HouseAt.in {c : Cs} {G H : Hp} {t : Addr} {h : House} {F : Addr → Prop} (x : HouseAt c G t h) (e : Same G H) (n : ∀ y, F y → G y = none) : ∃ pk pr, HouseIn c F H t pk pr h := by
  obtain ⟨dx, pn, vm, po, pk, pr, G2, h1, h2, h3, h4, h5, h6, h7, h8, h9, h10, h11⟩ := x.ex
  have nf : ∀ {y : Addr} {o : HO}, G y = some o → ¬ F y := fun {y o} hy hF => by rw [n y hF] at hy; cases hy
  have s2 : Same G2 (cut (Wd F t pk pr) H) := cut_le (h8.trans e) fun y hy => by
    rcases hy with hy | rfl | rfl | rfl
    · exact h8.free (n y hy)
    · exact h4
    · exact h5
    · exact h6
  refine ⟨pk, pr, dx, pn, vm, po, e _ _ h1, e _ _ h2, e _ _ h3, nf h1, nf h2, nf h3, h7, h9.same s2, h10.same s2, ?_⟩
  unfold MenuV at h11 ⊢
  cases hm : h.menu with
  | none => rw [hm] at h11; exact h11
  | some m =>
    rw [hm] at h11
    obtain ⟨x, b0, g1, g2, g3⟩ := h11
    exact ⟨x, b0, g1, g2.same s2, g3⟩
theorem MenuV.same {c : Cs} {G G' : Hp} {vm : V} {h : House} (s : Same G G') (x : MenuV c G vm h) : MenuV c G' vm h := by
  unfold MenuV at x ⊢
  cases hm : h.menu with
  | none => rw [hm] at x; exact x
  | some m =>
    rw [hm] at x
    obtain ⟨y, b0, g1, g2, g3⟩ := x
    exact ⟨y, b0, g1, g2.same s, g3⟩
theorem HouseIn.same {c : Cs} {F : Addr → Prop} {H H' : Hp} {t pk pr : Addr} {h : House} (e : Same H H') (x : HouseIn c F H t pk pr h) : HouseIn c F H' t pk pr h := by
  obtain ⟨dx, pn, vm, po, h1, h2, h3, h4, h5, h6, h7, h8, h9, h10⟩ := x.ex
  have s := cut_mono (W := Wd F t pk pr) (But.of e)
  exact ⟨dx, pn, vm, po, e _ _ h1, e _ _ h2, e _ _ h3, h4, h5, h6, h7, h8.same s, h9.same s, h10.same s⟩
section
variable {P : Program} {w : World} {K : PySem.W.Frag} {mg : Str → Option Value} {base : Heap} {c : Cs}
def spNoteEvent (c : Cs) : Sp := fun vs H Q _ => ∃ (t dx pn po pk pr p2 : Addr) (vm : V) (lt a b e : Int) (n wy r : Nat) (kl rl : List Nat), vs = [.ref t, .int n, .ref p2, .int wy] ∧ H t = some (.ins c.trigger dx (trigV a b e pn vm lt po pk pr)) ∧ H pk = some (.lst (vN kl)) ∧ H pr = some (.lst (vN rl)) ∧ pk ≠ pr ∧ kl.length ≤ 10000 ∧ rl[wy]? = some r ∧
  ∀ H', But (fun y => y = t ∨ y = pk ∨ y = pr) H H' → H' t = some (.ins c.trigger dx (trigV a b e pn vm n p2 pk pr)) → H' pr = some (.lst (vN (rl.set wy (Sj25.up r)))) → H' pk = some (.lst (vN (if wy = 0 then kl ++ [n] else kl))) → Q .non H'
theorem ok_note_event (T : Txt K mg c) : Met P w K mg base CX0 1 c.trigger "note_event" (spNoteEvent c) := by
  refine met_of0 T.c.c_Trigger T.m.m_Trigger_note_event sc_Trigger_note_event b_Trigger_note_event (fun vs H Q E h => ?_) (fun f cdv A outer s H vs Q E hr h => ⟨_, (D_Trigger_note_event T hr).2, ?_⟩)
  · obtain ⟨t, dx, pn, po, pk, pr, p2, vm, lt, a, b, e, n, wy, r, kl, rl, rfl, _⟩ := h
    rfl
  · obtain ⟨t, dx, pn, po, pk, pr, p2, vm, lt, a, b, e, n, wy, r, kl, rl, rfl, ht, hk, hrr, hne, hkl, hr0, k⟩ := h
    have pkt : pk ≠ t := ne_of hk ht (by intro z; cases z)
    have prt : pr ≠ t := ne_of hrr ht (by intro z; cases z)
    refine ⟨_, rfl, _, rfl, t, _, dx, _, rfl, ht, T.c.c_Trigger, T.c.a_Trigger_last_time, (by show 9 < 1000; decide), ?_⟩
    refine ⟨_, rfl, _, rfl, t, _, dx, _, rfl, upd_same, T.c.c_Trigger, T.c.a_Trigger_last_objects, (by show 9 < 1000; decide), ?_⟩
    have b2 := fun {o1 o2 : HO} => (but_fld (but_fld But.refl) : But (· = t) H (upd (upd H t o1) t o2))
    refine (fun (z : ∀ H2 : Hp, But (· = t) H H2 → H2 t = some (.ins c.trigger dx (trigV a b e pn vm n p2 pk pr)) → _) => z _ b2 upd_same) ?_
    intro H2 b2 h2
    have hk2 := b2 _ _ hk pkt
    have hr2 := b2 _ _ hrr prt
    have hwl : wy < rl.length := (List.getElem?_eq_some_iff.mp hr0).1
    refine ⟨_, rfl, t, _, dx, _, _, rfl, h2, T.c.c_Trigger, T.c.a_Trigger_reasons, rfl, _, rfl, pr, _, _, _, rfl, rfl, SqL.of hr2, atI_nat (map_at hr0), _, _, rfl, rfl, _, _, rfl, rfl, by show (0 : Int) < 18446744073709551616; decide, ?_⟩
    refine ⟨_, rfl, t, _, dx, _, _, rfl, h2, T.c.c_Trigger, T.c.a_Trigger_reasons, rfl, _, rfl, pr, _, _, wy, rfl, rfl, hr2, ?_, ?_⟩
    · exact Evl.ixN_nat (by rw [vN_len]; exact hwl)
    · have er : (((r : Nat) : Int) + 1) % 18446744073709551616 = ((Sj25.up r : Nat) : Int) := by
        unfold Sj25.up Sj25.W
        rw [Int.natCast_emod]
        rfl
      have el : (vN rl).set wy (V.int ((((r : Nat) : Int) + 1) % 18446744073709551616)) = vN (rl.set wy (Sj25.up r)) := by
        rw [er]
        exact List.map_set.symm
      have h3 : ∀ {o : HO}, upd H2 pr o t = some (.ins c.trigger dx (trigV a b e pn vm n p2 pk pr)) := fun {o} => by
        rw [upd_ne (Ne.symm prt)]
        exact h2
      have hk3 : ∀ {o : HO}, upd H2 pr o pk = some (.lst (vN kl)) := fun {o} => by
        rw [upd_ne hne]
        exact hk2
      have b3 : ∀ {o : HO}, But (fun y => y = t ∨ y = pk ∨ y = pr) H (upd H2 pr o) := fun {o} => but_in (b2.mono fun y z => .inl z) (.inr (.inr rfl))
      refine ⟨_, rfl, rfl, _, rfl, ite2 (fun q => ?_) (fun q => ?_)⟩
      · have hw0 : wy = 0 := by have := V.int.inj (of_decide_eq_true q); omega
        rw [if_pos hw0] at k
        refine ⟨_, rfl, t, _, dx, _, _, rfl, h3, T.c.c_Trigger, T.c.a_Trigger_kept_times, rfl, .inl ⟨rfl, _, SqL.of hk3⟩, _, rfl, pk, _, _, rfl, rfl, hk3, ?_, k _ (but_in b3 (.inr (.inl rfl))) ?_ ?_ ?_⟩
        · rw [vN_len]
          show kl.length < 16777216
          omega
        · rw [upd_ne (Ne.symm pkt)]
          exact h3
        · rw [upd_ne (Ne.symm hne), upd_same, ← el]
        · rw [upd_same, vN_app]
          rfl
      · have hw0 : ¬ wy = 0 := fun z => q (decide_eq_true (by rw [z]; rfl))
        rw [if_neg hw0] at k
        refine k _ b3 h3 ?_ hk3
        rw [upd_same, ← el]
end
end Ev
namespace Ev
open PySem PySem.Spec PyProof.Rows L2
open Sj25 (Count House)
/-! ### an event, in plain words -/
theorem whyOf_lt (dead window most : Nat) (kl : List Nat) (t : Nat) (b : Bool) : whyOf dead window most kl t b < 4 := by
  unfold whyOf
  split
  · decide
  · split
    · decide
    · split <;> decide
theorem why_lt (h : House) (t : Nat) (p : List Bool) : Sj25.why h t p < 4 := by
  rw [why_is]
  exact whyOf_lt ..
theorem up_small {n : Nat} (h : n ≤ 1000000) : Sj25.up n = n + 1 := by
  unfold Sj25.up
  exact Nat.mod_eq_of_lt (by show _ < 2 ^ 64; omega)
def befOf (h : House) (t : Nat) : List Bool := if h.time.any (fun k => k + 1 == t) then h.before else []
def scOf (h : House) (l : List Sj25.Thing) : Int := h.net.judge (Sj25.features h.net.shift l)
def rawOf (h : House) (m : List Sj25.Line) (t : Nat) (l : List Sj25.Thing) : List Bool := Sj25.raw m l (scOf h l) (befOf h t)
def pasOf (h : House) (m : List Sj25.Line) (t : Nat) (l : List Sj25.Thing) : List Bool := Sj25.passes m h.counts (rawOf h m t l)
def wOf (h : House) (m : List Sj25.Line) (t : Nat) (l : List Sj25.Thing) : Nat := Sj25.why h t (pasOf h m t l)
def nextOf (h : House) (m : List Sj25.Line) (t : Nat) (l : List Sj25.Thing) : House :=
  { h with counts := Sj25.counted h.counts (rawOf h m t l) (pasOf h m t l) (wOf h m t l == 0), time := some t, before := rawOf h m t l, kept := (if wOf h m t l = 0 then [t] else []) ++ h.kept, sums := h.sums.zipIdx.map fun y => if y.2 = 0 ∨ y.2 = wOf h m t l + 1 then Sj25.up y.1 else y.1, seen := l }
def ansOf (h : House) (m : List Sj25.Line) (t : Nat) (l : List Sj25.Thing) : List Int := [if wOf h m t l = 0 then 1 else 0, (Sj25.mask (rawOf h m t l) : Nat), (Sj25.mask (pasOf h m t l) : Nat), scOf h l, (wOf h m t l : Nat)]
theorem event_is (h : House) (m : List Sj25.Line) (t : Nat) (l : List Sj25.Thing) : (Sj25.event h m t l).1 = nextOf h m t l ∧ (Sj25.event h m t l).2.v :: (Sj25.event h m t l).2.l = ansOf h m t l := ⟨rfl, rfl⟩
theorem sums_next {a b d e : Nat} {wy : Nat} (hw : wy < 4) (hs : a + b + d + e ≤ 10000) : ∃ a' b' d' e' : Nat, ([a + b + d + e, a, b, d, e].zipIdx.map fun y => if y.2 = 0 ∨ y.2 = wy + 1 then Sj25.up y.1 else y.1) = [a' + b' + d' + e', a', b', d', e'] ∧ a' + b' + d' + e' = a + b + d + e + 1 ∧
    ∃ r, [a, b, d, e][wy]? = some r ∧ [a, b, d, e].set wy (Sj25.up r) = [a', b', d', e'] := by
  have u0 := up_small (n := a + b + d + e) (by omega)
  have ua := up_small (n := a) (by omega)
  have ub := up_small (n := b) (by omega)
  have ud := up_small (n := d) (by omega)
  have ue := up_small (n := e) (by omega)
  have h4 : wy = 0 ∨ wy = 1 ∨ wy = 2 ∨ wy = 3 := by omega
  rcases h4 with rfl | rfl | rfl | rfl
  · refine ⟨a + 1, b, d, e, ?_, by omega, a, rfl, by rw [ua]; rfl⟩
    show [Sj25.up (a + b + d + e), Sj25.up a, b, d, e] = _
    rw [u0, ua]
    congr 1
    omega
  · refine ⟨a, b + 1, d, e, ?_, by omega, b, rfl, by rw [ub]; rfl⟩
    show [Sj25.up (a + b + d + e), a, Sj25.up b, d, e] = _
    rw [u0, ub]
    congr 1
    omega
  · refine ⟨a, b, d + 1, e, ?_, by omega, d, rfl, by rw [ud]; rfl⟩
    show [Sj25.up (a + b + d + e), a, b, Sj25.up d, e] = _
    rw [u0, ud]
    congr 1
    omega
  · refine ⟨a, b, d, e + 1, ?_, by omega, e, rfl, by rw [ue]; rfl⟩
    show [Sj25.up (a + b + d + e), a, b, d, Sj25.up e] = _
    rw [u0, ue]
    congr 1
theorem upIf_le {b : Bool} {k n : Nat} (h : k ≤ n) (hn : n ≤ 10000) : upIf b k ≤ n + 1 := by
  unfold upIf
  split
  · rw [up_small (by omega)]
    omega
  · omega
theorem next_ok {h : House} {n : Nat} {m : List Sj25.Line} {t : Nat} {l : List Sj25.Thing} (ok : HouseOk h n) (hn : n < 10000) (hm : h.menu = some m) (ht : ThOk l) (hl : l.length ≤ 64) : HouseOk (nextOf h m t l) (n + 1) := by
  obtain ⟨m1, m2, m3⟩ := ok.me m hm
  refine ⟨hn, ok.net, ok.sh, ht, hl, ?_, ?_, fun z => ?_, fun m' hm' => ?_⟩
  · show ((if wOf h m t l = 0 then [t] else []) ++ h.kept).length ≤ n + 1
    have := ok.kl
    rw [List.length_append]
    split <;> simp <;> omega
  · obtain ⟨a, b, d, e, hs, hle⟩ := ok.sums
    obtain ⟨a', b', d', e', g1, g2, _⟩ := sums_next (a := a) (b := b) (d := d) (e := e) (why_lt h t (pasOf h m t l)) (by omega)
    refine ⟨a', b', d', e', ?_, by omega⟩
    rw [← g1, ← hs]
    rfl
  · rw [show (nextOf h m t l).menu = h.menu from rfl, hm] at z
    cases z
  · rw [show (nextOf h m t l).menu = h.menu from rfl, hm] at hm'
    obtain rfl := Option.some.inj hm'
    refine ⟨m1, by show (Sj25.counted _ _ _ _).length = _; rw [counted_len, m2], fun k hk => ?_⟩
    obtain ⟨i, hi⟩ := List.getElem?_of_mem hk
    obtain ⟨k0, g1, rfl⟩ := counted_at hi
    obtain ⟨q1, q2, q3⟩ := m3 k0 (List.mem_of_getElem? g1)
    exact ⟨upIf_le q1 (by omega), upIf_le q2 (by omega), upIf_le q3 (by omega)⟩
theorem bef_ok {h : House} {b0 : List Bool} {t n : Nat} (hb : BefOk b0 h.before) (hl : b0.length = n) : BefOk (if timeI h.time = (t : Int) - 1 then b0 else List.replicate n false) (befOf h t) ∧ (if timeI h.time = (t : Int) - 1 then b0 else List.replicate n false).length = n := by
  unfold befOf
  cases ht : h.time with
  | none =>
    have e : ¬ (timeI (none : Option Nat) = (t : Int) - 1) := by show ¬ ((-2 : Int) = (t : Int) - 1); omega
    rw [if_neg e]
    refine ⟨fun k hk => ?_, List.length_replicate⟩
    rw [List.length_replicate] at hk
    rw [List.getElem?_replicate, if_pos hk]
    rfl
  | some k =>
    by_cases e : timeI (some k) = (t : Int) - 1
    · rw [if_pos e]
      have : k + 1 = t := by have : (k : Int) = (t : Int) - 1 := e; omega
      have e2 : (some k).any (fun k => k + 1 == t) = true := by simpa using this
      rw [e2, if_pos rfl]
      exact ⟨hb, hl⟩
    · rw [if_neg e]
      have : k + 1 ≠ t := fun z => e (show (k : Int) = (t : Int) - 1 by omega)
      have e2 : (some k).any (fun k => k + 1 == t) = false := by simpa using this
      rw [e2]
      refine ⟨fun i hi => ?_, List.length_replicate⟩
      rw [List.length_replicate] at hi
      rw [List.getElem?_replicate, if_pos hi]
      rfl
theorem features_ok (s : Nat) (l : List Sj25.Thing) : (Sj25.features s l).length = 32 ∧ ∀ y ∈ Sj25.features s l, y ≤ 255 := by
  unfold Sj25.features
  refine ⟨?_, fun y hy => ?_⟩
  · simp [List.length_flatMap]
    rfl
  · obtain ⟨k, _, hk⟩ := List.mem_flatMap.mp hy
    obtain ⟨i, _, rfl⟩ := List.mem_map.mp hk
    exact Nat.min_le_left _ _
end Ev
namespace Ev
open PySem PySem.Spec PyProof.Rows L2
open Sj25 (Count House)
theorem FactsIn.le {C : Addr} {G G' H : Hp} {fa : Addr} {l : List Sj25.Thing} {z : Int} {bs now : List Bool} (e : But (· = fa) G G') (x : FactsIn C G' H fa l z bs now) : FactsIn C G H fa l z bs now := by
  obtain ⟨dx, pa, pn, pb, ph, H0, h1, h2, h3, h4, h5, h6, h7, h8, h9⟩ := x.ex
  exact ⟨dx, pa, pn, pb, ph, H0, h1, h2, h3, h4, h5, h6, h7, h8, e.trans h9⟩
theorem cut_but {S W : Addr → Prop} {H H' : Hp} (e : But S H H') : But S (cut W H) (cut W H') := fun y o h n => by
  by_cases w : W y
  · rw [cut_in w] at h
    cases h
  · rw [cut_out w] at h ⊢
    exact e y o h n
theorem NetAt.butS {S : Addr → Prop} {C : Addr} {G G' : Hp} {a : Addr} {n : Sj25.Net} (b : But S G G') (hS : ∀ y, S y → ∃ C dx f v fs, G y = some (.ins C dx ((f, v) :: fs)) ∧ f ≠ ("shift" : Str)) (h : NetAt C G a n) : NetAt C G' a n := by
  obtain ⟨dx, p1, p2, p3, h1, h2⟩ := h
  have ls : ∀ {y : Addr} {xs : List V}, G y = some (.lst xs) → G' y = some (.lst xs) := fun {y xs} hy => b y _ hy fun s => by
    obtain ⟨C, dx, f, v, fs, g, _⟩ := hS y s
    rw [hy] at g
    cases g
  refine ⟨dx, p1, p2, p3, b _ _ h1 fun s => ?_, ls h2.h1, ls h2.h2, ls h2.h3⟩
  obtain ⟨C', dx', f, v, fs, g, hf⟩ := hS _ s
  exact ins_ne g h1 hf rfl
/-- what a caller's heap keeps: F, and the desk -/
structure Kept (F : Addr → Prop) (H H' : Hp) : Prop where
  f : ∀ y, F y → H' y = H y
  d : ∀ y C dx v, H y = some (.ins C dx [("trigger", v)]) → H' y = some (.ins C dx [("trigger", v)])
theorem Kept.of {F : Addr → Prop} {H H' : Hp} (n : ∀ y, F y → H y ≠ none) (e : Same H H') : Kept F H H' :=
  ⟨fun y hy => by
    cases x : H y with
    | none => exact absurd x (n y hy)
    | some o => exact e y o x, fun y C dx v h => e _ _ h⟩
theorem Kept.trans {F : Addr → Prop} {H H1 H2 : Hp} (a : Kept F H H1) (b : Kept F H1 H2) : Kept F H H2 :=
  ⟨fun y hy => (b.f y hy).trans (a.f y hy), fun y C dx v h => b.d y C dx v (a.d y C dx v h)⟩
section
variable {P : Program} {w : World} {K : PySem.W.Frag} {mg : Str → Option Value} {base : Heap} {c : Cs}
def spDecide (c : Cs) : Sp := fun vs H Q _ => ∃ (t pk pr ol : Addr) (F : Addr → Prop) (h : House) (n time : Nat) (m : List Sj25.Line) (l : List Sj25.Thing), vs = [.ref t, .int time, .ref ol] ∧ HouseIn c F H t pk pr h ∧ HouseOk h n ∧ n < 10000 ∧ h.menu = some m ∧ ObjsAt H ol l ∧ ThOk l ∧ l.length ≤ 64 ∧
  ¬ F ol ∧ ol ≠ pk ∧ ol ≠ pr ∧ (∀ y, F y → ∃ o, H y = some o ∧ ∀ xs, o ≠ .tup xs) ∧
  ∀ H' r, Kept F H H' → (∀ y, F y → y ≠ r) → HouseIn c F H' t pk pr (nextOf h m time l) → H' r = some (.lst (vI (ansOf h m time l))) → Q (.ref r) H'
theorem ok_decide (T : Txt K mg c) : Met P w K mg base CX0 56 c.trigger "decide" (spDecide c) := by
  have GS : Met P w K mg base CX0 2 c.net "score_of" (spScore c.net) := ok_Net_score_of T
  have GF : Cal P w K mg base CX0 2 "features_of" spFeatures := ok_features_of T
  have GH : Met P w K mg base CX0 54 c.menu "all_held" (spAllHeld c.menu c.line c.facts) := ok_all_held T
  have GFa : Mak P w K mg base CX0 3 "Facts" c.facts (spFactsInit c.facts) := ok_Facts_init T
  have GL : Met P w K mg base CX0 1 c.trigger "lines_before" (spLinesBefore c) := ok_lines_before T
  have GP : Met P w K mg base CX0 1 c.menu "all_passing" (spAllPassing c.menu c.line) := ok_all_passing T
  have GR : Met P w K mg base CX0 1 c.trigger "reason_at" (spReason c) := ok_reason_at T
  have GN : Met P w K mg base CX0 1 c.menu "note" (spNote c.menu c.line) := ok_note T
  have GE : Met P w K mg base CX0 1 c.trigger "note_event" (spNoteEvent c) := ok_note_event T
  have GB : Cal P w K mg base CX0 1 "bits_of" spBits := ok_bits_of T
  refine met_of0 T.c.c_Trigger T.m.m_Trigger_decide sc_Trigger_decide b_Trigger_decide (fun vs H Q E h => ?_) (fun f cdv A outer s H vs Q E hr h => ⟨_, (D_Trigger_decide (j := 55) T GS (by decide) GF (by decide) GH (by decide) GFa (by decide) GL (by decide) GP (by decide) GR (by decide) GN (by decide) GE (by decide) GB (by decide) hr).2, ?_⟩)
  · obtain ⟨t, pk, pr, ol, F, h, n, time, m, l, rfl, _⟩ := h
    rfl
  · obtain ⟨t, pk, pr, ol, F, h, n, time, m, l, rfl, hI, hok, hn, hm, hO, hth, hl, hFo, hok1, hok2, hF, k⟩ := h
    obtain ⟨dx, pn, vm, po, h1, h2, h3, h4, h5, h6, h7, hNet, hOb, hMV⟩ := hI.ex
    have hW : ∀ y, Wd F t pk pr y → ∃ o, H y = some o ∧ ∀ xs, o ≠ .tup xs := by
      rintro y (hy | rfl | rfl | rfl)
      · exact hF y hy
      · exact ⟨_, h1, fun xs z => by cases z⟩
      · exact ⟨_, h2, fun xs z => by cases z⟩
      · exact ⟨_, h3, fun xs z => by cases z⟩
    have hMV0 := hMV
    unfold MenuV at hMV
    rw [hm] at hMV
    obtain ⟨x, b0, rfl, hMA, hMk, hbef, hb0⟩ := hMV
    obtain ⟨mk1, mk2, mk3⟩ := hok.me m hm
    obtain ⟨dxm, pl, pb, qs, g1, g2, g3, g4⟩ := hMA.ex
    have sW := cut_same (Wd F t pk pr) H
    have hNH := hNet.same sW
    obtain ⟨dxn, p1, p2, p3, hn1, hn2⟩ := hNH
    obtain ⟨fl, f255⟩ := features_ok h.net.shift l
    -- the score
    refine ⟨_, rfl, t, _, dx, _, _, rfl, h1, T.c.c_Trigger, T.c.a_Trigger_net, rfl, pn, dxn, _, rfl, hn1, rfl, _, rfl, _, rfl, t, _, dx, _, _, rfl, h1, T.c.c_Trigger, T.c.a_Trigger_net, rfl, pn, _, dxn, _, _, rfl, hn1, T.c.c_Net, T.c.a_Net_shift, rfl, ol, l, h.net.shift, rfl, hO, hl, fun H1 fv e1 _ hfv => ?_⟩
    refine ⟨pn, fv, h.net, _, rfl, ⟨dxn, p1, p2, p3, e1 _ _ hn1, hn2.same e1⟩, hok.net, hfv, fl, f255, fun H2 e2 => ?_⟩
    have e02 := e1.trans e2
    -- what held
    refine ⟨_, rfl, t, _, dx, _, _, rfl, e02 _ _ h1, T.c.c_Trigger, T.c.a_Trigger_menu, rfl, x, dxm, _, rfl, e02 _ _ (sW _ _ g1), rfl, _, rfl, _, rfl, _, rfl, t, dx, _, rfl, e02 _ _ h1, rfl, _, rfl, t, dx, pn, po, pk, pr, x, time, timeI h.time, _, _, _, m, h.counts, b0, rfl, e02 _ _ h1, (hMA.same sW).same e02, hMk.len, fun H3 pbl e3 hpbl => ?_⟩
    have e03 := e02.trans e3
    obtain ⟨hbo, hbl⟩ := bef_ok (t := time) hbef hb0
    revert hbo hbl hpbl
    generalize (if timeI h.time = (time : Int) - 1 then b0 else List.replicate m.length false) = bsv
    intro hpbl hbo hbl
    refine fun fa dxf hfa hdxf hne => ⟨fa, dxf, ol, pbl, scOf h l, l, bsv, rfl, upd_same, ?_, hl, hth, ?_, fun H4 b4 hFa => ⟨rfl, ?_⟩⟩
    · exact (hO.same e03).same (made_same hfa hdxf But.refl)
    · exact made_same hfa hdxf But.refl _ _ hpbl
    have e34 := made_same hfa hdxf b4
    have hFa3 : FactsIn c.facts H3 H4 fa l (scOf h l) bsv [] := hFa.le fun y o hy _ => made_same hfa hdxf But.refl y o hy
    refine ⟨x, fa, H3, l, scOf h l, bsv, befOf h time, m, h.counts, b0, rfl, hFa3, hfa, ((hMA.same sW).same e03), hMk, hth, hl, hbo, hbl, fun H5 ph e35 nph hph => ?_⟩
    have e05 := e03.trans e35
    have hph : H5 ph = some (.lst (bV (rawOf h m time l))) := hph
    have hrl : (rawOf h m time l).length = m.length := raw_len ..
    -- what passes
    refine ⟨_, rfl, t, _, dx, _, _, rfl, e05 _ _ h1, T.c.c_Trigger, T.c.a_Trigger_menu, rfl, x, dxm, _, rfl, e05 _ _ (sW _ _ g1), rfl, _, rfl, x, ph, m, h.counts, b0, rawOf h m time l, rfl, (hMA.same sW).same e05, hMk, hph, hrl, fun ct hct => by have := (mk3 ct hct).1; omega, fun H6 pp e56 npp hpp => ?_⟩
    have hpp : H6 pp = some (.lst (bV (pasOf h m time l))) := hpp
    have hpl : (pasOf h m time l).length = m.length := passes_len ..
    have e06 := e05.trans e56
    -- the reason
    refine ⟨_, rfl, t, dx, _, rfl, e06 _ _ h1, rfl, _, rfl, _, rfl, pp, pasOf h m time l, rfl, SqL.of hpp, t, dx, pn, po, pk, pr, _, timeI h.time, time, h.dead, h.window, h.most, _, h.kept.reverse, rfl, e06 _ _ h1, e06 _ _ h2, by rw [List.length_reverse]; have := hok.kl; omega, fun H7 e67 => ?_⟩
    rw [← why_is]
    have e07 := e06.trans e67
    -- the counts
    refine ⟨_, rfl, t, _, dx, _, _, rfl, e07 _ _ h1, T.c.c_Trigger, T.c.a_Trigger_menu, rfl, x, dxm, _, rfl, e07 _ _ (sW _ _ g1), rfl, _, rfl, _, rfl, _, rfl, rfl, ?_⟩
    have ek : decide (V.int ((wOf h m time l : Nat) : Int) = V.int 0) = (wOf h m time l == 0) := by
      rw [Bool.eq_iff_iff, decide_eq_true_iff, beq_iff_eq]
      exact ⟨fun z => by have := V.int.inj z; omega, fun z => by rw [z]; rfl⟩
    have hins : ∀ y, y = x ∨ y ∈ qs → ∃ C dx f v fs, H y = some (.ins C dx ((f, v) :: fs)) ∧ (f = "lines" ∨ f = "name") ∧ ¬ Wd F t pk pr y := by
      rintro y (rfl | hy)
      · exact ⟨_, _, _, _, _, sW _ _ g1, .inl rfl, fun w => by rw [cut_in w] at g1; cases g1⟩
      · obtain ⟨i, hi⟩ := List.getElem?_of_mem hy
        obtain ⟨l', k', _, _, g5⟩ := g3.at_ i y hi
        obtain ⟨dx', _, _, g6, _⟩ := g5.ex
        exact ⟨_, _, _, _, _, sW _ _ g6, .inr rfl, fun w => by rw [cut_in w] at g6; cases g6⟩
    refine ⟨x, ph, pp, dxm, pl, pb, qs, m, h.counts, rawOf h m time l, pasOf h m time l, _, rfl, e07 _ _ (sW _ _ g1), e07 _ _ (sW _ _ g2), (g3.same sW).same e07, (e56.trans e67) _ _ hph, e67 _ _ hpp, hrl, hpl, fun ct hct => ?_, fun H8 pb' b78 npb hx8 hpb8 hL8 => ?_⟩
    · obtain ⟨q1, q2, q3⟩ := mk3 ct hct
      have := hok.nn
      exact ⟨by omega, by omega, by omega⟩
    have hL8 : LnsAt c.line H8 qs m (Sj25.counted h.counts (rawOf h m time l) (pasOf h m time l) (wOf h m time l == 0)) := by
      rw [← ek]
      exact hL8
    have w8 : ∀ y o, Wd F t pk pr y → H y = some o → H8 y = some o := fun y o wy hy => b78 y o (e07 y o hy) fun s => by
      obtain ⟨_, _, _, _, _, _, _, nw⟩ := hins y s
      exact nw wy
    have t8 := w8 t _ (.inr (.inl rfl)) h1
    have k8 := w8 pk _ (.inr (.inr (.inl rfl))) h2
    have r8 := w8 pr _ (.inr (.inr (.inr rfl))) h3
    have l8 : ∀ {y : Addr} {xs : List V}, H7 y = some (.lst xs) → H8 y = some (.lst xs) := fun {y xs} hy => b78 y _ hy fun s => by
      obtain ⟨_, _, _, _, _, q1, _⟩ := hins y s
      rw [e07 _ _ q1] at hy
      cases hy
    obtain ⟨sa, sb, sd, se, hs, hle⟩ := hok.sums
    obtain ⟨a', b', d', e', u1, u2, r, u3, u4⟩ := sums_next (a := sa) (b := sb) (d := sd) (e := se) (why_lt h time (pasOf h m time l)) (by have := hok.nn; omega)
    have htl : h.sums.tail = [sa, sb, sd, se] := by rw [hs]; rfl
    refine ⟨_, rfl, t, dx, _, rfl, t8, rfl, _, rfl, _, rfl, _, rfl, t, dx, pn, po, pk, pr, ol, _, _, _, _, _, time, wOf h m time l, r, h.kept.reverse, [sa, sb, sd, se], rfl, t8, k8, by rw [← htl]; exact r8, h7, by rw [List.length_reverse]; have := hok.kl; omega, u3, fun H9 b89 t9 pr9 pk9 => ?_⟩
    -- the end
    have c89 : But (Wd F t pk pr) H8 H9 := b89.mono fun y z => .inr z
    have s89 : Same (cut (Wd F t pk pr) H8) (cut (Wd F t pk pr) H9) := cut_mono c89
    have np : ∀ {y : Addr} {xs : List V}, H y = none → H8 y = some (.lst xs) → H9 y = some (.lst xs) := fun {y xs} hn hy => b89 y _ hy fun s => by
      rcases s with rfl | rfl | rfl
      · rw [h1] at hn; cases hn
      · rw [h2] at hn; cases hn
      · rw [h3] at hn; cases hn
    have ph9 := np (e03.free nph) (l8 ((e56.trans e67) _ _ hph))
    have pp9 := np (e05.free npp) (l8 (e67 _ _ hpp))
    have tW8 : TupK H8 (cut (Wd F t pk pr) H8) := fun y xs hy => by
      by_cases wy : Wd F t pk pr y
      · obtain ⟨o, ho, hno⟩ := hW y wy
        rw [w8 y o wy ho] at hy
        exact absurd (Option.some.inj hy) (hno xs)
      · rw [cut_out wy]
        exact hy
    have s07 : Same (cut (Wd F t pk pr) H) (cut (Wd F t pk pr) H7) := cut_mono (But.of e07)
    have x8 : cut (Wd F t pk pr) H8 x = some (.ins c.menu dxm (menuV pl pb')) := by
      rw [cut_out (fun w => by obtain ⟨_, _, _, _, _, _, _, nw⟩ := hins x (.inl rfl); exact nw w)]
      exact hx8
    refine ⟨_, rfl, rfl, .inr ⟨_, rfl, _, rfl, ph, _, rfl, ph9, _, rfl, pp, _, rfl, pp9, _, rfl, _, rfl, by show 5 ≤ sizeLine; decide, fun rr hrr => k _ rr ?_ (fun y hy => ?_) (HouseIn.same (Same.new hrr) ?_) ?_⟩⟩
    · refine Kept.trans ?_ (Kept.of (fun y hy => ?_) (Same.new hrr))
      · refine Kept.trans (Kept.of (fun y hy => by obtain ⟨o, ho, _⟩ := hF y hy; rw [ho]; exact fun z => (nomatch z)) e07) ⟨fun y hy => ?_, fun y C dx v hy => ?_⟩
        · obtain ⟨o, ho, _⟩ := hF y hy
          rw [e07 _ _ ho]
          refine b89 y o (w8 y o (.inl hy) ho) ?_
          rintro (rfl | rfl | rfl)
          · exact h4 hy
          · exact h5 hy
          · exact h6 hy
        · refine b89 y _ (b78 y _ hy fun s => ?_) ?_
          · obtain ⟨C', dx', f, v', fs, q1, q2, _⟩ := hins y s
            refine ins_ne (e07 _ _ q1) hy ?_ rfl
            rcases q2 with rfl | rfl <;> decide
          · have hy8 : H7 y = some (.ins C dx [("trigger", v)]) := hy
            rintro (rfl | rfl | rfl)
            · exact ins_ne (e07 _ _ h1) hy8 (by decide) rfl
            · rw [e07 _ _ h2] at hy8
              cases hy8
            · rw [e07 _ _ h3] at hy8
              cases hy8
      · obtain ⟨o, ho, _⟩ := hF y hy
        rw [b89 y o (w8 y o (.inl hy) ho) (by
          rintro (rfl | rfl | rfl)
          · exact h4 hy
          · exact h5 hy
          · exact h6 hy)]
        exact fun z => (nomatch z)
    · obtain ⟨o, ho, _⟩ := hF y hy
      refine ne_of_none (b89 y o (w8 y o (.inl hy) ho) ?_) hrr
      rintro (rfl | rfl | rfl)
      · exact h4 hy
      · exact h5 hy
      · exact h6 hy
    · refine ⟨dx, pn, .ref x, ol, t9, ?_, ?_, h4, h5, h6, h7, ?_, ?_, ?_⟩
      · rw [pk9]
        show some (HO.lst (vN (if wOf h m time l = 0 then h.kept.reverse ++ [time] else h.kept.reverse))) = some (HO.lst (vN ((if wOf h m time l = 0 then [time] else []) ++ h.kept).reverse))
        split <;> simp
      · have u4' : [sa, sb, sd, se].set (wOf h m time l) (Sj25.up r) = [a', b', d', e'] := u4
        rw [pr9, u4']
        show some (HO.lst (vN [a', b', d', e'])) = some (HO.lst (vN (h.sums.zipIdx.map fun y => if y.2 = 0 ∨ y.2 = wOf h m time l + 1 then Sj25.up y.1 else y.1).tail))
        rw [hs]
        have u1' : ([sa + sb + sd + se, sa, sb, sd, se].zipIdx.map fun y => if y.2 = 0 ∨ y.2 = wOf h m time l + 1 then Sj25.up y.1 else y.1) = [a' + b' + d' + e', a', b', d', e'] := u1
        rw [u1']
        rfl
      · refine NetAt.same s89 ((hNet.same s07).butS (cut_but b78) fun y s => ?_)
        obtain ⟨C', dx', f, v', fs, q1, q2, nw⟩ := hins y s
        refine ⟨C', dx', f, v', fs, by rw [cut_out nw]; exact e07 _ _ q1, ?_⟩
        rcases q2 with rfl | rfl <;> decide
      · have hO7 := hO.same e07
        obtain ⟨os, o1, o2, o3⟩ := hO7
        have nW : ¬ Wd F t pk pr ol := by
          rintro (z | z | z | z)
          · exact hFo z
          · obtain ⟨_, o0, _⟩ := hO
            rw [z, h1] at o0
            cases o0
          · exact hok1 z
          · exact hok2 z
        refine RawAt.same s89 ⟨os, ?_, o2, fun i q hq => ?_⟩
        · rw [cut_out nW]
          exact l8 o1
        · obtain ⟨tt, o4, o5⟩ := o3 i q hq
          refine ⟨tt, o4, tW8 _ _ (b78 q _ o5 fun s => ?_)⟩
          obtain ⟨_, _, _, _, _, q1, _⟩ := hins q s
          have o6 := o5
          unfold TriAt at o6
          rw [e07 _ _ q1] at o6
          cases o6
      · unfold MenuV
        rw [show (nextOf h m time l).menu = h.menu from rfl, hm]
        refine ⟨x, rawOf h m time l, rfl, MenuAt.same s89 ⟨dxm, pl, pb', qs, x8, ?_, hL8.keep (fun q hq dx' fs hd => ?_) tW8, ?_⟩, hMk, fun i hi => ?_, hrl⟩
        · have g2' := s07 _ _ g2
          refine cut_but b78 pl _ g2' fun s => ?_
          obtain ⟨_, _, _, _, _, q1, _⟩ := hins pl s
          rw [sW _ _ g2] at q1
          cases q1
        · rw [cut_out (fun w => by obtain ⟨_, _, _, _, _, _, _, nw⟩ := hins q (.inr hq); exact nw w)]
          exact hd
        · rw [cut_out (fun w => by obtain ⟨o, ho, _⟩ := hW _ w; rw [e07 _ _ ho] at npb; cases npb)]
          exact hpb8
        · show (rawOf h m time l)[i]? = some ((rawOf h m time l).getD i false)
          rw [List.getD_eq_getElem?_getD, List.getElem?_eq_getElem hi]
          rfl
    · rw [upd_same]
      show some (HO.lst [V.int (if decide (V.int ((wOf h m time l : Nat) : Int) = V.int 0) = true then 1 else 0), .int (Sj25.mask (rawOf h m time l) : Nat), .int (Sj25.mask (pasOf h m time l) : Nat), .int (scOf h l), .int (wOf h m time l : Nat)]) = _
      rw [ek]
      have : (if (wOf h m time l == 0) = true then (1 : Int) else 0) = if wOf h m time l = 0 then 1 else 0 := by
        by_cases z : wOf h m time l = 0
        · rw [if_pos z, if_pos (by rw [z]; rfl)]
        · rw [if_neg z, if_neg (by simpa using z)]
      rw [this]
      rfl
end
end Ev
namespace Ev
open PySem PySem.Spec PyProof.Rows L2
open Sj25 (Count House isIn)
/-! ### what is asked -/
def RowsAt (H : Hp) (p : Addr) (rows : List (List Int)) : Prop := ∃ qs : List Addr, H p = some (.lst (qs.map V.ref)) ∧ qs.length = rows.length ∧ ∀ (i : Nat) (q : Addr), qs[i]? = some q → ∃ r, rows[i]? = some r ∧ H q = some (.lst (vI r))
def DeskAt (c : Cs) (F : Addr → Prop) (H : Hp) (d : Addr) : Sj25.State → Prop
  | none => ∃ ddx : Addr, H d = some (.ins c.desk ddx [("trigger", .non)])
  | some h => ∃ ddx t pk pr : Addr, H d = some (.ins c.desk ddx [("trigger", .ref t)]) ∧ HouseIn c F H t pk pr h
theorem DeskAt.same {c : Cs} {F : Addr → Prop} {H H' : Hp} {d : Addr} {st : Sj25.State} (e : Same H H') (h : DeskAt c F H d st) : DeskAt c F H' d st := by
  cases st with
  | none =>
    obtain ⟨ddx, h1⟩ := h
    exact ⟨ddx, e _ _ h1⟩
  | some h0 =>
    obtain ⟨ddx, t, pk, pr, h1, h2⟩ := h
    exact ⟨ddx, t, pk, pr, e _ _ h1, h2.same e⟩
def FOk (F : Addr → Prop) (H : Hp) : Prop := ∀ y, F y → ∃ o, H y = some o ∧ (∀ xs, o ≠ .tup xs) ∧ ∀ C dx fs, o ≠ .ins C dx fs
theorem FOk.kept {F : Addr → Prop} {H H' : Hp} {r : Addr} (f : FOk F H) (e : Same H H') (nr : H r = none) : ∀ y, F y → H' y = H y ∧ y ≠ r := fun y hy => by
  obtain ⟨o, ho, _⟩ := f y hy
  exact ⟨by rw [e _ _ ho, ho], ne_of_none ho nr⟩
def StOk : Sj25.State → Nat → Prop
  | none, n => n ≤ 10000
  | some h, n => HouseOk h n
def ansL (st : Sj25.State) (cl : Sj25.Call) : List Int := (Sj25.step st cl).2.v :: (Sj25.step st cl).2.l
/-- what a deed answers -/
def spAsk (c : Cs) (ok : List Int → List (List Int) → Sj25.Call → Prop) (need : Bool) : Sp := fun vs H Q _ => ∃ (d pn pr : Addr) (F : Addr → Prop) (st : Sj25.State) (n : Nat) (nums : List Int) (rows : List (List Int)) (cl : Sj25.Call), vs = [.ref d, .ref pn, .ref pr] ∧ H pn = some (.lst (vI nums)) ∧ RowsAt H pr rows ∧ FOk F H ∧ ¬ F d ∧
  DeskAt c F H d st ∧ StOk st n ∧ n < 10000 ∧ ok nums rows cl ∧ (need = true → st ≠ none) ∧ (ansL st cl).length ≤ 1000000 ∧
  ∀ H' r, (∀ y, F y → H' y = H y ∧ y ≠ r) → DeskAt c F H' d (Sj25.step st cl).1 → H' r = some (.lst (vI (ansL st cl))) → Q (.ref r) H'
section
variable {P : Program} {w : World} {K : PySem.W.Frag} {mg : Str → Option Value} {base : Heap} {c : Cs}
def spWithin : Sp := fun vs H Q _ => ∃ i l m : Int, vs = [.int i, .int l, .int m] ∧ Q (.bl (isIn l m i)) H
theorem ok_is_within (T : Txt K mg c) : Cal P w K mg base CX0 1 "is_within" spWithin := by
  refine cal_of0 T.f.f_is_within sc_is_within b_is_within (fun vs H Q E h => ?_) (fun f cdv A outer s H vs Q E hr h => ⟨_, (D_is_within T hr).2, ?_⟩)
  · obtain ⟨i, j, m, rfl, _⟩ := h
    rfl
  · obtain ⟨i, l, m, rfl, k⟩ := h
    unfold isIn at k
    refine ⟨_, rfl, _, rfl, _, _, rfl, rfl, _, rfl, ite2 (fun q => ?_) (fun q => ?_)⟩
    · rw [q, Bool.true_and] at k
      exact ⟨_, rfl, _, _, rfl, rfl, k⟩
    · rw [Bool.eq_false_iff.mpr q, Bool.false_and] at k
      exact k
def spAreWithin : Sp := fun vs H Q _ => ∃ (a : Addr) (xs : List Int) (l m : Int), vs = [.ref a, .int l, .int m] ∧ H a = some (.lst (vI xs)) ∧ xs.length ≤ 100000 ∧ ∀ H', Same H H' → Q (.bl (xs.all (isIn l m))) H'
theorem ok_are_within (T : Txt K mg c) : Cal P w K mg base CX0 1 "are_within" spAreWithin := by
  refine cal_of0 T.f.f_are_within sc_are_within b_are_within (fun vs H Q E h => ?_) (fun f cdv A outer s H vs Q E hr h => ⟨_, (D_are_within T hr).2, ?_⟩)
  · obtain ⟨a, xs, l, m, rfl, _⟩ := h
    rfl
  · obtain ⟨a, xs, l, m, rfl, ha, hl, k⟩ := h
    refine ⟨_, rfl, a, rfl, ⟨_, SqL.of ha⟩, fun D hD => lc_it (walk_list (xs := vI xs)) (fun i H' => Same H H' ∧ H' D = some (.lst (bV ((xs.take i).map (isIn l m))))) ⟨Same.new hD, upd_same⟩ (fun i H' _ p => SqL.of (p.1 _ _ ha)) ?_ ?_⟩
    · rintro i v H1 H2 hi ⟨e1, h1⟩ ⟨rfl, hv⟩
      obtain ⟨y, hy, rfl⟩ := map_inv hv
      have hi' : i < xs.length := (List.getElem?_eq_some_iff.mp hy).1
      have fin : ∀ b : Bool, b = isIn l m y → ∃ acc, H2 D = some (.lst acc) ∧ acc.length < sizeLine ∧ Same H (upd H2 D (.lst (acc ++ [.bl b]))) ∧ upd H2 D (.lst (acc ++ [.bl b])) D = some (.lst (bV ((xs.take (i + 1)).map (isIn l m)))) := by
        rintro b rfl
        refine ⟨_, h1, ?_, e1.mut hD, ?_⟩
        · rw [bV_len, List.length_map, List.length_take]
          show _ < 16777216
          omega
        · rw [upd_same, take_snoc hy, List.map_append, bV_app]
          rfl
      refine ⟨rfl, _, rfl, _, rfl, _, _, rfl, rfl, _, rfl, ite2 (fun q => ?_) (fun q => ?_)⟩
      · exact ⟨_, rfl, _, _, rfl, rfl, fin _ (by unfold isIn; rw [q, Bool.true_and])⟩
      · exact fin _ (by unfold isIn; rw [Bool.eq_false_iff.mpr q, Bool.false_and])
    · rintro H1 ⟨e1, h1⟩
      rw [show (vI xs).length = xs.length from List.length_map _, List.take_length] at h1
      refine ⟨D, xs.map (isIn l m), rfl, SqL.of h1, ?_⟩
      rw [List.all_map]
      exact k _ e1
def spIsObject : Sp := fun vs H Q _ => ∃ (q : Addr) (a b d : Int), vs = [.ref q] ∧ H q = some (.tup [.int a, .int b, .int d]) ∧ Q (.bl (isIn 0 7 a && isIn 0 65535 b && isIn 0 1023 d)) H
theorem ok_is_object (T : Txt K mg c) : Cal P w K mg base CX0 2 "is_object" spIsObject := by
  have GW : Cal P w K mg base CX0 1 "is_within" spWithin := ok_is_within T
  refine cal_of0 T.f.f_is_object sc_is_object b_is_object (fun vs H Q E h => ?_) (fun f cdv A outer s H vs Q E hr h => ⟨_, (D_is_object T GW (by decide) hr).2, ?_⟩)
  · obtain ⟨q, a, b, d, rfl, _⟩ := h
    rfl
  · obtain ⟨q, a, b, d, rfl, hq, k⟩ := h
    refine ⟨_, rfl, q, _, rfl, SqT.of hq, rfl, _, _, rfl, _, _, rfl, _, _, rfl, rfl, ?_⟩
    refine ⟨_, rfl, _, _, rfl, rfl, a, 0, 7, rfl, _, rfl, ite2 (fun q1 => ?_) (fun q1 => ?_)⟩
    · rw [q1, Bool.true_and] at k
      refine ⟨_, rfl, b, 0, 65535, rfl, _, rfl, ite2 (fun q2 => ?_) (fun q2 => ?_)⟩
      · rw [q2, Bool.true_and] at k
        exact ⟨_, rfl, _, _, rfl, rfl, d, 0, 1023, rfl, k⟩
      · rw [Bool.eq_false_iff.mpr q2, Bool.false_and] at k
        exact k
    · rw [Bool.eq_false_iff.mpr q1, Bool.false_and, Bool.false_and] at k
      exact k
end
end Ev
namespace Ev
open PySem PySem.Spec PyProof.Rows L2
open Sj25 (Count House isIn)
theorem vI_at {l : List Int} {i : Nat} {z : Int} (h : l[i]? = some z) : (vI l)[i]? = some (.int z) := by
  unfold vI
  rw [List.getElem?_map, h]
  rfl
/-- a list of few numbers is answered -/
theorem lst_few {H : Hp} {Q : VK} {zs : List Int} (h : zs.length ≤ 100) (k : ∀ H' r, Same H H' → H r = none → H' r = some (.lst (vI zs)) → Q (.ref r) H') : (zs.map V.int).length ≤ sizeLine ∧ ∀ p, H p = none → Q (.ref p) (upd H p (.lst (zs.map V.int))) :=
  ⟨by rw [List.length_map]; show _ ≤ 16777216; omega, fun p hp => k _ p (Same.new hp) hp upd_same⟩
section
variable {P : Program} {w : World} {K : PySem.W.Frag} {mg : Str → Option Value} {base : Heap} {c : Cs}
def okOpen : List Int → List (List Int) → Sj25.Call → Prop := fun nums _ cl => ∃ a b e : Int, nums = [a, b, e] ∧ cl = .open_ a b e
theorem ok_ask_open (T : Txt K mg c) : Cal P w K mg base CX0 5 "ask_open" (spAsk c okOpen false) := by
  have GW : Cal P w K mg base CX0 1 "is_within" spWithin := ok_is_within T
  have GT : Mak P w K mg base CX0 3 "Trigger" c.trigger (spTrigInit c) := ok_Trigger_init T
  refine cal_of0 T.f.f_ask_open sc_ask_open b_ask_open (fun vs H Q E h => ?_) (fun f cdv A outer s H vs Q E hr h => ⟨_, (D_ask_open T GW (by decide) GT (by decide) hr).2, ?_⟩)
  · obtain ⟨d, pn, pr, F, st, n, nums, rows, cl, rfl, _⟩ := h
    rfl
  · obtain ⟨d, pn, pr, F, st, n, nums, rows, cl, rfl, hn, hR, hF, hFd, hD, hSt, hnn, ⟨a, b, e, rfl, rfl⟩, _, _, k⟩ := h
    refine ⟨_, rfl, pn, _, rfl, SqL.of hn, rfl, _, _, rfl, _, _, rfl, _, _, rfl, rfl, ?_⟩
    have bad : (!isIn 0 65535 a || !isIn 1 65535 b || !isIn 1 64 e) = true → (tRet (tLst (tCons (tC (.int (-2))) tNil))) { nx := fun _ H' => Q .non H', rt := Q } [some (.ref d), some (.ref pn), some (.ref pr), some (.int a), some (.int b), some (.int e)] H := fun h0 => by
      have e1 : Sj25.step st (.open_ a b e) = (st, Sj25.just (-2)) := if_pos h0
      unfold ansL at k
      rw [e1] at k
      exact lst_few (zs := [-2]) (by decide) fun H' r e2 nr hr => k H' r (hF.kept e2 nr) (hD.same e2) hr
    refine ⟨_, rfl, a, 0, 65535, rfl, _, rfl, ite2 (fun q1 => ite_yes rfl (bad ?_)) (fun q1 => ?_)⟩
    · rw [q1, Bool.true_or, Bool.true_or]
    refine ⟨_, rfl, b, 1, 65535, rfl, _, rfl, ite2 (fun q2 => ite_yes rfl (bad ?_)) (fun q2 => ?_)⟩
    · rw [q2, Bool.or_true, Bool.true_or]
    refine ⟨_, rfl, e, 1, 64, rfl, _, rfl, ite2 (fun q3 => bad ?_) (fun q3 => ?_)⟩
    · rw [q3, Bool.or_true]
    have q1 : isIn 0 65535 a = true := by simpa using q1
    have q2 : isIn 1 65535 b = true := by simpa using q2
    have q3 : isIn 1 64 e = true := by simpa using q3
    have e1 : Sj25.step st (.open_ a b e) = (some (house0 a.toNat b.toNat e.toNat), Sj25.just 0) := if_neg (by rw [q1, q2, q3]; decide)
    unfold ansL at k
    rw [e1] at k
    have na : ((a.toNat : Nat) : Int) = a := by unfold isIn at q1; simp at q1; omega
    have nb : ((b.toNat : Nat) : Int) = b := by unfold isIn at q2; simp at q2; omega
    have ne : ((e.toNat : Nat) : Int) = e := by unfold isIn at q3; simp at q3; omega
    have hd : ∃ ddx v, H d = some (.ins c.desk ddx [("trigger", v)]) := by
      cases st with
      | none => obtain ⟨ddx, h1⟩ := hD; exact ⟨ddx, _, h1⟩
      | some h0 => obtain ⟨ddx, t, pk, pr, h1, _⟩ := hD; exact ⟨ddx, _, h1⟩
    obtain ⟨ddx, v, hd⟩ := hd
    refine ⟨_, rfl, _, rfl, _, rfl, fun t dx ht hdx hne => ⟨t, dx, a.toNat, b.toNat, e.toNat, by rw [na, nb, ne], upd_same, fun H1 G b1 hH sG nG => ⟨rfl, ?_⟩⟩⟩
    have s1 : Same H H1 := made_same ht hdx b1
    have td : t ≠ d := (ne_of_none hd ht).symm
    refine ⟨_, rfl, d, _, ddx, _, rfl, s1 _ _ hd, T.c.c_Desk, T.c.a_Desk_trigger, (by show 1 < 1000; decide), ?_⟩
    have nF : ∀ y, F y → G y = none := fun y hy => by
      obtain ⟨o, ho, _⟩ := hF y hy
      refine nG y (ne_of_none ho ht) ?_
      rw [made_same (o := .ins c.trigger dx []) ht hdx But.refl _ _ ho]
      exact fun z => (nomatch z)
    have nd : G d = none := nG d (Ne.symm td) (by rw [made_same (o := .ins c.trigger dx []) ht hdx But.refl _ _ hd]; exact fun z => (nomatch z))
    refine lst_few (zs := [0]) (by decide) fun H' r e2 nr hr => k H' r (fun y hy => ?_) ?_ hr
    · obtain ⟨o, ho, _⟩ := hF y hy
      have yd : y ≠ d := fun z => hFd (z ▸ hy)
      have hy2 : upd H1 d (.ins c.desk ddx [("trigger", .ref t)]) y = some o := by rw [upd_ne yd]; exact s1 _ _ ho
      exact ⟨by rw [e2 y o hy2, ho], ne_of_none hy2 nr⟩
    · obtain ⟨pk, pr', hI⟩ := hH.in (H := upd H1 d (.ins c.desk ddx [("trigger", .ref t)])) (F := F) (fun y o hy => by
        rw [upd_ne (ne_of_none hy nd)]
        exact sG y o hy) nF
      exact ⟨ddx, t, pk, pr', e2 _ _ upd_same, hI.same e2⟩
def okCounts : List Int → List (List Int) → Sj25.Call → Prop := fun nums _ cl => ∃ k : Int, nums = [k] ∧ cl = .counts k
theorem ok_ask_counts (T : Txt K mg c) : Cal P w K mg base CX0 2 "ask_counts" (spAsk c okCounts true) := by
  have GH : Met P w K mg base CX0 1 c.trigger "has_line" (spHasLine c) := ok_has_line T
  refine cal_of0 T.f.f_ask_counts sc_ask_counts b_ask_counts (fun vs H Q E h => ?_) (fun f cdv A outer s H vs Q E hr h => ⟨_, (D_ask_counts T GH (by decide) hr).2, ?_⟩)
  · obtain ⟨d, pn, pr, F, st, n, nums, rows, cl, rfl, _⟩ := h
    rfl
  · obtain ⟨d, pn, pr, F, st, n, nums, rows, cl, rfl, hn, hR, hF, hFd, hD, hSt, hnn, ⟨i, rfl, rfl⟩, hneed, _, k⟩ := h
    cases st with
    | none => exact absurd rfl (hneed rfl)
    | some h =>
      obtain ⟨ddx, t, pk, pr', hd, hI⟩ := hD
      have hD0 : DeskAt c F H d (some h) := ⟨ddx, t, pk, pr', hd, hI⟩
      have hok : HouseOk h n := hSt
      obtain ⟨dx, pnet, vm, po, h1, h2, h3, h4, h5, h6, h7, hNet, hOb, hMV⟩ := hI.ex
      have hMV := hMV.same (cut_same _ H)
      have hMV0 := hMV
      unfold ansL at k
      refine ⟨_, rfl, d, _, ddx, _, _, rfl, hd, T.c.c_Desk, T.c.a_Desk_trigger, rfl, t, dx, _, rfl, h1, rfl, _, rfl, pn, _, _, _, rfl, rfl, SqL.of hn, atI_nat (j := 0) rfl, t, dx, pnet, po, pk, pr', vm, i, _, _, _, _, h, rfl, h1, hMV0, _, rfl, ite2 (fun q => ?_) (fun q => ?_)⟩
      · have hb : hasB h i = false := by simpa using q
        have e1 : Sj25.step (some h) (.counts i) = (some h, Sj25.just (-2)) := by
          show ((some (Sj25.on h (.counts i)).1, (Sj25.on h (.counts i)).2) : Sj25.State × Sj25.Ans) = _
          have : Sj25.on h (.counts i) = (h, Sj25.just (-2)) := by
            unfold Sj25.on
            refine if_pos ?_
            unfold hasB at hb
            cases hm : h.menu with
            | none =>
              rw [hok.no hm]
              unfold isIn Sj25.nat
              simp
              omega
            | some m =>
              rw [hm] at hb
              dsimp only at hb
              rw [(hok.me m hm).2.1]
              unfold isIn Sj25.nat
              simp at hb ⊢
              omega
          rw [this]
        rw [e1] at k
        exact lst_few (zs := [-2]) (by decide) fun H' r e2 nr hr => k H' r (hF.kept e2 nr) (hD0.same e2) hr
      · have hb : hasB h i = true := by simpa using q
        unfold hasB at hb
        unfold MenuV at hMV
        cases hm : h.menu with
        | none => rw [hm] at hb; cases hb
        | some m =>
          rw [hm] at hb hMV
          dsimp only at hb hMV
          obtain ⟨x, b0, rfl, hMA, hMk, _, _⟩ := hMV
          obtain ⟨dxm, pl, pb, qs, g1, g2, g3, g4⟩ := hMA.ex
          simp only [Bool.and_eq_true, decide_eq_true_eq] at hb
          obtain ⟨j, rfl⟩ := Int.eq_ofNat_of_zero_le hb.1
          have hj : j < m.length := by omega
          obtain ⟨q, hqj⟩ : ∃ q, qs[j]? = some q := ⟨_, List.getElem?_eq_getElem (by rw [g3.len]; exact hj)⟩
          obtain ⟨ln, ct, hln, hct, hL⟩ := g3.at_ j q hqj
          obtain ⟨dxl, pnm, pc, l1, l2, l3⟩ := hL.ex
          have e1 : Sj25.step (some h) (.counts (j : Nat)) = (some h, ⟨0, [Sj25.nat ct.raw, Sj25.nat ct.passed, Sj25.nat ct.kept]⟩) := by
            show ((some (Sj25.on h (.counts (j : Nat))).1, (Sj25.on h (.counts (j : Nat))).2) : Sj25.State × Sj25.Ans) = _
            have : Sj25.on h (.counts (j : Nat)) = (h, ⟨0, [Sj25.nat ct.raw, Sj25.nat ct.passed, Sj25.nat ct.kept]⟩) := by
              unfold Sj25.on
              have hin : ¬ ((!isIn 0 (Sj25.nat h.counts.length - 1) ((j : Nat) : Int)) = true) := by
                rw [(hok.me m hm).2.1]
                unfold isIn Sj25.nat
                simp
                omega
              refine (if_neg hin).trans ?_
              have : h.counts.getD ((j : Nat) : Int).toNat ⟨0, 0, 0⟩ = ct := by
                rw [Int.toNat_natCast, List.getD_eq_getElem?_getD, hct]
                rfl
              rw [this]
            rw [this]
          rw [e1] at k
          refine ⟨_, rfl, d, _, ddx, _, _, rfl, hd, T.c.c_Desk, T.c.a_Desk_trigger, rfl, t, _, dx, _, _, rfl, h1, T.c.c_Trigger, T.c.a_Trigger_menu, rfl, x, _, dxm, _, _, rfl, g1, T.c.c_Menu, T.c.a_Menu_lines, rfl, _, rfl, pn, _, _, _, rfl, rfl, SqL.of hn, atI_nat (j := 0) rfl, pl, _, _, _, rfl, rfl, SqL.of g2, atI_nat (map_at hqj), ?_⟩
          exact ⟨_, rfl, q, _, dxl, _, _, rfl, l1, T.c.c_Line, T.c.a_Line_held, rfl, _, rfl, q, _, dxl, _, _, rfl, l1, T.c.c_Line, T.c.a_Line_passed, rfl, _, rfl, q, _, dxl, _, _, rfl, l1, T.c.c_Line, T.c.a_Line_kept, rfl,
            lst_few (zs := [0, (ct.raw : Nat), (ct.passed : Nat), (ct.kept : Nat)]) (by show 4 ≤ 100; decide) fun H' r e2 nr hr => k H' r (hF.kept e2 nr) (hD0.same e2) hr⟩
end
end Ev
namespace Ev
open PySem PySem.Spec PyProof.Rows L2
open Sj25 (Count House isIn)
theorem numOk_mono {i n : Nat} (hin : i ≤ n) : ∀ c : Sj25.Cond, NumOk i c → NumOk n c
  | .many _ _ _, h => h
  | .all _ _, h => h
  | .near _ _ _, h => h
  | .judge _, h => h
  | .holds _, h => Nat.lt_of_lt_of_le h hin
  | .held _, h => Nat.lt_of_lt_of_le h hin
  | .not c, h => numOk_mono hin c h
  | .and a b, h => ⟨numOk_mono hin a h.1, numOk_mono hin b h.2⟩
  | .or a b, h => ⟨numOk_mono hin a h.1, numOk_mono hin b h.2⟩
section
variable {P : Program} {w : World} {K : PySem.W.Frag} {mg : Str → Option Value} {base : Heap} {c : Cs}
def okSums : List Int → List (List Int) → Sj25.Call → Prop := fun _ _ cl => cl = .sums
theorem ok_ask_sums (T : Txt K mg c) : Cal P w K mg base CX0 1 "ask_sums" (spAsk c okSums true) := by
  refine cal_of0 T.f.f_ask_sums sc_ask_sums b_ask_sums (fun vs H Q E h => ?_) (fun f cdv A outer s H vs Q E hr h => ⟨_, (D_ask_sums T hr).2, ?_⟩)
  · obtain ⟨d, pn, pr, F, st, n, nums, rows, cl, rfl, _⟩ := h
    rfl
  · obtain ⟨d, pn, pr, F, st, n, nums, rows, cl, rfl, hn, hR, hF, hFd, hD, hSt, hnn, hcl, hneed, _, k⟩ := h
    obtain rfl : cl = .sums := hcl
    cases st with
    | none => exact absurd rfl (hneed rfl)
    | some h =>
      obtain ⟨ddx, t, pk, pr', hd, hI⟩ := hD
      have hD0 : DeskAt c F H d (some h) := ⟨ddx, t, pk, pr', hd, hI⟩
      have hok : HouseOk h n := hSt
      obtain ⟨dx, pnet, vm, po, h1, h2, h3, _⟩ := hI.ex
      obtain ⟨sa, sb, sd, se, hs, hle⟩ := hok.sums
      have htl : h.sums.tail = [sa, sb, sd, se] := by rw [hs]; rfl
      rw [htl] at h3
      have e1 : Sj25.step (some h) .sums = (some h, ⟨0, [sa + sb + sd + se, sa, sb, sd, se].map Sj25.nat⟩) := by
        rw [← hs]
        rfl
      unfold ansL at k
      rw [e1] at k
      have hns : vN [sa, sb, sd, se] = vI [(sa : Int), sb, sd, se] := rfl
      refine ⟨_, rfl, d, _, ddx, _, _, rfl, hd, T.c.c_Desk, T.c.a_Desk_trigger, rfl, t, _, dx, _, _, rfl, h1, T.c.c_Trigger, T.c.a_Trigger_reasons, rfl, ?_⟩
      refine ⟨_, rfl, pr', [(sa : Int), sb, sd, se], rfl, SqL.of h3, _, _, rfl, rfl, by show (0 : Int) < 18446744073709551616; decide, by show 2 ≤ sizeLine; decide, fun p1 n1 => ?_⟩
      have f1 := Same.new (o := .lst [.int 0, (fun i j => V.int (i % j)) ([(sa : Int), sb, sd, se].sum) 18446744073709551616]) n1
      refine ⟨_, rfl, pr', _, rfl, .inl (SqL.of (f1 _ _ h3)), fun p2 n2 => ?_⟩
      have f2 := Same.new (o := .lst (vN [sa, sb, sd, se])) n2
      refine ⟨p1, p2, _, _, rfl, rfl, f2 _ _ upd_same, upd_same, by show 2 + 4 ≤ 16777216; decide, fun p3 n3 => ?_⟩
      have f3 := Same.new (o := .lst ([V.int 0, (fun i j => V.int (i % j)) ([(sa : Int), sb, sd, se].sum) 18446744073709551616] ++ vN [sa, sb, sd, se])) n3
      have e123 := (f1.trans f2).trans f3
      refine k _ p3 (hF.kept e123 ((f1.trans f2).free n3)) (hD0.same e123) ?_
      rw [upd_same]
      have em : ([(sa : Int), sb, sd, se].sum) % 18446744073709551616 = ((sa + sb + sd + se : Nat) : Int) := by
        simp only [List.sum_cons, List.sum_nil]
        have := hok.nn
        omega
      show some (HO.lst ([V.int 0, V.int (([(sa : Int), sb, sd, se].sum) % 18446744073709551616)] ++ vN [sa, sb, sd, se])) = _
      rw [em]
      rfl
def okFeat : List Int → List (List Int) → Sj25.Call → Prop := fun _ _ cl => cl = .features
theorem ok_ask_features (T : Txt K mg c) : Cal P w K mg base CX0 3 "ask_features" (spAsk c okFeat true) := by
  have GF : Cal P w K mg base CX0 2 "features_of" spFeatures := ok_features_of T
  refine cal_of0 T.f.f_ask_features sc_ask_features b_ask_features (fun vs H Q E h => ?_) (fun f cdv A outer s H vs Q E hr h => ⟨_, (D_ask_features T GF (by decide) hr).2, ?_⟩)
  · obtain ⟨d, pn, pr, F, st, n, nums, rows, cl, rfl, _⟩ := h
    rfl
  · obtain ⟨d, pn, pr, F, st, n, nums, rows, cl, rfl, hn, hR, hF, hFd, hD, hSt, hnn, hcl, hneed, _, k⟩ := h
    obtain rfl : cl = .features := hcl
    cases st with
    | none => exact absurd rfl (hneed rfl)
    | some h =>
      obtain ⟨ddx, t, pk, pr', hd, hI⟩ := hD
      have hD0 : DeskAt c F H d (some h) := ⟨ddx, t, pk, pr', hd, hI⟩
      have hok : HouseOk h n := hSt
      obtain ⟨dx, pnet, vm, po, h1, h2, h3, h4, h5, h6, h7, hNet, hOb, hMV⟩ := hI.ex
      have hO : ObjsAt H po h.seen := hOb.same (cut_same _ H)
      obtain ⟨dxn, p1, p2, p3, hn1, hn2⟩ := hNet.same (cut_same _ H)
      unfold ansL at k
      refine ⟨by show 1 ≤ sizeLine; decide, fun q1 n1 => ?_⟩
      have f1 := Same.new (o := .lst [.int 0]) n1
      refine ⟨_, rfl, d, _, ddx, _, _, rfl, f1 _ _ hd, T.c.c_Desk, T.c.a_Desk_trigger, rfl, t, _, dx, _, _, rfl, f1 _ _ h1, T.c.c_Trigger, T.c.a_Trigger_last_objects, rfl, _, rfl, d, _, ddx, _, _, rfl, f1 _ _ hd, T.c.c_Desk, T.c.a_Desk_trigger, rfl, t, _, dx, _, _, rfl, f1 _ _ h1, T.c.c_Trigger, T.c.a_Trigger_net, rfl,
        pnet, _, dxn, _, _, rfl, f1 _ _ hn1, T.c.c_Net, T.c.a_Net_shift, rfl, po, h.seen, h.net.shift, rfl, hO.same f1, hok.sl, fun H2 q2 e2 _ hq2 => ?_⟩
      refine ⟨q1, q2, _, _, rfl, rfl, e2 _ _ upd_same, hq2, ?_, fun q3 n3 => ?_⟩
      · rw [vN_len, (features_ok _ _).1]
        show 1 + 32 ≤ 16777216
        decide
      · have f3 := Same.new (o := .lst ([V.int 0] ++ vN (Sj25.features h.net.shift h.seen))) n3
        have e13 := (f1.trans e2).trans f3
        refine k _ q3 (hF.kept e13 ((f1.trans e2).free n3)) (hD0.same e13) ?_
        rw [upd_same, vN_vI]
        rfl
def okLine : List Int → List (List Int) → Sj25.Call → Prop := fun nums _ cl => ∃ k : Int, nums = [k] ∧ cl = .line k
theorem ok_ask_line (T : Txt K mg c) : Cal P w K mg base CX0 158 "ask_line" (spAsk c okLine true) := by
  have GH : Met P w K mg base CX0 1 c.trigger "has_line" (spHasLine c) := ok_has_line T
  have GL : Cal P w K mg base CX0 157 "line_text" (spLineText c.line 51) := ok_line_text T 51
  refine cal_of0 T.f.f_ask_line sc_ask_line b_ask_line (fun vs H Q E h => ?_) (fun f cdv A outer s H vs Q E hr h => ⟨_, (D_ask_line T GH (by decide) GL (Nat.le_refl _) hr).2, ?_⟩)
  · obtain ⟨d, pn, pr, F, st, n, nums, rows, cl, rfl, _⟩ := h
    rfl
  · obtain ⟨d, pn, pr, F, st, n, nums, rows, cl, rfl, hn, hR, hF, hFd, hD, hSt, hnn, ⟨i, rfl, rfl⟩, hneed, hsz, k⟩ := h
    cases st with
    | none => exact absurd rfl (hneed rfl)
    | some h =>
      obtain ⟨ddx, t, pk, pr', hd, hI⟩ := hD
      have hD0 : DeskAt c F H d (some h) := ⟨ddx, t, pk, pr', hd, hI⟩
      have hok : HouseOk h n := hSt
      obtain ⟨dx, pnet, vm, po, h1, h2, h3, h4, h5, h6, h7, hNet, hOb, hMV⟩ := hI.ex
      have hMV := hMV.same (cut_same _ H)
      have hMV0 := hMV
      unfold ansL at k hsz
      refine ⟨_, rfl, d, _, ddx, _, _, rfl, hd, T.c.c_Desk, T.c.a_Desk_trigger, rfl, t, dx, _, rfl, h1, rfl, _, rfl, pn, _, _, _, rfl, rfl, SqL.of hn, atI_nat (j := 0) rfl, t, dx, pnet, po, pk, pr', vm, i, _, _, _, _, h, rfl, h1, hMV0, _, rfl, ite2 (fun q => ?_) (fun q => ?_)⟩
      · have hb : hasB h i = false := by simpa using q
        have e1 : Sj25.step (some h) (.line i) = (some h, Sj25.just (-2)) := by
          show ((some (Sj25.on h (.line i)).1, (Sj25.on h (.line i)).2) : Sj25.State × Sj25.Ans) = _
          have : Sj25.on h (.line i) = (h, Sj25.just (-2)) := by
            unfold Sj25.on
            unfold hasB at hb
            cases hm : h.menu with
            | none => rfl
            | some m =>
              rw [hm] at hb
              dsimp only at hb ⊢
              refine if_pos ?_
              unfold isIn Sj25.nat
              simp at hb ⊢
              omega
          rw [this]
        rw [e1] at k
        exact lst_few (zs := [-2]) (by decide) fun H' r e2 nr hr => k H' r (hF.kept e2 nr) (hD0.same e2) hr
      · have hb : hasB h i = true := by simpa using q
        unfold hasB at hb
        unfold MenuV at hMV
        cases hm : h.menu with
        | none => rw [hm] at hb; cases hb
        | some m =>
          rw [hm] at hb hMV
          dsimp only at hb hMV
          obtain ⟨x, b0, rfl, hMA, hMk, _, _⟩ := hMV
          obtain ⟨dxm, pl, pb, qs, g1, g2, g3, g4⟩ := hMA.ex
          simp only [Bool.and_eq_true, decide_eq_true_eq] at hb
          obtain ⟨j, rfl⟩ := Int.eq_ofNat_of_zero_le hb.1
          have hj : j < m.length := by omega
          obtain ⟨q, hqj⟩ : ∃ q, qs[j]? = some q := ⟨_, List.getElem?_eq_getElem (by rw [g3.len]; exact hj)⟩
          obtain ⟨ln, ct, hln, hct, hL⟩ := g3.at_ j q hqj
          have e1 : Sj25.step (some h) (.line (j : Nat)) = (some h, ⟨Sj25.nat (Sj25.lineText (m.map fun y => y.name) ln).length, (Sj25.lineText (m.map fun y => y.name) ln).map Sj25.nat⟩) := by
            show ((some (Sj25.on h (.line (j : Nat))).1, (Sj25.on h (.line (j : Nat))).2) : Sj25.State × Sj25.Ans) = _
            have : Sj25.on h (.line (j : Nat)) = (h, ⟨Sj25.nat (Sj25.lineText (m.map fun y => y.name) ln).length, (Sj25.lineText (m.map fun y => y.name) ln).map Sj25.nat⟩) := by
              unfold Sj25.on
              rw [hm]
              dsimp only
              have hin : ¬ ((!isIn 0 (Sj25.nat m.length - 1) ((j : Nat) : Int)) = true) := by
                unfold isIn Sj25.nat
                simp
                omega
              refine (if_neg hin).trans ?_
              rw [Int.toNat_natCast, hln]
            rw [this]
          rw [e1] at k hsz
          dsimp only at k hsz
          rw [List.length_cons, List.length_map] at hsz
          have okl := hMk.ok j ln hln
          refine ⟨_, rfl, d, _, ddx, _, _, rfl, hd, T.c.c_Desk, T.c.a_Desk_trigger, rfl, t, _, dx, _, _, rfl, h1, T.c.c_Trigger, T.c.a_Trigger_menu, rfl, x, _, dxm, _, _, rfl, g1, T.c.c_Menu, T.c.a_Menu_lines, rfl, ?_⟩
          refine ⟨_, rfl, _, rfl, pn, _, _, _, rfl, rfl, SqL.of hn, atI_nat (j := 0) rfl, pl, _, _, _, rfl, rfl, SqL.of g2, atI_nat (map_at hqj), ?_⟩
          -- the names
          refine ⟨_, rfl, pl, rfl, ⟨_, SqL.of g2⟩, fun D hD => lc_it (walk_list (xs := qs.map V.ref)) (fun i H' => Same H H' ∧ ∃ ns : List Addr, H' D = some (.lst (ns.map V.ref)) ∧ ns.length = i ∧ ∀ (a : Nat) (r : Addr), ns[a]? = some r → ∃ y, m[a]? = some y ∧ H' r = some (.tup (vN y.name))) ⟨Same.new hD, [], upd_same, rfl, fun a r h => by simp at h⟩ (fun i H' _ p => SqL.of (p.1 _ _ g2)) ?_ ?_⟩
          · rintro i v H2 H3 hi ⟨e2, ns, hn2, hnl, hns⟩ ⟨rfl, hv⟩
            obtain ⟨qi, hqi, rfl⟩ := map_inv hv
            obtain ⟨li, ci, hli, _, hLi⟩ := g3.at_ i qi hqi
            obtain ⟨dxi, pni, pci, l1, l2, l3⟩ := (hLi.same e2).ex
            have him : i < m.length := (List.getElem?_eq_some_iff.mp hli).1
            have hm64 := hMk.len
            refine ⟨rfl, _, rfl, qi, _, dxi, _, _, rfl, l1, T.c.c_Line, T.c.a_Line_name, rfl, _, hn2, ?_, e2.mut hD, ns ++ [pni], ?_, ?_, fun a r ha => ?_⟩
            · rw [List.length_map, hnl]
              show i < 16777216
              omega
            · rw [upd_same, List.map_append]
              rfl
            · rw [List.length_append, hnl]
              rfl
            · by_cases hal : a < ns.length
              · rw [List.getElem?_append_left hal] at ha
                obtain ⟨y, y1, y2⟩ := hns a r ha
                exact ⟨y, y1, by rw [upd_ne (ne_of y2 hn2 (by intro z; cases z))]; exact y2⟩
              · rw [List.getElem?_append_right (by omega)] at ha
                have h0 : a - ns.length = 0 := by
                  have := (List.getElem?_eq_some_iff.mp ha).1
                  simp at this
                  omega
                rw [h0] at ha
                obtain rfl : pni = r := Option.some.inj ha
                have hai : a = i := by omega
                rw [hai]
                exact ⟨li, hli, by rw [upd_ne (ne_of l2 hn2 (by intro z; cases z))]; exact l2⟩
          · rintro H2 ⟨e2, ns, hn2, hnl, hns⟩
            rw [List.length_map, g3.len] at hnl
            obtain ⟨dxl, pnm, pc, l1, l2, l3⟩ := (hL.same e2).ex
            refine ⟨q, D, dxl, pnm, pc, _, _, _, ln, m.map fun y => y.name, rfl, l1, l2, l3, ⟨ns, hn2, by rw [hnl, List.length_map], fun a r ha => ?_⟩, ?_, Nat.le_trans okl.e2 (by decide), by omega, fun H3 pt e3 hpt => ?_⟩
            · obtain ⟨y, y1, y2⟩ := hns a r ha
              exact ⟨y.name, by rw [List.getElem?_map, y1]; rfl, y2⟩
            · rw [List.length_map]
              exact numOk_mono (Nat.le_of_lt hj) _ okl.c
            · refine ⟨_, rfl, pt, _, rfl, .inl (SqL.of hpt), by show 1 ≤ sizeLine; decide, fun p1 n1 => ?_⟩
              have f1 := Same.new (o := .lst [.int (vN (Sj25.lineText (m.map fun y => y.name) ln)).length]) n1
              refine ⟨_, rfl, p1, pt, _, _, rfl, rfl, upd_same, f1 _ _ hpt, ?_, fun p2 n2 => ?_⟩
              · rw [vN_len]
                show 1 + _ ≤ 16777216
                omega
              · have f2 := Same.new (o := .lst ([V.int (vN (Sj25.lineText (m.map fun y => y.name) ln)).length] ++ vN (Sj25.lineText (m.map fun y => y.name) ln))) n2
                have ee := ((e2.trans e3).trans f1).trans f2
                refine k _ p2 (hF.kept ee (((e2.trans e3).trans f1).free n2)) (hD0.same ee) ?_
                rw [upd_same, vN_len, vN_vI]
                rfl
end
end Ev
namespace Ev
open PySem PySem.Spec PyProof.Rows L2
open Sj25 (Count House isIn)
section
variable {X : Cx} {CX : CXT} {k j : Nat} {sp : Sp} {x : Str} {p pos : Pos} {e : Expr} {es : List Expr} {t : TA} {E : L2.St → XK}
theorem pe_calS (cl : Cal X.prog X.w X.K X.mg X.base CX k x sp) (rm : Room j X.A) (hk : k ≤ j) (hg : Gl X x) (out : ∀ σ, PassesAt CX X σ (E σ)) (ha : PA X (e :: es) t)
    (hdb : (x == ("__debug__" : Str)) = false := by decide) (he : starEach (e :: es) X.env = (false, eval e X.env) :: starEach es X.env := by rfl) (hp : (backTo pos (starEach es X.env)).any (·.1) = false := by rfl) :
    PE X (.Call (.Name x p) (e :: es) [] pos)
      (tCallS sp E t) := by
  obtain ⟨f, fd, ps, fo, hm, kp, b⟩ := cl.ex
  exact pe_callS fo (rm.mono hk) hg hm kp b out ha hdb he hp
end
section
variable {P : Program} {w : World} {K : PySem.W.Frag} {mg : Str → Option Value} {base : Heap} {c : Cs}
noncomputable def D_ask_menu {f : Addr} {cdv : Value} {A : Around} {outer : List Env} {s : Shared} {H : Hp} {E : XK} {j : Nat} (T : Txt K mg c) (GW : Cal P w K mg base CX0 1 "is_within" spWithin) (GM : Cal P w K mg base (L2.CX P w) 59 "read_menu" (spReadMenu c.menu c.line c.badMenu)) (hj : 59 ≤ j)
    (hr : Room j (A.deeper (envOfC "ask_menu" (defScope s_ask_menu) s.heap.objs.size f cdv))) : { t : TS // PSs (XO P w K mg base n_ask_menu "ask_menu" s_ask_menu f cdv A outer s H E) (defBody s_ask_menu) t } :=
  ⟨_, pss_cons (ps_if (pt_not (pt_val (pe_cal GW hr (by omega) rfl pass0 (pa_cons (pe_ix ix_list (pv 1) pe_int (fun _ _ => rfl)) (pa_cons pe_int (pa_cons (pe_gi rfl T.k.k_MOST_BYTES) pa_nil)))))) (pss_one (ps_ret (pe_lst (pa_cons (pe_gi rfl T.k.k_OUT_OF_RANGE) pa_nil)))) pss_nil)
    (pss_cons (ps_try_as (i := 4) (tb := fun W => tAsg (tCallS (spReadMenu c.menu c.line c.badMenu) (WE W) (tCons (tOp (rIxL K) (tVar 2) (tC (.int 0))) tNil)) (gName 3))
        (ts := fun a cls d => tRet (tLst (tCons (tOp (rI0 fun i j => .int (i - j)) (tC (.int (-100))) (tXf a cls d c.badMenu "place" (tVar 4))) tNil))) (Wout := fun _ _ _ _ => False) rfl rfl sc_ask_menu.nd rfl rfl ⟨rfl, by decide, .inl T.x.gM⟩ takes0
        (fun W pn xe tk _ => pss_one (ps_set (i := 3) sc_ask_menu.nd rfl (Or.inl rfl) (pe_calS GM (hr : Room j _) hj rfl (fun σ => passAt tk σ) (pa_cons (pe_ix ix_list (pv 2) pe_int (fun _ _ => rfl)) pa_nil))))
        (fun a oe cls d pn hz hf => pss_one (ps_ret (pe_lst (pa_cons (pe_op op_sub (pe_gi rfl T.k.k_WRONG_LINE) (pe_xf T.x.fM T.x.nM hz hf (pv 4))) pa_nil)))))
    (pss_cons (ps_fld (pe_fld (pv 0) rfl) (pv 3) rfl)
    (pss_one (ps_ret (pe_lst (pa_cons (pe_callB call_len_seq (by rfl) T.k.z_len bt_len (pa_cons (pe_fld (pv 3) rfl) pa_nil)) pa_nil))))))⟩
/-- what stands in the way of a house -/
theorem wd_ok {F : Addr → Prop} {H : Hp} {t pk pr dx C : Addr} {v : V} {fs : List (Str × V)} {ks rs : List V} (hF : FOk F H) (h1 : H t = some (.ins C dx (("dead", v) :: fs))) (h2 : H pk = some (.lst ks)) (h3 : H pr = some (.lst rs)) :
    ∀ y, Wd F t pk pr y → ∃ o, H y = some o ∧ (∀ xs, o ≠ .tup xs) ∧ ∀ C' dx' f u gs, o = .ins C' dx' ((f, u) :: gs) → f = "dead" := by
  rintro y (hy | rfl | rfl | rfl)
  · obtain ⟨o, ho, q1, q2⟩ := hF y hy
    exact ⟨o, ho, q1, fun C' dx' f u gs z => absurd z (q2 _ _ _)⟩
  · refine ⟨_, h1, (fun xs z => by cases z), fun C' dx' f u gs z => ?_⟩
    have := (HO.ins.inj z).2.2
    exact (Prod.mk.inj (List.cons.inj this).1).1.symm
  · exact ⟨_, h2, (fun xs z => by cases z), (fun C' dx' f u gs z => by cases z)⟩
  · exact ⟨_, h3, (fun xs z => by cases z), (fun C' dx' f u gs z => by cases z)⟩
def okMenu : List Int → List (List Int) → Sj25.Call → Prop := fun nums rows cl => ∃ (n : Int) (t : List Int), nums = [n] ∧ rows = [t] ∧ cl = .menu n t ∧ t.length = (if 0 ≤ n ∧ n ≤ 4096 then n.toNat else 0) ∧ ∀ z ∈ t, 0 ≤ z ∧ z ≤ 255
def menuNext (h : House) (m : List Sj25.Line) : House := { h with menu := some m, counts := List.replicate m.length ⟨0, 0, 0⟩, before := [] }
theorem vI_nat {t : List Int} (h : ∀ z ∈ t, 0 ≤ z) : vI t = vN (t.map Int.toNat) := by
  rw [vN_vI, List.map_map]
  unfold vI
  rw [List.map_map]
  refine List.map_congr_left fun z hz => ?_
  show V.int z = V.int ((z.toNat : Nat) : Int)
  have := h z hz
  rw [Int.toNat_of_nonneg this]
theorem ok_ask_menu (T : Txt K mg c) : Cal P w K mg base CX0 60 "ask_menu" (spAsk c okMenu true) := by
  have GW : Cal P w K mg base CX0 1 "is_within" spWithin := ok_is_within T
  have GM : Cal P w K mg base (L2.CX P w) 59 "read_menu" (spReadMenu c.menu c.line c.badMenu) := ok_read_menu T
  refine cal_of0 T.f.f_ask_menu sc_ask_menu b_ask_menu (fun vs H Q E h => ?_) (fun f cdv A outer s H vs Q E hr h => ⟨_, (D_ask_menu T GW GM (Nat.le_refl _) hr).2, ?_⟩)
  · obtain ⟨d, pn, pr, F, st, n, nums, rows, cl, rfl, _⟩ := h
    rfl
  · obtain ⟨d, pn, pr, F, st, n, nums, rows, cl, rfl, hn, hR, hF, hFd, hD, hSt, hnn, ⟨i, tx, rfl, rfl, rfl, htl, htb⟩, hneed, _, k⟩ := h
    cases st with
    | none => exact absurd rfl (hneed rfl)
    | some h =>
      obtain ⟨ddx, t, pk, pr', hd, hI⟩ := hD
      have hD0 : DeskAt c F H d (some h) := ⟨ddx, t, pk, pr', hd, hI⟩
      unfold ansL at k
      refine ⟨_, rfl, pn, _, _, _, rfl, rfl, SqL.of hn, atI_nat (j := 0) rfl, i, 0, 4096, rfl, _, rfl, ite2 (fun q => ?_) (fun q => ?_)⟩
      · have e1 : Sj25.step (some h) (.menu i tx) = (some h, Sj25.just (-2)) := by
          show ((some (Sj25.on h (.menu i tx)).1, (Sj25.on h (.menu i tx)).2) : Sj25.State × Sj25.Ans) = _
          have : Sj25.on h (.menu i tx) = (h, Sj25.just (-2)) := if_pos q
          rw [this]
        rw [e1] at k
        exact lst_few (zs := [-2]) (by decide) fun H' r e2 nr hr => k H' r (hF.kept e2 nr) (hD0.same e2) hr
      · have q' : isIn 0 4096 i = true := by simpa using q
        unfold isIn at q'
        simp only [Bool.and_eq_true, decide_eq_true_eq] at q'
        rw [if_pos q'] at htl
        have htk : tx.take i.toNat = tx := List.take_of_length_le (by omega)
        obtain ⟨qs, hq1, hq2, hq3⟩ := hR
        obtain ⟨q0, rfl⟩ : ∃ q0, qs = [q0] := by
          match qs, hq2 with
          | [a], _ => exact ⟨a, rfl⟩
        obtain ⟨r0, hr0, hr1⟩ := hq3 0 q0 rfl
        obtain rfl : tx = r0 := Option.some.inj hr0
        rw [vI_nat (fun z hz => (htb z hz).1)] at hr1
        have hon : Sj25.on h (.menu i tx) = match Sj25.menuFrom 0 [] (Sj25.parted (tx.map Int.toNat)) with
            | .error k => (h, Sj25.just (-100 - Sj25.nat k))
            | .ok m => (menuNext h m, Sj25.just (Sj25.nat m.length)) := by
          have e : Sj25.on h (.menu i tx) = match Sj25.menuFrom 0 [] (Sj25.parted ((tx.take i.toNat).map Int.toNat)) with
            | .error k => (h, Sj25.just (-100 - Sj25.nat k))
            | .ok m => (menuNext h m, Sj25.just (Sj25.nat m.length)) := if_neg q
          rw [e, htk]
        have hst : Sj25.step (some h) (.menu i tx) = (some (Sj25.on h (.menu i tx)).1, (Sj25.on h (.menu i tx)).2) := rfl
        rw [hst, hon] at k
        refine ⟨_, rfl, pr, _, _, _, rfl, rfl, SqL.of hq1, atI_nat (j := 0) rfl, q0, tx.map Int.toNat, rfl, hr1, by rw [List.length_map]; omega, fun kk hk => ?_, fun m hm hMk H1 x e1 hNew => ?_⟩
        · rw [hk] at k
          dsimp only at k
          intro H1 de e1 hde
          refine ⟨true, T.x.eM, fun _ a na => ?_, fun z => (nomatch z)⟩
          refine ⟨_, rfl, rfl, rfl, de, _, _, rfl, hde, rfl, _, _, rfl, rfl, by show 1 ≤ sizeLine; decide, fun p hp => k _ p (hF.kept (e1.trans (Same.new hp)) (e1.free hp)) (hD0.same (e1.trans (Same.new hp))) ?_⟩
          rw [upd_same]
          rfl
        · rw [hm] at k
          dsimp only at k
          obtain ⟨dx, pnet, vm, po, h1, h2, h3, h4, h5, h6, h7, hNet, hOb, hMV⟩ := hI.ex
          obtain ⟨dxm, pl, pb, ls, g1, g2, g3, g4, g5, g6⟩ := hNew.ex
          have hW := wd_ok hF h1 h2 h3
          have nW : ∀ {y C' dx' : Addr} {f : Str} {u : V} {gs : List (Str × V)}, H1 y = some (.ins C' dx' ((f, u) :: gs)) → f ≠ "dead" → ¬ Wd F t pk pr' y := fun {y C' dx' f u gs} hy hf wy => by
            obtain ⟨o, ho, _, q2⟩ := hW y wy
            rw [e1 _ _ ho] at hy
            exact hf (q2 _ _ _ _ _ (Option.some.inj hy))
          have nN : ∀ {y : Addr}, H y = none → ¬ Wd F t pk pr' y := fun {y} hy wy => by
            obtain ⟨o, ho, _⟩ := hW y wy
            rw [hy] at ho
            cases ho
          refine ⟨_, rfl, _, rfl, d, _, ddx, _, _, rfl, e1 _ _ hd, T.c.c_Desk, T.c.a_Desk_trigger, rfl, t, _, dx, _, rfl, e1 _ _ h1, T.c.c_Trigger, T.c.a_Trigger_menu, (by show 9 < 1000; decide), ?_⟩
          have xt : x ≠ t := ins_ne g1 (e1 _ _ h1) (by decide)
          have dt : d ≠ t := ins_ne (e1 _ _ hd) (e1 _ _ h1) (by decide)
          have bW : But (Wd F t pk pr') H1 (upd H1 t (.ins c.trigger dx (trigV h.dead h.window h.most pnet (.ref x) (timeI h.time) po pk pr'))) := but_in But.refl (.inr (.inl rfl))
          have tk : TupK H1 (cut (Wd F t pk pr') (upd H1 t (.ins c.trigger dx (trigV h.dead h.window h.most pnet (.ref x) (timeI h.time) po pk pr')))) := fun y xs hy => by
            have nw : ¬ Wd F t pk pr' y := fun wy => by
              obtain ⟨o, ho, q1, _⟩ := hW y wy
              rw [e1 _ _ ho] at hy
              exact q1 _ (Option.some.inj hy)
            rw [cut_out nw, upd_ne (ne_of hy (e1 _ _ h1) (by intro z; cases z))]
            exact hy
          have keep : ∀ {y : Addr} {o : HO}, H1 y = some o → ¬ Wd F t pk pr' y → cut (Wd F t pk pr') (upd H1 t (.ins c.trigger dx (trigV h.dead h.window h.most pnet (.ref x) (timeI h.time) po pk pr'))) y = some o := fun {y o} hy nw => by
            rw [cut_out nw, upd_ne (fun z => nw (.inr (.inl z)))]
            exact hy
          have sc := (cut_mono (W := Wd F t pk pr') (But.of e1)).trans (cut_mono bW)
          have tp : pk ≠ t := ne_of (e1 _ _ h2) (e1 _ _ h1) (by intro z; cases z)
          have tr : pr' ≠ t := ne_of (e1 _ _ h3) (e1 _ _ h1) (by intro z; cases z)
          have hI2 : HouseIn c F (upd H1 t (.ins c.trigger dx (trigV h.dead h.window h.most pnet (.ref x) (timeI h.time) po pk pr'))) t pk pr' (menuNext h m) := by
            refine ⟨dx, pnet, .ref x, po, upd_same, by rw [upd_ne tp]; exact e1 _ _ h2, by rw [upd_ne tr]; exact e1 _ _ h3, h4, h5, h6, h7, hNet.same sc, hOb.same sc, ?_⟩
            refine ⟨x, List.replicate m.length false, rfl, ⟨dxm, pl, pb, ls, keep g1 (nW g1 (by decide)), keep g2 (nN g5), ?_, keep g4 (nN g6)⟩, hMk, fun j hj => ?_, List.length_replicate⟩
            · refine g3.keep (fun q hq dx' fs hd' => ?_) tk
              obtain ⟨j, hj⟩ := List.getElem?_of_mem hq
              obtain ⟨l', k', _, _, hL⟩ := g3.at_ j q hj
              obtain ⟨dxl, _, _, hl1, _⟩ := hL.ex
              rw [hl1] at hd'
              cases hd'
              exact keep hl1 (nW hl1 (by decide))
            · rw [List.length_replicate] at hj
              rw [List.getElem?_replicate, if_pos hj]
              rfl
          refine ⟨_, rfl, x, _, dxm, _, _, rfl, by rw [upd_ne xt]; exact g1, T.c.c_Menu, T.c.a_Menu_lines, rfl, pl, _, rfl, .inl (SqL.of (by rw [upd_ne (ne_of g2 (e1 _ _ h1) (by intro z; cases z))]; exact g2)), by show 1 ≤ sizeLine; decide, fun p hp => k _ p (fun y hy => ?_) ⟨ddx, t, pk, pr', Same.new hp _ _ (by rw [upd_ne dt]; exact e1 _ _ hd), hI2.same (Same.new hp)⟩ ?_⟩
          · obtain ⟨o, ho, _⟩ := hF y hy
            have yt : y ≠ t := fun z => h4 (z ▸ hy)
            have hy2 : upd H1 t (.ins c.trigger dx (trigV h.dead h.window h.most pnet (.ref x) (timeI h.time) po pk pr')) y = some o := by rw [upd_ne yt]; exact e1 _ _ ho
            exact ⟨by rw [Same.new hp y o hy2, ho], ne_of_none hy2 hp⟩
          · rw [upd_same, List.length_map, g3.len]
            rfl
end
end Ev
namespace Ev
open PySem PySem.Spec PyProof.Rows L2
open Sj25 (Count House isIn isRow)
def parOk (s m d b2 : Int) (b1 w1 w2 : List Int) : Bool := !(!isIn 0 15 s || !isIn 1 65535 m || !isIn 0 24 d || !isIn (-(2 ^ 30)) (2 ^ 30) b2 || !isRow 16 (-(2 ^ 24)) (2 ^ 24) b1 || !isRow 512 (-128) 127 w1 || !isRow 16 (-32768) 32767 w2)
theorem parOk_is (s m d b2 : Int) (b1 w1 w2 : List Int) : parOk s m d b2 b1 w1 w2 = (isIn 0 15 s && (isIn 1 65535 m && (isIn 0 24 d && (isIn (-1073741824) 1073741824 b2 && (b1.all (isIn (-16777216) 16777216) && ((b1.length == 16 && (w1.length == 512 && w2.length == 16)) && (w1.all (isIn (-128) 127) && w2.all (isIn (-32768) 32767)))))))) := by
  unfold parOk isRow
  rw [show (-(2 ^ 30) : Int) = -1073741824 from rfl, show ((2 ^ 30) : Int) = 1073741824 from rfl, show (-(2 ^ 24) : Int) = -16777216 from rfl, show ((2 ^ 24) : Int) = 16777216 from rfl]
  cases isIn 0 15 s <;> cases isIn 1 65535 m <;> cases isIn 0 24 d <;> cases isIn (-1073741824) 1073741824 b2 <;> cases b1.all (isIn (-16777216) 16777216) <;> cases (b1.length == 16) <;> cases (w1.length == 512) <;> cases (w2.length == 16) <;> cases w1.all (isIn (-128) 127) <;> cases w2.all (isIn (-32768) 32767) <;> rfl
theorem three_eqv (a b d : Nat) : PyData.eqv (.tuple [.int (a : Int), .int (b : Int), .int (d : Int)]) (.tuple [.int 16, .int 512, .int 16]) = (a == 16 && (b == 512 && d == 16)) := by
  simp only [PyData.eqv, PyData.eqvAll]
  have e : ∀ (x y : Nat), ((x : Int) == (y : Int)) = (x == y) := fun x y => by
    by_cases h : x = y
    · rw [h, beq_self_eq_true, beq_self_eq_true]
    · rw [beq_false_of_ne h, beq_false_of_ne (by omega)]
  have e1 := e a 16
  have e2 := e b 512
  have e3 := e d 16
  rw [show ((a : Int) == 16) = (a == 16) from e1, show ((b : Int) == 512) = (b == 512) from e2, show ((d : Int) == 16) = (d == 16) from e3, Bool.and_true]
theorem three_shaped (a b d : Int) : SeqAt.shaped (.tuple [.int a, .int b, .int d]) = true := by
  refine Bool.and_eq_true_iff.mpr ⟨?_, decide_eq_true ?_⟩
  · simp only [PyData.canLay0, PyData.canLayAll0, Bool.and_true]
  · simp only [PyData.depth, PyData.depthAll]
    omega
section
variable {P : Program} {w : World} {K : PySem.W.Frag} {mg : Str → Option Value} {base : Heap} {c : Cs}
def spParams : Sp := fun vs H Q _ => ∃ (pn pr q1 q2 q3 : Addr) (s m d b2 : Int) (b1 w1 w2 : List Int), vs = [.ref pn, .ref pr] ∧ H pn = some (.lst (vI [s, m, d, b2])) ∧ H pr = some (.lst [.ref q1, .ref q2, .ref q3]) ∧ H q1 = some (.lst (vI b1)) ∧ H q2 = some (.lst (vI w1)) ∧ H q3 = some (.lst (vI w2)) ∧
  b1.length ≤ 100000 ∧ w1.length ≤ 100000 ∧ w2.length ≤ 100000 ∧ ∀ H', Same H H' → Q (.bl (parOk s m d b2 b1 w1 w2)) H'
theorem ok_are_parameters (T : Txt K mg c) : Cal P w K mg base CX0 2 "are_parameters" spParams := by
  have GW : Cal P w K mg base CX0 1 "is_within" spWithin := ok_is_within T
  have GA : Cal P w K mg base CX0 1 "are_within" spAreWithin := ok_are_within T
  refine cal_of0 T.f.f_are_parameters sc_are_parameters b_are_parameters (fun vs H Q E h => ?_) (fun f cdv A outer s H vs Q E hr h => ⟨_, (D_are_parameters T GW (by decide) GA (by decide) hr).2, ?_⟩)
  · obtain ⟨pn, pr, q1, q2, q3, s, m, d, b2, b1, w1, w2, rfl, _⟩ := h
    rfl
  · obtain ⟨pn, pr, q1, q2, q3, s, m, d, b2, b1, w1, w2, rfl, hn, hp, h1, h2, h3, l1, l2, l3, k⟩ := h
    rw [parOk_is] at k
    refine ⟨_, rfl, pn, _, rfl, SqL.of hn, rfl, _, _, rfl, _, _, rfl, _, _, rfl, _, _, rfl, rfl, ?_⟩
    refine ⟨_, rfl, pr, _, rfl, SqL.of hp, rfl, _, _, rfl, _, _, rfl, _, _, rfl, rfl, ?_⟩
    have no : ∀ b : Bool, (b = true) ∨ b = false := fun b => by cases b <;> simp
    refine ⟨_, rfl, s, 0, 15, rfl, _, rfl, ite2 (fun x => ite_yes rfl ?_) (fun x => ?_)⟩
    · have x : isIn 0 15 s = false := by simpa using x
      rw [x, Bool.false_and] at k
      exact k _ (Same.refl _)
    have x : isIn 0 15 s = true := by simpa using x
    rw [x, Bool.true_and] at k
    refine ⟨_, rfl, m, 1, 65535, rfl, _, rfl, ite2 (fun x => ite_yes rfl ?_) (fun x => ?_)⟩
    · have x : isIn 1 65535 m = false := by simpa using x
      rw [x, Bool.false_and] at k
      exact k _ (Same.refl _)
    have x : isIn 1 65535 m = true := by simpa using x
    rw [x, Bool.true_and] at k
    refine ⟨_, rfl, d, 0, 24, rfl, _, rfl, ite2 (fun x => ?_) (fun x => ?_)⟩
    · have x : isIn 0 24 d = false := by simpa using x
      rw [x, Bool.false_and] at k
      exact k _ (Same.refl _)
    have x : isIn 0 24 d = true := by simpa using x
    rw [x, Bool.true_and] at k
    refine ⟨_, rfl, _, rfl, b2, -1073741824, 1073741824, rfl, _, rfl, ite2 (fun x => ite_yes rfl ?_) (fun x => ?_)⟩
    · have x : isIn (-1073741824) 1073741824 b2 = false := by simpa using x
      rw [x, Bool.false_and] at k
      exact k _ (Same.refl _)
    have x : isIn (-1073741824) 1073741824 b2 = true := by simpa using x
    rw [x, Bool.true_and] at k
    refine ⟨_, rfl, _, rfl, q1, b1, -16777216, 16777216, rfl, h1, l1, fun H1 e1 => ⟨_, rfl, ite2 (fun x => ?_) (fun x => ?_)⟩⟩
    · have x : b1.all (isIn (-16777216) 16777216) = false := by simpa using x
      rw [x, Bool.false_and] at k
      exact k _ e1
    have x : b1.all (isIn (-16777216) 16777216) = true := by simpa using x
    rw [x, Bool.true_and] at k
    refine ⟨_, rfl, q1, _, rfl, .inl (SqL.of (e1 _ _ h1)), _, rfl, q2, _, rfl, .inl (SqL.of (e1 _ _ h2)), _, rfl, q3, _, rfl, .inl (SqL.of (e1 _ _ h3)), by show 3 ≤ sizeLine; decide, fun p1 n1 => ?_⟩
    refine ⟨_, _, rfl, rfl, .inl ⟨by decide, by decide⟩, by show 3 ≤ sizeLine; decide, fun p2 n2 => ?_⟩
    have f1 := Same.new (o := .tup [.int (vI b1).length, .int (vI w1).length, .int (vI w2).length]) n1
    have f2 := Same.new (o := .tup [.int 16, (fun i j => V.int (i * j)) 16 32, .int 16]) n2
    have e3 := (e1.trans f1).trans f2
    rw [vI_len, vI_len, vI_len] at f1
    refine ⟨.tuple [.int (b1.length : Nat), .int (w1.length : Nat), .int (w2.length : Nat)], .tuple [.int 16, .int 512, .int 16], .tup (SqT.of (f2 _ _ upd_same)) ?_, .tup (SqT.of upd_same) (.cons (.int _) (.cons (.int _) (.cons (.int _) .nil))), three_shaped _ _ _, three_shaped _ _ _, _, rfl, ?_⟩
    · rw [vI_len, vI_len, vI_len]
      exact .cons (.int _) (.cons (.int _) (.cons (.int _) .nil))
    rw [three_eqv]
    cases hl : (b1.length == 16 && (w1.length == 512 && w2.length == 16)) with
    | false =>
      rw [hl, Bool.false_and] at k
      exact ite_yes rfl (k _ e3)
    | true =>
      rw [hl, Bool.true_and] at k
      refine ite_no rfl ?_
      refine ⟨_, rfl, _, rfl, q2, w1, -128, 127, rfl, e3 _ _ h2, l2, fun H2 e4 => ⟨_, rfl, ite2 (fun x => ?_) (fun x => ?_)⟩⟩
      · rw [x, Bool.true_and] at k
        exact ⟨_, rfl, _, rfl, q3, w2, -32768, 32767, rfl, e4 _ _ (e3 _ _ h3), l3, fun H3 e5 => k _ ((e3.trans e4).trans e5)⟩
      · rw [Bool.eq_false_iff.mpr x, Bool.false_and] at k
        exact k _ (e3.trans e4)
end
end Ev
namespace Ev
open PySem PySem.Spec PyProof.Rows L2
open Sj25 (Count House isIn isRow)
def netNext (h : House) (s m d b2 : Int) (b1 w1 w2 : List Int) : House := { h with net := ⟨s.toNat, m.toNat, d.toNat, b1, w1, w2, b2⟩ }
def okNet : List Int → List (List Int) → Sj25.Call → Prop := fun nums rows cl => ∃ (s m d b2 : Int) (b1 w1 w2 : List Int), nums = [s, m, d, b2] ∧ rows = [b1, w1, w2] ∧ cl = .net s m d b2 b1 w1 w2 ∧ b1.length ≤ 100000 ∧ w1.length ≤ 100000 ∧ w2.length ≤ 100000
theorem net_step (h : House) (s m d b2 : Int) (b1 w1 w2 : List Int) : Sj25.step (some h) (.net s m d b2 b1 w1 w2) = if parOk s m d b2 b1 w1 w2 = true then (some (netNext h s m d b2 b1 w1 w2), Sj25.just 0) else (some h, Sj25.just (-2)) := by
  have e : Sj25.on h (.net s m d b2 b1 w1 w2) = if (!isIn 0 15 s || !isIn 1 65535 m || !isIn 0 24 d || !isIn (-(2 ^ 30)) (2 ^ 30) b2 || !isRow 16 (-(2 ^ 24)) (2 ^ 24) b1 || !isRow 512 (-128) 127 w1 || !isRow 16 (-32768) 32767 w2) = true then (h, Sj25.just (-2)) else (netNext h s m d b2 b1 w1 w2, Sj25.just 0) := rfl
  have e2 : Sj25.step (some h) (.net s m d b2 b1 w1 w2) = (some (Sj25.on h (.net s m d b2 b1 w1 w2)).1, (Sj25.on h (.net s m d b2 b1 w1 w2)).2) := rfl
  rw [e2, e]
  unfold parOk
  cases (!isIn 0 15 s || !isIn 1 65535 m || !isIn 0 24 d || !isIn (-(2 ^ 30)) (2 ^ 30) b2 || !isRow 16 (-(2 ^ 24)) (2 ^ 24) b1 || !isRow 512 (-128) 127 w1 || !isRow 16 (-32768) 32767 w2) <;> rfl
theorem par_nat {s m d b2 : Int} {b1 w1 w2 : List Int} (h : parOk s m d b2 b1 w1 w2 = true) : ((s.toNat : Nat) : Int) = s ∧ ((m.toNat : Nat) : Int) = m ∧ ((d.toNat : Nat) : Int) = d ∧ s.toNat ≤ 15 ∧ m.toNat ≤ 65535 ∧ b1.length = 16 ∧ w1.length = 512 ∧ w2.length = 16 := by
  rw [parOk_is] at h
  unfold isIn at h
  simp only [Bool.and_eq_true, decide_eq_true_eq, beq_iff_eq] at h
  omega
section
variable {P : Program} {w : World} {K : PySem.W.Frag} {mg : Str → Option Value} {base : Heap} {c : Cs}
theorem ok_ask_net (T : Txt K mg c) : Cal P w K mg base CX0 3 "ask_net" (spAsk c okNet true) := by
  have GP : Cal P w K mg base CX0 2 "are_parameters" spParams := ok_are_parameters T
  have GN : Mak P w K mg base CX0 1 "Net" c.net (spNetInit c.net) := ok_Net_init T
  have GT : Met P w K mg base CX0 1 c.net "take_rows" (spTakeRows K c.net) := ok_Net_take_rows T
  refine cal_of0 T.f.f_ask_net sc_ask_net b_ask_net (fun vs H Q E h => ?_) (fun f cdv A outer s H vs Q E hr h => ⟨_, (D_ask_net T GP (by decide) GN (by decide) GT (by decide) hr).2, ?_⟩)
  · obtain ⟨d, pn, pr, F, st, n, nums, rows, cl, rfl, _⟩ := h
    rfl
  · obtain ⟨d, pn, pr, F, st, n, nums, rows, cl, rfl, hn, hR, hF, hFd, hD, hSt, hnn, ⟨s, m, dn, b2, b1, w1, w2, rfl, rfl, rfl, l1, l2, l3⟩, hneed, _, k⟩ := h
    cases st with
    | none => exact absurd rfl (hneed rfl)
    | some h =>
      obtain ⟨ddx, t, pk, pr', hd, hI⟩ := hD
      have hD0 : DeskAt c F H d (some h) := ⟨ddx, t, pk, pr', hd, hI⟩
      unfold ansL at k
      rw [net_step] at k
      obtain ⟨qs, hq1, hq2, hq3⟩ := hR
      obtain ⟨q1, q2, q3, rfl⟩ : ∃ q1 q2 q3, qs = [q1, q2, q3] := by
        match qs, hq2 with
        | [a, b, e], _ => exact ⟨a, b, e, rfl⟩
      obtain ⟨r1, x1, y1⟩ := hq3 0 q1 rfl
      obtain ⟨r2, x2, y2⟩ := hq3 1 q2 rfl
      obtain ⟨r3, x3, y3⟩ := hq3 2 q3 rfl
      obtain rfl : b1 = r1 := Option.some.inj x1
      obtain rfl : w1 = r2 := Option.some.inj x2
      obtain rfl : w2 = r3 := Option.some.inj x3
      refine ⟨_, rfl, _, rfl, pn, pr, q1, q2, q3, s, m, dn, b2, b1, w1, w2, rfl, hn, hq1, y1, y2, y3, l1, l2, l3, fun H1 e1 => ⟨_, rfl, ite2 (fun q => ?_) (fun q => ?_)⟩⟩
      · have q : parOk s m dn b2 b1 w1 w2 = false := by simpa using q
        rw [if_neg (by rw [q]; exact Bool.false_ne_true)] at k
        exact lst_few (zs := [-2]) (by decide) fun H' r e2 nr hr => k H' r (hF.kept (e1.trans e2) (e1.free nr)) (hD0.same (e1.trans e2)) hr
      · have q : parOk s m dn b2 b1 w1 w2 = true := by simpa using q
        rw [if_pos q] at k
        obtain ⟨ns, nm, nd, _⟩ := par_nat q
        have hn1 := SqL.of (K := K) (e1 _ _ hn)
        refine ⟨_, rfl, pn, _, _, _, rfl, rfl, hn1, atI_nat (j := 0) rfl, _, rfl, pn, _, _, _, rfl, rfl, hn1, atI_nat (j := 1) rfl, _, rfl, pn, _, _, _, rfl, rfl, hn1, atI_nat (j := 2) rfl, _, rfl, pn, _, _, _, rfl, rfl, hn1, atI_nat (j := 3) rfl, fun x dx hx hdx hne => ⟨x, dx, s, m, dn, b2, rfl, upd_same, fun H2 p1 p2 p3 b12 _ _ _ hx2 hN2 => ⟨rfl, ?_⟩⟩⟩
        have e12 := made_same hx hdx b12
        have e02 := e1.trans e12
        refine ⟨_, rfl, x, dx, _, rfl, hx2, rfl, _, rfl, pr, _, _, _, rfl, rfl, SqL.of (e02 _ _ hq1), atI_nat (j := 0) rfl, _, rfl, pr, _, _, _, rfl, rfl, SqL.of (e02 _ _ hq1), atI_nat (j := 1) rfl, _, rfl, pr, _, _, _, rfl, rfl, SqL.of (e02 _ _ hq1), atI_nat (j := 2) rfl, ?_⟩
        have xl : ∀ {y : Addr} {zs : List V}, H2 y = some (.lst zs) → x ≠ y := fun {y zs} hy => (ne_of hy hx2 (by intro z; cases z)).symm
        refine ⟨x, dx, p1, p2, p3, q1, q2, q3, s, m, dn, b2, b1, w1, w2, rfl, hx2, SqL.of (e02 _ _ y1), SqL.of (e02 _ _ y2), SqL.of (e02 _ _ y3), xl (e02 _ _ y1), xl (e02 _ _ y2), xl (e02 _ _ y3), fun H3 u1 u2 u3 b23 n1 n2 n3 hx3 hN3 => ?_⟩
        have e03 : Same H H3 := fun y o hy => b23 y o (e02 y o hy) (ne_of_none (e1 y o hy) hx)
        obtain ⟨dxt, pnet, vm, po, h1, h2, h3, h4, h5, h6, h7, hNet, hOb, hMV⟩ := hI.ex
        have hW := wd_ok hF h1 h2 h3
        refine ⟨_, rfl, _, rfl, d, _, ddx, _, _, rfl, e03 _ _ hd, T.c.c_Desk, T.c.a_Desk_trigger, rfl, t, _, dxt, _, rfl, e03 _ _ h1, T.c.c_Trigger, T.c.a_Trigger_net, (by show 9 < 1000; decide), ?_⟩
        have xt : x ≠ t := ins_ne hx3 (e03 _ _ h1) (by decide)
        have dt : d ≠ t := ins_ne (e03 _ _ hd) (e03 _ _ h1) (by decide)
        have tp : pk ≠ t := ne_of (e03 _ _ h2) (e03 _ _ h1) (by intro z; cases z)
        have tr : pr' ≠ t := ne_of (e03 _ _ h3) (e03 _ _ h1) (by intro z; cases z)
        have nN : ∀ {y : Addr}, H y = none → ¬ Wd F t pk pr' y := fun {y} hy wy => by
          obtain ⟨o, ho, _⟩ := hW y wy
          rw [hy] at ho
          cases ho
        have nx : ¬ Wd F t pk pr' x := fun wy => by
          obtain ⟨o, ho, _⟩ := hW x wy
          rw [e1 _ _ ho] at hx
          cases hx
        have bW : But (Wd F t pk pr') H3 (upd H3 t (.ins c.trigger dxt (trigV h.dead h.window h.most x vm (timeI h.time) po pk pr'))) := but_in But.refl (.inr (.inl rfl))
        have keep : ∀ {y : Addr} {o : HO}, H3 y = some o → ¬ Wd F t pk pr' y → cut (Wd F t pk pr') (upd H3 t (.ins c.trigger dxt (trigV h.dead h.window h.most x vm (timeI h.time) po pk pr'))) y = some o := fun {y o} hy nw => by
          rw [cut_out nw, upd_ne (fun z => nw (.inr (.inl z)))]
          exact hy
        have sc := (cut_mono (W := Wd F t pk pr') (But.of e03)).trans (cut_mono bW)
        have hI2 : HouseIn c F (upd H3 t (.ins c.trigger dxt (trigV h.dead h.window h.most x vm (timeI h.time) po pk pr'))) t pk pr' (netNext h s m dn b2 b1 w1 w2) := by
          refine ⟨dxt, x, vm, po, upd_same, by rw [upd_ne tp]; exact e03 _ _ h2, by rw [upd_ne tr]; exact e03 _ _ h3, h4, h5, h6, h7, ⟨dx, u1, u2, u3, ?_, keep hN3.h1 (nN (e02.free n1)), keep hN3.h2 (nN (e02.free n2)), keep hN3.h3 (nN (e02.free n3))⟩, hOb.same sc, hMV.same sc⟩
          show cut _ _ x = some (.ins c.net dx (netV ((s.toNat : Nat) : Int) ((m.toNat : Nat) : Int) ((dn.toNat : Nat) : Int) b2 u1 u2 u3))
          rw [ns, nm, nd]
          exact keep hx3 nx
        refine lst_few (zs := [0]) (by decide) fun H' r e2 nr hr => k H' r (fun y hy => ?_) ⟨ddx, t, pk, pr', e2 _ _ (by rw [upd_ne dt]; exact e03 _ _ hd), hI2.same e2⟩ hr
        obtain ⟨o, ho, _⟩ := hF y hy
        have yt : y ≠ t := fun z => h4 (z ▸ hy)
        have hy2 : upd H3 t (.ins c.trigger dxt (trigV h.dead h.window h.most x vm (timeI h.time) po pk pr')) y = some o := by rw [upd_ne yt]; exact e03 _ _ ho
        exact ⟨by rw [e2 y o hy2, ho], ne_of_none hy2 nr⟩
end
end Ev
/-! the plain law: the objects of an event -/
namespace Ev
open Sj25 (isIn things)
def triOk (t : Tri) : Bool := isIn 0 7 t.1 && isIn 0 65535 t.2.1 && isIn 0 1023 t.2.2
theorem tri_succ (n : Nat) (k v p : Int) (r : List Int) : tri (n + 1) (k :: v :: p :: r) = (k, v, p) :: tri n r := by
  unfold tri
  rw [List.range_succ_eq_map, List.map_cons, List.map_map]
  congr 1
theorem things_succ (n : Nat) (k v p : Int) (r : List Int) : things (n + 1) (k :: v :: p :: r) = if isIn 0 7 k && isIn 0 65535 v && isIn 0 1023 p then (things n r).map fun l => ⟨k.toNat, v.toNat, p.toNat⟩ :: l else none := rfl
theorem things_is : ∀ (n : Nat) (ns : List Int), ns.length = 3 * n → (∀ x, things n ns = some x → tri n ns = x.map th3 ∧ (tri n ns).all triOk = true ∧ ThOk x ∧ x.length = n) ∧ (things n ns = none → (tri n ns).all triOk = false)
  | 0, ns, h => by
    refine ⟨fun x hx => ?_, fun hx => ?_⟩
    · have hx : some [] = some x := hx
      obtain rfl := Option.some.inj hx
      exact ⟨rfl, rfl, fun t ht => (nomatch ht), rfl⟩
    · have hx : some ([] : List Sj25.Thing) = none := hx
      cases hx
  | n + 1, [], h => by simp at h
  | n + 1, [_], h => by simp at h; omega
  | n + 1, [_, _], h => by simp at h; omega
  | n + 1, k :: v :: p :: r, h => by
    have hl : r.length = 3 * n := by simp only [List.length_cons] at h; omega
    obtain ⟨i1, i2⟩ := things_is n r hl
    rw [things_succ, tri_succ]
    cases hb : (isIn 0 7 k && isIn 0 65535 v && isIn 0 1023 p) with
    | false =>
      refine ⟨(fun x hx => by cases hx), fun _ => ?_⟩
      rw [List.all_cons]
      show ((isIn 0 7 k && isIn 0 65535 v && isIn 0 1023 p) && _) = false
      rw [hb]
      rfl
    | true =>
      have hb2 := hb
      unfold isIn at hb2
      simp only [Bool.and_eq_true, decide_eq_true_eq] at hb2
      refine ⟨fun x hx => ?_, fun hx => ?_⟩
      · obtain ⟨y, hy, rfl⟩ := Option.map_eq_some_iff.mp hx
        obtain ⟨j1, j2, j3, j4⟩ := i1 y hy
        refine ⟨?_, ?_, ?_, by rw [List.length_cons, j4]⟩
        · rw [List.map_cons, ← j1]
          congr 1
          show (k, v, p) = (((k.toNat : Nat) : Int), ((v.toNat : Nat) : Int), ((p.toNat : Nat) : Int))
          rw [Int.toNat_of_nonneg hb2.1.1.1, Int.toNat_of_nonneg hb2.1.2.1, Int.toNat_of_nonneg hb2.2.1]
        · rw [List.all_cons, j2, Bool.and_true]
          exact hb
        · intro t ht
          rcases List.mem_cons.mp ht with rfl | ht
          · show k.toNat < 8 ∧ p.toNat < 1024
            omega
          · exact j3 t ht
      · have : things n r = none := by
          cases e : things n r with
          | none => rfl
          | some y => rw [e] at hx; cases hx
        rw [List.all_cons, i2 this, Bool.and_false]
end Ev
namespace Ev
open PySem PySem.Spec PyProof.Rows L2
open Sj25 (Count House isIn things)
def okEvent : List Int → List (List Int) → Sj25.Call → Prop := fun nums rows cl => ∃ (t n : Int) (l : List Int), nums = [t, n] ∧ rows = [l] ∧ cl = .event t n l ∧ l.length = 3 * (if 0 ≤ n ∧ n ≤ 64 then n.toNat else 0)
theorem event_step (h : House) (t n : Int) (l : List Int) : Sj25.step (some h) (.event t n l) = if (!isIn 0 9223372036854775807 t || !isIn 0 64 n) = true then (some h, Sj25.just (-2)) else match things n.toNat l with
    | none => (some h, Sj25.just (-2))
    | some x => match h.menu with
      | none => (some h, Sj25.just (-6))
      | some m => if h.time.any (fun k => decide (t.toNat ≤ k)) = true then (some h, Sj25.just (-3)) else (some (Sj25.event h m t.toNat x).1, (Sj25.event h m t.toNat x).2) := by
  have e : Sj25.on h (.event t n l) = if (!isIn 0 9223372036854775807 t || !isIn 0 64 n) = true then (h, Sj25.just (-2)) else match things n.toNat l with
    | none => (h, Sj25.just (-2))
    | some x => match h.menu with
      | none => (h, Sj25.just (-6))
      | some m => if h.time.any (fun k => decide (t.toNat ≤ k)) = true then (h, Sj25.just (-3)) else Sj25.event h m t.toNat x := rfl
  have e2 : Sj25.step (some h) (.event t n l) = (some (Sj25.on h (.event t n l)).1, (Sj25.on h (.event t n l)).2) := rfl
  rw [e2, e]
  split
  · rfl
  · split
    · rfl
    · split
      · rfl
      · split <;> rfl
section
variable {P : Program} {w : World} {K : PySem.W.Frag} {mg : Str → Option Value} {base : Heap} {c : Cs}
theorem ok_ask_event (T : Txt K mg c) : Cal P w K mg base CX0 57 "ask_event" (spAsk c okEvent true) := by
  have GW : Cal P w K mg base CX0 1 "is_within" spWithin := ok_is_within T
  have GO : Cal P w K mg base CX0 1 "objects_in" (spObjectsIn K) := ok_objects_in T
  have GI : Cal P w K mg base CX0 2 "is_object" spIsObject := ok_is_object T
  have GD : Met P w K mg base CX0 56 c.trigger "decide" (spDecide c) := ok_decide T
  refine cal_of0 T.f.f_ask_event sc_ask_event b_ask_event (fun vs H Q E h => ?_) (fun f cdv A outer s H vs Q E hr h => ⟨_, (D_ask_event T GW (by decide) GO (by decide) GI (by decide) GD (Nat.le_refl _) hr).2, ?_⟩)
  · obtain ⟨d, pn, pr, F, st, n, nums, rows, cl, rfl, _⟩ := h
    rfl
  · obtain ⟨d, pn, pr, F, st, n, nums, rows, cl, rfl, hn, hR, hF, hFd, hD, hSt, hnn, ⟨tm, mn, l, rfl, rfl, rfl, hlen⟩, hneed, _, k⟩ := h
    cases st with
    | none => exact absurd rfl (hneed rfl)
    | some h =>
      obtain ⟨ddx, t, pk, pr', hd, hI⟩ := hD
      have hD0 : DeskAt c F H d (some h) := ⟨ddx, t, pk, pr', hd, hI⟩
      have hok : HouseOk h n := hSt
      unfold ansL at k
      rw [event_step] at k
      have bad : ∀ (z : Int) (H1 : Hp), Same H H1 → (∀ H' r, (∀ y, F y → H' y = H y ∧ y ≠ r) → DeskAt c F H' d (some h) → H' r = some (.lst (vI [z])) → Q (.ref r) H') → ([V.int z]).length ≤ sizeLine ∧ ∀ p, H1 p = none → Q (.ref p) (upd H1 p (.lst [V.int z])) := fun z H1 e1 k =>
        lst_few (zs := [z]) (by show 1 ≤ 100; decide) fun H' r e2 nr hr => k H' r (hF.kept (e1.trans e2) (e1.free nr)) (hD0.same (e1.trans e2)) hr
      refine ⟨_, rfl, pn, _, rfl, SqL.of hn, rfl, _, _, rfl, _, _, rfl, rfl, ?_⟩
      refine ⟨_, rfl, tm, 0, 9223372036854775807, rfl, _, rfl, ite2 (fun q => ite_yes rfl ?_) (fun q => ?_)⟩
      · rw [if_pos (by rw [q, Bool.true_or])] at k
        exact bad (-2) H (Same.refl _) k
      have q1 : isIn 0 9223372036854775807 tm = true := by simpa using q
      refine ⟨_, rfl, mn, 0, 64, rfl, _, rfl, ite2 (fun q => ?_) (fun q => ?_)⟩
      · rw [if_pos (by rw [q, Bool.or_true])] at k
        exact bad (-2) H (Same.refl _) k
      have q2 : isIn 0 64 mn = true := by simpa using q
      rw [if_neg (by rw [q1, q2]; decide)] at k
      have q3 := q1
      unfold isIn at q1 q2
      simp only [Bool.and_eq_true, decide_eq_true_eq] at q1 q2
      rw [if_pos q2] at hlen
      obtain ⟨qs, hq1, hq2, hq3⟩ := hR
      obtain ⟨q0, rfl⟩ : ∃ q0, qs = [q0] := by
        match qs, hq2 with
        | [a], _ => exact ⟨a, rfl⟩
      obtain ⟨r0, hr0, hr1⟩ := hq3 0 q0 rfl
      obtain rfl : l = r0 := Option.some.inj hr0
      refine ⟨_, rfl, pr, _, _, _, rfl, rfl, SqL.of hq1, atI_nat (j := 0) rfl, q0, l, mn.toNat, rfl, SqL.of hr1, hlen, by omega, fun H1 ol e1 nol hRaw => ?_⟩
      obtain ⟨os, o1, o2, o3⟩ := hRaw
      have hosl : os.length = mn.toNat := by rw [o2]; unfold tri; rw [List.length_map, List.length_range]
      obtain ⟨tl1, tl2⟩ := things_is mn.toNat l hlen
      -- are all objects right
      refine ⟨_, rfl, ol, rfl, ⟨_, SqL.of o1⟩, fun D hD => lc_it (walk_list (xs := os.map V.ref)) (fun i H' => Same H1 H' ∧ H' D = some (.lst (bV (((tri mn.toNat l).take i).map triOk)))) ⟨Same.new hD, upd_same⟩ (fun i H' _ p => SqL.of (p.1 _ _ o1)) ?_ ?_⟩
      · rintro i v H2 H3 hi ⟨e2, h2⟩ ⟨rfl, hv⟩
        obtain ⟨qi, hqi, rfl⟩ := map_inv hv
        obtain ⟨tt, ht, hta⟩ := o3 i qi hqi
        rw [List.length_map, hosl] at hi
        refine ⟨rfl, _, rfl, qi, tt.1, tt.2.1, tt.2.2, rfl, e2 _ _ hta, _, h2, ?_, e2.mut hD, ?_⟩
        · rw [bV_len, List.length_map, List.length_take]
          show _ < 16777216
          omega
        · rw [upd_same, take_snoc ht, List.map_append, bV_app]
          rfl
      · rintro H2 ⟨e2, h2⟩
        rw [List.length_map, o2, List.take_length] at h2
        have e02 := e1.trans e2
        have eall : ((tri mn.toNat l).map triOk).all id = (tri mn.toNat l).all triOk := by rw [List.all_map]; rfl
        refine ⟨D, (tri mn.toNat l).map triOk, rfl, SqL.of h2, _, rfl, ite2 (fun q => ?_) (fun q => ?_)⟩
        · rw [eall] at q
          cases hth : things mn.toNat l with
          | some x =>
            rw [(tl1 x hth).2.1] at q
            cases q
          | none =>
            rw [hth] at k
            exact bad (-2) H2 e02 k
        · rw [eall] at q
          cases hth : things mn.toNat l with
          | none =>
            rw [tl2 hth] at q
            exact absurd rfl q
          | some x =>
            obtain ⟨j1, _, j3, j4⟩ := tl1 x hth
            rw [hth] at k
            dsimp only at k
            have hO : ObjsAt H1 ol x := by
              unfold ObjsAt
              rw [← j1]
              exact ⟨os, o1, o2, o3⟩
            obtain ⟨dx, pnet, vm, po, h1, h2', h3, h4, h5, h6, h7, hNet, hOb, hMV⟩ := hI.ex
            have hd2 := e02 _ _ hd
            have h12 := e02 _ _ h1
            refine ⟨_, rfl, d, _, ddx, _, _, rfl, hd2, T.c.c_Desk, T.c.a_Desk_trigger, rfl, t, _, dx, _, _, rfl, h12, T.c.c_Trigger, T.c.a_Trigger_menu, rfl, rfl, _, rfl, ite2 (fun q5 => ?_) (fun q5 => ?_)⟩
            · have hv : vm = .non := of_decide_eq_true q5
              cases hm : h.menu with
              | none =>
                rw [hm] at k
                exact bad (-6) H2 e02 k
              | some m =>
                unfold MenuV at hMV
                rw [hm] at hMV
                obtain ⟨xx, _, hx, _⟩ := hMV
                rw [hv] at hx
                cases hx
            · have hv : ¬ vm = .non := fun z => q5 (decide_eq_true z)
              cases hm : h.menu with
              | none =>
                unfold MenuV at hMV
                rw [hm] at hMV
                exact absurd hMV hv
              | some m =>
                rw [hm] at k
                dsimp only at k
                have nt : ((tm.toNat : Nat) : Int) = tm := Int.toNat_of_nonneg q1.1
                have elt : decide (tm ≤ timeI h.time) = h.time.any (fun k => decide (tm.toNat ≤ k)) := by
                  cases h.time with
                  | none => exact decide_eq_false (by show ¬ (tm ≤ -2); omega)
                  | some kk => exact decide_eq_decide.mpr (by show tm ≤ (kk : Int) ↔ tm.toNat ≤ kk; omega)
                refine ⟨_, rfl, _, rfl, d, _, ddx, _, _, rfl, hd2, T.c.c_Desk, T.c.a_Desk_trigger, rfl, t, _, dx, _, _, rfl, h12, T.c.c_Trigger, T.c.a_Trigger_last_time, rfl, _, _, rfl, rfl, _, rfl, ite2 (fun q6 => ?_) (fun q6 => ?_)⟩
                · rw [if_pos (by rw [← elt]; exact q6)] at k
                  exact bad (-3) H2 e02 k
                · rw [if_neg (by rw [← elt]; exact q6)] at k
                  have hFn : ¬ F ol := fun z => by
                    obtain ⟨o, ho, _⟩ := hF _ z
                    rw [nol] at ho
                    cases ho
                  refine ⟨_, rfl, d, _, ddx, _, _, rfl, hd2, T.c.c_Desk, T.c.a_Desk_trigger, rfl, t, dx, _, rfl, h12, rfl, _, rfl, _, rfl, t, pk, pr', ol, F, h, n, tm.toNat, m, x, by rw [nt], hI.same e02, hok, hnn, hm, hO.same e2, j3, by omega, hFn, (fun z => by rw [z, h2'] at nol; cases nol), (fun z => by rw [z, h3] at nol; cases nol), fun y hy => ?_, fun H' r kp nF hI' hr => k H' r (fun y hy => ?_) ⟨ddx, t, pk, pr', kp.d _ _ _ _ hd2, hI'⟩ hr⟩
                  · obtain ⟨o, ho, q7, _⟩ := hF y hy
                    exact ⟨o, e02 _ _ ho, q7⟩
                  · obtain ⟨o, ho, _⟩ := hF y hy
                    exact ⟨by rw [kp.f y hy, e02 _ _ ho, ho], nF y hy⟩
end
end Ev
namespace Ev
open PySem PySem.Spec PyProof.Rows L2
open Sj25 (Count House isIn things)
/-- which deed a call is -/
def AnyOk (p : Nat) (nums : List Int) (rows : List (List Int)) (cl : Sj25.Call) : Prop :=
  (p = 1 ∧ okOpen nums rows cl) ∨ (p = 2 ∧ okMenu nums rows cl) ∨ (p = 3 ∧ okNet nums rows cl) ∨ (p = 4 ∧ okEvent nums rows cl) ∨ (p = 5 ∧ okCounts nums rows cl) ∨ (p = 6 ∧ okSums nums rows cl) ∨ (p = 7 ∧ okFeat nums rows cl) ∨ (p = 8 ∧ okLine nums rows cl)
structure Deeds (K : PySem.W.Frag) (mg : Str → Option Value) : Prop where
  ex : ∃ a f1 f2 f3 f4 f5 f6 f7 f8 : Addr, mg "DEEDS" = some (.ref a) ∧ KTup K a [.ref f1, .ref f2, .ref f3, .ref f4, .ref f5, .ref f6, .ref f7, .ref f8] ∧
    mg "ask_open" = some (.ref f1) ∧ mg "ask_menu" = some (.ref f2) ∧ mg "ask_net" = some (.ref f3) ∧ mg "ask_event" = some (.ref f4) ∧ mg "ask_counts" = some (.ref f5) ∧ mg "ask_sums" = some (.ref f6) ∧ mg "ask_features" = some (.ref f7) ∧ mg "ask_line" = some (.ref f8)
theorem cal_held {P : Program} {w : World} {K : PySem.W.Frag} {mg : Str → Option Value} {base : Heap} {k j : Nat} {x : Str} {sp : Sp} {f : Addr} (g : Cal P w K mg base CX0 k x sp) (hk : k ≤ j) (hm : mg x = some (.ref f)) : Held P w K mg base j f sp := by
  obtain ⟨f', fd, ps, F, hm', kp, b⟩ := g.ex
  obtain rfl : f = f' := Value.ref.inj (Option.some.inj (hm.symm.trans hm'))
  exact ⟨fd, ps, F.mono hk, kp, b⟩
section
variable {P : Program} {w : World} {K : PySem.W.Frag} {mg : Str → Option Value} {base : Heap} {c : Cs}
noncomputable def D_answer {f : Addr} {cdv : Value} {A : Around} {outer : List Env} {s : Shared} {H : Hp} {E : XK} (T : Txt K mg c) {aD : Addr} (gD : mg "DEEDS" = some (.ref aD)) {S : Addr → Option Sp} (hS : ∀ g sp, S g = some sp → Held P w K mg base 158 g sp)
    (hr : Room 158 (A.deeper (envOfC "answer" (defScope s_answer) s.heap.objs.size f cdv))) : { t : TS // PSs (XO P w K mg base n_answer "answer" s_answer f cdv A outer s H E) (defBody s_answer) t } :=
  ⟨_, pss_cons (ps_if (PW.pt (pw_and (pt_cmpR op_ne (pv 1) (pe_gi rfl T.k.k_OPEN) (nomark _)) (pw_and1 (pt_cmpR op_isN (pe_fld (pv 0) rfl) pe_non (nomark _))))) (pss_one (ps_ret (pe_lst (pa_cons (pe_gi rfl T.k.k_NO_TRIGGER) pa_nil)))) pss_nil)
    (pss_cons (ps_set (i := 4) sc_answer.nd rfl (Or.inl rfl) (pe_ix ix_tup (pe_glob (v := .ref aD) rfl gD rfl) (pe_op op_sub (pv 1) pe_int) (fun _ _ => rfl)))
    (pss_one (ps_ret (pe_callA (S := S) (i := 4) hS hr rfl (Or.inl rfl) (pa_cons (pv 0) (pa_cons (pv 2) (pa_cons (pv 3) pa_nil)))))))⟩
def spAnswer (c : Cs) : Sp := fun vs H Q _ => ∃ (d pn pr : Addr) (F : Addr → Prop) (st : Sj25.State) (n p : Nat) (nums : List Int) (rows : List (List Int)) (cl : Sj25.Call), vs = [.ref d, .int p, .ref pn, .ref pr] ∧ H pn = some (.lst (vI nums)) ∧ RowsAt H pr rows ∧ FOk F H ∧ ¬ F d ∧
  DeskAt c F H d st ∧ StOk st n ∧ n < 10000 ∧ AnyOk p nums rows cl ∧ (ansL st cl).length ≤ 1000000 ∧
  ∀ H' r, (∀ y, F y → H' y = H y ∧ y ≠ r) → DeskAt c F H' d (Sj25.step st cl).1 → H' r = some (.lst (vI (ansL st cl))) → Q (.ref r) H'
theorem step_none {p : Nat} {nums : List Int} {rows : List (List Int)} {cl : Sj25.Call} (h : AnyOk p nums rows cl) (h1 : p ≠ 1) : Sj25.step none cl = (none, Sj25.just (-7)) := by
  rcases h with ⟨z, _⟩ | ⟨_, _, _, _, _, rfl, _⟩ | ⟨_, _, _, _, _, _, _, _, _, _, rfl, _⟩ | ⟨_, _, _, _, _, _, rfl, _⟩ | ⟨_, _, _, rfl⟩ | ⟨_, rfl⟩ | ⟨_, rfl⟩ | ⟨_, _, _, rfl⟩
  · exact absurd z h1
  all_goals rfl
theorem ok_answer (T : Txt K mg c) (Dd : Deeds K mg) : Cal P w K mg base CX0 159 "answer" (spAnswer c) := by
  obtain ⟨aD, f1, f2, f3, f4, f5, f6, f7, f8, gD, tD, g1, g2, g3, g4, g5, g6, g7, g8⟩ := Dd.ex
  have A1 : Held P w K mg base 158 f1 (spAsk c okOpen false) := cal_held (ok_ask_open T) (by decide) g1
  have A2 : Held P w K mg base 158 f2 (spAsk c okMenu true) := cal_held (ok_ask_menu T) (by decide) g2
  have A3 : Held P w K mg base 158 f3 (spAsk c okNet true) := cal_held (ok_ask_net T) (by decide) g3
  have A4 : Held P w K mg base 158 f4 (spAsk c okEvent true) := cal_held (ok_ask_event T) (by decide) g4
  have A5 : Held P w K mg base 158 f5 (spAsk c okCounts true) := cal_held (ok_ask_counts T) (by decide) g5
  have A6 : Held P w K mg base 158 f6 (spAsk c okSums true) := cal_held (ok_ask_sums T) (by decide) g6
  have A7 : Held P w K mg base 158 f7 (spAsk c okFeat true) := cal_held (ok_ask_features T) (by decide) g7
  have A8 : Held P w K mg base 158 f8 (spAsk c okLine true) := cal_held (ok_ask_line T) (Nat.le_refl _) g8
  -- the deed at a place
  have deed : ∀ (p : Nat) (nums : List Int) (rows : List (List Int)) (cl : Sj25.Call), AnyOk p nums rows cl → ∃ (g : Addr) (ok : List Int → List (List Int) → Sj25.Call → Prop) (need : Bool), 1 ≤ p ∧ ([.ref f1, .ref f2, .ref f3, .ref f4, .ref f5, .ref f6, .ref f7, .ref f8] : List V)[p - 1]? = some (.ref g) ∧ ok nums rows cl ∧ Held P w K mg base 158 g (spAsk c ok need) ∧ (need = false ∨ p ≠ 1) := by
    intro p nums rows cl h
    rcases h with ⟨rfl, h⟩ | ⟨rfl, h⟩ | ⟨rfl, h⟩ | ⟨rfl, h⟩ | ⟨rfl, h⟩ | ⟨rfl, h⟩ | ⟨rfl, h⟩ | ⟨rfl, h⟩
    · exact ⟨f1, _, _, by decide, rfl, h, A1, .inl rfl⟩
    · exact ⟨f2, _, _, by decide, rfl, h, A2, .inr (by decide)⟩
    · exact ⟨f3, _, _, by decide, rfl, h, A3, .inr (by decide)⟩
    · exact ⟨f4, _, _, by decide, rfl, h, A4, .inr (by decide)⟩
    · exact ⟨f5, _, _, by decide, rfl, h, A5, .inr (by decide)⟩
    · exact ⟨f6, _, _, by decide, rfl, h, A6, .inr (by decide)⟩
    · exact ⟨f7, _, _, by decide, rfl, h, A7, .inr (by decide)⟩
    · exact ⟨f8, _, _, by decide, rfl, h, A8, .inr (by decide)⟩
  refine cal_of0 (k := 158) T.f.f_answer sc_answer b_answer (fun vs H Q E h => ?_) (fun f cdv A outer s H vs Q E hr h => ?_)
  · obtain ⟨d, pn, pr, F, st, n, p, nums, rows, cl, rfl, _⟩ := h
    rfl
  · obtain ⟨d, pn, pr, F, st, n, p, nums, rows, cl, rfl, hn, hR, hF, hFd, hD, hSt, hnn, hAny, hsz, k⟩ := h
    obtain ⟨g, ok, need, hp1, hg, hok, hH, hneed⟩ := deed p nums rows cl hAny
    refine ⟨_, (D_answer T gD (S := fun a => if a = g then some (spAsk c ok need) else none) (fun g' sp hs => ?_) hr).2, ?_⟩
    · by_cases z : g' = g
      · rw [if_pos z] at hs
        rw [z, ← Option.some.inj hs]
        exact hH
      · rw [if_neg z] at hs
        cases hs
    · have hd : ∃ ddx v, H d = some (.ins c.desk ddx [("trigger", v)]) ∧ (v = .non ↔ st = none) := by
        cases st with
        | none => obtain ⟨ddx, h1⟩ := hD; exact ⟨ddx, _, h1, by simp⟩
        | some h0 => obtain ⟨ddx, t, pk, pr, h1, _⟩ := hD; exact ⟨ddx, _, h1, by simp⟩
      obtain ⟨ddx, v, hd, hv⟩ := hd
      have go : (need = true → st ≠ none) → (tSeq (tAsg (tOp (rIxT K) (tC (.ref aD)) (tOp (rI0 fun i j => .int (i - j)) (tVar 1) (tC (.int 1)))) (gName 4)) (tRet (tCallA 4 (fun a => if a = g then some (spAsk c ok need) else none) (tCons (tVar 0) (tCons (tVar 2) (tCons (tVar 3) tNil)))))) { nx := fun _ H' => Q .non H', rt := Q } (start n_answer [.ref d, .int (p : Int), .ref pn, .ref pr]) H := fun hnd => by
        refine ⟨_, rfl, _, _, rfl, rfl, aD, _, _, _, rfl, rfl, tD.sq, ?_, g, _, rfl, if_pos rfl, _, rfl, _, rfl, _, rfl, d, pn, pr, F, st, n, nums, rows, cl, rfl, hn, hR, hF, hFd, hD, hSt, hnn, hok, hnd, hsz, k⟩
        rw [show ((p : Int) - 1) = ((p - 1 : Nat) : Int) by omega]
        exact atI_nat hg
      refine ⟨_, rfl, rfl, _, rfl, ite2 (fun q => ?_) (fun q => ?_)⟩
      · have hp : p ≠ 1 := fun z => by rw [z] at q; exact absurd q (by decide)
        refine ⟨_, rfl, d, _, ddx, _, _, rfl, hd, T.c.c_Desk, T.c.a_Desk_trigger, rfl, rfl, _, rfl, ite2 (fun q2 => ?_) (fun q2 => ?_)⟩
        · have hst : st = none := hv.mp (of_decide_eq_true q2)
          subst hst
          unfold ansL at k
          rw [step_none hAny hp] at k
          exact lst_few (zs := [-7]) (by decide) fun H' r e2 nr hr => k H' r (hF.kept e2 nr) (hD.same e2) hr
        · exact go fun _ z => q2 (decide_eq_true (hv.mpr z))
      · refine go fun hnd => ?_
        rcases hneed with z | z
        · rw [z] at hnd
          cases hnd
        · have q' : (p : Int) = 1 := by simpa using q
          exact absurd (show p = 1 by omega) z
end
end Ev
/-! the plain law: calls -/
namespace Ev
open Sj25 (isIn menuFrom)
theorem shape_is {p : Int} {nn k : Nat} (h : PySj25.shape p = some (nn, k)) : (p = 1 ∧ nn = 3 ∧ k = 0) ∨ (p = 2 ∧ nn = 1 ∧ k = 1) ∨ (p = 3 ∧ nn = 4 ∧ k = 3) ∨ (p = 4 ∧ nn = 2 ∧ k = 1) ∨ (p = 5 ∧ nn = 1 ∧ k = 0) ∨ (p = 6 ∧ nn = 0 ∧ k = 0) ∨ (p = 7 ∧ nn = 0 ∧ k = 0) ∨ (p = 8 ∧ nn = 1 ∧ k = 0) := by
  unfold PySj25.shape at h
  repeat' split at h
  all_goals first | (cases h; done) | (rename_i e; cases h; simp [e]; done) | (cases h; simp_all)
theorem len_rows : ∀ {k : Nat} {r t : List Int} {xs : List (List Int)}, PyFlat.rows k r = some (xs, t) → xs.length = k
  | 0, r, t, xs, h => by
    have h : some ([], r) = some (xs, t) := h
    cases h
    rfl
  | k + 1, r, t, xs, h => by
    unfold PyFlat.rows at h
    split at h
    · cases h
    · split at h
      · cases h
      · rename_i e
        cases h
        rw [List.length_cons, len_rows e]
/-- a call's deed -/
theorem call_deed {p : Int} {r t : List Int} {nn k : Nat} {xs : List (List Int)} (hs : PySj25.shape p = some (nn, k)) (hl : nn ≤ r.length) (hx : xs.length = k) (hb : PyInside.call PySj25.bound ((p :: r.take nn) :: xs) = true) (ha : Sj25Neutral.asked1 (PySj25.whole ((p :: r.take nn) :: xs)) = true) :
    ∃ (q : Nat) (cl : Sj25.Call), p = (q : Int) ∧ 1 ≤ q ∧ q ≤ 8 ∧ Sj25Neutral.callOf ((PySj25.whole ((p :: r.take nn) :: xs)).headD []) = some cl ∧ AnyOk q (r.take nn) xs cl := by
  have hlen : (r.take nn).length = nn := by rw [List.length_take]; omega
  revert hlen hb ha
  generalize r.take nn = nums
  intro hb ha hlen
  unfold Sj25Neutral.asked1 at ha
  simp only [Bool.and_eq_true] at ha
  obtain ⟨_, _, hc⟩ := ha
  rcases shape_is hs with ⟨rfl, rfl, rfl⟩ | ⟨rfl, rfl, rfl⟩ | ⟨rfl, rfl, rfl⟩ | ⟨rfl, rfl, rfl⟩ | ⟨rfl, rfl, rfl⟩ | ⟨rfl, rfl, rfl⟩ | ⟨rfl, rfl, rfl⟩ | ⟨rfl, rfl, rfl⟩
  · match nums, hlen, xs, hx with
    | [a, b, e], _, [], _ => exact ⟨1, .open_ a b e, rfl, by decide, by decide, rfl, .inl ⟨rfl, a, b, e, rfl, rfl⟩⟩
  · match nums, hlen, xs, hx with
    | [n], _, [t], _ =>
      have e : Sj25Neutral.callOf ((PySj25.whole [[2, n], t]).headD []) = if t.length = (if 0 ≤ n ∧ n ≤ 4096 then n.toNat else 0) ∧ Sj25Neutral.bytes t = true then some (.menu n t) else none := rfl
      by_cases g : t.length = (if 0 ≤ n ∧ n ≤ 4096 then n.toNat else 0) ∧ Sj25Neutral.bytes t = true
      · refine ⟨2, .menu n t, rfl, by decide, by decide, by rw [e, if_pos g], .inr (.inl ⟨rfl, n, t, rfl, rfl, rfl, g.1, fun z hz => ?_⟩)⟩
        have := List.all_eq_true.mp g.2 z hz
        simpa using this
      · rw [e, if_neg g] at hc
        cases hc
  · match nums, hlen, xs, hx with
    | [s, m, d, b], _, [r0, r1, r2], _ =>
      have hb' : PyInside.lists [(-9223372036854775808, 9223372036854775807, 16, 16), (-9223372036854775808, 9223372036854775807, 512, 512), (-9223372036854775808, 9223372036854775807, 16, 16)] [r0, r1, r2] = true := by
        have : (PyInside.each _ _ && PyInside.lists [(-9223372036854775808, 9223372036854775807, 16, 16), (-9223372036854775808, 9223372036854775807, 512, 512), (-9223372036854775808, 9223372036854775807, 16, 16)] [r0, r1, r2]) = true := hb
        exact (Bool.and_eq_true_iff.mp this).2
      simp only [PyInside.lists, Bool.and_eq_true, decide_eq_true_eq] at hb'
      obtain ⟨⟨⟨a1, a2⟩, _⟩, ⟨⟨b1, b2⟩, _⟩, ⟨⟨c1, c2⟩, _⟩, _⟩ := hb'
      have l0 : r0.length = 16 := by omega
      have l1 : r1.length = 512 := by omega
      have l2 : r2.length = 16 := by omega
      have e : Sj25Neutral.callOf ((PySj25.whole [[3, s, m, d, b], r0, r1, r2]).headD []) = if ((r0 ++ r1) ++ r2).length = 544 then some (.net s m d b (((r0 ++ r1) ++ r2).take 16) ((((r0 ++ r1) ++ r2).drop 16).take 512) (((r0 ++ r1) ++ r2).drop 528)) else none := by
        show Sj25Neutral.callOf (3 :: s :: m :: d :: b :: ([] ++ r0 ++ r1 ++ r2)) = _
        rw [List.nil_append]
        rfl
      have hl : ((r0 ++ r1) ++ r2).length = 544 := by rw [List.length_append, List.length_append, l0, l1, l2]
      have t0 : ((r0 ++ r1) ++ r2).take 16 = r0 := by rw [List.append_assoc, List.take_append_of_le_length (by omega), List.take_of_length_le (by omega)]
      have t1 : (((r0 ++ r1) ++ r2).drop 16).take 512 = r1 := by rw [List.append_assoc, List.drop_append_of_le_length (by omega), List.drop_of_length_le (by omega), List.nil_append, List.take_append_of_le_length (by omega), List.take_of_length_le (by omega)]
      have t2 : ((r0 ++ r1) ++ r2).drop 528 = r2 := by
        rw [List.drop_append, List.drop_of_length_le (by rw [List.length_append]; omega), List.nil_append, List.length_append, l0, l1]
        rfl
      exact ⟨3, .net s m d b r0 r1 r2, rfl, by decide, by decide, by rw [e, if_pos hl, t0, t1, t2], .inr (.inr (.inl ⟨rfl, s, m, d, b, r0, r1, r2, rfl, rfl, rfl, by omega, by omega, by omega⟩))⟩
  · match nums, hlen, xs, hx with
    | [t, n], _, [l], _ =>
      have e : Sj25Neutral.callOf ((PySj25.whole [[4, t, n], l]).headD []) = if l.length = 3 * (if 0 ≤ n ∧ n ≤ 64 then n.toNat else 0) then some (.event t n l) else none := rfl
      by_cases g : l.length = 3 * (if 0 ≤ n ∧ n ≤ 64 then n.toNat else 0)
      · exact ⟨4, .event t n l, rfl, by decide, by decide, by rw [e, if_pos g], .inr (.inr (.inr (.inl ⟨rfl, t, n, l, rfl, rfl, rfl, g⟩)))⟩
      · rw [e, if_neg g] at hc
        cases hc
  · match nums, hlen, xs, hx with
    | [i], _, [], _ => exact ⟨5, .counts i, rfl, by decide, by decide, rfl, .inr (.inr (.inr (.inr (.inl ⟨rfl, i, rfl, rfl⟩))))⟩
  · match nums, hlen, xs, hx with
    | [], _, [], _ => exact ⟨6, .sums, rfl, by decide, by decide, rfl, .inr (.inr (.inr (.inr (.inr (.inl ⟨rfl, rfl⟩)))))⟩
  · match nums, hlen, xs, hx with
    | [], _, [], _ => exact ⟨7, .features, rfl, by decide, by decide, rfl, .inr (.inr (.inr (.inr (.inr (.inr (.inl ⟨rfl, rfl⟩))))))⟩
  · match nums, hlen, xs, hx with
    | [i], _, [], _ => exact ⟨8, .line i, rfl, by decide, by decide, rfl, .inr (.inr (.inr (.inr (.inr (.inr (.inr ⟨rfl, i, rfl, rfl⟩))))))⟩
end Ev
/-! the plain law: what stays true of a house -/
namespace Ev
open Sj25 (isIn menuFrom lineFrom blank House things)
theorem menu_ok : ∀ (ls : List (List Nat)) (k : Nat) (m0 m : List Sj25.Line), MenuOk m0 → (∀ l ∈ ls, l.length ≤ 100000) → menuFrom k m0 ls = .ok m → MenuOk m
  | [], k, m0, m, h0, _, h => by
    have h : (Except.ok m0 : Except Nat (List Sj25.Line)) = .ok m := h
    cases h
    exact h0
  | l :: r, k, m0, m, h0, hl, h => by
    have hr : ∀ x ∈ r, x.length ≤ 100000 := fun x hx => hl x (List.mem_cons_of_mem _ hx)
    cases hb : blank l with
    | true =>
      rw [menuFrom_blank hb] at h
      exact menu_ok r (k + 1) m0 m h0 hr h
    | false =>
      cases e : lineFrom (m0.map fun x => x.name) l with
      | none =>
        rw [menuFrom_none hb e] at h
        cases h
      | some x =>
        by_cases g : 64 ≤ m0.length
        · rw [menuFrom_full hb g] at h
          cases h
        · rw [menuFrom_some hb e (by omega)] at h
          obtain ⟨o1, _⟩ := lineFrom_ok (hl l (List.mem_cons_self ..)) e
          rw [List.length_map] at o1
          exact menu_ok r (k + 1) _ m (h0.snoc (by omega) o1) hr h
theorem HouseOk.more {h : House} {n : Nat} (ok : HouseOk h n) (hn : n < 10000) : HouseOk h (n + 1) := by
  obtain ⟨a, b, d, e, hs, hle⟩ := ok.sums
  exact ⟨hn, ok.net, ok.sh, ok.th, ok.sl, Nat.le_succ_of_le ok.kl, ⟨a, b, d, e, hs, by omega⟩, ok.no, fun m hm => by
    obtain ⟨m1, m2, m3⟩ := ok.me m hm
    exact ⟨m1, m2, fun k hk => by obtain ⟨q1, q2, q3⟩ := m3 k hk; exact ⟨by omega, by omega, by omega⟩⟩⟩
theorem StOk.more {st : Sj25.State} {n : Nat} (ok : StOk st n) (hn : n < 10000) : StOk st (n + 1) := by
  cases st with
  | none => exact hn
  | some h => exact HouseOk.more ok hn
theorem st_ok {st : Sj25.State} {n p : Nat} {nums : List Int} {rows : List (List Int)} {cl : Sj25.Call} (ok : StOk st n) (hn : n < 10000) (a : AnyOk p nums rows cl) : StOk (Sj25.step st cl).1 (n + 1) := by
  cases st with
  | none =>
    by_cases h1 : p = 1
    · rcases a with ⟨_, x, y, z, _, rfl⟩ | ⟨h, _⟩ | ⟨h, _⟩ | ⟨h, _⟩ | ⟨h, _⟩ | ⟨h, _⟩ | ⟨h, _⟩ | ⟨h, _⟩
      · have e : Sj25.step none (.open_ x y z) = if (!isIn 0 65535 x || !isIn 1 65535 y || !isIn 1 64 z) = true then (none, Sj25.just (-2)) else (some (house0 x.toNat y.toNat z.toNat), Sj25.just 0) := rfl
        rw [e]
        split
        · exact StOk.more (st := none) ok hn
        · exact StOk.more (st := some _) (n := n) (by
            have h0 := house0_ok x.toNat y.toNat z.toNat
            have : ∀ k, k ≤ n → HouseOk (house0 x.toNat y.toNat z.toNat) k := fun k => by
              induction k with
              | zero => intro _; exact h0
              | succ k ih => intro hk; exact (ih (by omega)).more (by omega)
            exact this n (Nat.le_refl _)) hn
      all_goals omega
    · rw [step_none a h1]
      exact StOk.more (st := none) ok hn
  | some h =>
    have same : StOk (some h) (n + 1) := ok.more hn
    have hok : HouseOk h n := ok
    rcases a with ⟨_, x, y, z, _, rfl⟩ | ⟨_, i, tx, _, _, rfl, hl, _⟩ | ⟨_, s, m, d, b2, b1, w1, w2, _, _, rfl, _⟩ | ⟨_, t, k, l, _, _, rfl, hl⟩ | ⟨_, i, _, rfl⟩ | ⟨_, rfl⟩ | ⟨_, rfl⟩ | ⟨_, i, _, rfl⟩
    · have e : Sj25.step (some h) (.open_ x y z) = if (!isIn 0 65535 x || !isIn 1 65535 y || !isIn 1 64 z) = true then (some h, Sj25.just (-2)) else (some (house0 x.toNat y.toNat z.toNat), Sj25.just 0) := rfl
      rw [e]
      split
      · exact same
      · have h0 := house0_ok x.toNat y.toNat z.toNat
        have : ∀ k, k ≤ n + 1 → HouseOk (house0 x.toNat y.toNat z.toNat) k := fun k => by
          induction k with
          | zero => intro _; exact h0
          | succ k ih => intro hk; exact (ih (by omega)).more (by omega)
        exact this (n + 1) (Nat.le_refl _)
    · have e : Sj25.step (some h) (.menu i tx) = (some (Sj25.on h (.menu i tx)).1, (Sj25.on h (.menu i tx)).2) := rfl
      have e2 : Sj25.on h (.menu i tx) = if (!isIn 0 4096 i) = true then (h, Sj25.just (-2)) else match menuFrom 0 [] (Sj25.parted ((tx.take i.toNat).map Int.toNat)) with
        | .error k => (h, Sj25.just (-100 - Sj25.nat k))
        | .ok m => (menuNext h m, Sj25.just (Sj25.nat m.length)) := rfl
      rw [e, e2]
      split
      · exact same
      · split
        · exact same
        · rename_i hin k m hm
          have hMk := menu_ok _ 0 [] m MenuOk.nil (fun l hl' => by
            have h1 := parted_item _ l hl'
            rw [List.length_map, List.length_take] at h1
            have : tx.length ≤ 4096 := by rw [hl]; split <;> omega
            omega) hm
          obtain ⟨a, b, d, e, hs, hle⟩ := hok.sums
          refine ⟨hn, hok.net, hok.sh, hok.th, hok.sl, Nat.le_succ_of_le hok.kl, ⟨a, b, d, e, hs, by omega⟩, fun z => ?_, fun m' hm' => ?_⟩
          · cases (show some m = none from z)
          · obtain rfl := Option.some.inj (show some m = some m' from hm')
            refine ⟨hMk, List.length_replicate, fun k hk => ?_⟩
            have := List.eq_of_mem_replicate hk
            subst this
            exact ⟨Nat.zero_le _, Nat.zero_le _, Nat.zero_le _⟩
    · rw [net_step]
      split
      · rename_i hp
        obtain ⟨_, _, _, p1, p2, p3, p4, p5⟩ := par_nat hp
        have hm := hok.more hn
        exact ⟨hm.nn, ⟨p3, p4, p5, p2⟩, p1, hm.th, hm.sl, hm.kl, hm.sums, hm.no, hm.me⟩
      · exact same
    · rw [event_step]
      split
      · exact same
      · rename_i hin
        have h2 : isIn 0 64 k = true := by
          simp only [Bool.or_eq_true, not_or] at hin
          simpa using hin.2
        unfold isIn at h2
        simp only [Bool.and_eq_true, decide_eq_true_eq] at h2
        rw [if_pos h2] at hl
        obtain ⟨j1, _⟩ := things_is k.toNat l hl
        split
        · exact same
        · rename_i x hx
          obtain ⟨_, _, j3, j4⟩ := j1 x hx
          split
          · exact same
          · rename_i m hm
            split
            · exact same
            · exact next_ok hok hn hm j3 (by omega)
    · have e : (Sj25.step (some h) (.counts i)).1 = some h := by
        show some (Sj25.on h (.counts i)).1 = some h
        unfold Sj25.on
        dsimp only
        split <;> rfl
      rw [e]
      exact same
    · exact same
    · exact same
    · have e : (Sj25.step (some h) (.line i)).1 = some h := by
        show some (Sj25.on h (.line i)).1 = some h
        unfold Sj25.on
        dsimp only
        split
        · rfl
        · split
          · rfl
          · split <;> rfl
      rw [e]
      exact same
end Ev
namespace Ev
open PySem PySem.Spec PyProof.Rows L2
section
variable {P : Program} {w : World} {K : PySem.W.Frag} {mg : Str → Option Value} {base : Heap} {c : Cs}
def spRowsAt (K : PySem.W.Frag) : Sp := fun vs H Q _ => ∃ (a : Addr) (l : List Int) (i k : Nat) (xs : List (List Int)) (rest : List Int), vs = [.ref a, .int i, .int k] ∧ SqL K H a (vI l) ∧ i ≤ l.length ∧ k ≤ 3 ∧ PyFlat.rows k (l.drop i) = some (xs, rest) ∧
  ∀ H' p pr (j : Nat), Same H H' → H' p = some (.tup [.ref pr, .int j]) → RowsAt H' pr xs → l.drop j = rest → j ≤ l.length → Q (.ref p) H'
theorem rows_succ {k : Nat} {r t : List Int} {xs : List (List Int)} (h : PyFlat.rows (k + 1) r = some (xs, t)) : ∃ (n : Int) (s : List Int) (xs' : List (List Int)), r = n :: s ∧ 0 ≤ n ∧ n.toNat ≤ s.length ∧ xs = s.take n.toNat :: xs' ∧ PyFlat.rows k (s.drop n.toNat) = some (xs', t) := by
  unfold PyFlat.rows at h
  split at h
  · cases h
  · rename_i x s e
    split at h
    · cases h
    · rename_i ys t' e2
      cases h
      unfold PyFlat.row at e
      split at e
      · cases e
      · rename_i n r'
        split at e
        · rename_i g
          cases e
          exact ⟨n, r', ys, rfl, g.1, g.2, rfl, e2⟩
        · cases e
theorem ok_rows_at (T : Txt K mg c) : Cal P w K mg base CX0 1 "rows_at" (spRowsAt K) := by
  refine cal_of0 T.f.f_rows_at sc_rows_at b_rows_at (fun vs H Q E h => ?_) (fun f cdv A outer s H vs Q E hr h => ⟨_, (D_rows_at T hr).2, ?_⟩)
  · obtain ⟨a, l, i, k, xs, rest, rfl, _⟩ := h
    rfl
  · obtain ⟨a, l, i, n, xs, rest, rfl, hS, hi, hn, hrows, k⟩ := h
    refine ⟨by exact Nat.zero_le _, fun D hD => ?_⟩
    have f0 := Same.new (o := .lst []) hD
    refine ⟨_, rfl, n, rfl, by omega, by omega, for_it (walk_range (lo := 0) (n := n)) (fun t σ H' => ∃ (j : Nat) (xs1 xs2 : List (List Int)) (qs : List Addr) (v4 v5 : Option V), σ = [some (.ref a), some (.int j), some (.int n), some (.ref D), v4, v5] ∧ Same H H' ∧ H' D = some (.lst (qs.map V.ref)) ∧ qs.length = xs1.length ∧ xs1.length = t ∧
        (∀ (b : Nat) (q : Addr), qs[b]? = some q → q ≠ D ∧ ∃ r, xs1[b]? = some r ∧ H' q = some (.lst (vI r))) ∧ j ≤ l.length ∧ xs = xs1 ++ xs2 ∧ PyFlat.rows (n - t) (l.drop j) = some (xs2, rest))
      ⟨i, [], xs, [], none, none, rfl, f0, upd_same, rfl, rfl, fun b q h => by simp at h, hi, rfl, hrows⟩ (fun _ _ _ _ _ => True.intro) ?_ ?_⟩
    · rintro t v σ H1 H2 ht ⟨j, xs1, xs2, qs, v4, v5, rfl, e1, h1, hq1, rfl, hqs, hj, rfl, hr2⟩ ⟨rfl, hv⟩
      rw [show n - xs1.length = (n - (xs1.length + 1)) + 1 by omega] at hr2
      obtain ⟨z, s0, xs3, g1, g2, g3, rfl, g5⟩ := rows_succ hr2
      have hjl : j < l.length := by
        have := congrArg List.length g1
        rw [List.length_drop, List.length_cons] at this
        omega
      have hd := List.drop_eq_getElem_cons hjl
      rw [g1] at hd
      have hz : l[j]? = some z := by
        rw [List.getElem?_eq_getElem hjl]
        exact congrArg some (List.cons.inj hd).1.symm
      have hs0 : s0 = l.drop (j + 1) := (List.cons.inj hd).2
      have hsl : s0.length = l.length - (j + 1) := by rw [hs0, List.length_drop]
      have hzn : ((z.toNat : Nat) : Int) = z := Int.toNat_of_nonneg g2
      have hj1 : ((j : Int) + 1 + z) = ((j + 1 + z.toNat : Nat) : Int) := by omega
      have hS1 : SqL K H2 a (vI l) := e1.seq hS
      refine ⟨_, rfl, _, _, rfl, rfl, _, rfl, _, rfl, a, _, _, _, rfl, rfl, hS1, atI_nat (vI_at hz), _, _, rfl, rfl, ?_⟩
      show tSeq _ _ _ (List.set _ 5 (some (V.int ((j : Int) + 1 + z)))) H2
      rw [hj1]
      refine ⟨_, rfl, .inl ⟨rfl, _, SqL.of h1⟩, _, rfl, _, rfl, _, _, rfl, rfl, _, rfl, _, rfl, _, rfl, a, _, rfl, hS1, fun q hq => ?_⟩
      have fq := Same.new (o := .lst (cutV (vI l) (some ((j : Int) + 1)) (some ((j + 1 + z.toNat : Nat) : Int)))) hq
      have hcut : cutV (vI l) (some ((j : Int) + 1)) (some ((j + 1 + z.toNat : Nat) : Int)) = vI (s0.take z.toNat) := by
        have e : ((j : Int) + 1) = ((j + 1 : Nat) : Int) := rfl
        rw [e, cut_nn _ _ _ (by rw [vI_len]; omega) (by rw [vI_len]; omega), vI_drop, vI_take, hs0, show j + 1 + z.toNat - (j + 1) = z.toNat by omega]
      have qD : q ≠ D := (ne_of_none h1 hq).symm
      refine ⟨D, _, _, rfl, rfl, fq _ _ h1, by rw [List.length_map, hq1]; show _ < 16777216; omega, _, rfl, j + 1 + z.toNat, xs1 ++ [s0.take z.toNat], xs3, qs ++ [q], _, _, rfl, (e1.trans fq).mut hD, by rw [upd_same, List.map_append]; rfl, by rw [List.length_append, List.length_append, hq1]; rfl, by rw [List.length_append]; rfl, fun b r hb => ?_, by omega, by rw [List.append_assoc]; rfl, ?_⟩
      · by_cases hbl : b < qs.length
        · rw [List.getElem?_append_left hbl] at hb
          obtain ⟨y1, r1, y2, y3⟩ := hqs b r hb
          exact ⟨y1, r1, by rw [List.getElem?_append_left (by omega)]; exact y2, by rw [upd_ne y1]; exact fq _ _ y3⟩
        · rw [List.getElem?_append_right (by omega)] at hb
          have h0 : b - qs.length = 0 := by
            have := (List.getElem?_eq_some_iff.mp hb).1
            simp at this
            omega
          rw [h0] at hb
          obtain rfl : q = r := Option.some.inj hb
          refine ⟨qD, s0.take z.toNat, by rw [List.getElem?_append_right (by omega), ← hq1, h0]; rfl, ?_⟩
          rw [upd_ne qD, upd_same, hcut]
      · rw [hs0, List.drop_drop] at g5
        exact g5
    · rintro σ H1 ⟨j, xs1, xs2, qs, v4, v5, rfl, e1, h1, hq1, hq2, hqs, hj, rfl, hr2⟩
      rw [Nat.sub_self] at hr2
      have hr2 : some (([] : List (List Int)), l.drop j) = some (xs2, rest) := hr2
      cases hr2
      rw [List.append_nil] at *
      refine ⟨_, rfl, _, rfl, by show 2 ≤ sizeLine; decide, fun p hp => k _ p D j (e1.trans (Same.new hp)) upd_same ⟨qs, Same.new hp _ _ h1, hq1, fun b q hb => ?_⟩ rfl hj⟩
      obtain ⟨_, r, r1, r2⟩ := hqs b q hb
      exact ⟨r, r1, Same.new hp _ _ r2⟩
end
end Ev
namespace Ev
open PySem PySem.Spec PyProof.Rows L2
def RawCall := List (List Int)
theorem played_cons (s : Sj25.State) (cc : List (List Int)) (r : List (List (List Int))) : PyFlat.played Sj25Neutral.step s (cc :: r) = (Sj25Neutral.step s cc).2 :: PyFlat.played Sj25Neutral.step (Sj25Neutral.step s cc).1 r := rfl
theorem told_cons (a : List Int) (r : List (List Int)) : PyFlat.told (a :: r) = ((a.length : Int) :: a) ++ PyFlat.told r := by
  unfold PyFlat.told
  rw [List.flatMap_cons]
theorem step_is {s : Sj25.State} {cc : List (List Int)} {cl : Sj25.Call} (h : Sj25Neutral.callOf (cc.headD []) = some cl) : Sj25Neutral.step s cc = ((Sj25.step s cl).1, ansL s cl) := by
  unfold Sj25Neutral.step
  rw [h]
  rfl
theorem short_cons {s : Sj25.State} {n : Nat} {cc : List (List Int)} {r : List (List (List Int))} (h : Sj25Neutral.short s n (cc :: r) = true) : (Sj25Neutral.step s cc).2.length ≤ n ∧ Sj25Neutral.short (Sj25Neutral.step s cc).1 (n - (Sj25Neutral.step s cc).2.length) r = true := by
  have h : (decide ((Sj25Neutral.step s cc).2.length ≤ n) && Sj25Neutral.short (Sj25Neutral.step s cc).1 (n - (Sj25Neutral.step s cc).2.length) r) = true := h
  simp only [Bool.and_eq_true, decide_eq_true_eq] at h
  exact h
theorem calls_cons {f : Nat} {p : Int} {r : List Int} {cs : List (List (List Int))} (h : PyFlat.calls PySj25.shape f (p :: r) = some cs) : ∃ (f' nn k : Nat) (xs : List (List Int)) (t : List Int) (cs' : List (List (List Int))), PySj25.shape p = some (nn, k) ∧ nn ≤ r.length ∧ PyFlat.rows k (r.drop nn) = some (xs, t) ∧ cs = ((p :: r.take nn) :: xs) :: cs' ∧ PyFlat.calls PySj25.shape f' t = some cs' := by
  cases f with
  | zero => cases h
  | succ f =>
    have h : (match PyFlat.call PySj25.shape (p :: r) with
      | none => none
      | some (c, t) => match PyFlat.calls PySj25.shape f t with
        | none => none
        | some cs => some (c :: cs)) = some cs := h
    split at h
    · cases h
    · rename_i cc t e
      split at h
      · cases h
      · rename_i cs' e2
        cases h
        unfold PyFlat.call at e
        dsimp only at e
        split at e
        · cases e
        · rename_i nn k e3
          split at e
          · cases e
          · rename_i g
            split at e
            · cases e
            · rename_i xs t' e4
              cases e
              exact ⟨f, nn, k, xs, t, cs', e3, by omega, e4, rfl, e2⟩
theorem calls_nil {f : Nat} {cs : List (List (List Int))} (h : PyFlat.calls PySj25.shape f [] = some cs) : cs = [] := by
  cases f with
  | zero => cases h; rfl
  | succ f => cases h; rfl
section
variable {P : Program} {w : World} {K : PySem.W.Frag} {mg : Str → Option Value} {base : Heap} {c : Cs}
def spDeskInit (C : Addr) : Sp := fun vs H Q _ => ∃ d dx : Addr, vs = [.ref d] ∧ H d = some (.ins C dx []) ∧ Q .non (upd H d (.ins C dx [("trigger", .non)]))
theorem ok_Desk_init (T : Txt K mg c) : Mak P w K mg base CX0 1 "Desk" c.desk (spDeskInit c.desk) := by
  refine mak_of0 T.m.m_Desk_init sc_Desk_init b_Desk_init (fun vs H Q E h => ?_) (fun f cdv A outer s H vs Q E hr h => ⟨_, (D_Desk_init T hr).2, ?_⟩)
  · obtain ⟨d, dx, rfl, _⟩ := h
    rfl
  · obtain ⟨d, dx, rfl, hd, k⟩ := h
    exact ⟨_, rfl, d, _, dx, _, rfl, hd, T.c.c_Desk, T.c.a_Desk_trigger, by show 0 < 1000; decide, k⟩
def spAnswers (K : PySem.W.Frag) : Sp := fun vs H Q _ => ∃ (a : Addr) (l : List Int), vs = [.ref a] ∧ SqL K H a (vI l) ∧ PySj25.answers_asked l = true ∧ ∀ H' p, H' p = some (.lst (vI (PySj25.answers l))) → Q (.ref p) H'
/-- where the loop stands -/
structure Loop (c : Cs) (B : Prop) (a d D : Addr) (l : List Int) (i : Nat) (rem : List (List (List Int))) (H : Hp) : Prop where
  ex : ∃ (st : Sj25.State) (n N f : Nat) (found : List Int), i ≤ l.length ∧ PyFlat.calls PySj25.shape f (l.drop i) = some rem ∧ DeskAt c (fun y => y = D ∨ (y = a ∧ B)) H d st ∧ StOk st n ∧ n + rem.length ≤ 60 ∧ H D = some (.lst (vI found)) ∧ d ≠ D ∧ (B → d ≠ a) ∧ (B → Rd H a (.lst (vI l))) ∧
    (∀ x ∈ rem, PyInside.call PySj25.bound x = true ∧ Sj25Neutral.asked1 (PySj25.whole x) = true) ∧ PySj25.answers l = found ++ PyFlat.told (PyFlat.played Sj25Neutral.step st (rem.map PySj25.whole)) ∧ N ≤ 999999 ∧ Sj25Neutral.short st N (rem.map PySj25.whole) = true
theorem shapes_at (T : Txt K mg c) : ∃ aS, mg "SHAPES" = some (.ref aS) ∧ ∃ xs, KTup K aS xs ∧ ∀ (q nn k : Nat), PySj25.shape (q : Int) = some (nn, k) → ∃ b, xs[q]? = some (.ref b) ∧ KTup K b [.int nn, .int k] := by
  obtain ⟨a, a0, a1, a2, a3, a4, a5, a6, a7, a8, g, t, t0, t1, t2, t3, t4, t5, t6, t7, t8⟩ := T.k.t_SHAPES
  refine ⟨a, g, _, t, fun q nn k h => ?_⟩
  rcases shape_is h with ⟨hq, rfl, rfl⟩ | ⟨hq, rfl, rfl⟩ | ⟨hq, rfl, rfl⟩ | ⟨hq, rfl, rfl⟩ | ⟨hq, rfl, rfl⟩ | ⟨hq, rfl, rfl⟩ | ⟨hq, rfl, rfl⟩ | ⟨hq, rfl, rfl⟩
  · obtain rfl : q = 1 := by omega
    exact ⟨a1, rfl, t1⟩
  · obtain rfl : q = 2 := by omega
    exact ⟨a2, rfl, t2⟩
  · obtain rfl : q = 3 := by omega
    exact ⟨a3, rfl, t3⟩
  · obtain rfl : q = 4 := by omega
    exact ⟨a4, rfl, t4⟩
  · obtain rfl : q = 5 := by omega
    exact ⟨a5, rfl, t5⟩
  · obtain rfl : q = 6 := by omega
    exact ⟨a6, rfl, t6⟩
  · obtain rfl : q = 7 := by omega
    exact ⟨a7, rfl, t7⟩
  · obtain rfl : q = 8 := by omega
    exact ⟨a8, rfl, t8⟩
theorem asked_is {l : List Int} (h : PySj25.answers_asked l = true) : ∃ raw, PyFlat.calls PySj25.shape l.length l = some raw ∧ raw.length ≤ 60 ∧ (∀ x ∈ raw, PyInside.call PySj25.bound x = true ∧ Sj25Neutral.asked1 (PySj25.whole x) = true) ∧ Sj25Neutral.short Sj25.start 999999 (raw.map PySj25.whole) = true ∧ (PySj25.answers l).length ≤ 10000000 ∧
    PySj25.answers l = PyFlat.told (PyFlat.played Sj25Neutral.step Sj25.start (raw.map PySj25.whole)) := by
  unfold PySj25.answers_asked at h
  cases e : PyFlat.calls PySj25.shape l.length l with
  | none => rw [e] at h; cases h
  | some raw =>
    rw [e] at h
    simp only [Bool.and_eq_true] at h
    obtain ⟨⟨⟨⟨_, h1⟩, h2⟩, h3⟩, h4⟩ := h
    have h3 : ((raw.map PySj25.whole).all Sj25Neutral.asked1 && (!(raw.map PySj25.whole).isEmpty && (decide ((raw.map PySj25.whole).length ≤ 60) && Sj25Neutral.short Sj25Neutral.start 999999 (raw.map PySj25.whole)))) = true := h3
    simp only [Bool.and_eq_true] at h3
    refine ⟨raw, rfl, of_decide_eq_true h1, fun x hx => ⟨List.all_eq_true.mp h2 x hx, List.all_eq_true.mp h3.1 _ (List.mem_map.mpr ⟨x, hx, rfl⟩)⟩, h3.2.2.2, of_decide_eq_true h4, ?_⟩
    unfold PySj25.answers PySj25.calls
    rw [e]
    rfl
theorem ok_answers (T : Txt K mg c) (Dd : Deeds K mg) {fA : Addr} {fdA : FuncData} (FA : Fun K "answers" "answers" s_answers fA fdA) : FnOk P w K mg base CX0 160 fA fdA ["calls"] (spAnswers K) := by
  have GD : Mak P w K mg base CX0 1 "Desk" c.desk (spDeskInit c.desk) := ok_Desk_init T
  have GR : Cal P w K mg base CX0 1 "rows_at" (spRowsAt K) := ok_rows_at T
  have GA : Cal P w K mg base CX0 159 "answer" (spAnswer c) := ok_answer T Dd
  obtain ⟨aS, gS, shp, tS, hshp⟩ := shapes_at T
  refine fn_body FA sc_answers (fun vs H Q E h => ?_) (body0 fun f cdv A outer s H vs Q E hr h => ⟨_, (D_answers T GD (by decide) GR (by decide) GA (Nat.le_refl _) gS hr).2, ?_⟩)
  · obtain ⟨a, l, rfl, _⟩ := h
    rfl
  · obtain ⟨a, l, rfl, hS, hasked, k⟩ := h
    obtain ⟨raw, r1, r2, r3, r4, r5, r6⟩ := asked_is hasked
    refine fun d ddx hd hddx hne => ⟨d, ddx, rfl, upd_same, rfl, ?_⟩
    have sd : Same H (upd (upd (upd H ddx (.own d)) d (.ins c.desk ddx [])) d (.ins c.desk ddx [("trigger", .non)])) := made_same hd hddx (but_fld But.refl)
    have hdd : (upd (upd (upd H ddx (.own d)) d (.ins c.desk ddx [])) d (.ins c.desk ddx [("trigger", .non)])) d = some (.ins c.desk ddx [("trigger", .non)]) := upd_same
    revert sd hdd
    generalize (upd (upd (upd H ddx (.own d)) d (.ins c.desk ddx [])) d (.ins c.desk ddx [("trigger", .non)])) = H1
    intro sd hdd
    refine ⟨by exact Nat.zero_le _, fun D nD => ?_⟩
    have fD := Same.new (o := .lst []) nD
    have dD : d ≠ D := ne_of_none hdd nD
    obtain ⟨B, hB1, hB2⟩ : ∃ B : Prop, (B → Rd H a (.lst (vI l))) ∧ (¬ B → ∀ H', SqL K H' a (vI l)) := by
      rcases hS with h | h
      · exact ⟨True, fun _ => h, fun z => absurd True.intro z⟩
      · exact ⟨False, fun z => z.elim, fun _ _ => .inr h⟩
    have da : B → d ≠ a := fun hb z => by
      subst z
      rcases hB1 hb with h | ⟨o, h⟩
      · rw [hd] at h; cases h
      · rw [hd] at h; cases h
    have rdS : ∀ {G G' : Hp}, Same G G' → Rd G a (.lst (vI l)) → Rd G' a (.lst (vI l)) := fun e h => by
      rcases h with h | ⟨o, h⟩
      · exact .inl (e _ _ h)
      · exact .inr ⟨o, e _ _ h⟩
    refine ⟨fun mm σ H' => ∃ (i : Nat) (rem : List (List (List Int))) (v4 v5 v6 v7 v8 v9 : Option V), σ = [some (.ref a), some (.ref d), some (.ref D), some (.int i), v4, v5, v6, v7, v8, v9] ∧ mm = rem.length ∧ Loop c B a d D l i rem H',
      ⟨_, 0, raw, none, none, none, none, none, none, rfl, rfl, none, 0, 999999, l.length, [], Nat.zero_le _, r1, ⟨ddx, fD _ _ hdd⟩, Nat.zero_le _, by omega, upd_same, dD, da, fun hb => rdS (sd.trans fD) (hB1 hb), r3, r6, Nat.le_refl _, r4⟩, ?_⟩
    rintro mm σ H2 ⟨i, rem, v4, v5, v6, v7, v8, v9, rfl, rfl, hL⟩
    obtain ⟨st, n, N, fu, found, q1, q2, q3, q4, q5, q6, q7, q8, q9, q10, q11, q12, q13⟩ := hL.ex
    have sql : ∀ {G : Hp}, (B → Rd G a (.lst (vI l))) → SqL K G a (vI l) := fun {G} h => by
      by_cases hb : B
      · exact .inl (h hb)
      · exact hB2 hb G
    have hS2 := sql q9
    refine ⟨_, rfl, _, rfl, a, _, rfl, .inl hS2, _, _, rfl, rfl, _, rfl, ite2 (fun q => ?_) (fun q => ?_)⟩
    · have hlt : i < l.length := by
        have := of_decide_eq_true q
        rw [vI_len] at this
        omega
      have hd := List.drop_eq_getElem_cons hlt
      have hpi : l[i]? = some l[i] := List.getElem?_eq_getElem hlt
      revert hd hpi
      generalize l[i] = p
      intro hd hpi
      rw [hd] at q2
      obtain ⟨fu', nn, kk, xs, tl, rem', s1, s2, s3, rfl, s5⟩ := calls_cons q2
      obtain ⟨hin, has⟩ := q10 _ (List.mem_cons_self ..)
      obtain ⟨pq, cl, hpq, p1, p2, hcl, hany⟩ := call_deed (t := tl) s1 s2 (len_rows s3) hin has
      obtain ⟨b, hb1, hb2⟩ := hshp pq nn kk (by rw [← hpq]; exact s1)
      rw [List.length_drop] at s2
      have hk3 : kk ≤ 3 := by rcases shape_is s1 with ⟨_, _, h⟩ | ⟨_, _, h⟩ | ⟨_, _, h⟩ | ⟨_, _, h⟩ | ⟨_, _, h⟩ | ⟨_, _, h⟩ | ⟨_, _, h⟩ | ⟨_, _, h⟩ <;> omega
      refine ⟨_, fun σ' H2 h => h, _, rfl, _, rfl, a, _, _, _, rfl, rfl, hS2, atI_nat (vI_at hpi), ?_⟩
      -- the shape
      refine ⟨_, rfl, aS, _, _, _, rfl, rfl, tS.sq, by rw [hpq]; exact atI_nat hb1, b, _, rfl, hb2.sq, rfl, _, _, rfl, _, _, rfl, rfl, ?_⟩
      -- the numbers
      refine ⟨_, rfl, _, rfl, _, _, rfl, rfl, _, rfl, _, rfl, _, _, rfl, rfl, _, rfl, _, _, rfl, rfl, _, rfl, a, _, rfl, hS2, fun np hnp => ?_⟩
      have e3 := Same.new (o := .lst (cutV (vI l) (some ((i : Int) + 1)) (some ((i : Int) + 1 + (nn : Nat))))) hnp
      have hcut : cutV (vI l) (some ((i : Int) + 1)) (some ((i : Int) + 1 + (nn : Nat))) = vI ((l.drop (i + 1)).take nn) := by
        have ea : ((i : Int) + 1) = ((i + 1 : Nat) : Int) := rfl
        have eb : (((i + 1 : Nat) : Int) + (nn : Nat)) = ((i + 1 + nn : Nat) : Int) := rfl
        rw [ea, eb, cut_nn _ _ _ (by rw [vI_len]; omega) (by rw [vI_len]; omega), vI_drop, vI_take, show i + 1 + nn - (i + 1) = nn by omega]
      rw [hcut] at e3
      have hnp3 : upd H2 np (.lst (vI ((l.drop (i + 1)).take nn))) np = some (.lst (vI ((l.drop (i + 1)).take nn))) := upd_same
      rw [hcut]
      revert e3 hnp3
      generalize upd H2 np (.lst (vI ((l.drop (i + 1)).take nn))) = H3
      intro e3 hnp3
      have q9' : B → Rd H3 a (.lst (vI l)) := fun hb => rdS e3 (q9 hb)
      have s3' : PyFlat.rows kk (l.drop (i + 1 + nn)) = some (xs, tl) := by
        rw [← List.drop_drop]
        exact s3
      -- the rows
      refine ⟨_, rfl, _, rfl, _, _, rfl, rfl, _, rfl, _, _, rfl, rfl, _, rfl, a, l, i + 1 + nn, kk, xs, tl, rfl, sql q9', by omega, hk3, s3', fun H4 p4 pr j e4 hp4 hrows hdj hj => ?_⟩
      have e24 := e3.trans e4
      refine ⟨p4, _, rfl, SqT.of hp4, rfl, _, _, rfl, _, _, rfl, rfl, ?_⟩
      have hD4 := e24 _ _ q6
      have q94 : B → Rd H4 a (.lst (vI l)) := fun hb => rdS e24 (q9 hb)
      have hF4 : FOk (fun y => y = D ∨ (y = a ∧ B)) H4 := by
        rintro y (rfl | ⟨rfl, hb⟩)
        · exact ⟨_, hD4, (fun xs z => by cases z), (fun C dx fs z => by cases z)⟩
        · rcases q94 hb with h | ⟨o, h⟩
          · exact ⟨_, h, (fun xs z => by cases z), (fun C dx fs z => by cases z)⟩
          · exact ⟨_, h, (fun xs z => by cases z), (fun C dx fs z => by cases z)⟩
      have hFd : ¬ (d = D ∨ (d = a ∧ B)) := fun z => z.elim q7 fun z => q8 z.2 z.1
      have hst := step_is (s := st) hcl
      have hsh : Sj25Neutral.short st N (PySj25.whole ((p :: (l.drop (i + 1)).take nn) :: xs) :: rem'.map PySj25.whole) = true := q13
      obtain ⟨sh1, sh2⟩ := short_cons hsh
      rw [hst] at sh1 sh2
      dsimp only at sh1 sh2
      rw [List.length_cons] at q5
      refine ⟨_, rfl, _, rfl, _, rfl, _, rfl, d, np, pr, fun y => y = D ∨ (y = a ∧ B), st, n, pq, _, xs, cl, by rw [hpq], e4 _ _ hnp3, hrows, hF4, hFd, q3.same e24, q4, by omega, hany, by omega, fun H5 r kF hD5 hr5 => ?_⟩
      obtain ⟨kD, nDr⟩ := kF D (.inl rfl)
      have hf5 : H5 D = some (.lst (vI found)) := kD.trans hD4
      have q95 : B → Rd H5 a (.lst (vI l)) := fun hb => by
        have ka := (kF a (.inr ⟨rfl, hb⟩)).1
        rcases q94 hb with h | ⟨o, h⟩
        · exact .inl (ka.trans h)
        · exact .inr ⟨o, ka.trans h⟩
      have hans : PySj25.answers l = found ++ (((ansL st cl).length : Int) :: ansL st cl) ++ PyFlat.told (PyFlat.played Sj25Neutral.step (Sj25.step st cl).1 (rem'.map PySj25.whole)) := by
        rw [q11, List.map_cons, played_cons, told_cons, hst, List.append_assoc]
      have hfl : (found ++ (((ansL st cl).length : Int) :: ansL st cl)).length ≤ 10000000 := by
        have := congrArg List.length hans
        rw [List.length_append] at this
        omega
      rw [List.length_append, List.length_cons] at hfl
      have aD : B → a ≠ D := fun hb z => by
        subst z
        rcases hB1 hb with h | ⟨o, h⟩
        · rw [sd _ _ h] at nD; cases nD
        · rw [sd _ _ h] at nD; cases nD
      refine ⟨_, rfl, .inl ⟨rfl, _, SqL.of hf5⟩, _, rfl, r, _, rfl, .inl (SqL.of hr5), D, _, _, rfl, rfl, hf5, by rw [vI_len]; show _ < 16777216; omega, ?_⟩
      refine ⟨_, rfl, .inl ⟨rfl, _, SqL.of upd_same⟩, _, rfl, D, r, _, _, rfl, rfl, upd_same, by rw [upd_ne (Ne.symm nDr)]; exact hr5, ?_, rem'.length, Nat.lt_succ_self _, j, rem', _, _, _, _, _, _, rfl, rfl, (Sj25.step st cl).1, n + 1, N - (ansL st cl).length, fu', found ++ (((ansL st cl).length : Int) :: ansL st cl), hj, by rw [hdj]; exact s5, ?_, st_ok q4 (by omega) hany, by omega, ?_, q7, q8, fun hb => ?_, fun x hx => q10 x (List.mem_cons_of_mem _ hx), hans, by omega, sh2⟩
      · rw [List.length_append, vI_len, vI_len]
        show _ ≤ 16777216
        simp only [List.length_cons, List.length_nil]
        omega
      · -- the desk, away from what was found
        have hm : ∀ {y : Addr} {o : HO}, H5 y = some o → y ≠ D → upd (upd H5 D (.lst (vI found ++ [V.int (vI (ansL st cl)).length]))) D (.lst (vI found ++ [V.int (vI (ansL st cl)).length] ++ vI (ansL st cl))) y = some o := fun {y o} hy hn => by
          rw [upd_ne hn, upd_ne hn]
          exact hy
        have bD : But (fun y => y = D ∨ (y = a ∧ B)) H5 (upd (upd H5 D (.lst (vI found ++ [V.int (vI (ansL st cl)).length]))) D (.lst (vI found ++ [V.int (vI (ansL st cl)).length] ++ vI (ansL st cl)))) := fun y o hy hn => hm hy fun z => hn (.inl z)
        revert hD5
        cases (Sj25.step st cl).1 with
        | none =>
          rintro ⟨ddx', h1⟩
          exact ⟨ddx', hm h1 q7⟩
        | some h =>
          rintro ⟨ddx', t, pk, pr', h1, hI⟩
          obtain ⟨dx, pnet, vm, po, k1, k2, k3, k4, k5, k6, k7, k8, k9, k10⟩ := hI.ex
          have sc := cut_mono (W := Wd (fun y => y = D ∨ (y = a ∧ B)) t pk pr') (bD.mono fun y z => .inl z)
          exact ⟨ddx', t, pk, pr', hm h1 q7, dx, pnet, vm, po, hm k1 (fun z => k4 (.inl z)), hm k2 (fun z => k5 (.inl z)), hm k3 (fun z => k6 (.inl z)), k4, k5, k6, k7, k8.same sc, k9.same sc, k10.same sc⟩
      · rw [upd_same, vI_app, vI_len]
        show some (HO.lst (vI found ++ [V.int ((ansL st cl).length : Nat)] ++ vI (ansL st cl))) = _
        rw [List.append_assoc]
        rfl
      · rcases q95 hb with h | ⟨o, h⟩
        · exact .inl (by rw [upd_ne (aD hb), upd_ne (aD hb)]; exact h)
        · exact .inr ⟨o, by rw [upd_ne (aD hb), upd_ne (aD hb)]; exact h⟩
    · have hge : l.length ≤ i := by
        have : ¬ ((i : Int) < (vI l).length) := fun z => q (decide_eq_true z)
        rw [vI_len] at this
        omega
      rw [List.drop_eq_nil_of_le hge] at q2
      obtain rfl := calls_nil q2
      refine ⟨_, rfl, k _ D ?_⟩
      rw [q6, q11]
      show some (HO.lst (vI found)) = some (HO.lst (vI (found ++ [])))
      rw [List.append_nil]
end
end Ev
namespace Ev
open PySem PySem.Spec PyProof.Rows L2
/-! ### what the top has written, by what the head tells -/
section
variable {P : Program} {w : World} {K : PySem.W.Frag} {mg : Str → Option Value} {h : Heap} {x m qual z : Str} {st : Stmt} {f C : Addr} {oc kV dc pm cd ct t : Value} {od an dd : Option Addr} {sl : Array (Option Value)} {i : Int} {its : Array Value} {n : Nat}
theorem gi_mk {u : Tok} (X : K.In h) (G : h.Ns mainGlobals mg) (a : PySem.W.nsIn K mainGlobals x = some (some (.int i u))) : GI mg x i := ⟨u, PySem.W.mg_of X G a⟩
theorem gs_mk {u : Tok} (X : K.In h) (G : h.Ns mainGlobals mg) (a : PySem.W.nsIn K mainGlobals x = some (some (.str z u))) : GS mg x z := ⟨u, PySem.W.mg_of X G a⟩
theorem zn_mk (X : K.In h) (G : h.Ns mainGlobals mg) (a : PySem.W.nsIn K mainGlobals x = some none) : mg x = none := PySem.W.mg_none_of X G a
theorem rf_mk (X : K.In h) (G : h.Ns mainGlobals mg) (a : PySem.W.nsIn K mainGlobals x = some (some (.ref f))) : mg x = some (.ref f) := PySem.W.mg_of X G a
theorem def_mk (X : K.In h) (G : h.Ns mainGlobals mg) (a : PySem.W.nsIn K mainGlobals x = some (some (.ref f))) (l : K.lookup f = some ⟨oc, od, .func (PySem.W.fnOf x x (defArgs st) (defBody st) (defScope st) .none kV dc pm an cd ct), sl⟩)
    (c : PySem.W.codeIn K cd x = true) (k : PySem.W.keepIn K (.ref f) = true) : DefTx K mg x st := ⟨f, _, fun_mk l c k, PySem.W.mg_of X G a⟩
theorem met_mk (a : PySem.W.findIn K (.ref C) m = some (some (.ref f))) (l : K.lookup f = some ⟨oc, od, .func (PySem.W.fnOf m qual (defArgs st) (defBody st) (defScope st) .none kV dc pm an cd ct), sl⟩)
    (c : PySem.W.codeIn K cd qual = true) (k : PySem.W.keepIn K (.ref f) = true) (i : PySem.W.isFn K (.ref f) = true) : MetTx K C m qual st := ⟨f, _, fun_mk l c k, a, i, k⟩
theorem ini_mk (X : K.In h) (G : h.Ns mainGlobals mg) (g : PySem.W.nsIn K mainGlobals x = some (some (.ref C))) (a : PySem.W.findIn K (.ref C) "__init__" = some (some (.ref f))) (l : K.lookup f = some ⟨oc, od, .func (PySem.W.fnOf "__init__" qual (defArgs st) (defBody st) (defScope st) .none kV dc pm an cd ct), sl⟩)
    (c : PySem.W.codeIn K cd qual = true) (k : PySem.W.keepIn K (.ref f) = true) (i : PySem.W.isFn K (.ref f) = true) (mk : PySem.W.makesIn K C = true) (kc : PySem.W.keepIn K (.ref C) = true) : IniTx K mg x qual C st := ⟨f, _, fun_mk l c k, ⟨mk, a, i, kc⟩, PySem.W.mg_of X G g⟩
theorem kt_mk {xs : List V} (l : K.lookup f = some ⟨.type "tuple", dd, .seq its n, sl⟩) (hz : its.size ≤ sizeLine) (r : Vals xs its.toList) : KTup K f xs := ⟨_, its, n, l, rfl, rfl, hz, r⟩
end

/-- an error of the class at S is what a handler of the class at S names -/
theorem own_caught {K : PySem.W.Frag} {S : Addr} (h1 : PySem.W.subIn K (.ref S) (.type "BaseException") = some true) (h2 : PySem.W.isClsIn K S = true) (h3 : PySem.W.typeIn K (.ref S) = some (.type "type")) (h4 : PySem.W.subIn K (.ref S) (.ref S) = some true) : PySem.W.exmOne K (.ref S) (.ref S) = some true := by
  have q1 : (PySem.W.subIn K (.ref S) (.type "BaseException") == some true) = true := by rw [h1]; rfl
  have q2 : ((PySem.W.clsIn K S).isSome && PySem.W.typeIn K (.ref S) == some (.type "type")) = true := by
    have z : (PySem.W.clsIn K S).isSome = true := h2
    rw [z, h3]; rfl
  unfold PySem.W.exmOne
  first
    | (rw [if_pos q1, if_pos q2]; exact h4)
    | (show (if (PySem.W.subIn K (.ref S) (.type "BaseException") == some true) = true then (if ((PySem.W.clsIn K S).isSome && PySem.W.typeIn K (.ref S) == some (.type "type")) = true then PySem.W.subIn K (.ref S) (.ref S) else none) else none) = some true
       rw [if_pos q1, if_pos q2]; exact h4)
/-- a class that heirs ValueError, by a look at its object -/
def veSlots (l : List (Option Value)) : Bool := match l with
  | [_, _, _, _, some n, _] => n == .builtin "ValueError.__new__"
  | _ => false
theorem veSlots_is {l : List (Option Value)} (z : veSlots l = true) : ∃ k0 k1 k2 k3 k5, l = [k0, k1, k2, k3, some (.builtin "ValueError.__new__"), k5] := by
  unfold veSlots at z
  split at z
  · exact ⟨_, _, _, _, _, by rw [beq_iff_eq.mp z]⟩
  · cases z
def veMro (C : Addr) (l : List Value) : Bool := match l with
  | .ref c :: more => c == C && PySem.HandSPX.refsVE more
  | _ => false
theorem veMro_is {C : Addr} {l : List Value} (z : veMro C l = true) : ∃ bm, l = .ref C :: bm ∧ PySem.HandSPX.refsVE bm = true := by
  unfold veMro at z
  split at z
  · obtain ⟨z1, z⟩ := Bool.and_eq_true_iff.mp z
    exact ⟨_, by rw [beq_iff_eq.mp z1], z⟩
  · cases z
def veCls (C : Addr) (d : ClassData) : Bool := d.hasDict && (d.hasDel == false && veMro C d.mro)
def veData (C : Addr) (d : Data) : Bool := match d with
  | .cls d => veCls C d
  | _ => false
def isVE (C : Addr) (o : Obj) : Bool := (o.cls == .type "type") && (veSlots o.slots.toList && veData C o.data)
theorem isVE_is {C : Addr} {o : Obj} (z : isVE C o = true) : ∃ nm q N bs bm sn sub ab col dd k0 k1 k2 k3 k5, o = excClassObj nm q C N bs bm true sn sub ab col dd k0 k1 k2 k3 k5 "ValueError.__new__" ∧ PySem.HandSPX.refsVE bm = true := by
  obtain ⟨oc, dd, dt, ⟨sl⟩⟩ := o
  obtain ⟨z1, z⟩ := Bool.and_eq_true_iff.mp z
  obtain rfl : oc = .type "type" := beq_iff_eq.mp z1
  obtain ⟨z2, z⟩ := Bool.and_eq_true_iff.mp z
  obtain ⟨k0, k1, k2, k3, k5, e⟩ := veSlots_is z2
  have e : sl = [k0, k1, k2, k3, some (.builtin "ValueError.__new__"), k5] := e
  subst e
  have z : veData C dt = true := z
  cases dt with
  | cls d =>
    obtain ⟨nm, bs, mro, ns, qn, hd, sn, sub, ab, col, del⟩ := d
    obtain ⟨z1, z⟩ := Bool.and_eq_true_iff.mp z
    obtain rfl : hd = true := z1
    obtain ⟨z1, z⟩ := Bool.and_eq_true_iff.mp z
    obtain rfl : del = false := beq_iff_eq.mp z1
    obtain ⟨bm, e, zb⟩ := veMro_is z
    have e : mro = .ref C :: bm := e
    subst e
    exact ⟨nm, qn, ns, bs, bm, sn, sub, ab, col, dd, k0, k1, k2, k3, k5, rfl, zb⟩
  | _ => cases z
theorem oex_mk {K : PySem.W.Frag} {C : Addr} {o : Obj} (l : K.lookup C = some o) (z : isVE C o = true) (sa : PySem.W.findIn K (.ref C) "__setattr__" = some (some (.builtin "object.__setattr__"))) (ex : PySem.W.subIn K (.ref C) (.type "BaseException") = some true) (ty : PySem.W.typeIn K (.ref C) = some (.type "type")) (kc : PySem.W.keepIn K (.ref C) = true) : OexC K C := by
  obtain ⟨nm, q, N, bs, bm, sn, sub, ab, col, dd, k0, k1, k2, k3, k5, e, z⟩ := isVE_is z
  rw [e] at l
  exact ⟨⟨nm, q, N, bs, bm, sn, sub, ab, col, dd, k0, k1, k2, k3, k5, l, z⟩, sa, ex, ty, kc⟩
theorem two_mk {K : PySem.W.Frag} {dd : Option Addr} {f : Addr} {i j : Int} {u v : Tok} {n : Nat} {sl : Array (Option Value)} (l : K.lookup f = some ⟨.type "tuple", dd, .seq #[.int i u, .int j v] n, sl⟩) : KTup K f [.int i, .int j] := kt_mk l (by show 2 ≤ sizeLine; decide) (.cons ⟨_, rfl⟩ (.cons ⟨_, rfl⟩ .nil))
theorem refs_mk {K : PySem.W.Frag} {dd : Option Addr} {f : Addr} {n : Nat} {sl : Array (Option Value)} {its : Array Value} (as : List Addr) (l : K.lookup f = some ⟨.type "tuple", dd, .seq its n, sl⟩) (hz : its.size ≤ sizeLine) (e : its.toList = as.map Value.ref) : KTup K f (as.map V.ref) := kt_mk l hz (by
  rw [e]
  clear e l hz
  induction as with
  | nil => exact .nil
  | cons a as ih => exact .cons rfl ih)
theorem main_mk {P : Program} {w : World} {K : PySem.W.Frag} {mg : Str → Option Value} {h : Heap} {fa : Addr} {xNet xFacts xBadLine xBadMenu xLine xMenu xReader xTrigger xDesk : Addr} (X : K.In h) (G : h.Ns mainGlobals mg) (hfa : mg "answers" = some (.ref fa)) (a_Net : PySem.W.nsIn K mainGlobals "Net" = some (some (.ref xNet))) (a_Facts : PySem.W.nsIn K mainGlobals "Facts" = some (some (.ref xFacts))) (a_BadLine : PySem.W.nsIn K mainGlobals "BadLine" = some (some (.ref xBadLine))) (a_BadMenu : PySem.W.nsIn K mainGlobals "BadMenu" = some (some (.ref xBadMenu))) (a_Line : PySem.W.nsIn K mainGlobals "Line" = some (some (.ref xLine))) (a_Menu : PySem.W.nsIn K mainGlobals "Menu" = some (some (.ref xMenu))) (a_Reader : PySem.W.nsIn K mainGlobals "Reader" = some (some (.ref xReader))) (a_Trigger : PySem.W.nsIn K mainGlobals "Trigger" = some (some (.ref xTrigger))) (a_Desk : PySem.W.nsIn K mainGlobals "Desk" = some (some (.ref xDesk)))
  {od : Option Addr} {n : Nat} {sl : Array (Option Value)} {d d0 d1 d2 d3 d4 d5 d6 d7 : Addr}
  (dD : PySem.W.nsIn K mainGlobals "DEEDS" = some (some (.ref d))) (dL : K.lookup d = some ⟨.type "tuple", od, .seq #[.ref d0, .ref d1, .ref d2, .ref d3, .ref d4, .ref d5, .ref d6, .ref d7] n, sl⟩) (e0 : PySem.W.nsIn K mainGlobals "ask_open" = some (some (.ref d0))) (e1 : PySem.W.nsIn K mainGlobals "ask_menu" = some (some (.ref d1))) (e2 : PySem.W.nsIn K mainGlobals "ask_net" = some (some (.ref d2))) (e3 : PySem.W.nsIn K mainGlobals "ask_event" = some (some (.ref d3))) (e4 : PySem.W.nsIn K mainGlobals "ask_counts" = some (some (.ref d4))) (e5 : PySem.W.nsIn K mainGlobals "ask_sums" = some (some (.ref d5))) (e6 : PySem.W.nsIn K mainGlobals "ask_features" = some (some (.ref d6))) (e7 : PySem.W.nsIn K mainGlobals "ask_line" = some (some (.ref d7)))
  {fA : Addr} {ocA kVA dcA pmA cdA ctA : Value} {odA anA : Option Addr} {slA : Array (Option Value)} (sA : PySem.W.nsIn K mainGlobals "answers" = some (some (.ref fA))) (lA : K.lookup fA = some ⟨ocA, odA, .func (PySem.W.fnOf "answers" "answers" (defArgs s_answers) (defBody s_answers) (defScope s_answers) .none kVA dcA pmA anA cdA ctA), slA⟩) (cA : PySem.W.codeIn K cdA "answers" = true) (kA : PySem.W.keepIn K (.ref fA) = true)
  (tk : TxK K mg) (tf : TxF K mg) (tm : TxM K mg (⟨xNet, xFacts, xBadLine, xBadMenu, xLine, xMenu, xReader, xTrigger, xDesk⟩ : Cs)) (tc : TxC K mg (⟨xNet, xFacts, xBadLine, xBadMenu, xLine, xMenu, xReader, xTrigger, xDesk⟩ : Cs)) (tx : TxX K mg (⟨xNet, xFacts, xBadLine, xBadMenu, xLine, xMenu, xReader, xTrigger, xDesk⟩ : Cs)) :
  ∃ fd : FuncData, (∀ (s : Shared) (us : List Value), us.length = (["calls"] : List Str).length → BindsTo s fd ⟨us, []⟩ ((["calls"] : List Str).zip us)) ∧ ∀ base : Heap, K.In base → base.Ns mainGlobals mg → FnOk P w K mg base CX0 200 fa fd ["calls"] (spAnswers K) := by
  have e := hfa.symm.trans (PySem.W.mg_of X G sA)
  cases e
  have T : Txt K mg (⟨xNet, xFacts, xBadLine, xBadMenu, xLine, xMenu, xReader, xTrigger, xDesk⟩ : Cs) := ⟨tk, tf, tm, tc, tx⟩
  have Dd : Deeds K mg := ⟨d, d0, d1, d2, d3, d4, d5, d6, d7, rf_mk X G dD, refs_mk [d0, d1, d2, d3, d4, d5, d6, d7] dL (by show 8 ≤ sizeLine; decide) rfl, rf_mk X G e0, rf_mk X G e1, rf_mk X G e2, rf_mk X G e3, rf_mk X G e4, rf_mk X G e5, rf_mk X G e6, rf_mk X G e7⟩
  have FA := fun_mk (st := s_answers) lA cA kA
  refine ⟨_, fun s us hu => match us, hu with | [_], _ => .of_eq (b_answers _ _ _ _ _ _ _ rfl), fun base _ _ => (ok_answers T Dd FA).mono (by decide)⟩
end Ev
open PySem PySem.W PyProof.Rows
set_option maxHeartbeats 0 in
theorem PySem.Challenge.cw_eventsieve_s01_answers_holds : PySem.Challenge.rw_eventsieve_s01_answers.Holds := by
  w_on; k_headS; (case hw => exact ⟨[.list [.int 6]], by decide +kernel, by decide +kernel⟩)
  k_fillS
  refine L2.walk_specK (r := PySem.Challenge.rw_eventsieve_s01_answers) (k := 200) (CX := L2.CX0) (ps := ["calls"]) (sp := Ev.spAnswers) (by decide +kernel) rfl rfl ⟨rfl, by decide, by decide⟩ (fun w h Y => PySem.W.kIn_of Y) ?F ?S (fun _ _ _ _ z => z)
  case F =>
    intro w mg fa h Y KX G hmg
    have hfa : mg "answers" = some (.ref fa) := hmg
    clear hmg Y
    refine' Ev.main_mk KX G hfa ?a_Net ?a_Facts ?a_BadLine ?a_BadMenu ?a_Line ?a_Menu ?a_Reader ?a_Trigger ?a_Desk ?dD ?dL ?e0 ?e1 ?e2 ?e3 ?e4 ?e5 ?e6 ?e7 ?sA ?lA ?cA ?kA ?tk ?tf ?tm ?tc ?tx
    (case a_Net => k_is)
    (case a_Facts => k_is)
    (case a_BadLine => k_is)
    (case a_BadMenu => k_is)
    (case a_Line => k_is)
    (case a_Menu => k_is)
    (case a_Reader => k_is)
    (case a_Trigger => k_is)
    (case a_Desk => k_is)
    (case dD => k_is)
    (case dL => k_is)
    (case e0 => k_is)
    (case e1 => k_is)
    (case e2 => k_is)
    (case e3 => k_is)
    (case e4 => k_is)
    (case e5 => k_is)
    (case e6 => k_is)
    (case e7 => k_is)
    (case sA => k_is)
    (case lA => k_is)
    (case cA => k_is)
    (case kA => k_is)
    case tk =>
      constructor
      case t_SIGNS =>
        refine' ⟨_, Ev.rf_mk KX G ?a, Ev.kt_mk ?l ?hz ?r⟩
        (case a => k_is); (case l => k_is); (case hz => show 15 ≤ PySem.sizeLine; decide)
        (case r => exact .cons ⟨_, rfl⟩ (.cons ⟨_, rfl⟩ (.cons ⟨_, rfl⟩ (.cons ⟨_, rfl⟩ (.cons ⟨_, rfl⟩ (.cons ⟨_, rfl⟩ (.cons ⟨_, rfl⟩ (.cons ⟨_, rfl⟩ (.cons ⟨_, rfl⟩ (.cons ⟨_, rfl⟩ (.cons ⟨_, rfl⟩ (.cons ⟨_, rfl⟩ (.cons ⟨_, rfl⟩ (.cons ⟨_, rfl⟩ (.cons ⟨_, rfl⟩ .nil)))))))))))))))
      case t_SHAPES =>
        refine' ⟨_, _, _, _, _, _, _, _, _, _, Ev.rf_mk KX G ?a, Ev.kt_mk ?l ?hz ?r, Ev.two_mk ?l0, Ev.two_mk ?l1, Ev.two_mk ?l2, Ev.two_mk ?l3, Ev.two_mk ?l4, Ev.two_mk ?l5, Ev.two_mk ?l6, Ev.two_mk ?l7, Ev.two_mk ?l8⟩
        (case a => k_is); (case l => k_is); (case hz => show 9 ≤ PySem.sizeLine; decide)
        (case r => exact .cons rfl (.cons rfl (.cons rfl (.cons rfl (.cons rfl (.cons rfl (.cons rfl (.cons rfl (.cons rfl .nil)))))))))
        (case l0 => k_is); (case l1 => k_is); (case l2 => k_is); (case l3 => k_is); (case l4 => k_is); (case l5 => k_is); (case l6 => k_is); (case l7 => k_is); (case l8 => k_is)
      all_goals first
        | (refine' Ev.gi_mk KX G ?a; (case a => k_is); done)
        | (refine' Ev.gs_mk KX G ?a; (case a => k_is); done)
        | (refine' Ev.zn_mk KX G ?a; (case a => k_is); done)
    case tf =>
      constructor
      all_goals (refine' Ev.def_mk KX G ?u_a ?u_l ?u_c ?u_k; (case u_a => k_is); (case u_l => k_is); (case u_c => k_is); (case u_k => k_is))
    case tm =>
      constructor
      all_goals try dsimp only
      all_goals first
        | (refine' Ev.met_mk ?u_a ?u_l ?u_c ?u_k ?u_i; (case u_a => k_is); (case u_l => k_is); (case u_c => k_is); (case u_k => k_is); (case u_i => k_is); done)
        | (refine' Ev.ini_mk KX G ?u_g ?u_a ?u_l ?u_c ?u_k ?u_i ?u_mk ?u_kc; (case u_g => k_is); (case u_a => k_is); (case u_l => k_is); (case u_c => k_is); (case u_k => k_is); (case u_i => k_is); (case u_mk => k_is); (case u_kc => k_is); done)
    case tc =>
      constructor
      all_goals try dsimp only
      all_goals first
        | (refine' ⟨?u_a, ?u_b, ?u_c, ?u_d⟩; (case u_a => k_is); (case u_b => k_is); (case u_c => k_is); (case u_d => k_is); done)
        | (show PySem.W.findIn _ _ _ = _; k_is; done)
    case tx =>
      constructor
      all_goals try dsimp only
      case gL => refine' Ev.rf_mk KX G ?u_a; (case u_a => k_is)
      case xL => first | k_is | k_exc
      case kL => k_is
      case sL => k_is
      case tL => k_is
      case eL => refine' Ev.own_caught ?u_a ?u_b ?u_c ?u_d; (case u_a => k_is); (case u_b => k_is); (case u_c => k_is); (case u_d => first | rfl | k_is)
      case gM => refine' Ev.rf_mk KX G ?u_a; (case u_a => k_is)
      case oM => refine' Ev.oex_mk ?u_l ?u_b ?u_sa ?u_ex ?u_ty ?u_kC; (case u_l => k_is); (case u_b => first | rfl | kernel_rfl | decide +kernel); (case u_sa => k_is); (case u_ex => k_is); (case u_ty => k_is); (case u_kC => k_is)
      case fM => refine' ⟨?u_a, ?u_b, ?u_c, ?u_d⟩; (case u_a => k_is); (case u_b => k_is); (case u_c => k_is); (case u_d => k_is)
      case nM => k_is
      case eM => refine' Ev.own_caught ?u_a ?u_b ?u_c ?u_d; (case u_a => k_is); (case u_b => k_is); (case u_c => k_is); (case u_d => first | rfl | k_is)
      case iM => refine' ⟨_, _, L2.fun_mk ?u_l ?u_c ?u_k, ?u_i, ?u_t⟩; (case u_i => k_is); (case u_l => k_is); (case u_c => k_is); (case u_k => k_is); (case u_t => k_is)
      case vV => first | k_is | rfl
  case S =>
    intro K H xs a hO hwi hask hx
    cases hx with
    | cons h1 h2 =>
      cases h2
      cases h1 with
      | lst hs ha =>
        have e := L2.ints_dw a.1 _ ha
        subst e
        exact ⟨_, a.1, rfl, hs, hask, fun H' p hp => .lst (L2.SqL.of hp) (L2.dw_ints _)⟩
