import PyProof.Rows.All
import Wide.All
import OpenK.AllK
import Wide.FinOn
import HandS.ForMost
import HandS.ForExc
import HandS.ExcInit
import HandS.Defaults
import HandS.Codes
import HandS.Replace
import HandS.HeadHook4
import HandS.Head0
import HandS.Head1
import HandS.Head2
import HandS.HeadEnd
import HandS.HeadWalk
import PySem.Challenge.RW_tokenwright_k01_trees
import HandS.IsInst
set_option Elab.async false
set_option linter.all false
set_option maxRecDepth 100000
set_option maxHeartbeats 1000000
namespace TW
open PySem PySem.Spec PyProof.Rows L2
/-! ### bundles: a def of the top by its name, a method by its class -/
section
variable (P : Program) (w : World) (K : PySem.W.Frag) (mg : Str → Option Value) (base : Heap) (CX : CXT)
/-- the module's name x stands for a def that keeps sp -/
structure Df (k : Nat) (x : Str) (ps : List Str) (sp : Sp) : Prop where
  ex : ∃ f fd, FnOk P w K mg base CX k f fd ps sp ∧ mg x = some (.ref f) ∧ PySem.W.keepIn K (.ref f) = true ∧ Binds K fd ps []
/-- the method m of the class at C -/
structure Mt (k : Nat) (C : Addr) (m : Str) (ps : List Str) (sp : Sp) : Prop where
  ex : ∃ f fd, FnOk P w K mg base CX k f fd ps sp ∧ Meth K C m f ∧ Binds K fd ps []
end
section
variable {P : Program} {w : World} {K : PySem.W.Frag} {mg : Str → Option Value} {base : Heap} {CX : CXT} {j k : Nat} {C : Addr} {x m : Str} {ps : List Str} {sp sp' : Sp}
theorem Df.mono (D : Df P w K mg base CX j x ps sp) (h : j ≤ k) : Df P w K mg base CX k x ps sp := by
  obtain ⟨f, fd, a, b⟩ := D.ex
  exact ⟨f, fd, a.mono h, b⟩
theorem Mt.mono (D : Mt P w K mg base CX j C m ps sp) (h : j ≤ k) : Mt P w K mg base CX k C m ps sp := by
  obtain ⟨f, fd, a, b⟩ := D.ex
  exact ⟨f, fd, a.mono h, b⟩
theorem Df.imp (D : Df P w K mg base CX k x ps sp) (h : ∀ vs H Q E, sp' vs H Q E → sp vs H Q E) : Df P w K mg base CX k x ps sp' := by
  obtain ⟨f, fd, a, b⟩ := D.ex
  exact ⟨f, fd, a.imp h, b⟩
end
section
variable {X : Cx} {CX : CXT} {k : Nat} {C : Addr} {x m : Str} {ps : List Str} {sp : Sp} {E : XK} {p pos apos : Pos} {e o : Expr} {es : List Expr} {ta : TE} {t : TA}
theorem pe_callD (D : Df X.prog X.w X.K X.mg X.base CX k x ps sp) (hr : Room k X.A) (hg : Gl X x) (hx : Passes CX X E) (ha : PA X (e :: es) t)
    (hdb : (x == ("__debug__" : Str)) = false := by decide) (he : starEach (e :: es) X.env = (false, eval e X.env) :: starEach es X.env := by rfl) (hpl : (backTo pos (starEach es X.env)).any (·.1) = false := by rfl) :
    PE X (.Call (.Name x p) (e :: es) [] pos) (tCall sp [] E t) := by
  obtain ⟨f, fd, F, hm, hk, hb⟩ := D.ex
  exact pe_call F hr hg hm hk hb .nil hx ha hdb he hpl
theorem pe_callD0 (D : Df X.prog X.w X.K X.mg X.base CX k x ps sp) (hr : Room k X.A) (hg : Gl X x) (hx : Passes CX X E)
    (hdb : (x == ("__debug__" : Str)) = false := by decide) : PE X (.Call (.Name x p) [] [] pos) (tCall sp [] E tNil) := by
  obtain ⟨f, fd, F, hm, hk, hb⟩ := D.ex
  exact pe_call0 F hr hg hm hk hb .nil hx hdb
theorem pe_methD {pl : Sem Bool} (he : PE X o ta) (c : Cls X.K C) (D : Mt X.prog X.w X.K X.mg X.base CX k C m ps sp) (hr : Room k X.A) (hx : Passes CX X E) (ha : PA X (e :: es) t)
    (hst : starEach (e :: es) X.env = (false, eval e X.env) :: starEach es X.env := by rfl) (hpl : (backTo pos (starEach es X.env)).any (·.1) = false := by rfl)
    (ht : eval (.Call (.Attribute o m apos) (e :: es) [] pos) X.env = (do
      let ov ← eval o X.env
      standAt apos.atName
      let (f, first) ← holding [ov] (getMethod ov m pl)
      callWith pos f first (backTo pos (starEach (e :: es) X.env)) (backToKw pos (keywordEach [] X.env))) := by rfl) :
    PE X (.Call (.Attribute o m apos) (e :: es) [] pos) (tMeth C m sp [] E ta t) := by
  obtain ⟨f, fd, F, hm, hb⟩ := D.ex
  exact pe_meth he c hm F hr hb .nil hx ha hst hpl ht
theorem pe_methD0 {pl : Sem Bool} (he : PE X o ta) (c : Cls X.K C) (D : Mt X.prog X.w X.K X.mg X.base CX k C m ps sp) (hr : Room k X.A) (hx : Passes CX X E)
    (ht : eval (.Call (.Attribute o m apos) [] [] pos) X.env = (do
      let ov ← eval o X.env
      standAt apos.atName
      let (f, first) ← holding [ov] (getMethod ov m pl)
      callWith pos f first (backTo pos (starEach [] X.env)) (backToKw pos (keywordEach [] X.env))) := by rfl) :
    PE X (.Call (.Attribute o m apos) [] [] pos) (tMeth C m sp [] E ta tNil) := by
  obtain ⟨f, fd, F, hm, hb⟩ := D.ex
  exact pe_meth0 he c hm F hr hb .nil hx ht
end
/-! ### a def's body -/
section
variable {P : Program} {w : World} {K : PySem.W.Frag} {mg : Str → Option Value} {base : Heap} {k : Nat} {C f : Addr} {x m qual : Str} {N ps : List Str} {sp : Sp} {st : Stmt}
/-- how n positional arguments bind -/
def BindsAll (x qual : Str) (st : Stmt) (ps : List Str) : Prop := ∀ (kV doc pm : Value) (an : Option Addr) (cdv ct : Value) (us : List Value), us.length = ps.length → bindArgs (PySem.W.fnOf x qual (defArgs st) (defBody st) (defScope st) .none kV doc pm an cdv ct) ⟨us, []⟩ = pure (ps.zip us)
abbrev FunT (K : PySem.W.Frag) (x qual : Str) (st : Stmt) (f : Addr) : Prop := ∃ fd, FunD K x qual (defArgs st) (defBody st) (defScope st) [] [] f fd
/-- no exception leaves it -/
theorem Df.of (F : FunT K x x st f) (g : mg x = some (.ref f)) (S : FnScope N ps (defScope st)) (B : BindsAll x x st ps) (len : ∀ vs H Q E, sp vs H Q E → vs.length = ps.length)
    (hbody : ∀ (cdv : Value) (A : Around) (outer : List Env) (s : Shared) (H : Hp) (vs : List V) (Q : VK) (E : XK), Room k (A.deeper (envOfC x (defScope st) s.heap.objs.size f cdv)) → sp vs H Q E →
      ∃ t, PSs (cxOf CX0 P w K mg base N x (defScope st) f cdv A outer s H E).nox (defBody st) t ∧ t { nx := fun _ H' => Q .non H', rt := Q } (start N vs) H) : Df P w K mg base CX0 (k + 1) x ps sp := by
  obtain ⟨fd, F⟩ := F
  refine ⟨f, fd, F.ok S len fun cdv A outer s H vs Q E hr h => ?_, g, F.kp, F.bindsN B⟩
  obtain ⟨t, h1, h2⟩ := hbody cdv A outer s H vs Q E hr h
  exact ⟨t, PSs.nox h1, h2⟩
/-- exceptions may leave it -/
theorem Df.ofX (F : FunT K x x st f) (g : mg x = some (.ref f)) (S : FnScope N ps (defScope st)) (B : BindsAll x x st ps) (len : ∀ vs H Q E, sp vs H Q E → vs.length = ps.length)
    (hbody : ∀ (cdv : Value) (A : Around) (outer : List Env) (s : Shared) (H : Hp) (vs : List V) (Q : VK) (E : XK), Room k (A.deeper (envOfC x (defScope st) s.heap.objs.size f cdv)) → sp vs H Q E →
      ∃ t, PSs (cxOf (L2.CX P w) P w K mg base N x (defScope st) f cdv A outer s H E) (defBody st) t ∧ t { nx := fun _ H' => Q .non H', rt := Q } (start N vs) H) : Df P w K mg base (L2.CX P w) (k + 1) x ps sp := by
  obtain ⟨fd, F⟩ := F
  exact ⟨f, fd, F.ok S len hbody, g, F.kp, F.bindsN B⟩
theorem Mt.of (F : FunT K m qual st f) (g : Meth K C m f) (S : FnScope N ps (defScope st)) (B : BindsAll m qual st ps) (len : ∀ vs H Q E, sp vs H Q E → vs.length = ps.length)
    (hbody : ∀ (cdv : Value) (A : Around) (outer : List Env) (s : Shared) (H : Hp) (vs : List V) (Q : VK) (E : XK), Room k (A.deeper (envOfC qual (defScope st) s.heap.objs.size f cdv)) → sp vs H Q E →
      ∃ t, PSs (cxOf CX0 P w K mg base N qual (defScope st) f cdv A outer s H E).nox (defBody st) t ∧ t { nx := fun _ H' => Q .non H', rt := Q } (start N vs) H) : Mt P w K mg base CX0 (k + 1) C m ps sp := by
  obtain ⟨fd, F⟩ := F
  refine ⟨f, fd, F.ok S len fun cdv A outer s H vs Q E hr h => ?_, g, F.bindsN B⟩
  obtain ⟨t, h1, h2⟩ := hbody cdv A outer s H vs Q E hr h
  exact ⟨t, PSs.nox h1, h2⟩
theorem Mt.ofX (F : FunT K m qual st f) (g : Meth K C m f) (S : FnScope N ps (defScope st)) (B : BindsAll m qual st ps) (len : ∀ vs H Q E, sp vs H Q E → vs.length = ps.length)
    (hbody : ∀ (cdv : Value) (A : Around) (outer : List Env) (s : Shared) (H : Hp) (vs : List V) (Q : VK) (E : XK), Room k (A.deeper (envOfC qual (defScope st) s.heap.objs.size f cdv)) → sp vs H Q E →
      ∃ t, PSs (cxOf (L2.CX P w) P w K mg base N qual (defScope st) f cdv A outer s H E) (defBody st) t ∧ t { nx := fun _ H' => Q .non H', rt := Q } (start N vs) H) : Mt P w K mg base (L2.CX P w) (k + 1) C m ps sp := by
  obtain ⟨fd, F⟩ := F
  exact ⟨f, fd, F.ok S len hbody, g, F.bindsN B⟩
end
/-! ### an own error class with its own __init__, as the top has made it -/
def oexB (K : PySem.W.Frag) (C : Addr) : Bool := (match K.lookup C with
  | some ⟨.type "type", _, .cls cd, sl⟩ => (match cd.mro, sl.toList with
    | .ref C' :: bm, [_, _, _, _, some (.builtin n), _] => C' == C && n == "ValueError.__new__" && !cd.hasDel && cd.hasDict && PySem.HandSPX.refsVE bm
    | _, _ => false)
  | _ => false) && (He.eqO (PySem.W.findIn K (.ref C) "__setattr__") (some (some (.builtin "object.__setattr__"))) && (decide (PySem.W.subIn K (.ref C) (.type "BaseException") = some true) &&
    (decide (PySem.W.typeIn K (.ref C) = some (.type "type")) && (PySem.W.keepIn K (.ref C) && (He.eqO (PySem.W.findIn K (.ref C) "__init__") (some (some (.ref (He.ma K C "__init__")))) &&
      decide (PySem.W.typeIn K (.ref (He.ma K C "__init__")) = some (.type "function")))))))
structure OexT (K : PySem.W.Frag) (C : Addr) : Prop where
  oex : OexC K C
  iC : PySem.W.findIn K (.ref C) "__init__" = some (some (.ref (He.ma K C "__init__")))
  tI : PySem.W.typeIn K (.ref (He.ma K C "__init__")) = some (.type "function")
theorem oexB_ok {K : PySem.W.Frag} {C : Addr} (h : oexB K C = true) : OexT K C := by
  unfold oexB at h
  obtain ⟨h1, h⟩ := He.ba h
  obtain ⟨h2, h⟩ := He.ba h
  obtain ⟨h3, h⟩ := He.ba h
  obtain ⟨h4, h⟩ := He.ba h
  obtain ⟨h5, h⟩ := He.ba h
  obtain ⟨h6, h7⟩ := He.ba h
  refine ⟨⟨?_, He.eqO_ok h2, of_decide_eq_true h3, of_decide_eq_true h4, h5⟩, He.eqO_ok h6, of_decide_eq_true h7⟩
  split at h1
  · rename_i dd cd sl ho
    split at h1
    · rename_i C' bm k0 k1 k2 k3 n k5 hm hs
      simp only [Bool.and_eq_true, beq_iff_eq, Bool.not_eq_true'] at h1
      obtain ⟨⟨⟨⟨rfl, rfl⟩, hdel⟩, hd0⟩, ht⟩ := h1
      obtain ⟨nm, bs, mro, ns, qn, hd, sn, sub, ab, col, del⟩ := cd
      dsimp only at hm hdel hd0
      subst hm hdel hd0
      have hsl : sl = #[k0, k1, k2, k3, some (.builtin "ValueError.__new__"), k5] := by
        obtain ⟨l⟩ := sl
        simp only at hs
        rw [hs]
      subst hsl
      exact ⟨nm, qn, ns, bs, bm, sn, sub, ab, col, dd, k0, k1, k2, k3, k5, ho, ht⟩
    · cases h1
  · cases h1
/-! ### constants of the top -/
theorem pe_gstr {X : Cx} {x z : Str} {pos : Pos} (hg : Gl X x) (h : ∃ t, X.mg x = some (.str z t)) (hd : (x == ("__debug__" : Str)) = false := by decide) : PE X (.Name x pos) (tC (.str z)) := by
  obtain ⟨t, h⟩ := h
  exact pe_glob hg h ⟨t, rfl⟩ hd
theorem pe_gint {X : Cx} {x : Str} {z : Int} {pos : Pos} (hg : Gl X x) (h : ∃ t, X.mg x = some (.int z t)) (hd : (x == ("__debug__" : Str)) = false := by decide) : PE X (.Name x pos) (tC (.int z)) := by
  obtain ⟨t, h⟩ := h
  exact pe_glob hg h ⟨t, rfl⟩ hd
/-- a def by its address (an __init__) -/
structure FnOkB (P : Program) (w : World) (K : PySem.W.Frag) (mg : Str → Option Value) (base : Heap) (CX : CXT) (k : Nat) (f : Addr) (ps : List Str) (sp : Sp) : Prop where
  ex : ∃ fd, FnOk P w K mg base CX k f fd ps sp ∧ Binds K fd ps []
theorem FnOkB.of {P : Program} {w : World} {K : PySem.W.Frag} {mg : Str → Option Value} {base : Heap} {k : Nat} {f : Addr} {m qual : Str} {N ps : List Str} {sp : Sp} {st : Stmt} (F : FunT K m qual st f) (S : FnScope N ps (defScope st)) (B : BindsAll m qual st ps) (len : ∀ vs H Q E, sp vs H Q E → vs.length = ps.length)
    (hbody : ∀ (cdv : Value) (A : Around) (outer : List Env) (s : Shared) (H : Hp) (vs : List V) (Q : VK) (E : XK), Room k (A.deeper (envOfC qual (defScope st) s.heap.objs.size f cdv)) → sp vs H Q E →
      ∃ t, PSs (cxOf CX0 P w K mg base N qual (defScope st) f cdv A outer s H E).nox (defBody st) t ∧ t { nx := fun _ H' => Q .non H', rt := Q } (start N vs) H) : FnOkB P w K mg base CX0 (k + 1) f ps sp := by
  obtain ⟨fd, F⟩ := F
  refine ⟨fd, F.ok S len fun cdv A outer s H vs Q E hr h => ?_, F.bindsN B⟩
  obtain ⟨t, h1, h2⟩ := hbody cdv A outer s H vs Q E hr h
  exact ⟨t, PSs.nox h1, h2⟩
theorem FnOkB.ofX {P : Program} {w : World} {K : PySem.W.Frag} {mg : Str → Option Value} {base : Heap} {k : Nat} {f : Addr} {m qual : Str} {N ps : List Str} {sp : Sp} {st : Stmt} (F : FunT K m qual st f) (S : FnScope N ps (defScope st)) (B : BindsAll m qual st ps) (len : ∀ vs H Q E, sp vs H Q E → vs.length = ps.length)
    (hbody : ∀ (cdv : Value) (A : Around) (outer : List Env) (s : Shared) (H : Hp) (vs : List V) (Q : VK) (E : XK), Room k (A.deeper (envOfC qual (defScope st) s.heap.objs.size f cdv)) → sp vs H Q E →
      ∃ t, PSs (cxOf (L2.CX P w) P w K mg base N qual (defScope st) f cdv A outer s H E) (defBody st) t ∧ t { nx := fun _ H' => Q .non H', rt := Q } (start N vs) H) : FnOkB P w K mg base (L2.CX P w) (k + 1) f ps sp := by
  obtain ⟨fd, F⟩ := F
  exact ⟨fd, F.ok S len hbody, F.bindsN B⟩
section
variable {X : Cx} {CX : CXT} {k : Nat} {C : Addr} {x : Str} {ps : List Str} {sp : Sp} {E : XK} {p pos : Pos} {e : Expr} {es : List Expr} {t : TA}
theorem pe_makeD (M : Mk X.K C (He.ma X.K C "__init__")) (D : FnOkB X.prog X.w X.K X.mg X.base CX k (He.ma X.K C "__init__") ps sp) (hr : Room (k + 1) X.A) (hg : Gl X x) (hm : X.mg x = some (.ref C)) (hx : Passes CX X E) (ha : PA X (e :: es) t)
    (hdb : (x == ("__debug__" : Str)) = false := by decide) (he : starEach (e :: es) X.env = (false, eval e X.env) :: starEach es X.env := by rfl) (hpl : (backTo pos (starEach es X.env)).any (·.1) = false := by rfl) :
    PE X (.Call (.Name x p) (e :: es) [] pos) (tMake C sp [] E t) := by
  obtain ⟨fd, F, hb⟩ := D.ex
  exact pe_make M F hr hg hm hb .nil hx ha hdb he hpl
theorem pe_makeD0 (M : Mk X.K C (He.ma X.K C "__init__")) (D : FnOkB X.prog X.w X.K X.mg X.base CX k (He.ma X.K C "__init__") ps sp) (hr : Room (k + 1) X.A) (hg : Gl X x) (hm : X.mg x = some (.ref C)) (hx : Passes CX X E)
    (hdb : (x == ("__debug__" : Str)) = false := by decide) : PE X (.Call (.Name x p) [] [] pos) (tMake C sp [] E tNil) := by
  obtain ⟨fd, F, hb⟩ := D.ex
  exact pe_make0 M F hr hg hm hb .nil hx hdb
theorem pmk_oexD (T : OexT X.K C) (D : FnOkB X.prog X.w X.K X.mg X.base CX k (He.ma X.K C "__init__") ps sp) (hr : Room (k + 1) X.A) (hx : Passes CX X (fun _ _ _ => False)) (hg : Gl X x) (hm : X.mg x = some (.ref C)) (ha : PA X (e :: es) t)
    (hdb : (x == ("__debug__" : Str)) = false := by decide) (he : starEach (e :: es) X.env = (false, eval e X.env) :: starEach es X.env := by rfl) (hpl : (backTo pos (starEach es X.env)).any (·.1) = false := by rfl) :
    PMk X (.Call (.Name x p) (e :: es) [] pos) (tMkO C sp [] t) := by
  obtain ⟨fd, F, hb⟩ := D.ex
  exact pmk_oex T.oex T.iC T.tI F hr hb .nil hx hg hm ha hdb he hpl
end
end TW
namespace TW
open PySem PySem.Spec PyProof.Rows L2
/-! ### written dicts from texts to texts -/
theorem dic_none {K : PySem.W.Frag} {a : Addr} {P : Params} {ks : List Str} {z : Str} (h : He.dicW K a = some (He.keysIn P ks)) (hz : z ∉ ks) : PySem.W.nsIn K a z = some none := by
  unfold He.dicW at h
  cases q : K.lookup a with
  | none => rw [q] at h; cases h
  | some o =>
    obtain ⟨oc, od, dt, osl⟩ := o
    rw [q] at h
    cases oc with
    | type c =>
      cases od with
      | none =>
        cases dt with
        | dict es n =>
          have h1 : (match decide (c = "dict") && (osl.isEmpty && !(a == sysModules)) with
            | true => some (es.toList.map He.keyOf)
            | false => none) = some (He.keysIn P ks) := h
          cases zz : decide (c = "dict") && (osl.isEmpty && !(a == sysModules)) with
          | false => rw [zz] at h1; cases h1
          | true =>
            rw [zz] at h1
            have h2 : es.toList.map He.keyOf = He.keysIn P ks := Option.some.inj h1
            have h3 : ∀ e ∈ es.toList, ∃ k t, e.key = .str k t ∧ k ∈ ks := fun e he => by
              have m1 : He.keyOf e ∈ He.keysIn P ks := by
                rw [← h2]
                exact List.mem_map.mpr ⟨e, he, rfl⟩
              obtain ⟨k, hk, ek⟩ := List.mem_map.mp m1
              unfold He.keyOf at ek
              split at ek
              · rename_i x t ex
                have e3 := Option.some.inj ek
                obtain ⟨e4, _⟩ := Prod.mk.inj e3
                exact ⟨x, t, ex, by rw [← e4]; exact hk⟩
              · cases ek
            unfold PySem.W.nsIn
            rw [q]
            show (match es.toList.find? (·.key.isStr z) with
              | some e => some (some e.val)
              | none => if es.toList.any (·.refKey) then none else some none) = _
            have f1 : es.toList.find? (·.key.isStr z) = none := List.find?_eq_none.mpr fun e he => by
              obtain ⟨k, t, ek, hk⟩ := h3 e he
              rw [ek]
              intro hc
              have : (k == z) = true := hc
              exact hz (by rw [← beq_iff_eq.mp this]; exact hk)
            have f2 : es.toList.any (·.refKey) = false := List.any_eq_false.mpr fun e he => by
              obtain ⟨k, t, ek, hk⟩ := h3 e he
              unfold DictEntry.refKey
              rw [ek]
              intro hc
              cases hc
            rw [f1, f2] <;> rfl
        | _ => cases h
      | some d => cases dt <;> cases h
    | _ => cases od <;> cases dt <;> cases h
end TW

set_option maxHeartbeats 1000000
/-! plain things: texts as lists of codes, the signs -/
namespace TW
open PySem PySem.Spec PyProof.Rows L2
abbrev tl (x : Str) : List Nat := x.cps.toList
/-- a text of its codes -/
def mk (l : List Nat) : Str := ⟨l.toArray⟩
theorem tl_mk (l : List Nat) : tl (mk l) = l := rfl
theorem mk_tl (x : Str) : mk (tl x) = x := by
  obtain ⟨a⟩ := x
  rfl
theorem mk_inj {a b : List Nat} (h : mk a = mk b) : a = b := by
  have := congrArg tl h
  exact this
theorem mk_iff {a b : List Nat} : mk a = mk b ↔ a = b := ⟨mk_inj, fun h => by rw [h]⟩
theorem len_mk (l : List Nat) : (mk l).length = l.length := rfl
theorem len_tl (x : Str) : x.length = (tl x).length := rfl
theorem add_mk (a b : List Nat) : mk a ++ mk b = mk (a ++ b) := by
  have h : tl (mk a ++ mk b) = tl (mk (a ++ b)) := by
    rw [show tl (mk a ++ mk b) = tl (mk a) ++ tl (mk b) from TL.tl_append _ _] <;> rfl
  exact TL.ext_tl h
theorem dec_mk (a b : List Nat) : decide (V.str (mk a) = V.str (mk b)) = decide (a = b) := by
  by_cases h : a = b
  · rw [decide_eq_true h, decide_eq_true (by rw [h])]
  · rw [decide_eq_false h, decide_eq_false (fun e => h (mk_inj (V.str.inj e)))]
/-- the next sign of what is left, as a text -/
def sg (r : List Nat) : List Nat := r.take 1
theorem sg_nil : sg [] = [] := rfl
theorem sg_cons (c : Nat) (r : List Nat) : sg (c :: r) = [c] := rfl
theorem cut_at (t : List Nat) (n : Nat) : cutS (mk t) (some (n : Int)) (some ((n : Int) + 1)) = mk (sg (t.drop n)) := by
  unfold cutS sg
  rw [show ((n : Int) + 1) = ((n + 1 : Nat) : Int) from rfl, HT.sIx_nat, HT.sIx_nat]
  show mk _ = mk _
  rw [mk_iff, len_mk]
  show List.take _ (List.drop _ t) = _
  by_cases h : n < t.length
  · rw [show min n t.length = n by omega, show min (n + 1) t.length - n = 1 by omega]
  · rw [List.drop_eq_nil_of_le (show t.length ≤ min n t.length by omega), List.drop_eq_nil_of_le (show t.length ≤ n by omega)]
    rw [List.take_nil, List.take_nil]
/-! ### the signs -/
def SG : List Nat := [10, 32, 33, 34, 35, 36, 38, 39, 40, 41, 42, 43, 44, 45, 46, 47, 48, 49, 50, 51, 52, 53, 54, 55, 56, 57, 58, 59, 60, 61, 62, 63, 64, 65, 66, 67, 68, 69, 70, 71, 72, 73, 74, 75, 76, 77, 78, 79, 80, 81, 82, 83, 84, 85, 86, 87, 88, 89, 90, 91, 92, 93, 94, 95, 96, 97, 98, 99, 100, 101, 102, 103, 104, 105, 106, 107, 108, 109, 110, 111, 112, 113, 114, 115, 116, 117, 118, 119, 120, 121, 122, 123, 124, 125, 126]
theorem SG_len : SG.length = 95 := by decide
theorem SG_nd : SG.Nodup := by decide +kernel
/-- of a list of signs, in their order, each once -/
def inO (s : List Nat) : List Nat := SG.filter fun c => decide (c ∈ s)
def oth (s : List Nat) : List Nat := SG.filter fun c => !decide (c ∈ s)
def btw (a b : Nat) : List Nat := SG.filter fun c => decide (a ≤ c ∧ c ≤ b)
/-- the place of a sign -/
def ix (c : Nat) : Nat := if c = 10 then 0 else if c < 37 then c - 31 else c - 32
theorem ix_at : ∀ c ∈ SG, SG[ix c]? = some c := by decide +kernel
theorem ix_lt : ∀ c ∈ SG, ix c < 95 := by decide +kernel
theorem ix_le {a b : Nat} (ha : a ∈ SG) (hb : b ∈ SG) : ix a ≤ ix b ↔ a ≤ b := by
  have h : ∀ c ∈ SG, c = 10 ∨ (32 ≤ c ∧ c < 37) ∨ 37 < c := by decide +kernel
  unfold ix
  have h1 := h a ha
  have h2 := h b hb
  split <;> split <;> (try split) <;> (try split) <;> omega
theorem filt_ge : ∀ (l : List Nat) (i a : Nat), l.Pairwise (· < ·) → l[i]? = some a → l.filter (fun c => decide (a ≤ c)) = l.drop i
  | [], i, a, _, h => by simp at h
  | x :: l, 0, a, hp, h => by
    have e : x = a := Option.some.inj h
    subst e
    rw [List.filter_cons_of_pos (by simp), List.drop_zero]
    have : l.filter (fun c => decide (x ≤ c)) = l := List.filter_eq_self.mpr fun c hc => decide_eq_true (Nat.le_of_lt (List.rel_of_pairwise_cons hp hc))
    rw [this]
  | x :: l, i + 1, a, hp, h => by
    have h' : l[i]? = some a := h
    have hx : x < a := List.rel_of_pairwise_cons hp (List.mem_of_getElem? h')
    rw [List.filter_cons_of_neg (by simp; omega), List.drop_succ_cons]
    exact filt_ge l i a (List.Pairwise.of_cons hp) h'
theorem filt_le : ∀ (l : List Nat) (j b : Nat), l.Pairwise (· < ·) → l[j]? = some b → l.filter (fun c => decide (c ≤ b)) = l.take (j + 1)
  | [], j, b, _, h => by simp at h
  | x :: l, 0, b, hp, h => by
    have e : x = b := Option.some.inj h
    subst e
    rw [List.filter_cons_of_pos (by simp)]
    have : l.filter (fun c => decide (c ≤ x)) = [] := List.filter_eq_nil_iff.mpr fun c hc => by
      have := List.rel_of_pairwise_cons hp hc
      simp; omega
    rw [this] <;> rfl
  | x :: l, j + 1, b, hp, h => by
    have h' : l[j]? = some b := h
    have hx : x < b := List.rel_of_pairwise_cons hp (List.mem_of_getElem? h')
    rw [List.filter_cons_of_pos (by simp; omega), filt_le l j b (List.Pairwise.of_cons hp) h']
    rfl
theorem SG_up : SG.Pairwise (· < ·) := by decide +kernel
theorem btw_cut {a b : Nat} (ha : a ∈ SG) (hb : b ∈ SG) : (SG.drop (ix a)).take (ix b + 1 - ix a) = btw a b := by
  have e : btw a b = (SG.filter fun c => decide (a ≤ c)).filter fun c => decide (c ≤ b) := by
    unfold btw
    rw [List.filter_filter]
    congr 1
    funext c
    rw [← Bool.decide_and]
    congr 1
    exact propext And.comm
  have hi := ix_le ha hb
  rw [e, filt_ge SG (ix a) a SG_up (ix_at a ha)]
  by_cases h : ix a ≤ ix b
  · have hj : (SG.drop (ix a))[ix b - ix a]? = some b := by
      rw [List.getElem?_drop, show ix a + (ix b - ix a) = ix b by omega]
      exact ix_at b hb
    rw [filt_le (SG.drop (ix a)) (ix b - ix a) b (List.Pairwise.sublist (List.drop_sublist _ _) SG_up) hj, show ix b - ix a + 1 = ix b + 1 - ix a by omega]
  · rw [show ix b + 1 - ix a = 0 by omega, List.take_zero]
    symm
    refine List.filter_eq_nil_iff.mpr fun c hc => ?_
    have h1 : a ≤ c := by
      have h2 : c ∈ SG.filter fun c => decide (a ≤ c) := by
        rw [filt_ge SG (ix a) a SG_up (ix_at a ha)]
        exact hc
      exact of_decide_eq_true (List.mem_filter.mp h2).2
    simp; omega
/-! ### heaps -/
/-- the tuples stand -/
def TupK (H H' : Hp) : Prop := ∀ a xs, H a = some (.tup xs) → H' a = some (.tup xs)
/-- all stands but what is at p -/
def Kp (p : Addr) (H H' : Hp) : Prop := ∀ b o, b ≠ p → H b = some o → H' b = some o
theorem TupK.refl (H : Hp) : TupK H H := fun _ _ h => h
theorem TupK.trans {H H1 H2 : Hp} (a : TupK H H1) (b : TupK H1 H2) : TupK H H2 := fun x xs h => b x xs (a x xs h)
theorem TupK.of {H H' : Hp} (s : Same H H') : TupK H H' := fun a xs h => s a _ h
theorem Kp.of {p : Addr} {H H' : Hp} (s : Same H H') : Kp p H H' := fun b o _ h => s b o h
theorem Kp.refl (p : Addr) (H : Hp) : Kp p H H := fun _ _ _ h => h
theorem Kp.trans {p : Addr} {H H1 H2 : Hp} (a : Kp p H H1) (b : Kp p H1 H2) : Kp p H H2 := fun x o n h => b x o n (a x o n h)
theorem Kp.upd {p : Addr} {H : Hp} {o : HO} : Kp p H (upd H p o) := fun b x n h => by rw [upd_ne n]; exact h
theorem Kp.tup {p : Addr} {H H' : Hp} (k : Kp p H H') (hp : ∀ xs, H p ≠ some (.tup xs)) : TupK H H' := fun a xs h => k a _ (fun e => hp xs (e ▸ h)) h
theorem same_new {H : Hp} {p : Addr} {o : HO} (h : H p = none) : Same H (upd H p o) := fun b u q => by rw [upd_ne (ne_of_none q h)]; exact q
/-- a new thing changed -/
theorem Same.mut {H H' : Hp} {p : Addr} {o : HO} (e : Same H H') (h : H p = none) : Same H (upd H' p o) := fun b u q => by rw [upd_ne (ne_of_none q h)]; exact e b u q
/-! ### data that stands still -/
mutual
inductive Dt (H : Hp) : V → PyData → Prop
  | non : Dt H .non .none
  | bl (b : Bool) : Dt H (.bl b) (.bool b)
  | int (i : Int) : Dt H (.int i) (.int i)
  | str (x : Str) : Dt H (.str x) (.str x)
  | tup {a : Addr} {xs : List V} {ds : List PyData} : H a = some (.tup xs) → DtA H xs ds → Dt H (.ref a) (.tuple ds)
inductive DtA (H : Hp) : List V → List PyData → Prop
  | nil : DtA H [] []
  | cons {v : V} {vs : List V} {d : PyData} {ds : List PyData} : Dt H v d → DtA H vs ds → DtA H (v :: vs) (d :: ds)
end
mutual
theorem Dt.mono {H H' : Hp} (k : TupK H H') : ∀ {d : PyData} {v : V}, Dt H v d → Dt H' v d
  | _, _, .non => .non
  | _, _, .bl b => .bl b
  | _, _, .int i => .int i
  | _, _, .str x => .str x
  | _, _, .tup h1 h2 => .tup (k _ _ h1) (DtA.mono k h2)
theorem DtA.mono {H H' : Hp} (k : TupK H H') : ∀ {ds : List PyData} {vs : List V}, DtA H vs ds → DtA H' vs ds
  | _, _, .nil => .nil
  | _, _, .cons h1 h2 => .cons (Dt.mono k h1) (DtA.mono k h2)
end
mutual
theorem Dt.dp {K : PySem.W.Frag} {H : Hp} : ∀ {d : PyData} {v : V}, Dt H v d → Dp K H v d
  | _, _, .non => .non
  | _, _, .bl b => .bl b
  | _, _, .int i => .int i
  | _, _, .str x => .str x
  | _, _, .tup h1 h2 => .tup (SqT.of h1) (DtA.dp h2)
theorem DtA.dp {K : PySem.W.Frag} {H : Hp} : ∀ {ds : List PyData} {vs : List V}, DtA H vs ds → DpAll K H vs ds
  | _, _, .nil => .nil
  | _, _, .cons h1 h2 => .cons (Dt.dp h1) (DtA.dp h2)
end
theorem DtA.length {H : Hp} : ∀ {vs : List V} {ds : List PyData}, DtA H vs ds → vs.length = ds.length
  | _, _, .nil => rfl
  | _, _, .cons _ h => congrArg (· + 1) (DtA.length h)
theorem DtA.get {H : Hp} : ∀ {vs : List V} {ds : List PyData} {i : Nat} {d : PyData}, DtA H vs ds → ds[i]? = some d → ∃ v, vs[i]? = some v ∧ Dt H v d
  | _, _, _, _, .nil, h => by simp at h
  | _, _, 0, d, .cons h1 _, h => ⟨_, rfl, by
    have e := Option.some.inj h
    rw [← e]
    exact h1⟩
  | _, _, i + 1, d, .cons _ h2, h => DtA.get (i := i) h2 h
theorem DtA.append {H : Hp} : ∀ {vs ws : List V} {ds es : List PyData}, DtA H vs ds → DtA H ws es → DtA H (vs ++ ws) (ds ++ es)
  | _, _, _, _, .nil, s => s
  | _, _, _, _, .cons h t, s => .cons h (DtA.append t s)
theorem DtA.drop {H : Hp} : ∀ {vs : List V} {ds : List PyData} (n : Nat), DtA H vs ds → DtA H (vs.drop n) (ds.drop n)
  | _, _, 0, h => h
  | _, _, _ + 1, .nil => .nil
  | _, _, n + 1, .cons _ t => DtA.drop n t
theorem Dt.tup_inv {H : Hp} {v : V} {ds : List PyData} (h : Dt H v (.tuple ds)) : ∃ a xs, v = .ref a ∧ H a = some (.tup xs) ∧ DtA H xs ds := by
  cases h with
  | tup h1 h2 => exact ⟨_, _, rfl, h1, h2⟩
theorem Dt.str_inv {H : Hp} {v : V} {x : Str} (h : Dt H v (.str x)) : v = .str x := by
  cases h; rfl
theorem Dt.int_inv {H : Hp} {v : V} {x : Int} (h : Dt H v (.int x)) : v = .int x := by
  cases h; rfl
theorem Dt.non_inv {H : Hp} {v : V} (h : Dt H v .none) : v = .non := by
  cases h; rfl
theorem DtA.cons_inv {H : Hp} {vs : List V} {d : PyData} {ds : List PyData} (h : DtA H vs (d :: ds)) : ∃ v r, vs = v :: r ∧ Dt H v d ∧ DtA H r ds := by
  cases h with
  | cons h1 h2 => exact ⟨_, _, rfl, h1, h2⟩
theorem DtA.nil_inv {H : Hp} {vs : List V} (h : DtA H vs []) : vs = [] := by
  cases h; rfl
/-! ### what evaluates, leaving what stands -/
def EvP (te : TE) (σ : L2.St) (H : Hp) (R : V → Hp → Prop) : Prop := ∀ Q : VK, (∀ v H', Same H H' → R v H' → Q v H') → te σ H Q
def EvB (tt : TT) (σ : L2.St) (H : Hp) (b : Bool) : Prop := ∀ Q : Bool → Hp → Prop, (∀ H', Same H H' → Q b H') → tt σ H Q
/-- which values stand for which items -/
def RAll {α : Type} (R : α → V → Hp → Prop) (H : Hp) : List α → List V → Prop
  | [], [] => True
  | a :: as, v :: vs => R a v H ∧ RAll R H as vs
  | _, _ => False
theorem RAll.mono {α : Type} {R : α → V → Hp → Prop} (m : ∀ a v H H', TupK H H' → R a v H → R a v H') {H H' : Hp} (k : TupK H H') : ∀ {as : List α} {vs : List V}, RAll R H as vs → RAll R H' as vs
  | [], [], _ => trivial
  | _ :: _, _ :: _, ⟨h1, h2⟩ => ⟨m _ _ _ _ k h1, RAll.mono m k h2⟩
  | [], _ :: _, h => h.elim
  | _ :: _, [], h => h.elim
theorem RAll.append {α : Type} {R : α → V → Hp → Prop} {H : Hp} : ∀ {as bs : List α} {vs ws : List V}, RAll R H as vs → RAll R H bs ws → RAll R H (as ++ bs) (vs ++ ws)
  | [], _, [], _, _, h => h
  | _ :: _, _, _ :: _, _, ⟨h1, h2⟩, h => ⟨h1, RAll.append h2 h⟩
  | [], _, _ :: _, _, h, _ => h.elim
  | _ :: _, _, [], _, h, _ => h.elim
theorem RAll.length {α : Type} {R : α → V → Hp → Prop} {H : Hp} : ∀ {as : List α} {vs : List V}, RAll R H as vs → vs.length = as.length
  | [], [], _ => rfl
  | _ :: _, _ :: _, ⟨_, h2⟩ => congrArg (· + 1) (RAll.length h2)
  | [], _ :: _, h => h.elim
  | _ :: _, [], h => h.elim
theorem RAll.map {α : Type} {f : α → V} {H : Hp} : ∀ {as : List α} {vs : List V}, RAll (fun a v _ => v = f a) H as vs → vs = as.map f
  | [], [], _ => rfl
  | _ :: _, _ :: _, ⟨h1, h2⟩ => by rw [h1, RAll.map h2]; rfl
  | [], _ :: _, h => h.elim
  | _ :: _, [], h => h.elim
/-- what is walked gives the items xs while what stood stands -/
structure Gives {α : Type} (J : It) (H1 : Hp) (xs : List α) (val : α → V → Prop) : Prop where
  go : ∀ i H, Same H1 H → i < xs.length → J.go i H
  yld : ∀ i H x H', Same H1 H → J.yld i H x H' → i < xs.length → H' = H ∧ ∃ a, xs[i]? = some a ∧ val a x
  stop : ∀ H, Same H1 H → J.stop xs.length H
theorem gives_str (l : List Nat) (H1 : Hp) : Gives (Its (mk l)) H1 l (fun c v => v = .str (mk [c])) where
  go := fun i H _ h => h
  yld := fun i H x H' _ h _ => by
    obtain ⟨e, c, hc, hv⟩ := h
    exact ⟨e, c, by
      have : l.toArray[i]? = some c := hc
      simpa using this, hv⟩
  stop := fun H _ => Nat.le_refl _
theorem gives_range (n : Nat) (H1 : Hp) : Gives (Itr 0 n) H1 (List.range n) (fun i v => v = .int (i : Nat)) where
  go := fun i H _ h => by
    rw [List.length_range] at h
    exact h
  yld := fun i H x H' _ h hi => by
    obtain ⟨e, hv⟩ := h
    refine ⟨e, i, ?_, ?_⟩
    · rw [List.length_range] at hi
      exact List.getElem?_range hi
    · rw [hv]
      exact congrArg V.int (by omega)
  stop := fun H _ => by
    show n ≤ _
    rw [List.length_range]; exact Nat.le_refl _
theorem gives_list {K : PySem.W.Frag} {a : Addr} {xs : List V} {H1 : Hp} (h : SqL K H1 a xs) : Gives (Itl K a) H1 xs (fun x v => v = x) where
  go := fun i H s hi => ⟨xs, xs[i], s.seq h, List.getElem?_eq_getElem hi⟩
  yld := fun i H x H' s h' hi => by
    obtain ⟨e, f⟩ := h'
    exact ⟨e, x, f xs (s.seq h), rfl⟩
  stop := fun H s => ⟨xs, s.seq h, Nat.le_refl _⟩
theorem same_tup {K : PySem.W.Frag} {H H' : Hp} {a : Addr} {xs : List V} (e : Same H H') (h : SqT K H a xs) : SqT K H' a xs := by
  rcases h with (h | ⟨o, h⟩) | h
  · exact .inl (.inl (e _ _ h))
  · exact .inl (.inr ⟨o, e _ _ h⟩)
  · exact .inr h
theorem gives_tup {K : PySem.W.Frag} {a : Addr} {xs : List V} {H1 : Hp} (h : SqT K H1 a xs) : Gives (Itt K a) H1 xs (fun x v => v = x) where
  go := fun i H s hi => ⟨xs, xs[i], same_tup s h, List.getElem?_eq_getElem hi⟩
  yld := fun i H x H' s h' hi => by
    obtain ⟨e, f⟩ := h'
    exact ⟨e, x, f xs (same_tup s h), rfl⟩
  stop := fun H s => ⟨xs, same_tup s h, Nat.le_refl _⟩
/-- a comprehension whose tests and elements leave what stands -/
theorem lc_ext {α : Type} {J : It} {tt : TT} {te : TE} {vs : List Nat} {σ : L2.St} {H1 : Hp} {D : Addr} {Qd : Hp → Prop} {j : Nat} {xs : List α} {val : α → V → Prop} (hJ : Gives J H1 xs val) (hD : H1 D = none) (hz : xs.length ≤ sizeLine)
    (f : α → Bool) (R : α → V → Hp → Prop) (m : ∀ a v H H', TupK H H' → R a v H → R a v H')
    (hw : ∀ x, wipe ((wipe σ vs).set j (some x)) vs = wipe σ vs)
    (ht : ∀ a ∈ xs, ∀ x, val a x → ∀ H, Same H1 H → EvB tt ((wipe σ vs).set j (some x)) H (f a))
    (he : ∀ a ∈ xs, f a = true → ∀ x, val a x → ∀ H, Same H1 H → EvP te ((wipe σ vs).set j (some x)) H (R a))
    (hd : ∀ H ys, Same H1 H → H D = some (.lst ys) → RAll R H (xs.filter f) ys → Qd H) :
    ∃ W : Nat → Nat → Hp → Prop, (∃ m, W 0 m (upd H1 D (.lst []))) ∧ ∀ i m H, W i m H →
      (J.stop i H ∧ Qd H) ∨ (J.go i H ∧ ∃ Nx : Hp → Prop, (∀ H', Nx H' → ∃ m', m' < m ∧ W (i + 1) m' H') ∧ ∀ x H', J.yld i H x H' → gName j x (wipe σ vs) H' fun σ2 H2 => wipe σ2 vs = wipe σ vs ∧ tt σ2 H2 fun b H3 =>
        if b = true then te σ2 H3 fun y H4 => ∃ acc, H4 D = some (.lst acc) ∧ acc.length < sizeLine ∧ Nx (upd H4 D (.lst (acc ++ [y]))) else Nx H3) := by
  let Pv : Nat → Hp → Prop := fun i H => Same H1 H ∧ ∃ ys, H D = some (.lst ys) ∧ RAll R H ((xs.take i).filter f) ys
  refine ⟨fun i m H => m = xs.length - i ∧ i ≤ xs.length ∧ Pv i H, ⟨xs.length, by simp, Nat.zero_le _, same_new hD, [], upd_same, by rw [List.take_zero]; exact trivial⟩, ?_⟩
  rintro i m0 H ⟨rfl, hi, hS, ys, hy, hr⟩
  by_cases hlt : i < xs.length
  · refine .inr ⟨hJ.go i H hS hlt, Pv (i + 1), fun H' p' => ⟨xs.length - (i + 1), by omega, rfl, hlt, p'⟩, fun x H' y => ?_⟩
    obtain ⟨rfl, a, ha, hv⟩ := hJ.yld i H x H' hS y hlt
    have hmem : a ∈ xs := List.mem_of_getElem? ha
    have htk : xs.take (i + 1) = xs.take i ++ [a] := by
      rw [List.take_add_one, ha] <;> rfl
    refine ⟨hw x, ht a hmem x hv H' hS _ fun H3 s3 => ?_⟩
    by_cases hf : f a = true
    · rw [if_pos hf]
      refine he a hmem hf x hv H3 (hS.trans s3) _ fun y H4 s4 hR => ?_
      have e4 : H4 D = some (.lst ys) := s4 _ _ (s3 _ _ hy)
      have hl : ys.length ≤ i := by
        rw [hr.length]
        exact Nat.le_trans (List.length_filter_le _ _) (by rw [List.length_take]; omega)
      refine ⟨ys, e4, by omega, Same.mut ((hS.trans s3).trans s4) hD, ys ++ [y], upd_same, ?_⟩
      have kT : TupK H4 (upd H4 D (.lst (ys ++ [y]))) := fun b zs hb => by
        rw [upd_ne (fun e => by rw [e, e4] at hb; cases hb)]
        exact hb
      rw [htk, List.filter_append, List.filter_cons_of_pos hf]
      exact RAll.append (hr.mono m (((TupK.of s3).trans (TupK.of s4)).trans kT)) ⟨m _ _ _ _ kT hR, trivial⟩
    · rw [if_neg hf]
      refine ⟨hS.trans s3, ys, s3 _ _ hy, ?_⟩
      rw [htk, List.filter_append, List.filter_cons_of_neg hf, List.filter_nil, List.append_nil]
      exact hr.mono m (TupK.of s3)
  · have e : i = xs.length := by omega
    subst e
    rw [List.take_length] at hr
    exact .inl ⟨hJ.stop H hS, hd H ys hS hy hr⟩
theorem mono_const {α : Type} {f : α → V} : ∀ (a : α) (v : V) (H H' : Hp), TupK H H' → (fun a v (_ : Hp) => v = f a) a v H → (fun a v (_ : Hp) => v = f a) a v H' := fun _ _ _ _ _ h => h
/-- "".join of texts -/
theorem join_nil : ∀ ls : List (List Nat), Txt.join (mk []) (ls.map mk) = mk ls.flatten := by
  intro ls
  apply TL.ext_tl
  rw [TL.join_eq, TL.tl_join]
  have e : (ls.map mk).map TL.tl = ls := by
    rw [List.map_map]
    exact List.map_id ls
  rw [e]
  clear e
  show TL.joinL [] ls = ls.flatten
  induction ls with
  | nil => rfl
  | cons p r ih =>
    cases r with
    | nil =>
      show p = p ++ [] 
      rw [List.append_nil]
    | cons q r =>
      show p ++ ([] ++ TL.joinL [] (q :: r)) = _
      rw [ih] <;> rfl
end TW

set_option maxHeartbeats 1000000
namespace TW
open PySem PySem.Spec PyProof.Rows L2
/-! ### the text -/
def topS (i : Nat) : Stmt := PySem.Challenge.pw_tokenwright_k01_trees.main.body.getD i (.Pass ⟨0, 0, 0, 0⟩)
abbrev s_BadRule___init__ : Stmt := inClass (topS 2) 0
abbrev N_BadRule___init__ : List Str := ["self", "rule", "at"]
theorem sc_BadRule___init__ : FnScope N_BadRule___init__ ["self", "rule", "at"] (defScope s_BadRule___init__) := ⟨rfl, rfl, rfl, by decide +kernel, rfl, by decide +kernel, by decide +kernel⟩
abbrev s_place_of : Stmt := topS 7
abbrev N_place_of : List Str := ["sign"]
theorem sc_place_of : FnScope N_place_of ["sign"] (defScope s_place_of) := ⟨rfl, rfl, rfl, by decide +kernel, rfl, by decide +kernel, by decide +kernel⟩
abbrev s_between : Stmt := topS 8
abbrev N_between : List Str := ["one", "other"]
theorem sc_between : FnScope N_between ["one", "other"] (defScope s_between) := ⟨rfl, rfl, rfl, by decide +kernel, rfl, by decide +kernel, by decide +kernel⟩
abbrev s_in_order : Stmt := topS 9
abbrev N_in_order : List Str := ["signs", "sign"]
theorem sc_in_order : FnScope N_in_order ["signs"] (defScope s_in_order) := ⟨rfl, rfl, rfl, by decide +kernel, rfl, by decide +kernel, by decide +kernel⟩
abbrev s_others : Stmt := topS 10
abbrev N_others : List Str := ["signs", "sign"]
theorem sc_others : FnScope N_others ["signs"] (defScope s_others) := ⟨rfl, rfl, rfl, by decide +kernel, rfl, by decide +kernel, by decide +kernel⟩
abbrev s_Tape___init__ : Stmt := inClass (topS 14) 0
abbrev N_Tape___init__ : List Str := ["self", "text"]
theorem sc_Tape___init__ : FnScope N_Tape___init__ ["self", "text"] (defScope s_Tape___init__) := ⟨rfl, rfl, rfl, by decide +kernel, rfl, by decide +kernel, by decide +kernel⟩
abbrev s_Tape_sign : Stmt := inClass (topS 14) 1
abbrev N_Tape_sign : List Str := ["self"]
theorem sc_Tape_sign : FnScope N_Tape_sign ["self"] (defScope s_Tape_sign) := ⟨rfl, rfl, rfl, by decide +kernel, rfl, by decide +kernel, by decide +kernel⟩
abbrev s_Tape_step : Stmt := inClass (topS 14) 2
abbrev N_Tape_step : List Str := ["self", "sign"]
theorem sc_Tape_step : FnScope N_Tape_step ["self"] (defScope s_Tape_step) := ⟨rfl, rfl, rfl, by decide +kernel, rfl, by decide +kernel, by decide +kernel⟩
abbrev s_Tape_refuse : Stmt := inClass (topS 14) 3
abbrev N_Tape_refuse : List Str := ["self"]
theorem sc_Tape_refuse : FnScope N_Tape_refuse ["self"] (defScope s_Tape_refuse) := ⟨rfl, rfl, rfl, by decide +kernel, rfl, by decide +kernel, by decide +kernel⟩
abbrev s_Tape_turned : Stmt := inClass (topS 14) 4
abbrev N_Tape_turned : List Str := ["self", "sign"]
theorem sc_Tape_turned : FnScope N_Tape_turned ["self"] (defScope s_Tape_turned) := ⟨rfl, rfl, rfl, by decide +kernel, rfl, by decide +kernel, by decide +kernel⟩
abbrev s_read_class_sign : Stmt := topS 15
abbrev N_read_class_sign : List Str := ["tape", "sign"]
theorem sc_read_class_sign : FnScope N_read_class_sign ["tape"] (defScope s_read_class_sign) := ⟨rfl, rfl, rfl, by decide +kernel, rfl, by decide +kernel, by decide +kernel⟩
abbrev s_read_item : Stmt := topS 16
abbrev N_read_item : List Str := ["tape", "one", "at", "other"]
theorem sc_read_item : FnScope N_read_item ["tape"] (defScope s_read_item) := ⟨rfl, rfl, rfl, by decide +kernel, rfl, by decide +kernel, by decide +kernel⟩
abbrev s_read_class : Stmt := topS 17
abbrev N_read_class : List Str := ["tape", "turned", "signs"]
theorem sc_read_class : FnScope N_read_class ["tape"] (defScope s_read_class) := ⟨rfl, rfl, rfl, by decide +kernel, rfl, by decide +kernel, by decide +kernel⟩
abbrev s_read_atom : Stmt := topS 18
abbrev N_read_atom : List Str := ["tape", "deep", "sign", "found"]
theorem sc_read_atom : FnScope N_read_atom ["tape", "deep"] (defScope s_read_atom) := ⟨rfl, rfl, rfl, by decide +kernel, rfl, by decide +kernel, by decide +kernel⟩
abbrev s_read_repeat : Stmt := topS 19
abbrev N_read_repeat : List Str := ["tape", "deep", "found"]
theorem sc_read_repeat : FnScope N_read_repeat ["tape", "deep"] (defScope s_read_repeat) := ⟨rfl, rfl, rfl, by decide +kernel, rfl, by decide +kernel, by decide +kernel⟩
abbrev s_joined : Stmt := topS 20
abbrev N_joined : List Str := ["kind", "trees"]
theorem sc_joined : FnScope N_joined ["kind", "trees"] (defScope s_joined) := ⟨rfl, rfl, rfl, by decide +kernel, rfl, by decide +kernel, by decide +kernel⟩
abbrev s_read_row : Stmt := topS 21
abbrev N_read_row : List Str := ["tape", "deep", "found"]
theorem sc_read_row : FnScope N_read_row ["tape", "deep"] (defScope s_read_row) := ⟨rfl, rfl, rfl, by decide +kernel, rfl, by decide +kernel, by decide +kernel⟩
abbrev s_read_choice : Stmt := topS 22
abbrev N_read_choice : List Str := ["tape", "deep", "found"]
theorem sc_read_choice : FnScope N_read_choice ["tape", "deep"] (defScope s_read_choice) := ⟨rfl, rfl, rfl, by decide +kernel, rfl, by decide +kernel, by decide +kernel⟩
abbrev s_read : Stmt := topS 23
abbrev N_read : List Str := ["text", "tape", "found"]
theorem sc_read : FnScope N_read ["text"] (defScope s_read) := ⟨rfl, rfl, rfl, by decide +kernel, rfl, by decide +kernel, by decide +kernel⟩
abbrev s_turned : Stmt := topS 27
abbrev N_turned : List Str := ["sign", "kept"]
theorem sc_turned : FnScope N_turned ["sign", "kept"] (defScope s_turned) := ⟨rfl, rfl, rfl, by decide +kernel, rfl, by decide +kernel, by decide +kernel⟩
abbrev s_stretches : Stmt := topS 28
abbrev N_stretches : List Str := ["signs", "found", "sign"]
theorem sc_stretches : FnScope N_stretches ["signs"] (defScope s_stretches) := ⟨rfl, rfl, rfl, by decide +kernel, rfl, by decide +kernel, by decide +kernel⟩
abbrev s_items : Stmt := topS 29
abbrev N_items : List Str := ["signs", "found", "stretch", "sign"]
theorem sc_items : FnScope N_items ["signs"] (defScope s_items) := ⟨rfl, rfl, rfl, by decide +kernel, rfl, by decide +kernel, by decide +kernel⟩
abbrev s_one : Stmt := topS 30
abbrev N_one : List Str := ["signs", "plain", "turned_round"]
theorem sc_one : FnScope N_one ["signs"] (defScope s_one) := ⟨rfl, rfl, rfl, by decide +kernel, rfl, by decide +kernel, by decide +kernel⟩
abbrev s_written : Stmt := topS 31
abbrev N_written : List Str := ["tree", "kind", "part"]
theorem sc_written : FnScope N_written ["tree"] (defScope s_written) := ⟨rfl, rfl, rfl, by decide +kernel, rfl, by decide +kernel, by decide +kernel⟩
abbrev s_inner : Stmt := topS 32
abbrev N_inner : List Str := ["tree", "kinds"]
theorem sc_inner : FnScope N_inner ["tree", "kinds"] (defScope s_inner) := ⟨rfl, rfl, rfl, by decide +kernel, rfl, by decide +kernel, by decide +kernel⟩
abbrev s_l_cell : Stmt := topS 34
abbrev N_l_cell : List Str := ["_law_script", "_law_k"]
theorem sc_l_cell : FnScope N_l_cell ["_law_script", "_law_k"] (defScope s_l_cell) := ⟨rfl, rfl, rfl, by decide +kernel, rfl, by decide +kernel, by decide +kernel⟩
abbrev s_l_mix : Stmt := topS 35
abbrev N_l_mix : List Str := ["_law_script", "_law_k", "_law_number"]
theorem sc_l_mix : FnScope N_l_mix ["_law_script", "_law_k"] (defScope s_l_mix) := ⟨rfl, rfl, rfl, by decide +kernel, rfl, by decide +kernel, by decide +kernel⟩
abbrev s_l_whole : Stmt := topS 36
abbrev N_l_whole : List Str := ["_law_found"]
theorem sc_l_whole : FnScope N_l_whole ["_law_found"] (defScope s_l_whole) := ⟨rfl, rfl, rfl, by decide +kernel, rfl, by decide +kernel, by decide +kernel⟩
abbrev s_l_wholes : Stmt := topS 37
abbrev N_l_wholes : List Str := ["_law_found", "_law_one_here"]
theorem sc_l_wholes : FnScope N_l_wholes ["_law_found"] (defScope s_l_wholes) := ⟨rfl, rfl, rfl, by decide +kernel, rfl, by decide +kernel, by decide +kernel⟩
abbrev s_l_all : Stmt := topS 38
abbrev N_l_all : List Str := ["_law_low"]
theorem sc_l_all : FnScope N_l_all [] (defScope s_l_all) := ⟨rfl, rfl, rfl, by decide +kernel, rfl, by decide +kernel, by decide +kernel⟩
abbrev s_l_signs : Stmt := topS 39
abbrev N_l_signs : List Str := ["_law_number", "_law_signs_here", "_law_way", "_law_stretch", "_law_some", "_law_sign"]
theorem sc_l_signs : FnScope N_l_signs ["_law_number"] (defScope s_l_signs) := ⟨rfl, rfl, rfl, by decide +kernel, rfl, by decide +kernel, by decide +kernel⟩
abbrev s_l_tree : Stmt := topS 40
abbrev N_l_tree : List Str := ["_law_script", "_law_base", "_law_deep", "_law_number", "_law_way", "_law_parts", "_law_k"]
theorem sc_l_tree : FnScope N_l_tree ["_law_script", "_law_base", "_law_deep"] (defScope s_l_tree) := ⟨rfl, rfl, rfl, by decide +kernel, rfl, by decide +kernel, by decide +kernel⟩
abbrev s_l_turned : Stmt := topS 41
abbrev N_l_turned : List Str := ["_law_sign", "_law_kept"]
theorem sc_l_turned : FnScope N_l_turned ["_law_sign", "_law_kept"] (defScope s_l_turned) := ⟨rfl, rfl, rfl, by decide +kernel, rfl, by decide +kernel, by decide +kernel⟩
abbrev s_l_class : Stmt := topS 42
abbrev N_l_class : List Str := ["_law_signs_here", "_law_number", "_law_kept", "_law_found", "_law_at", "_law_order", "_law_end", "_law_item", "_law_turn"]
theorem sc_l_class : FnScope N_l_class ["_law_signs_here", "_law_number"] (defScope s_l_class) := ⟨rfl, rfl, rfl, by decide +kernel, rfl, by decide +kernel, by decide +kernel⟩
abbrev s_l_one : Stmt := topS 43
abbrev N_l_one : List Str := ["_law_signs_here", "_law_number", "_law_sign"]
theorem sc_l_one : FnScope N_l_one ["_law_signs_here", "_law_number"] (defScope s_l_one) := ⟨rfl, rfl, rfl, by decide +kernel, rfl, by decide +kernel, by decide +kernel⟩
abbrev s_l_told : Stmt := topS 44
abbrev N_l_told : List Str := ["_law_script", "_law_base", "_law_tree_here", "_law_number", "_law_kinds", "_law_parts", "_law_k", "_law_part"]
theorem sc_l_told : FnScope N_l_told ["_law_script", "_law_base", "_law_tree_here"] (defScope s_l_told) := ⟨rfl, rfl, rfl, by decide +kernel, rfl, by decide +kernel, by decide +kernel⟩
abbrev s_l_is_tree : Stmt := topS 45
abbrev N_l_is_tree : List Str := ["_law_tree_here", "_law_part"]
theorem sc_l_is_tree : FnScope N_l_is_tree ["_law_tree_here"] (defScope s_l_is_tree) := ⟨rfl, rfl, rfl, by decide +kernel, rfl, by decide +kernel, by decide +kernel⟩
abbrev s_l_many : Stmt := topS 46
abbrev N_l_many : List Str := ["_law_tree_here", "_law_part"]
theorem sc_l_many : FnScope N_l_many ["_law_tree_here"] (defScope s_l_many) := ⟨rfl, rfl, rfl, by decide +kernel, rfl, by decide +kernel, by decide +kernel⟩
abbrev s_law : Stmt := topS 47
abbrev N_law : List Str := ["_law_script", "_law_tree_here", "_law_told_here", "_law_found", "_law_again"]
theorem sc_law : FnScope N_law ["_law_script"] (defScope s_law) := ⟨rfl, rfl, rfl, by decide +kernel, rfl, by decide +kernel, by decide +kernel⟩
/-! ### what the top has made -/
def c_SIGNS : Str := "\n !\"#$&'()*+,-./0123456789:;<=>?@ABCDEFGHIJKLMNOPQRSTUVWXYZ[\\]^_`abcdefghijklmnopqrstuvwxyz{|}~"
def c_KEPT : Str := ".|()[]*+?\\"
def c_TURNED : Str := ".|()[]*+?\\-^"
def c_IN_CLASS : Str := "]-\\"
def d_BadRule___init__ : He.DefD := ⟨("BadRule", some "__init__"), "__init__", "BadRule.__init__", defArgs s_BadRule___init__, defBody s_BadRule___init__, defScope s_BadRule___init__, [], []⟩
def d_place_of : He.DefD := ⟨("place_of", none), "place_of", "place_of", defArgs s_place_of, defBody s_place_of, defScope s_place_of, [], []⟩
def d_between : He.DefD := ⟨("between", none), "between", "between", defArgs s_between, defBody s_between, defScope s_between, [], []⟩
def d_in_order : He.DefD := ⟨("in_order", none), "in_order", "in_order", defArgs s_in_order, defBody s_in_order, defScope s_in_order, [], []⟩
def d_others : He.DefD := ⟨("others", none), "others", "others", defArgs s_others, defBody s_others, defScope s_others, [], []⟩
def d_Tape___init__ : He.DefD := ⟨("Tape", some "__init__"), "__init__", "Tape.__init__", defArgs s_Tape___init__, defBody s_Tape___init__, defScope s_Tape___init__, [], []⟩
def d_Tape_sign : He.DefD := ⟨("Tape", some "sign"), "sign", "Tape.sign", defArgs s_Tape_sign, defBody s_Tape_sign, defScope s_Tape_sign, [], []⟩
def d_Tape_step : He.DefD := ⟨("Tape", some "step"), "step", "Tape.step", defArgs s_Tape_step, defBody s_Tape_step, defScope s_Tape_step, [], []⟩
def d_Tape_refuse : He.DefD := ⟨("Tape", some "refuse"), "refuse", "Tape.refuse", defArgs s_Tape_refuse, defBody s_Tape_refuse, defScope s_Tape_refuse, [], []⟩
def d_Tape_turned : He.DefD := ⟨("Tape", some "turned"), "turned", "Tape.turned", defArgs s_Tape_turned, defBody s_Tape_turned, defScope s_Tape_turned, [], []⟩
def d_read_class_sign : He.DefD := ⟨("read_class_sign", none), "read_class_sign", "read_class_sign", defArgs s_read_class_sign, defBody s_read_class_sign, defScope s_read_class_sign, [], []⟩
def d_read_item : He.DefD := ⟨("read_item", none), "read_item", "read_item", defArgs s_read_item, defBody s_read_item, defScope s_read_item, [], []⟩
def d_read_class : He.DefD := ⟨("read_class", none), "read_class", "read_class", defArgs s_read_class, defBody s_read_class, defScope s_read_class, [], []⟩
def d_read_atom : He.DefD := ⟨("read_atom", none), "read_atom", "read_atom", defArgs s_read_atom, defBody s_read_atom, defScope s_read_atom, [], []⟩
def d_read_repeat : He.DefD := ⟨("read_repeat", none), "read_repeat", "read_repeat", defArgs s_read_repeat, defBody s_read_repeat, defScope s_read_repeat, [], []⟩
def d_joined : He.DefD := ⟨("joined", none), "joined", "joined", defArgs s_joined, defBody s_joined, defScope s_joined, [], []⟩
def d_read_row : He.DefD := ⟨("read_row", none), "read_row", "read_row", defArgs s_read_row, defBody s_read_row, defScope s_read_row, [], []⟩
def d_read_choice : He.DefD := ⟨("read_choice", none), "read_choice", "read_choice", defArgs s_read_choice, defBody s_read_choice, defScope s_read_choice, [], []⟩
def d_read : He.DefD := ⟨("read", none), "read", "read", defArgs s_read, defBody s_read, defScope s_read, [], []⟩
def d_turned : He.DefD := ⟨("turned", none), "turned", "turned", defArgs s_turned, defBody s_turned, defScope s_turned, [], []⟩
def d_stretches : He.DefD := ⟨("stretches", none), "stretches", "stretches", defArgs s_stretches, defBody s_stretches, defScope s_stretches, [], []⟩
def d_items : He.DefD := ⟨("items", none), "items", "items", defArgs s_items, defBody s_items, defScope s_items, [], []⟩
def d_one : He.DefD := ⟨("one", none), "one", "one", defArgs s_one, defBody s_one, defScope s_one, [], []⟩
def d_written : He.DefD := ⟨("written", none), "written", "written", defArgs s_written, defBody s_written, defScope s_written, [], []⟩
def d_inner : He.DefD := ⟨("inner", none), "inner", "inner", defArgs s_inner, defBody s_inner, defScope s_inner, [], []⟩
def d_l_cell : He.DefD := ⟨("_law_cell", none), "_law_cell", "_law_cell", defArgs s_l_cell, defBody s_l_cell, defScope s_l_cell, [], []⟩
def d_l_mix : He.DefD := ⟨("_law_mix", none), "_law_mix", "_law_mix", defArgs s_l_mix, defBody s_l_mix, defScope s_l_mix, [], []⟩
def d_l_whole : He.DefD := ⟨("_law_whole", none), "_law_whole", "_law_whole", defArgs s_l_whole, defBody s_l_whole, defScope s_l_whole, [], []⟩
def d_l_wholes : He.DefD := ⟨("_law_wholes", none), "_law_wholes", "_law_wholes", defArgs s_l_wholes, defBody s_l_wholes, defScope s_l_wholes, [], []⟩
def d_l_all : He.DefD := ⟨("_law_all", none), "_law_all", "_law_all", defArgs s_l_all, defBody s_l_all, defScope s_l_all, [], []⟩
def d_l_signs : He.DefD := ⟨("_law_signs", none), "_law_signs", "_law_signs", defArgs s_l_signs, defBody s_l_signs, defScope s_l_signs, [], []⟩
def d_l_tree : He.DefD := ⟨("_law_tree", none), "_law_tree", "_law_tree", defArgs s_l_tree, defBody s_l_tree, defScope s_l_tree, [], []⟩
def d_l_turned : He.DefD := ⟨("_law_turned", none), "_law_turned", "_law_turned", defArgs s_l_turned, defBody s_l_turned, defScope s_l_turned, [], []⟩
def d_l_class : He.DefD := ⟨("_law_class", none), "_law_class", "_law_class", defArgs s_l_class, defBody s_l_class, defScope s_l_class, [], []⟩
def d_l_one : He.DefD := ⟨("_law_one", none), "_law_one", "_law_one", defArgs s_l_one, defBody s_l_one, defScope s_l_one, [], []⟩
def d_l_told : He.DefD := ⟨("_law_told", none), "_law_told", "_law_told", defArgs s_l_told, defBody s_l_told, defScope s_l_told, [], []⟩
def d_l_is_tree : He.DefD := ⟨("_law_is_tree", none), "_law_is_tree", "_law_is_tree", defArgs s_l_is_tree, defBody s_l_is_tree, defScope s_l_is_tree, [], []⟩
def d_l_many : He.DefD := ⟨("_law_many", none), "_law_many", "_law_many", defArgs s_l_many, defBody s_l_many, defScope s_l_many, [], []⟩
def d_law : He.DefD := ⟨("law", none), "law", "law", defArgs s_law, defBody s_law, defScope s_law, [], []⟩
def fn : List He.DefD := ([d_BadRule___init__, d_place_of, d_between, d_in_order, d_others, d_Tape___init__, d_Tape_sign, d_Tape_step, d_Tape_refuse, d_Tape_turned, d_read_class_sign, d_read_item, d_read_class, d_read_atom, d_read_repeat, d_joined, d_read_row, d_read_choice, d_read, d_turned, d_stretches, d_items, d_one, d_written, d_inner, d_l_cell, d_l_mix, d_l_whole, d_l_wholes, d_l_all] : List He.DefD) ++ ([d_l_signs, d_l_tree, d_l_turned, d_l_class, d_l_one, d_l_told, d_l_is_tree, d_l_many, d_law] : List He.DefD)
def fa : List He.Fa := ([.glo "TokenError", .glo "BadRule", .str "SIGNS" c_SIGNS, .str "KEPT" c_KEPT, .str "TURNED" c_TURNED, .glo "place_of", .glo "between", .glo "in_order", .glo "others", .int "MOST_DEEP" 6, .glo "REPEATS", .glo "Tape", .glo "read_class_sign", .glo "read_item", .glo "read_class", .glo "read_atom", .glo "read_repeat", .glo "joined", .glo "read_row", .glo "read_choice", .glo "read", .str "IN_CLASS" c_IN_CLASS, .glo "MARKS", .glo "turned", .glo "stretches", .glo "items", .glo "one", .glo "written", .glo "inner", .glo "_law_cell"] : List He.Fa) ++ ([.glo "_law_mix", .glo "_law_whole", .glo "_law_wholes", .glo "_law_all", .glo "_law_signs", .glo "_law_tree", .glo "_law_turned", .glo "_law_class", .glo "_law_one", .glo "_law_told", .glo "_law_is_tree", .glo "_law_many", .glo "law", .free "ValueError", .free "all", .free "bool", .free "int", .free "isinstance", .free "len", .free "list", .free "max", .free "range", .free "str", .free "sum", .free "tuple", .noat "BadRule" "at", .noat "BadRule" "rule", .cls "Tape", .mkr "Tape", .meth "Tape" "sign"] : List He.Fa) ++ ([.meth "Tape" "step", .meth "Tape" "refuse", .meth "Tape" "turned", .noat "Tape" "at", .noat "Tape" "text"] : List He.Fa)
def ts : List He.Tab := ([(fun K => He.ga K "REPEATS", ["*", "+", "?"]), (fun K => He.ga K "MARKS", ["star", "plus", "maybe"])] : List He.Tab)
def tabB (K : PySem.W.Frag) (x : Str) (ks vs : List Str) : Bool := (ks.zip vs).all fun p => (match PySem.W.nsIn K (He.ga K x) p.1 with
  | some (some (.str y _)) => decide (y = p.2)
  | _ => false)
def ex (K : PySem.W.Frag) : Bool := true && oexB K (He.ga K "BadRule") && tabB K "REPEATS" ["*", "+", "?"] ["star", "plus", "maybe"] && tabB K "MARKS" ["star", "plus", "maybe"] ["*", "+", "?"]
structure Top (w : World) (K : PySem.W.Frag) (mg : Str → Option Value) : Prop where
  hp : ∃ h : Heap, K.In h ∧ h.Ns mainGlobals mg
  c : He.SaysT fa fn ts w K
  e : ex K = true
section
variable {w : World} {K : PySem.W.Frag} {mg : Str → Option Value}
theorem Top.g_TokenError (T : Top w K mg) : mg "TokenError" = some (.ref (He.ga K "TokenError")) := by
  obtain ⟨h, X, G⟩ := T.hp
  exact He.glo_ok X G (T.c.d.fact 0 (f := .glo "TokenError") rfl)
theorem Top.g_BadRule (T : Top w K mg) : mg "BadRule" = some (.ref (He.ga K "BadRule")) := by
  obtain ⟨h, X, G⟩ := T.hp
  exact He.glo_ok X G (T.c.d.fact 1 (f := .glo "BadRule") rfl)
theorem Top.g_SIGNS (T : Top w K mg) : ∃ t, mg "SIGNS" = some (.str c_SIGNS t) := by
  obtain ⟨h, X, G⟩ := T.hp
  exact He.str_ok X G (T.c.d.fact 2 (f := .str "SIGNS" c_SIGNS) rfl)
theorem Top.g_KEPT (T : Top w K mg) : ∃ t, mg "KEPT" = some (.str c_KEPT t) := by
  obtain ⟨h, X, G⟩ := T.hp
  exact He.str_ok X G (T.c.d.fact 3 (f := .str "KEPT" c_KEPT) rfl)
theorem Top.g_TURNED (T : Top w K mg) : ∃ t, mg "TURNED" = some (.str c_TURNED t) := by
  obtain ⟨h, X, G⟩ := T.hp
  exact He.str_ok X G (T.c.d.fact 4 (f := .str "TURNED" c_TURNED) rfl)
theorem Top.g_place_of (T : Top w K mg) : mg "place_of" = some (.ref (He.ga K "place_of")) := by
  obtain ⟨h, X, G⟩ := T.hp
  exact He.glo_ok X G (T.c.d.fact 5 (f := .glo "place_of") rfl)
theorem Top.g_between (T : Top w K mg) : mg "between" = some (.ref (He.ga K "between")) := by
  obtain ⟨h, X, G⟩ := T.hp
  exact He.glo_ok X G (T.c.d.fact 6 (f := .glo "between") rfl)
theorem Top.g_in_order (T : Top w K mg) : mg "in_order" = some (.ref (He.ga K "in_order")) := by
  obtain ⟨h, X, G⟩ := T.hp
  exact He.glo_ok X G (T.c.d.fact 7 (f := .glo "in_order") rfl)
theorem Top.g_others (T : Top w K mg) : mg "others" = some (.ref (He.ga K "others")) := by
  obtain ⟨h, X, G⟩ := T.hp
  exact He.glo_ok X G (T.c.d.fact 8 (f := .glo "others") rfl)
theorem Top.g_MOST_DEEP (T : Top w K mg) : ∃ t, mg "MOST_DEEP" = some (.int 6 t) := by
  obtain ⟨h, X, G⟩ := T.hp
  exact He.int_ok X G (T.c.d.fact 9 (f := .int "MOST_DEEP" 6) rfl)
theorem Top.g_REPEATS (T : Top w K mg) : mg "REPEATS" = some (.ref (He.ga K "REPEATS")) := by
  obtain ⟨h, X, G⟩ := T.hp
  exact He.glo_ok X G (T.c.d.fact 10 (f := .glo "REPEATS") rfl)
theorem Top.g_Tape (T : Top w K mg) : mg "Tape" = some (.ref (He.ga K "Tape")) := by
  obtain ⟨h, X, G⟩ := T.hp
  exact He.glo_ok X G (T.c.d.fact 11 (f := .glo "Tape") rfl)
theorem Top.g_read_class_sign (T : Top w K mg) : mg "read_class_sign" = some (.ref (He.ga K "read_class_sign")) := by
  obtain ⟨h, X, G⟩ := T.hp
  exact He.glo_ok X G (T.c.d.fact 12 (f := .glo "read_class_sign") rfl)
theorem Top.g_read_item (T : Top w K mg) : mg "read_item" = some (.ref (He.ga K "read_item")) := by
  obtain ⟨h, X, G⟩ := T.hp
  exact He.glo_ok X G (T.c.d.fact 13 (f := .glo "read_item") rfl)
theorem Top.g_read_class (T : Top w K mg) : mg "read_class" = some (.ref (He.ga K "read_class")) := by
  obtain ⟨h, X, G⟩ := T.hp
  exact He.glo_ok X G (T.c.d.fact 14 (f := .glo "read_class") rfl)
theorem Top.g_read_atom (T : Top w K mg) : mg "read_atom" = some (.ref (He.ga K "read_atom")) := by
  obtain ⟨h, X, G⟩ := T.hp
  exact He.glo_ok X G (T.c.d.fact 15 (f := .glo "read_atom") rfl)
theorem Top.g_read_repeat (T : Top w K mg) : mg "read_repeat" = some (.ref (He.ga K "read_repeat")) := by
  obtain ⟨h, X, G⟩ := T.hp
  exact He.glo_ok X G (T.c.d.fact 16 (f := .glo "read_repeat") rfl)
theorem Top.g_joined (T : Top w K mg) : mg "joined" = some (.ref (He.ga K "joined")) := by
  obtain ⟨h, X, G⟩ := T.hp
  exact He.glo_ok X G (T.c.d.fact 17 (f := .glo "joined") rfl)
theorem Top.g_read_row (T : Top w K mg) : mg "read_row" = some (.ref (He.ga K "read_row")) := by
  obtain ⟨h, X, G⟩ := T.hp
  exact He.glo_ok X G (T.c.d.fact 18 (f := .glo "read_row") rfl)
theorem Top.g_read_choice (T : Top w K mg) : mg "read_choice" = some (.ref (He.ga K "read_choice")) := by
  obtain ⟨h, X, G⟩ := T.hp
  exact He.glo_ok X G (T.c.d.fact 19 (f := .glo "read_choice") rfl)
theorem Top.g_read (T : Top w K mg) : mg "read" = some (.ref (He.ga K "read")) := by
  obtain ⟨h, X, G⟩ := T.hp
  exact He.glo_ok X G (T.c.d.fact 20 (f := .glo "read") rfl)
theorem Top.g_IN_CLASS (T : Top w K mg) : ∃ t, mg "IN_CLASS" = some (.str c_IN_CLASS t) := by
  obtain ⟨h, X, G⟩ := T.hp
  exact He.str_ok X G (T.c.d.fact 21 (f := .str "IN_CLASS" c_IN_CLASS) rfl)
theorem Top.g_MARKS (T : Top w K mg) : mg "MARKS" = some (.ref (He.ga K "MARKS")) := by
  obtain ⟨h, X, G⟩ := T.hp
  exact He.glo_ok X G (T.c.d.fact 22 (f := .glo "MARKS") rfl)
theorem Top.g_turned (T : Top w K mg) : mg "turned" = some (.ref (He.ga K "turned")) := by
  obtain ⟨h, X, G⟩ := T.hp
  exact He.glo_ok X G (T.c.d.fact 23 (f := .glo "turned") rfl)
theorem Top.g_stretches (T : Top w K mg) : mg "stretches" = some (.ref (He.ga K "stretches")) := by
  obtain ⟨h, X, G⟩ := T.hp
  exact He.glo_ok X G (T.c.d.fact 24 (f := .glo "stretches") rfl)
theorem Top.g_items (T : Top w K mg) : mg "items" = some (.ref (He.ga K "items")) := by
  obtain ⟨h, X, G⟩ := T.hp
  exact He.glo_ok X G (T.c.d.fact 25 (f := .glo "items") rfl)
theorem Top.g_one (T : Top w K mg) : mg "one" = some (.ref (He.ga K "one")) := by
  obtain ⟨h, X, G⟩ := T.hp
  exact He.glo_ok X G (T.c.d.fact 26 (f := .glo "one") rfl)
theorem Top.g_written (T : Top w K mg) : mg "written" = some (.ref (He.ga K "written")) := by
  obtain ⟨h, X, G⟩ := T.hp
  exact He.glo_ok X G (T.c.d.fact 27 (f := .glo "written") rfl)
theorem Top.g_inner (T : Top w K mg) : mg "inner" = some (.ref (He.ga K "inner")) := by
  obtain ⟨h, X, G⟩ := T.hp
  exact He.glo_ok X G (T.c.d.fact 28 (f := .glo "inner") rfl)
theorem Top.g_l_cell (T : Top w K mg) : mg "_law_cell" = some (.ref (He.ga K "_law_cell")) := by
  obtain ⟨h, X, G⟩ := T.hp
  exact He.glo_ok X G (T.c.d.fact 29 (f := .glo "_law_cell") rfl)
theorem Top.g_l_mix (T : Top w K mg) : mg "_law_mix" = some (.ref (He.ga K "_law_mix")) := by
  obtain ⟨h, X, G⟩ := T.hp
  exact He.glo_ok X G (T.c.d.fact 30 (f := .glo "_law_mix") rfl)
theorem Top.g_l_whole (T : Top w K mg) : mg "_law_whole" = some (.ref (He.ga K "_law_whole")) := by
  obtain ⟨h, X, G⟩ := T.hp
  exact He.glo_ok X G (T.c.d.fact 31 (f := .glo "_law_whole") rfl)
theorem Top.g_l_wholes (T : Top w K mg) : mg "_law_wholes" = some (.ref (He.ga K "_law_wholes")) := by
  obtain ⟨h, X, G⟩ := T.hp
  exact He.glo_ok X G (T.c.d.fact 32 (f := .glo "_law_wholes") rfl)
theorem Top.g_l_all (T : Top w K mg) : mg "_law_all" = some (.ref (He.ga K "_law_all")) := by
  obtain ⟨h, X, G⟩ := T.hp
  exact He.glo_ok X G (T.c.d.fact 33 (f := .glo "_law_all") rfl)
theorem Top.g_l_signs (T : Top w K mg) : mg "_law_signs" = some (.ref (He.ga K "_law_signs")) := by
  obtain ⟨h, X, G⟩ := T.hp
  exact He.glo_ok X G (T.c.d.fact 34 (f := .glo "_law_signs") rfl)
theorem Top.g_l_tree (T : Top w K mg) : mg "_law_tree" = some (.ref (He.ga K "_law_tree")) := by
  obtain ⟨h, X, G⟩ := T.hp
  exact He.glo_ok X G (T.c.d.fact 35 (f := .glo "_law_tree") rfl)
theorem Top.g_l_turned (T : Top w K mg) : mg "_law_turned" = some (.ref (He.ga K "_law_turned")) := by
  obtain ⟨h, X, G⟩ := T.hp
  exact He.glo_ok X G (T.c.d.fact 36 (f := .glo "_law_turned") rfl)
theorem Top.g_l_class (T : Top w K mg) : mg "_law_class" = some (.ref (He.ga K "_law_class")) := by
  obtain ⟨h, X, G⟩ := T.hp
  exact He.glo_ok X G (T.c.d.fact 37 (f := .glo "_law_class") rfl)
theorem Top.g_l_one (T : Top w K mg) : mg "_law_one" = some (.ref (He.ga K "_law_one")) := by
  obtain ⟨h, X, G⟩ := T.hp
  exact He.glo_ok X G (T.c.d.fact 38 (f := .glo "_law_one") rfl)
theorem Top.g_l_told (T : Top w K mg) : mg "_law_told" = some (.ref (He.ga K "_law_told")) := by
  obtain ⟨h, X, G⟩ := T.hp
  exact He.glo_ok X G (T.c.d.fact 39 (f := .glo "_law_told") rfl)
theorem Top.g_l_is_tree (T : Top w K mg) : mg "_law_is_tree" = some (.ref (He.ga K "_law_is_tree")) := by
  obtain ⟨h, X, G⟩ := T.hp
  exact He.glo_ok X G (T.c.d.fact 40 (f := .glo "_law_is_tree") rfl)
theorem Top.g_l_many (T : Top w K mg) : mg "_law_many" = some (.ref (He.ga K "_law_many")) := by
  obtain ⟨h, X, G⟩ := T.hp
  exact He.glo_ok X G (T.c.d.fact 41 (f := .glo "_law_many") rfl)
theorem Top.g_law (T : Top w K mg) : mg "law" = some (.ref (He.ga K "law")) := by
  obtain ⟨h, X, G⟩ := T.hp
  exact He.glo_ok X G (T.c.d.fact 42 (f := .glo "law") rfl)
theorem Top.z_ValueError (T : Top w K mg) : mg "ValueError" = none := by
  obtain ⟨h, X, G⟩ := T.hp
  exact He.free_ok X G (T.c.d.fact 43 (f := .free "ValueError") rfl)
theorem Top.z_all (T : Top w K mg) : mg "all" = none := by
  obtain ⟨h, X, G⟩ := T.hp
  exact He.free_ok X G (T.c.d.fact 44 (f := .free "all") rfl)
theorem Top.z_bool (T : Top w K mg) : mg "bool" = none := by
  obtain ⟨h, X, G⟩ := T.hp
  exact He.free_ok X G (T.c.d.fact 45 (f := .free "bool") rfl)
theorem Top.z_int (T : Top w K mg) : mg "int" = none := by
  obtain ⟨h, X, G⟩ := T.hp
  exact He.free_ok X G (T.c.d.fact 46 (f := .free "int") rfl)
theorem Top.z_isinstance (T : Top w K mg) : mg "isinstance" = none := by
  obtain ⟨h, X, G⟩ := T.hp
  exact He.free_ok X G (T.c.d.fact 47 (f := .free "isinstance") rfl)
theorem Top.z_len (T : Top w K mg) : mg "len" = none := by
  obtain ⟨h, X, G⟩ := T.hp
  exact He.free_ok X G (T.c.d.fact 48 (f := .free "len") rfl)
theorem Top.z_list (T : Top w K mg) : mg "list" = none := by
  obtain ⟨h, X, G⟩ := T.hp
  exact He.free_ok X G (T.c.d.fact 49 (f := .free "list") rfl)
theorem Top.z_max (T : Top w K mg) : mg "max" = none := by
  obtain ⟨h, X, G⟩ := T.hp
  exact He.free_ok X G (T.c.d.fact 50 (f := .free "max") rfl)
theorem Top.z_range (T : Top w K mg) : mg "range" = none := by
  obtain ⟨h, X, G⟩ := T.hp
  exact He.free_ok X G (T.c.d.fact 51 (f := .free "range") rfl)
theorem Top.z_str (T : Top w K mg) : mg "str" = none := by
  obtain ⟨h, X, G⟩ := T.hp
  exact He.free_ok X G (T.c.d.fact 52 (f := .free "str") rfl)
theorem Top.z_sum (T : Top w K mg) : mg "sum" = none := by
  obtain ⟨h, X, G⟩ := T.hp
  exact He.free_ok X G (T.c.d.fact 53 (f := .free "sum") rfl)
theorem Top.z_tuple (T : Top w K mg) : mg "tuple" = none := by
  obtain ⟨h, X, G⟩ := T.hp
  exact He.free_ok X G (T.c.d.fact 54 (f := .free "tuple") rfl)
theorem Top.n_BadRule_at (T : Top w K mg) : NoAttr K (He.ga K "BadRule") "at" := by
  obtain ⟨h, X, G⟩ := T.hp
  exact He.noat_ok (T.c.d.fact 55 (f := .noat "BadRule" "at") rfl)
theorem Top.n_BadRule_rule (T : Top w K mg) : NoAttr K (He.ga K "BadRule") "rule" := by
  obtain ⟨h, X, G⟩ := T.hp
  exact He.noat_ok (T.c.d.fact 56 (f := .noat "BadRule" "rule") rfl)
theorem Top.cl_Tape (T : Top w K mg) : Cls K (He.ga K "Tape") := by
  obtain ⟨h, X, G⟩ := T.hp
  exact He.cls_ok (T.c.d.fact 57 (f := .cls "Tape") rfl)
theorem Top.mk_Tape (T : Top w K mg) : Mk K (He.ga K "Tape") (He.ma K (He.ga K "Tape") "__init__") := by
  obtain ⟨h, X, G⟩ := T.hp
  exact He.mkr_ok (T.c.d.fact 58 (f := .mkr "Tape") rfl)
theorem Top.m_Tape_sign (T : Top w K mg) : Meth K (He.ga K "Tape") "sign" (He.ma K (He.ga K "Tape") "sign") := by
  obtain ⟨h, X, G⟩ := T.hp
  exact He.meth_ok (T.c.d.fact 59 (f := .meth "Tape" "sign") rfl)
theorem Top.m_Tape_step (T : Top w K mg) : Meth K (He.ga K "Tape") "step" (He.ma K (He.ga K "Tape") "step") := by
  obtain ⟨h, X, G⟩ := T.hp
  exact He.meth_ok (T.c.d.fact 60 (f := .meth "Tape" "step") rfl)
theorem Top.m_Tape_refuse (T : Top w K mg) : Meth K (He.ga K "Tape") "refuse" (He.ma K (He.ga K "Tape") "refuse") := by
  obtain ⟨h, X, G⟩ := T.hp
  exact He.meth_ok (T.c.d.fact 61 (f := .meth "Tape" "refuse") rfl)
theorem Top.m_Tape_turned (T : Top w K mg) : Meth K (He.ga K "Tape") "turned" (He.ma K (He.ga K "Tape") "turned") := by
  obtain ⟨h, X, G⟩ := T.hp
  exact He.meth_ok (T.c.d.fact 62 (f := .meth "Tape" "turned") rfl)
theorem Top.n_Tape_at (T : Top w K mg) : NoAttr K (He.ga K "Tape") "at" := by
  obtain ⟨h, X, G⟩ := T.hp
  exact He.noat_ok (T.c.d.fact 63 (f := .noat "Tape" "at") rfl)
theorem Top.n_Tape_text (T : Top w K mg) : NoAttr K (He.ga K "Tape") "text" := by
  obtain ⟨h, X, G⟩ := T.hp
  exact He.noat_ok (T.c.d.fact 64 (f := .noat "Tape" "text") rfl)
theorem Top.f_BadRule___init__ (T : Top w K mg) : FunT K "__init__" "BadRule.__init__" s_BadRule___init__ (He.ma K (He.ga K "BadRule") "__init__") := T.c.d.def_ 0 (d := d_BadRule___init__) rfl
theorem b_BadRule___init__ : BindsAll "__init__" "BadRule.__init__" s_BadRule___init__ ["self", "rule", "at"] := fun _ _ _ _ _ _ us hl => match us, hl with | [_, _, _], _ => rfl
theorem Top.f_place_of (T : Top w K mg) : FunT K "place_of" "place_of" s_place_of (He.ga K "place_of") := T.c.d.def_ 1 (d := d_place_of) rfl
theorem b_place_of : BindsAll "place_of" "place_of" s_place_of ["sign"] := fun _ _ _ _ _ _ us hl => match us, hl with | [_], _ => rfl
theorem Top.f_between (T : Top w K mg) : FunT K "between" "between" s_between (He.ga K "between") := T.c.d.def_ 2 (d := d_between) rfl
theorem b_between : BindsAll "between" "between" s_between ["one", "other"] := fun _ _ _ _ _ _ us hl => match us, hl with | [_, _], _ => rfl
theorem Top.f_in_order (T : Top w K mg) : FunT K "in_order" "in_order" s_in_order (He.ga K "in_order") := T.c.d.def_ 3 (d := d_in_order) rfl
theorem b_in_order : BindsAll "in_order" "in_order" s_in_order ["signs"] := fun _ _ _ _ _ _ us hl => match us, hl with | [_], _ => rfl
theorem Top.f_others (T : Top w K mg) : FunT K "others" "others" s_others (He.ga K "others") := T.c.d.def_ 4 (d := d_others) rfl
theorem b_others : BindsAll "others" "others" s_others ["signs"] := fun _ _ _ _ _ _ us hl => match us, hl with | [_], _ => rfl
theorem Top.f_Tape___init__ (T : Top w K mg) : FunT K "__init__" "Tape.__init__" s_Tape___init__ (He.ma K (He.ga K "Tape") "__init__") := T.c.d.def_ 5 (d := d_Tape___init__) rfl
theorem b_Tape___init__ : BindsAll "__init__" "Tape.__init__" s_Tape___init__ ["self", "text"] := fun _ _ _ _ _ _ us hl => match us, hl with | [_, _], _ => rfl
theorem Top.f_Tape_sign (T : Top w K mg) : FunT K "sign" "Tape.sign" s_Tape_sign (He.ma K (He.ga K "Tape") "sign") := T.c.d.def_ 6 (d := d_Tape_sign) rfl
theorem b_Tape_sign : BindsAll "sign" "Tape.sign" s_Tape_sign ["self"] := fun _ _ _ _ _ _ us hl => match us, hl with | [_], _ => rfl
theorem Top.f_Tape_step (T : Top w K mg) : FunT K "step" "Tape.step" s_Tape_step (He.ma K (He.ga K "Tape") "step") := T.c.d.def_ 7 (d := d_Tape_step) rfl
theorem b_Tape_step : BindsAll "step" "Tape.step" s_Tape_step ["self"] := fun _ _ _ _ _ _ us hl => match us, hl with | [_], _ => rfl
theorem Top.f_Tape_refuse (T : Top w K mg) : FunT K "refuse" "Tape.refuse" s_Tape_refuse (He.ma K (He.ga K "Tape") "refuse") := T.c.d.def_ 8 (d := d_Tape_refuse) rfl
theorem b_Tape_refuse : BindsAll "refuse" "Tape.refuse" s_Tape_refuse ["self"] := fun _ _ _ _ _ _ us hl => match us, hl with | [_], _ => rfl
theorem Top.f_Tape_turned (T : Top w K mg) : FunT K "turned" "Tape.turned" s_Tape_turned (He.ma K (He.ga K "Tape") "turned") := T.c.d.def_ 9 (d := d_Tape_turned) rfl
theorem b_Tape_turned : BindsAll "turned" "Tape.turned" s_Tape_turned ["self"] := fun _ _ _ _ _ _ us hl => match us, hl with | [_], _ => rfl
theorem Top.f_read_class_sign (T : Top w K mg) : FunT K "read_class_sign" "read_class_sign" s_read_class_sign (He.ga K "read_class_sign") := T.c.d.def_ 10 (d := d_read_class_sign) rfl
theorem b_read_class_sign : BindsAll "read_class_sign" "read_class_sign" s_read_class_sign ["tape"] := fun _ _ _ _ _ _ us hl => match us, hl with | [_], _ => rfl
theorem Top.f_read_item (T : Top w K mg) : FunT K "read_item" "read_item" s_read_item (He.ga K "read_item") := T.c.d.def_ 11 (d := d_read_item) rfl
theorem b_read_item : BindsAll "read_item" "read_item" s_read_item ["tape"] := fun _ _ _ _ _ _ us hl => match us, hl with | [_], _ => rfl
theorem Top.f_read_class (T : Top w K mg) : FunT K "read_class" "read_class" s_read_class (He.ga K "read_class") := T.c.d.def_ 12 (d := d_read_class) rfl
theorem b_read_class : BindsAll "read_class" "read_class" s_read_class ["tape"] := fun _ _ _ _ _ _ us hl => match us, hl with | [_], _ => rfl
theorem Top.f_read_atom (T : Top w K mg) : FunT K "read_atom" "read_atom" s_read_atom (He.ga K "read_atom") := T.c.d.def_ 13 (d := d_read_atom) rfl
theorem b_read_atom : BindsAll "read_atom" "read_atom" s_read_atom ["tape", "deep"] := fun _ _ _ _ _ _ us hl => match us, hl with | [_, _], _ => rfl
theorem Top.f_read_repeat (T : Top w K mg) : FunT K "read_repeat" "read_repeat" s_read_repeat (He.ga K "read_repeat") := T.c.d.def_ 14 (d := d_read_repeat) rfl
theorem b_read_repeat : BindsAll "read_repeat" "read_repeat" s_read_repeat ["tape", "deep"] := fun _ _ _ _ _ _ us hl => match us, hl with | [_, _], _ => rfl
theorem Top.f_joined (T : Top w K mg) : FunT K "joined" "joined" s_joined (He.ga K "joined") := T.c.d.def_ 15 (d := d_joined) rfl
theorem b_joined : BindsAll "joined" "joined" s_joined ["kind", "trees"] := fun _ _ _ _ _ _ us hl => match us, hl with | [_, _], _ => rfl
theorem Top.f_read_row (T : Top w K mg) : FunT K "read_row" "read_row" s_read_row (He.ga K "read_row") := T.c.d.def_ 16 (d := d_read_row) rfl
theorem b_read_row : BindsAll "read_row" "read_row" s_read_row ["tape", "deep"] := fun _ _ _ _ _ _ us hl => match us, hl with | [_, _], _ => rfl
theorem Top.f_read_choice (T : Top w K mg) : FunT K "read_choice" "read_choice" s_read_choice (He.ga K "read_choice") := T.c.d.def_ 17 (d := d_read_choice) rfl
theorem b_read_choice : BindsAll "read_choice" "read_choice" s_read_choice ["tape", "deep"] := fun _ _ _ _ _ _ us hl => match us, hl with | [_, _], _ => rfl
theorem Top.f_read (T : Top w K mg) : FunT K "read" "read" s_read (He.ga K "read") := T.c.d.def_ 18 (d := d_read) rfl
theorem b_read : BindsAll "read" "read" s_read ["text"] := fun _ _ _ _ _ _ us hl => match us, hl with | [_], _ => rfl
theorem Top.f_turned (T : Top w K mg) : FunT K "turned" "turned" s_turned (He.ga K "turned") := T.c.d.def_ 19 (d := d_turned) rfl
theorem b_turned : BindsAll "turned" "turned" s_turned ["sign", "kept"] := fun _ _ _ _ _ _ us hl => match us, hl with | [_, _], _ => rfl
theorem Top.f_stretches (T : Top w K mg) : FunT K "stretches" "stretches" s_stretches (He.ga K "stretches") := T.c.d.def_ 20 (d := d_stretches) rfl
theorem b_stretches : BindsAll "stretches" "stretches" s_stretches ["signs"] := fun _ _ _ _ _ _ us hl => match us, hl with | [_], _ => rfl
theorem Top.f_items (T : Top w K mg) : FunT K "items" "items" s_items (He.ga K "items") := T.c.d.def_ 21 (d := d_items) rfl
theorem b_items : BindsAll "items" "items" s_items ["signs"] := fun _ _ _ _ _ _ us hl => match us, hl with | [_], _ => rfl
theorem Top.f_one (T : Top w K mg) : FunT K "one" "one" s_one (He.ga K "one") := T.c.d.def_ 22 (d := d_one) rfl
theorem b_one : BindsAll "one" "one" s_one ["signs"] := fun _ _ _ _ _ _ us hl => match us, hl with | [_], _ => rfl
theorem Top.f_written (T : Top w K mg) : FunT K "written" "written" s_written (He.ga K "written") := T.c.d.def_ 23 (d := d_written) rfl
theorem b_written : BindsAll "written" "written" s_written ["tree"] := fun _ _ _ _ _ _ us hl => match us, hl with | [_], _ => rfl
theorem Top.f_inner (T : Top w K mg) : FunT K "inner" "inner" s_inner (He.ga K "inner") := T.c.d.def_ 24 (d := d_inner) rfl
theorem b_inner : BindsAll "inner" "inner" s_inner ["tree", "kinds"] := fun _ _ _ _ _ _ us hl => match us, hl with | [_, _], _ => rfl
theorem Top.f_l_cell (T : Top w K mg) : FunT K "_law_cell" "_law_cell" s_l_cell (He.ga K "_law_cell") := T.c.d.def_ 25 (d := d_l_cell) rfl
theorem b_l_cell : BindsAll "_law_cell" "_law_cell" s_l_cell ["_law_script", "_law_k"] := fun _ _ _ _ _ _ us hl => match us, hl with | [_, _], _ => rfl
theorem Top.f_l_mix (T : Top w K mg) : FunT K "_law_mix" "_law_mix" s_l_mix (He.ga K "_law_mix") := T.c.d.def_ 26 (d := d_l_mix) rfl
theorem b_l_mix : BindsAll "_law_mix" "_law_mix" s_l_mix ["_law_script", "_law_k"] := fun _ _ _ _ _ _ us hl => match us, hl with | [_, _], _ => rfl
theorem Top.f_l_whole (T : Top w K mg) : FunT K "_law_whole" "_law_whole" s_l_whole (He.ga K "_law_whole") := T.c.d.def_ 27 (d := d_l_whole) rfl
theorem b_l_whole : BindsAll "_law_whole" "_law_whole" s_l_whole ["_law_found"] := fun _ _ _ _ _ _ us hl => match us, hl with | [_], _ => rfl
theorem Top.f_l_wholes (T : Top w K mg) : FunT K "_law_wholes" "_law_wholes" s_l_wholes (He.ga K "_law_wholes") := T.c.d.def_ 28 (d := d_l_wholes) rfl
theorem b_l_wholes : BindsAll "_law_wholes" "_law_wholes" s_l_wholes ["_law_found"] := fun _ _ _ _ _ _ us hl => match us, hl with | [_], _ => rfl
theorem Top.f_l_all (T : Top w K mg) : FunT K "_law_all" "_law_all" s_l_all (He.ga K "_law_all") := T.c.d.def_ 29 (d := d_l_all) rfl
theorem b_l_all : BindsAll "_law_all" "_law_all" s_l_all [] := fun _ _ _ _ _ _ us hl => match us, hl with | [], _ => rfl
theorem Top.f_l_signs (T : Top w K mg) : FunT K "_law_signs" "_law_signs" s_l_signs (He.ga K "_law_signs") := T.c.d.def_ 30 (d := d_l_signs) rfl
theorem b_l_signs : BindsAll "_law_signs" "_law_signs" s_l_signs ["_law_number"] := fun _ _ _ _ _ _ us hl => match us, hl with | [_], _ => rfl
theorem Top.f_l_tree (T : Top w K mg) : FunT K "_law_tree" "_law_tree" s_l_tree (He.ga K "_law_tree") := T.c.d.def_ 31 (d := d_l_tree) rfl
theorem b_l_tree : BindsAll "_law_tree" "_law_tree" s_l_tree ["_law_script", "_law_base", "_law_deep"] := fun _ _ _ _ _ _ us hl => match us, hl with | [_, _, _], _ => rfl
theorem Top.f_l_turned (T : Top w K mg) : FunT K "_law_turned" "_law_turned" s_l_turned (He.ga K "_law_turned") := T.c.d.def_ 32 (d := d_l_turned) rfl
theorem b_l_turned : BindsAll "_law_turned" "_law_turned" s_l_turned ["_law_sign", "_law_kept"] := fun _ _ _ _ _ _ us hl => match us, hl with | [_, _], _ => rfl
theorem Top.f_l_class (T : Top w K mg) : FunT K "_law_class" "_law_class" s_l_class (He.ga K "_law_class") := T.c.d.def_ 33 (d := d_l_class) rfl
theorem b_l_class : BindsAll "_law_class" "_law_class" s_l_class ["_law_signs_here", "_law_number"] := fun _ _ _ _ _ _ us hl => match us, hl with | [_, _], _ => rfl
theorem Top.f_l_one (T : Top w K mg) : FunT K "_law_one" "_law_one" s_l_one (He.ga K "_law_one") := T.c.d.def_ 34 (d := d_l_one) rfl
theorem b_l_one : BindsAll "_law_one" "_law_one" s_l_one ["_law_signs_here", "_law_number"] := fun _ _ _ _ _ _ us hl => match us, hl with | [_, _], _ => rfl
theorem Top.f_l_told (T : Top w K mg) : FunT K "_law_told" "_law_told" s_l_told (He.ga K "_law_told") := T.c.d.def_ 35 (d := d_l_told) rfl
theorem b_l_told : BindsAll "_law_told" "_law_told" s_l_told ["_law_script", "_law_base", "_law_tree_here"] := fun _ _ _ _ _ _ us hl => match us, hl with | [_, _, _], _ => rfl
theorem Top.f_l_is_tree (T : Top w K mg) : FunT K "_law_is_tree" "_law_is_tree" s_l_is_tree (He.ga K "_law_is_tree") := T.c.d.def_ 36 (d := d_l_is_tree) rfl
theorem b_l_is_tree : BindsAll "_law_is_tree" "_law_is_tree" s_l_is_tree ["_law_tree_here"] := fun _ _ _ _ _ _ us hl => match us, hl with | [_], _ => rfl
theorem Top.f_l_many (T : Top w K mg) : FunT K "_law_many" "_law_many" s_l_many (He.ga K "_law_many") := T.c.d.def_ 37 (d := d_l_many) rfl
theorem b_l_many : BindsAll "_law_many" "_law_many" s_l_many ["_law_tree_here"] := fun _ _ _ _ _ _ us hl => match us, hl with | [_], _ => rfl
theorem Top.f_law (T : Top w K mg) : FunT K "law" "law" s_law (He.ga K "law") := T.c.d.def_ 38 (d := d_law) rfl
theorem b_law : BindsAll "law" "law" s_law ["_law_script"] := fun _ _ _ _ _ _ us hl => match us, hl with | [_], _ => rfl
theorem Top.x_BadRule (T : Top w K mg) : OexT K (He.ga K "BadRule") := by
  have h := T.e
  unfold ex at h
  simp only [Bool.and_eq_true] at h
  exact oexB_ok (by simp only [h])
theorem Top.t_REPEATS (T : Top w K mg) : ∃ es n, KDict K w (He.ga K "REPEATS") es n := T.c.tab 0 (t := (fun K => He.ga K "REPEATS", ["*", "+", "?"])) rfl
theorem Top.w_REPEATS (T : Top w K mg) : He.dicW K (He.ga K "REPEATS") = some (He.keysIn w.params ["*", "+", "?"]) := by
  have e := congrArg (fun z : He.AlT => z.2[0]?) T.c
  exact Option.some.inj e
theorem Top.v_REPEATS (T : Top w K mg) : tabB K "REPEATS" ["*", "+", "?"] ["star", "plus", "maybe"] = true := by
  have h := T.e
  unfold ex at h
  simp only [Bool.and_eq_true] at h
  simp only [h]
theorem Top.t_MARKS (T : Top w K mg) : ∃ es n, KDict K w (He.ga K "MARKS") es n := T.c.tab 1 (t := (fun K => He.ga K "MARKS", ["star", "plus", "maybe"])) rfl
theorem Top.w_MARKS (T : Top w K mg) : He.dicW K (He.ga K "MARKS") = some (He.keysIn w.params ["star", "plus", "maybe"]) := by
  have e := congrArg (fun z : He.AlT => z.2[1]?) T.c
  exact Option.some.inj e
theorem Top.v_MARKS (T : Top w K mg) : tabB K "MARKS" ["star", "plus", "maybe"] ["*", "+", "?"] = true := by
  have h := T.e
  unfold ex at h
  simp only [Bool.and_eq_true] at h
  simp only [h]
end
end TW

set_option maxHeartbeats 1000000
namespace TW
open PySem PySem.Spec PyProof.Rows L2
/-! ### signs.py -/
theorem signs_mk : c_SIGNS = mk SG := by decide +kernel
def spPlace : Sp := fun vs H Q _ => ∃ c, vs = [.str (mk [c])] ∧ c ∈ SG ∧ Q (.int (ix c)) H
def spBetween : Sp := fun vs H Q _ => ∃ a b, vs = [.str (mk [a]), .str (mk [b])] ∧ a ∈ SG ∧ b ∈ SG ∧ Q (.str (mk (btw a b))) H
def spInOrder : Sp := fun vs H Q _ => ∃ s, vs = [.str (mk s)] ∧ ∀ H', Same H H' → Q (.str (mk (inO s))) H'
def spOthers : Sp := fun vs H Q _ => ∃ s, vs = [.str (mk s)] ∧ ∀ H', Same H H' → Q (.str (mk (oth s))) H'
section
variable {P : Program} {w : World} {K : PySem.W.Frag} {mg : Str → Option Value} {base : Heap}
theorem find_sign {c : Nat} (h : c ∈ SG) : Txt.find c_SIGNS (mk [c]) = (ix c : Nat) := by
  have : ∀ c ∈ SG, Txt.find c_SIGNS (mk [c]) = ((ix c : Nat) : Int) := by decide +kernel
  exact this c h
theorem ok_place_of (T : Top w K mg) : Df P w K mg base CX0 1 "place_of" ["sign"] spPlace := by
  refine Df.of T.f_place_of T.g_place_of sc_place_of b_place_of (fun vs H Q E h => ?_) (fun cdv A outer s H vs Q E hr h => ?_)
  · obtain ⟨c, rfl, _⟩ := h
    rfl
  · obtain ⟨c, rfl, hc, q⟩ := h
    refine ⟨_, (pss_one (ps_ret (pe_m1 PySem.F.slot_str_find PySem.F.type_str_find mt_find (pe_gstr rfl T.g_SIGNS) (pv 0)))), ?_⟩
    refine ⟨⟨_, rfl⟩, _, rfl, _, _, rfl, rfl, ?_⟩
    rw [find_sign hc]
    exact q
theorem ok_between (T : Top w K mg) : Df P w K mg base CX0 2 "between" ["one", "other"] spBetween := by
  have D_place_of : Df P w K mg base CX0 1 "place_of" ["sign"] spPlace := ok_place_of T
  refine Df.of T.f_between T.g_between sc_between b_between (fun vs H Q E h => ?_) (fun cdv A outer s H vs Q E hr h => ?_)
  · obtain ⟨a, b, rfl, _⟩ := h
    rfl
  · obtain ⟨a, b, rfl, ha, hb, q⟩ := h
    refine ⟨_, (pss_one (ps_ret (pe_slice sl_str (pe_gstr rfl T.g_SIGNS) (po_some (pe_callD D_place_of (hr.mono (by first | decide | omega)) rfl pass0 (pa_cons (pv 0) pa_nil))) (po_some (pe_op op_add (pe_callD D_place_of (hr.mono (by first | decide | omega)) rfl pass0 (pa_cons (pv 1) pa_nil)) pe_int))))), ?_⟩
    refine ⟨_, rfl, a, rfl, ha, _, rfl, _, rfl, b, rfl, hb, _, _, rfl, rfl, _, rfl, _, rfl, by decide +kernel, ?_⟩
    have e : cutS c_SIGNS (some ((ix a : Nat) : Int)) (some (((ix b : Nat) : Int) + 1)) = mk (btw a b) := by
      rw [signs_mk]
      unfold cutS
      rw [show (((ix b : Nat) : Int) + 1) = ((ix b + 1 : Nat) : Int) from rfl, HT.sIx_nat, HT.sIx_nat]
      have l1 := ix_lt a ha
      have l2 := ix_lt b hb
      rw [len_mk, SG_len, show min (ix a) 95 = ix a by omega, show min (ix b + 1) 95 = ix b + 1 by omega]
      exact congrArg mk (btw_cut ha hb)
    rw [e]
    exact q
theorem join_signs (f : Nat → Bool) (ys : List V) (H : Hp) (h : RAll (fun c v _ => v = V.str (mk [c])) H (SG.filter f) ys) : ys = ((SG.filter f).map fun c => mk [c]).map V.str := by
  rw [RAll.map (f := fun c => V.str (mk [c])) h, List.map_map]
  rfl
theorem join_signs2 (f : Nat → Bool) : Txt.join (mk []) ((SG.filter f).map fun c => mk [c]) = mk (SG.filter f) := by
  have e : ((SG.filter f).map fun c => mk [c]) = ((SG.filter f).map fun c => [c]).map mk := by
    rw [List.map_map]; rfl
  rw [e, join_nil]
  congr 1
  induction SG.filter f with
  | nil => rfl
  | cons a r ih =>
    show [a] ++ (r.map fun c => [c]).flatten = _
    rw [ih]; rfl
theorem join_size (f : Nat → Bool) : ((((SG.filter f).map fun c => mk [c]).map (·.length)).sum + ((SG.filter f).map fun c => mk [c]).length * (mk []).length ≤ 16777216) := by
  rw [List.length_map, List.map_map]
  have h : (SG.filter f).length ≤ 95 := Nat.le_trans (List.length_filter_le _ _) (by rw [SG_len]; exact Nat.le_refl _)
  have e : (List.map ((fun x : Str => x.length) ∘ fun c => mk [c]) (SG.filter f)).sum = (SG.filter f).length := by
    induction SG.filter f with
    | nil => rfl
    | cons a r ih =>
      rw [List.map_cons, List.sum_cons, ih, List.length_cons]
      show 1 + _ = _
      omega
  rw [e, show (mk []).length = 0 from rfl]
  omega
theorem ok_in_order (T : Top w K mg) : Df P w K mg base CX0 1 "in_order" ["signs"] spInOrder := by
  refine Df.of T.f_in_order T.g_in_order sc_in_order b_in_order (fun vs H Q E h => ?_) (fun cdv A outer s H vs Q E hr h => ?_)
  · obtain ⟨a, rfl, _⟩ := h
    rfl
  · obtain ⟨a, rfl, q⟩ := h
    refine ⟨_, (pss_one (ps_ret (pe_join pe_str (pe_lc (own := [("sign", 1)]) (g := gName 1) rfl sc_in_order.nd (pi_str (pe_gstr rfl T.g_SIGNS)) (blkOk_by (own := [("sign", 1)]) (N := N_in_order) (sc := defScope s_in_order) (by decide +kernel)) (fun _ _ _ _ _ => pg_name (i := 1) sc_in_order.nd rfl (Or.inl rfl)) (fun _ _ _ _ _ => pts_one (pt_cmpR op_in_sign (pv 1) (pv 0) rfl)) (fun _ _ _ _ _ => (pv 1)))))), ?_⟩
    refine ⟨⟨_, rfl⟩, _, rfl, fun D hD => ?_⟩
    rw [signs_mk]
    refine lc_ext (gives_str SG H) hD (by decide) (fun c => decide (c ∈ a)) (fun c v _ => v = .str (mk [c])) mono_const (fun x => rfl) ?_ ?_ ?_
    · rintro c hc x rfl H1 s1 Q1 q1
      exact ⟨_, rfl, _, rfl, c, mk a, rfl, rfl, _, rfl, q1 H1 (Same.refl _)⟩
    · rintro c hc hf x rfl H1 s1 Q1 q1
      exact ⟨_, rfl, q1 _ H1 (Same.refl _) rfl⟩
    · intro H1 ys s1 e1 hR
      rw [join_signs _ ys H1 hR] at e1
      refine ⟨_, D, _, rfl, rfl, .inl (SqL.of e1), join_size _, ?_⟩
      have z := join_signs2 fun c => decide (c ∈ a)
      rw [show Txt.join (("" : String) : Str) _ = _ from z]
      exact q H1 s1
theorem ok_others (T : Top w K mg) : Df P w K mg base CX0 1 "others" ["signs"] spOthers := by
  refine Df.of T.f_others T.g_others sc_others b_others (fun vs H Q E h => ?_) (fun cdv A outer s H vs Q E hr h => ?_)
  · obtain ⟨a, rfl, _⟩ := h
    rfl
  · obtain ⟨a, rfl, q⟩ := h
    refine ⟨_, (pss_one (ps_ret (pe_join pe_str (pe_lc (own := [("sign", 1)]) (g := gName 1) rfl sc_others.nd (pi_str (pe_gstr rfl T.g_SIGNS)) (blkOk_by (own := [("sign", 1)]) (N := N_others) (sc := defScope s_others) (by decide +kernel)) (fun _ _ _ _ _ => pg_name (i := 1) sc_others.nd rfl (Or.inl rfl)) (fun _ _ _ _ _ => pts_one (pt_cmpR op_notIn_sign (pv 1) (pv 0) rfl)) (fun _ _ _ _ _ => (pv 1)))))), ?_⟩
    refine ⟨⟨_, rfl⟩, _, rfl, fun D hD => ?_⟩
    rw [signs_mk]
    refine lc_ext (gives_str SG H) hD (by decide) (fun c => !decide (c ∈ a)) (fun c v _ => v = .str (mk [c])) mono_const (fun x => rfl) ?_ ?_ ?_
    · rintro c hc x rfl H1 s1 Q1 q1
      exact ⟨_, rfl, _, rfl, c, mk a, rfl, rfl, _, rfl, q1 H1 (Same.refl _)⟩
    · rintro c hc hf x rfl H1 s1 Q1 q1
      exact ⟨_, rfl, q1 _ H1 (Same.refl _) rfl⟩
    · intro H1 ys s1 e1 hR
      rw [join_signs _ ys H1 hR] at e1
      refine ⟨_, D, _, rfl, rfl, .inl (SqL.of e1), join_size _, ?_⟩
      have z := join_signs2 fun c => !decide (c ∈ a)
      rw [show Txt.join (("" : String) : Str) _ = _ from z]
      exact q H1 s1
end
end TW

set_option maxHeartbeats 1000000
namespace TW
open PySem PySem.Spec PyProof.Rows L2
/-! ### what reading tells: a value and what is left, or a fault and what is left there -/
inductive Res (α : Type) where
  | ok (a : α) (r : List Nat) | bad (r : List Nat)
inductive Tr where
  | one (s : List Nat) | row (ts : List Tr) | or (ts : List Tr) | star (t : Tr) | plus (t : Tr) | maybe (t : Tr)
def KEPTs : List Nat := [46, 124, 40, 41, 91, 93, 42, 43, 63, 92]
def TURNs : List Nat := [46, 124, 40, 41, 91, 93, 42, 43, 63, 92, 45, 94]
def turnedM : List Nat → Res Nat
  | [] => .bad []
  | c :: r => if c = 110 then .ok 10 r else if c ∈ TURNs then .ok c r else .bad (c :: r)
def classSign : List Nat → Res Nat
  | [] => .bad []
  | c :: r => if c = 92 then turnedM r else if c = 93 ∨ c = 45 then .bad (c :: r) else .ok c r
def itemM (r : List Nat) : Res (List Nat) := match classSign r with
  | .bad x => .bad x
  | .ok a r1 => if sg r1 = [45] then (match classSign (r1.drop 1) with
      | .bad x => .bad x
      | .ok b r3 => if b < a then .bad (r1.drop 1) else .ok (btw a b) r3)
    else .ok [a] r1
def itemsLoop : Nat → List Nat → List Nat → Res (List Nat)
  | 0, _, r => .bad r
  | n + 1, acc, r => if sg r = [93] then .ok acc (r.drop 1) else match itemM r with
    | .bad x => .bad x
    | .ok s r1 => itemsLoop n (acc ++ s) r1
def classB (tn : Bool) (r : List Nat) : Res Tr := match itemM r with
  | .bad x => .bad x
  | .ok s r1 => match itemsLoop (r1.length + 1) s r1 with
    | .bad x => .bad x
    | .ok s' r2 => .ok (.one (if tn then oth s' else inO s')) r2
def classM (r : List Nat) : Res Tr := if sg r = [94] then classB true (r.drop 1) else classB false r
/-! ### a tape in the heap -/
def tapeF (L : List Nat) (n : Nat) : List (Str × V) := [("text", .str (mk L)), ("at", .int (n : Nat))]
theorem tape_text (L : List Nat) (n : Nat) : (tapeF L n).lookup ("text" : Str) = some (.str (mk L)) := rfl
theorem tape_at (L : List Nat) (n : Nat) : (tapeF L n).lookup ("at" : Str) = some (.int (n : Nat)) := rfl
theorem tape_put (L : List Nat) (n m : Nat) : putF "at" (.int (m : Nat)) (tapeF L n) = tapeF L m := rfl
theorem tape_new (L : List Nat) : putF "at" (.int 0) (putF "text" (.str (mk L)) []) = tapeF L 0 := rfl
theorem tape_m (L : List Nat) (n : Nat) : (tapeF L n).lookup ("sign" : Str) = none ∧ (tapeF L n).lookup ("step" : Str) = none ∧ (tapeF L n).lookup ("refuse" : Str) = none ∧ (tapeF L n).lookup ("turned" : Str) = none := ⟨rfl, rfl, rfl, rfl⟩
/-- what a BadRule carries -/
def badF (r : Int) (n : Nat) : List (Str × V) := [("at", .int (n : Nat)), ("rule", .int r)]
def spBadInit (C : Addr) : Sp := fun vs H Q _ => ∃ a r n, vs = [.ref a, r, n] ∧ H a = some (exo a C none) ∧
  ∀ d H', H d = none → d ≠ a → (∀ b o, b ≠ a → H b = some o → H' b = some o) → H' a = some (exo a C (some d)) → H' d = some (exd d [("at", n), ("rule", r)]) → Q .non H'
def spTapeInit (C : Addr) : Sp := fun vs H Q _ => ∃ p dx L, vs = [.ref p, .str (mk L)] ∧ H p = some (.ins C dx []) ∧ ∀ H', Kp p H H' → H' p = some (.ins C dx (tapeF L 0)) → Q .non H'
def spSign (C : Addr) : Sp := fun vs H Q _ => ∃ p dx L n, vs = [.ref p] ∧ H p = some (.ins C dx (tapeF L n)) ∧ L.length ≤ 100000 ∧ Q (.str (mk (sg (L.drop n)))) H
def spStep (C : Addr) : Sp := fun vs H Q _ => ∃ p dx L n, vs = [.ref p] ∧ H p = some (.ins C dx (tapeF L n)) ∧ L.length ≤ 100000 ∧ ∀ H', Kp p H H' → H' p = some (.ins C dx (tapeF L (n + 1))) → Q (.str (mk (sg (L.drop n)))) H'
def spRefuse (C CB : Addr) : Sp := fun vs H Q E => ∃ p dx L n, vs = [.ref p] ∧ H p = some (.ins C dx (tapeF L n)) ∧ ∀ d H', Same H H' → H' d = some (.xd (badF 0 n)) → E (.ref CB) (some d) H'
/-- a reader: p the tape, m what it tells of what is left, At how its value lies -/
def spRd {α : Type} (C CB : Addr) (xs : List V) (m : List Nat → Res α) (At : α → V → Hp → Prop) : Sp := fun vs H Q E => ∃ p dx L n, vs = .ref p :: xs ∧ H p = some (.ins C dx (tapeF L n)) ∧ n ≤ L.length ∧ L.length ≤ 100000 ∧ (∀ c ∈ L, c ∈ SG) ∧
  (∀ a n', m (L.drop n) = .ok a (L.drop n') → ∀ v H', n < n' → n' ≤ L.length → Kp p H H' → H' p = some (.ins C dx (tapeF L n')) → At a v H' → Q v H') ∧
  (∀ n' d H', m (L.drop n) = .bad (L.drop n') → n' ≤ L.length → Kp p H H' → H' d = some (.xd (badF 0 n')) → E (.ref CB) (some d) H')
def AtS (s : List Nat) (v : V) (_ : Hp) : Prop := v = .str (mk s)
def AtC (c : Nat) (v : V) (_ : Hp) : Prop := v = .str (mk [c]) ∧ c ∈ SG
section
variable {P : Program} {w : World} {K : PySem.W.Frag} {mg : Str → Option Value} {base : Heap}
theorem ok_bad_init (T : Top w K mg) : FnOkB P w K mg base CX0 1 (He.ma K (He.ga K "BadRule") "__init__") ["self", "rule", "at"] (spBadInit (He.ga K "BadRule")) := by
  refine FnOkB.of T.f_BadRule___init__ sc_BadRule___init__ b_BadRule___init__ (fun vs H Q E h => ?_) (fun cdv A outer s H vs Q E hr h => ?_)
  · obtain ⟨a, r, n, rfl, _⟩ := h
    rfl
  · obtain ⟨a, r, n, rfl, ha, q⟩ := h
    refine ⟨_, pss_cons (ps_ost (pv 0) (pv 1)) (pss_one (ps_ost (pv 0) (pv 2))), ?_⟩
    refine ⟨_, rfl, _, rfl, a, _, rfl, T.x_BadRule.oex, T.n_BadRule_rule, .inl ⟨ha, fun d hd hne => ?_⟩⟩
    have e1 : (upd (upd H d (exd d [("rule", r)])) a (exo a (He.ga K "BadRule") (some d))) d = some (exd d [("rule", r)]) := by
      rw [upd_ne hne, upd_same]
    refine ⟨_, rfl, _, rfl, a, _, rfl, T.x_BadRule.oex, T.n_BadRule_at, .inr ⟨d, _, upd_same, e1, by show 1 ≤ 900; decide, ?_⟩⟩
    refine q d _ hd hne (fun b o hb hH => ?_) ?_ upd_same
    · have hbd : b ≠ d := ne_of_none hH hd
      rw [upd_ne hbd, upd_ne hb, upd_ne hbd]
      exact hH
    · rw [upd_ne (Ne.symm hne), upd_same]
end
end TW

set_option maxHeartbeats 1000000
namespace TW
open PySem PySem.Spec PyProof.Rows L2
theorem sz_of {n : Nat} (h : n ≤ 100000) : n ≤ sizeLine := Nat.le_trans h (by decide +kernel)
theorem sz_lt {n : Nat} (h : n < 100000) : n < sizeLine := Nat.lt_of_lt_of_le h (by decide +kernel)
section
variable {P : Program} {w : World} {K : PySem.W.Frag} {mg : Str → Option Value} {base : Heap}
abbrev CT (K : PySem.W.Frag) : Addr := He.ga K "Tape"
abbrev CB (K : PySem.W.Frag) : Addr := He.ga K "BadRule"
theorem ok_tape_init (T : Top w K mg) : FnOkB P w K mg base CX0 1 (He.ma K (CT K) "__init__") ["self", "text"] (spTapeInit (CT K)) := by
  refine FnOkB.of T.f_Tape___init__ sc_Tape___init__ b_Tape___init__ (fun vs H Q E h => ?_) (fun cdv A outer s H vs Q E hr h => ?_)
  · obtain ⟨p, dx, L, rfl, _⟩ := h
    rfl
  · obtain ⟨p, dx, L, rfl, hp, q⟩ := h
    refine ⟨_, (pss_cons (ps_fld (pv 0) (pv 1) rfl)
      (pss_one (ps_fld (pv 0) pe_int rfl))), ?_⟩
    refine ⟨_, rfl, _, rfl, p, _, dx, _, rfl, hp, T.cl_Tape, T.n_Tape_text, by show 0 < 1000; decide, ?_⟩
    refine ⟨_, rfl, p, _, dx, _, rfl, upd_same, T.cl_Tape, T.n_Tape_at, by show 1 < 1000; decide, ?_⟩
    rw [upd_upd]
    exact q _ Kp.upd upd_same
theorem ok_sign (T : Top w K mg) : Mt P w K mg base CX0 1 (CT K) "sign" ["self"] (spSign (CT K)) := by
  refine Mt.of T.f_Tape_sign T.m_Tape_sign sc_Tape_sign b_Tape_sign (fun vs H Q E h => ?_) (fun cdv A outer s H vs Q E hr h => ?_)
  · obtain ⟨p, dx, L, n, rfl, _⟩ := h
    rfl
  · obtain ⟨p, dx, L, n, rfl, hp, hl, q⟩ := h
    refine ⟨_, (pss_one (ps_ret (pe_slice sl_str (pe_fld (pv 0) rfl) (po_some (pe_fld (pv 0) rfl)) (po_some (pe_op op_add (pe_fld (pv 0) rfl) pe_int))))), ?_⟩
    refine ⟨_, rfl, p, _, dx, _, _, rfl, hp, T.cl_Tape, T.n_Tape_text, tape_text L n, ?_⟩
    refine ⟨_, rfl, p, _, dx, _, _, rfl, hp, T.cl_Tape, T.n_Tape_at, tape_at L n, _, rfl, ?_⟩
    refine ⟨_, rfl, p, _, dx, _, _, rfl, hp, T.cl_Tape, T.n_Tape_at, tape_at L n, _, _, rfl, rfl, _, rfl, ?_⟩
    refine ⟨_, rfl, ?_, ?_⟩
    · rw [len_mk]
      exact sz_of hl
    · rw [cut_at]
      exact q
theorem ok_step (T : Top w K mg) : Mt P w K mg base CX0 2 (CT K) "step" ["self"] (spStep (CT K)) := by
  have D_Tape_sign : Mt P w K mg base CX0 1 (CT K) "sign" ["self"] (spSign (CT K)) := ok_sign T
  refine Mt.of T.f_Tape_step T.m_Tape_step sc_Tape_step b_Tape_step (fun vs H Q E h => ?_) (fun cdv A outer s H vs Q E hr h => ?_)
  · obtain ⟨p, dx, L, n, rfl, _⟩ := h
    rfl
  · obtain ⟨p, dx, L, n, rfl, hp, hl, q⟩ := h
    refine ⟨_, (pss_cons (ps_set (i := 1) sc_Tape_step.nd rfl (.inl rfl) (pe_methD0 (pv 0) T.cl_Tape D_Tape_sign (hr.mono (by first | decide | omega)) pass0))
      (pss_cons (ps_fld (pv 0) (pe_op op_add (pe_fld (pv 0) rfl) pe_int) rfl)
      (pss_one (ps_ret (pv 1))))), ?_⟩
    refine ⟨_, rfl, p, dx, _, rfl, hp, (tape_m L n).1, p, dx, L, n, rfl, hp, hl, ?_⟩
    refine ⟨_, rfl, p, _, dx, _, _, rfl, hp, T.cl_Tape, T.n_Tape_at, tape_at L n, _, _, rfl, rfl, ?_⟩
    refine ⟨_, rfl, p, _, dx, _, rfl, hp, T.cl_Tape, T.n_Tape_at, by show 2 < 1000; decide, ?_⟩
    exact ⟨_, rfl, q _ Kp.upd upd_same⟩
theorem ok_refuse (T : Top w K mg) : Mt P w K mg base (L2.CX P w) 3 (CT K) "refuse" ["self"] (spRefuse (CT K) (CB K)) := by
  have D_BadRule := ok_bad_init (P := P) (base := base) T
  refine Mt.ofX T.f_Tape_refuse T.m_Tape_refuse sc_Tape_refuse b_Tape_refuse (fun vs H Q E h => ?_) (fun cdv A outer s H vs Q E hr h => ?_)
  · obtain ⟨p, dx, L, n, rfl, _⟩ := h
    rfl
  · obtain ⟨p, dx, L, n, rfl, hp, q⟩ := h
    refine ⟨_, (pss_one (ps_raise rfl (takes_of rfl rfl rfl rfl) (pmk_oexD T.x_BadRule D_BadRule (hr.mono (by first | decide | omega)) pass0 rfl T.g_BadRule (pa_cons pe_int (pa_cons (pe_fld (pv 0) rfl) pa_nil))))), ?_⟩
    refine ⟨_, rfl, p, _, dx, _, _, rfl, hp, T.cl_Tape, T.n_Tape_at, tape_at L n, by show 2 ≤ 1000; decide, fun a ha => ?_⟩
    refine ⟨a, _, _, rfl, upd_same, fun d H' hd hne k1 e1 e2 => ⟨rfl, d, _, e1, e2, ?_, ?_⟩⟩
    · rw [upd_ne hne] at hd
      exact hd
    · refine q d _ (fun b o hb => ?_) upd_same
      have hba : b ≠ a := ne_of_none hb ha
      have hbd : b ≠ d := fun e => by
        rw [upd_ne hne] at hd
        rw [e, hd] at hb
        cases hb
      rw [upd_ne hbd, del_ne hba]
      exact k1 b o hba (by rw [upd_ne hba]; exact hb)
end
end TW

set_option maxHeartbeats 1000000
namespace TW
open PySem PySem.Spec PyProof.Rows L2
theorem if_str {a b : List Nat} {z : Str} {A B : Prop} (hz : z = mk b) (h1 : a = b → A) (h2 : a ≠ b → B) : if decide (V.str (mk a) = V.str z) = true then A else B := by
  subst hz
  rw [dec_mk]
  by_cases h : a = b
  · rw [decide_eq_true h, if_pos rfl]; exact h1 h
  · rw [decide_eq_false h, if_neg (by decide)]; exact h2 h
theorem if_nstr {a b : List Nat} {z : Str} {A B : Prop} (hz : z = mk b) (h1 : a = b → B) (h2 : a ≠ b → A) : if (!decide (V.str (mk a) = V.str z)) = true then A else B := by
  subst hz
  rw [dec_mk]
  by_cases h : a = b
  · rw [decide_eq_true h, if_neg (by decide)]; exact h1 h
  · rw [decide_eq_false h, if_pos (by decide)]; exact h2 h
theorem if_dec {p : Prop} [Decidable p] {A B : Prop} (h1 : p → A) (h2 : ¬ p → B) : if decide p = true then A else B := by
  by_cases h : p
  · rw [decide_eq_true h, if_pos rfl]; exact h1 h
  · rw [decide_eq_false h, if_neg (by decide)]; exact h2 h
theorem if_ndec {p : Prop} [Decidable p] {A B : Prop} (h1 : p → B) (h2 : ¬ p → A) : if (!decide p) = true then A else B := by
  by_cases h : p
  · rw [decide_eq_true h, if_neg (by decide)]; exact h1 h
  · rw [decide_eq_false h, if_pos (by decide)]; exact h2 h
theorem sg_one {r : List Nat} {c : Nat} (h : sg r = [c]) : ∃ r', r = c :: r' := by
  cases r with
  | nil => cases h
  | cons a r' =>
    have e : [a] = [c] := h
    injection e with e1 _
    exact ⟨r', by rw [e1]⟩
theorem sg_ne {r : List Nat} (h : sg r ≠ []) : ∃ c r', r = c :: r' := by
  cases r with
  | nil => exact absurd rfl h
  | cons a r' => exact ⟨a, r', rfl⟩
theorem sg_nil_iff {r : List Nat} (h : sg r = []) : r = [] := by
  cases r with
  | nil => rfl
  | cons a r' => cases h
theorem drop_cons {L : List Nat} {n c : Nat} {r : List Nat} (h : L.drop n = c :: r) : n < L.length ∧ L.drop (n + 1) = r ∧ c ∈ L := by
  have h1 : n < L.length := by
    rcases Nat.lt_or_ge n L.length with x | x
    · exact x
    · rw [List.drop_eq_nil_of_le x] at h; cases h
  rw [List.drop_eq_getElem_cons h1] at h
  injection h with e1 e2
  exact ⟨h1, e2, by rw [← e1]; exact List.getElem_mem h1⟩
theorem drop_tail (L : List Nat) (n : Nat) : (L.drop n).drop 1 = L.drop (n + 1) := by
  rw [List.drop_drop]
theorem tl_turned : c_TURNED.cps.toList = TURNs := by decide +kernel
theorem tl_kept : c_KEPT.cps.toList = KEPTs := by decide +kernel
theorem turns_sg : ∀ c ∈ TURNs, c ∈ SG := by decide +kernel
theorem ten_sg : 10 ∈ SG := by decide
section
variable {P : Program} {w : World} {K : PySem.W.Frag} {mg : Str → Option Value} {base : Heap}
theorem ok_turnedT (T : Top w K mg) : Mt P w K mg base (L2.CX P w) 4 (CT K) "turned" ["self"] (spRd (CT K) (CB K) [] turnedM AtC) := by
  have D_Tape_sign := ok_sign (P := P) (base := base) T
  have D_Tape_step := ok_step (P := P) (base := base) T
  have D_Tape_refuse := ok_refuse (P := P) (base := base) T
  refine Mt.ofX T.f_Tape_turned T.m_Tape_turned sc_Tape_turned b_Tape_turned (fun vs H Q E h => ?_) (fun cdv A outer s H vs Q E hr h => ?_)
  · obtain ⟨p, dx, L, n, rfl, _⟩ := h
    rfl
  · obtain ⟨p, dx, L, n, rfl, hp, hn, hl, hs, qo, qb⟩ := h
    refine ⟨_, (pss_cons (ps_set (i := 1) sc_Tape_turned.nd rfl (.inl rfl) (pe_methD0 (pv 0) T.cl_Tape D_Tape_sign (hr.mono (by first | decide | omega)) pass0))
      (pss_cons (ps_if (pt_cmpR op_eq (pv 1) pe_str (nomark _)) (pss_cons (ps_expr (pe_methD0 (pv 0) T.cl_Tape D_Tape_step (hr.mono (by first | decide | omega)) pass0))
      (pss_one (ps_ret pe_str))) pss_nil)
      (pss_cons (ps_if (PW.pt (pw_or (pt_cmpR op_eq (pv 1) pe_str (nomark _)) (pw_or1 (pt_cmpR op_notIn_sign (pv 1) (pe_gstr rfl T.g_TURNED) rfl)))) (pss_one (ps_expr (pe_methD0 (pv 0) T.cl_Tape D_Tape_refuse (hr.mono (by first | decide | omega)) (passes_call (takes_of rfl rfl rfl rfl) (fun _ _ _ _ h => h))))) pss_nil)
      (pss_one (ps_ret (pe_methD0 (pv 0) T.cl_Tape D_Tape_step (hr.mono (by first | decide | omega)) pass0)))))), ?_⟩
    refine ⟨_, rfl, p, dx, _, rfl, hp, (tape_m L n).1, p, dx, L, n, rfl, hp, hl, ?_⟩
    refine ⟨_, rfl, rfl, _, rfl, if_str (b := [110]) (by decide +kernel) (fun e => ?_) (fun e => ?_)⟩
    · obtain ⟨r, er⟩ := sg_one e
      obtain ⟨h1, h2, _⟩ := drop_cons er
      refine ⟨_, rfl, p, dx, _, rfl, hp, (tape_m L n).2.1, p, dx, L, n, rfl, hp, hl, fun H1 k1 e1 => ?_⟩
      exact qo 10 (n + 1) (by rw [er, h2]; rfl) _ H1 (by omega) h1 k1 e1 ⟨(show V.str _ = V.str _ from congrArg V.str (by decide +kernel)), ten_sg⟩
    · have bad : turnedM (L.drop n) = .bad (L.drop n) → spRefuse (CT K) (CB K) [.ref p] H Q E := fun hb =>
        ⟨p, dx, L, n, rfl, hp, fun d H1 s1 e1 => qb n d H1 hb hn (Kp.of s1) e1⟩
      refine ⟨_, rfl, rfl, _, rfl, if_str (b := []) (by decide +kernel) (fun e2 => ?_) (fun e2 => ?_)⟩
      · refine ⟨_, rfl, p, dx, _, rfl, hp, (tape_m L n).2.2.1, ?_⟩
        exact bad (by rw [sg_nil_iff e2] <;> rfl)
      · obtain ⟨c, r, er⟩ := sg_ne e2
        obtain ⟨h1, h2, _⟩ := drop_cons er
        rw [er] at e
        have hc : c ≠ 110 := fun z => e (by rw [z]; rfl)
        have hm : turnedM (L.drop n) = if c ∈ TURNs then .ok c r else .bad (c :: r) := by
          rw [er]
          show (if c = 110 then _ else _) = _
          rw [if_neg hc]
        refine ⟨_, rfl, c, _, by rw [er]; rfl, rfl, _, rfl, ?_⟩
        rw [tl_turned]
        refine if_ndec (fun hin => ?_) (fun hin => ?_)
        · refine ⟨_, rfl, p, dx, _, rfl, hp, (tape_m L n).2.1, p, dx, L, n, rfl, hp, hl, fun H1 k1 e1 => ?_⟩
          exact qo c (n + 1) (by rw [hm, if_pos hin, h2]) _ H1 (by omega) h1 k1 e1 ⟨by rw [er]; rfl, turns_sg c hin⟩
        · refine ⟨_, rfl, p, dx, _, rfl, hp, (tape_m L n).2.2.1, ?_⟩
          exact bad (by rw [hm, if_neg hin, er])
end
end TW

set_option maxHeartbeats 1000000
namespace TW
open PySem PySem.Spec PyProof.Rows L2
theorem inV_str (a : List Nat) : ∀ (zs : List Str) (ls : List (List Nat)), zs = ls.map mk → inV (.str (mk a)) (zs.map V.str) = decide (a ∈ ls) := by
  rintro zs ls rfl
  unfold inV
  rw [Bool.eq_iff_iff, List.any_eq_true, decide_eq_true_iff]
  constructor
  · rintro ⟨y, hy, he⟩
    rw [List.map_map, List.mem_map] at hy
    obtain ⟨l, hl, rfl⟩ := hy
    have e : (mk l == mk a) = true := he
    rw [← mk_inj (beq_iff_eq.mp e)]
    exact hl
  · intro h
    exact ⟨.str (mk a), by rw [List.map_map]; exact List.mem_map.mpr ⟨a, h, rfl⟩, show (mk a == mk a) = true from beq_self_eq_true _⟩
theorem turned_sg {r : List Nat} {a : Nat} {r' : List Nat} (h : turnedM r = .ok a r') : a ∈ SG := by
  cases r with
  | nil => cases h
  | cons c r =>
    have h' : (if c = 110 then Res.ok 10 r else if c ∈ TURNs then .ok c r else .bad (c :: r)) = .ok a r' := h
    by_cases h1 : c = 110
    · rw [if_pos h1] at h'
      injection h' with e1 e2
      rw [← e1]
      exact ten_sg
    · rw [if_neg h1] at h'
      by_cases h2 : c ∈ TURNs
      · rw [if_pos h2] at h'
        injection h' with e1 e2
        rw [← e1]
        exact turns_sg _ h2
      · rw [if_neg h2] at h'
        cases h'
section
variable {P : Program} {w : World} {K : PySem.W.Frag} {mg : Str → Option Value} {base : Heap}
theorem ok_read_class_sign (T : Top w K mg) : Df P w K mg base (L2.CX P w) 5 "read_class_sign" ["tape"] (spRd (CT K) (CB K) [] classSign AtC) := by
  have D_Tape_sign := ok_sign (P := P) (base := base) T
  have D_Tape_step := ok_step (P := P) (base := base) T
  have D_Tape_refuse := ok_refuse (P := P) (base := base) T
  have D_Tape_turned := ok_turnedT (P := P) (base := base) T
  refine Df.ofX T.f_read_class_sign T.g_read_class_sign sc_read_class_sign b_read_class_sign (fun vs H Q E h => ?_) (fun cdv A outer s H vs Q E hr h => ?_)
  · obtain ⟨p, dx, L, n, rfl, _⟩ := h
    rfl
  · obtain ⟨p, dx, L, n, rfl, hp, hn, hl, hs, qo, qb⟩ := h
    refine ⟨_, (pss_cons (ps_set (i := 1) sc_read_class_sign.nd rfl (.inl rfl) (pe_methD0 (pv 0) T.cl_Tape D_Tape_sign (hr.mono (by first | decide | omega)) pass0))
      (pss_cons (ps_if (pt_cmpR op_eq (pv 1) pe_str (nomark _)) (pss_cons (ps_expr (pe_methD0 (pv 0) T.cl_Tape D_Tape_step (hr.mono (by first | decide | omega)) pass0))
      (pss_one (ps_ret (pe_methD0 (pv 0) T.cl_Tape D_Tape_turned (hr.mono (by first | decide | omega)) (passes_call (takes_of rfl rfl rfl rfl) (fun _ _ _ _ h => h)))))) pss_nil)
      (pss_cons (ps_if (pt_cmpR op_in_seq (pv 1) (pe_tup (pa_cons pe_str (pa_cons pe_str (pa_cons pe_str pa_nil)))) rfl) (pss_one (ps_expr (pe_methD0 (pv 0) T.cl_Tape D_Tape_refuse (hr.mono (by first | decide | omega)) (passes_call (takes_of rfl rfl rfl rfl) (fun _ _ _ _ h => h))))) pss_nil)
      (pss_one (ps_ret (pe_methD0 (pv 0) T.cl_Tape D_Tape_step (hr.mono (by first | decide | omega)) pass0)))))), ?_⟩
    refine ⟨_, rfl, p, dx, _, rfl, hp, (tape_m L n).1, p, dx, L, n, rfl, hp, hl, ?_⟩
    refine ⟨_, rfl, rfl, _, rfl, if_str (b := [92]) (by decide +kernel) (fun e => ?_) (fun e => ?_)⟩
    · obtain ⟨r, er⟩ := sg_one e
      obtain ⟨h1, h2, _⟩ := drop_cons er
      have hm0 : classSign (L.drop n) = turnedM (L.drop (n + 1)) := by rw [er, h2]; rfl
      refine ⟨_, rfl, p, dx, _, rfl, hp, (tape_m L n).2.1, p, dx, L, n, rfl, hp, hl, fun H1 k1 e1 => ?_⟩
      refine ⟨_, rfl, p, dx, _, rfl, e1, (tape_m L (n + 1)).2.2.2, p, dx, L, n + 1, rfl, e1, h1, hl, hs, fun a n' hm v H2 hlt hle k2 e2 hA => ?_, fun n' d H2 hm hle k2 ed => ?_⟩
      · exact qo a n' (hm0.trans hm) v H2 (by omega) hle (k1.trans k2) e2 hA
      · exact qb n' d H2 (hm0.trans hm) hle (k1.trans k2) ed
    · refine ⟨_, rfl, (by show 3 ≤ sizeLine; decide +kernel), fun t ht => ?_⟩
      have st : Same H (upd H t (.tup [.str "", .str "]", .str "-"])) := same_new ht
      have hpt := st _ _ hp
      refine ⟨t, _, rfl, .inr (SqT.of upd_same), rfl, rfl, _, rfl, ?_⟩
      rw [show (if false = true then _ else inV (.str (mk (sg (L.drop n)))) [.str "", .str "]", .str "-"]) = decide (sg (L.drop n) ∈ [[], [93], [45]]) from inV_str _ ["", "]", "-"] [[], [93], [45]] (by decide +kernel)]
      refine if_dec (fun hin => ?_) (fun hin => ?_)
      · have hm : classSign (L.drop n) = .bad (L.drop n) := by
          cases hd : L.drop n with
          | nil => rfl
          | cons c r =>
            rw [hd] at hin e
            have hc : c = 93 ∨ c = 45 := by
              simp [sg] at hin
              omega
            have h92 : c ≠ 92 := by omega
            show (if c = 92 then _ else _) = _
            rw [if_neg h92, if_pos hc]
        refine ⟨_, rfl, p, dx, _, rfl, hpt, (tape_m L n).2.2.1, p, dx, L, n, rfl, hpt, fun d H1 s1 e1 => ?_⟩
        exact qb n d H1 hm hn (Kp.of (st.trans s1)) e1
      · obtain ⟨c, r, er⟩ := sg_ne (r := L.drop n) (fun z => hin (by rw [z]; exact List.mem_cons_self))
        obtain ⟨h1, h2, hc⟩ := drop_cons er
        rw [er] at hin e
        have hc1 : c ≠ 92 := fun z => e (by rw [z]; rfl)
        have hc2 : ¬ (c = 93 ∨ c = 45) := fun z => hin (by rcases z with z | z <;> rw [z] <;> simp [sg])
        have hm : classSign (L.drop n) = .ok c (L.drop (n + 1)) := by
          rw [er, h2]
          show (if c = 92 then _ else _) = _
          rw [if_neg hc1, if_neg hc2]
        refine ⟨_, rfl, p, dx, _, rfl, hpt, (tape_m L n).2.1, p, dx, L, n, rfl, hpt, hl, fun H1 k1 e1 => ?_⟩
        exact qo c (n + 1) hm _ H1 (by omega) h1 ((Kp.of st).trans k1) e1 ⟨by rw [er]; rfl, hs c hc⟩
theorem ok_read_item (T : Top w K mg) : Df P w K mg base (L2.CX P w) 6 "read_item" ["tape"] (spRd (CT K) (CB K) [] itemM AtS) := by
  have D_Tape_sign := ok_sign (P := P) (base := base) T
  have D_Tape_step := ok_step (P := P) (base := base) T
  have D_read_class_sign := ok_read_class_sign (P := P) (base := base) T
  have D_place_of := ok_place_of (P := P) (base := base) T
  have D_between := ok_between (P := P) (base := base) T
  have D_BadRule := ok_bad_init (P := P) (base := base) T
  refine Df.ofX T.f_read_item T.g_read_item sc_read_item b_read_item (fun vs H Q E h => ?_) (fun cdv A outer s H vs Q E hr h => ?_)
  · obtain ⟨p, dx, L, n, rfl, _⟩ := h
    rfl
  · obtain ⟨p, dx, L, n, rfl, hp, hn, hl, hs, qo, qb⟩ := h
    refine ⟨_, (pss_cons (ps_set (i := 1) sc_read_item.nd rfl (.inl rfl) (pe_callD D_read_class_sign (hr.mono (by first | decide | omega)) rfl (passes_call (takes_of rfl rfl rfl rfl) (fun _ _ _ _ h => h)) (pa_cons (pv 0) pa_nil)))
      (pss_cons (ps_if (pt_cmpR op_ne (pe_methD0 (pv 0) T.cl_Tape D_Tape_sign (hr.mono (by first | decide | omega)) pass0) pe_str (nomark _)) (pss_one (ps_ret (pv 1))) pss_nil)
      (pss_cons (ps_expr (pe_methD0 (pv 0) T.cl_Tape D_Tape_step (hr.mono (by first | decide | omega)) pass0))
      (pss_cons (ps_set (i := 2) sc_read_item.nd rfl (.inl rfl) (pe_fld (pv 0) rfl))
      (pss_cons (ps_set (i := 3) sc_read_item.nd rfl (.inl rfl) (pe_callD D_read_class_sign (hr.mono (by first | decide | omega)) rfl (passes_call (takes_of rfl rfl rfl rfl) (fun _ _ _ _ h => h)) (pa_cons (pv 0) pa_nil)))
      (pss_cons (ps_if (pt_cmpR op_lt (pe_callD D_place_of (hr.mono (by first | decide | omega)) rfl pass0 (pa_cons (pv 3) pa_nil)) (pe_callD D_place_of (hr.mono (by first | decide | omega)) rfl pass0 (pa_cons (pv 1) pa_nil)) (nomark _)) (pss_one (ps_raise rfl (takes_of rfl rfl rfl rfl) (pmk_oexD T.x_BadRule D_BadRule (hr.mono (by first | decide | omega)) pass0 rfl T.g_BadRule (pa_cons pe_int (pa_cons (pv 2) pa_nil))))) pss_nil)
      (pss_one (ps_ret (pe_callD D_between (hr.mono (by first | decide | omega)) rfl pass0 (pa_cons (pv 1) (pa_cons (pv 3) pa_nil))))))))))), ?_⟩
    refine ⟨_, rfl, p, dx, L, n, rfl, hp, hn, hl, hs, fun a n1 hm1 v H1 hlt1 hle1 k1 e1 hA => ?_, fun n1 d H1 hm hle k1 ed => ?_⟩
    rotate_left
    · exact qb n1 d H1 (by unfold itemM; rw [hm]) hle k1 ed
    obtain ⟨rfl, haS⟩ := hA
    refine ⟨_, rfl, p, dx, _, rfl, e1, (tape_m L n1).1, p, dx, L, n1, rfl, e1, hl, ?_⟩
    refine ⟨rfl, _, rfl, if_nstr (b := [45]) (by decide +kernel) (fun e => ?_) (fun e => ?_)⟩
    rotate_left
    · exact ⟨_, rfl, qo [a] n1 (by unfold itemM; rw [hm1]; exact if_neg e) _ H1 hlt1 hle1 k1 e1 rfl⟩
    obtain ⟨r, er⟩ := sg_one e
    obtain ⟨h1, h2, _⟩ := drop_cons er
    have hm0 : itemM (L.drop n) = (match classSign (L.drop (n1 + 1)) with
      | .bad x => .bad x
      | .ok b r3 => if b < a then .bad (L.drop (n1 + 1)) else .ok (btw a b) r3) := by
      unfold itemM
      rw [hm1]
      show (if sg (L.drop n1) = [45] then _ else _) = _
      rw [if_pos e, drop_tail]
      all_goals (cases classSign (L.drop (n1 + 1)) <;> rfl)
    refine ⟨_, rfl, p, dx, _, rfl, e1, (tape_m L n1).2.1, p, dx, L, n1, rfl, e1, hl, fun H2 k2 e2 => ?_⟩
    refine ⟨_, rfl, p, _, dx, _, _, rfl, e2, T.cl_Tape, T.n_Tape_at, tape_at L (n1 + 1), ?_⟩
    refine ⟨_, rfl, p, dx, L, n1 + 1, rfl, e2, h1, hl, hs, fun b n3 hm3 v H3 hlt3 hle3 k3 e3 hB => ?_, fun n3 d H3 hm hle k3 ed => ?_⟩
    rotate_left
    · exact qb n3 d H3 (by rw [hm0, hm]) hle ((k1.trans k2).trans k3) ed
    obtain ⟨rfl, hbS⟩ := hB
    rw [hm3] at hm0
    refine ⟨_, rfl, b, rfl, hbS, _, rfl, a, rfl, haS, _, _, rfl, rfl, _, rfl, if_dec (fun hlt => ?_) (fun hlt => ?_)⟩
    · have hba : b < a := by
        have := ix_le haS hbS
        omega
      refine ⟨_, rfl, (by show 2 ≤ 1000; decide), fun x hx => ?_⟩
      refine ⟨x, _, _, rfl, upd_same, fun d H' hd hne k4 x1 x2 => ⟨rfl, d, _, x1, x2, ?_, ?_⟩⟩
      · rw [upd_ne hne] at hd
        exact hd
      · refine qb (n1 + 1) d _ (by rw [hm0]; exact if_pos hba) h1 (((k1.trans k2).trans k3).trans (Kp.of fun b o hb => ?_)) upd_same
        have hbx : b ≠ x := ne_of_none hb hx
        have hbd : b ≠ d := fun e => by
          rw [upd_ne hne] at hd
          rw [e, hd] at hb
          cases hb
        rw [upd_ne hbd, del_ne hbx]
        exact k4 b o hbx (by rw [upd_ne hbx]; exact hb)
    · have hba : ¬ b < a := by
        have := ix_le haS hbS
        omega
      refine ⟨_, rfl, _, rfl, a, b, rfl, haS, hbS, ?_⟩
      exact qo (btw a b) n3 (by rw [hm0]; exact if_neg hba) _ H3 (by omega) hle3 ((k1.trans k2).trans k3) e3 rfl
end
end TW

set_option maxHeartbeats 1000000
namespace TW
open PySem PySem.Spec PyProof.Rows L2
mutual
def Tr.data : Tr → PyData
  | .one s => .tuple [.str "one", .str (mk s)]
  | .row ts => .tuple [.str "row", .tuple (Tr.datas ts)]
  | .or ts => .tuple [.str "or", .tuple (Tr.datas ts)]
  | .star t => .tuple [.str "star", t.data]
  | .plus t => .tuple [.str "plus", t.data]
  | .maybe t => .tuple [.str "maybe", t.data]
def Tr.datas : List Tr → List PyData
  | [] => []
  | t :: r => t.data :: Tr.datas r
end
theorem Tr.datas_map (ts : List Tr) : Tr.datas ts = ts.map Tr.data := by
  induction ts with
  | nil => rfl
  | cons t r ih =>
    show t.data :: Tr.datas r = _
    rw [ih]; rfl
/-- the tree t lies at v -/
def AtT (t : Tr) (v : V) (H : Hp) : Prop := Dt H v t.data
theorem item_len {r s r' : List Nat} (h : itemM r = .ok s r') : s.length ≤ 95 := by
  unfold itemM at h
  cases e : classSign r with
  | bad x => rw [e] at h; cases h
  | ok a r1 =>
    rw [e] at h
    have h1 : (if sg r1 = [45] then (match classSign (r1.drop 1) with
      | .bad x => Res.bad x
      | .ok b r3 => if b < a then .bad (r1.drop 1) else .ok (btw a b) r3)
      else Res.ok [a] r1) = .ok s r' := h
    by_cases c : sg r1 = [45]
    · rw [if_pos c] at h1
      cases e2 : classSign (r1.drop 1) with
      | bad x => rw [e2] at h1; cases h1
      | ok b r3 =>
        rw [e2] at h1
        have h2 : (if b < a then Res.bad (r1.drop 1) else .ok (btw a b) r3) = .ok s r' := h1
        by_cases c2 : b < a
        · rw [if_pos c2] at h2; cases h2
        · rw [if_neg c2] at h2
          injection h2 with e3 _
          rw [← e3]
          exact Nat.le_trans (List.length_filter_le _ _) (by rw [SG_len]; exact Nat.le_refl _)
    · rw [if_neg c] at h1
      injection h1 with e3 _
      rw [← e3]
      show 1 ≤ 95
      omega
def fin (tn : Bool) : Res (List Nat) → Res Tr
  | .bad x => .bad x
  | .ok s r => .ok (Tr.one (if tn then oth s else inO s)) r
theorem classB_eq (tn : Bool) {r s r1 : List Nat} (h : itemM r = .ok s r1) : classB tn r = fin tn (itemsLoop (r1.length + 1) s r1) := by
  unfold classB
  rw [h]
  show (match itemsLoop (r1.length + 1) s r1 with
    | .bad x => Res.bad x
    | .ok s' r2 => .ok (Tr.one (if tn then oth s' else inO s')) r2) = _
  cases itemsLoop (r1.length + 1) s r1 <;> rfl
theorem classB_bad (tn : Bool) {r x : List Nat} (h : itemM r = .bad x) : classB tn r = .bad x := by
  unfold classB
  rw [h]
section
variable {P : Program} {w : World} {K : PySem.W.Frag} {mg : Str → Option Value} {base : Heap}
theorem ok_read_class (T : Top w K mg) : Df P w K mg base (L2.CX P w) 7 "read_class" ["tape"] (spRd (CT K) (CB K) [] classM AtT) := by
  have D_Tape_sign := ok_sign (P := P) (base := base) T
  have D_Tape_step := ok_step (P := P) (base := base) T
  have D_read_item := ok_read_item (P := P) (base := base) T
  have D_others := ok_others (P := P) (base := base) T
  have D_in_order := ok_in_order (P := P) (base := base) T
  refine Df.ofX T.f_read_class T.g_read_class sc_read_class b_read_class (fun vs H Q E h => ?_) (fun cdv A outer s H vs Q E hr h => ?_)
  · obtain ⟨p, dx, L, n, rfl, _⟩ := h
    rfl
  · obtain ⟨p, dx, L, n, rfl, hp, hn, hl, hs, qo, qb⟩ := h
    refine ⟨_, (pss_cons (ps_set (i := 1) sc_read_class.nd rfl (.inl rfl) (pe_cmpR op_eq (pe_methD0 (pv 0) T.cl_Tape D_Tape_sign (hr.mono (by first | decide | omega)) pass0) pe_str (nomark _)))
      (C8.pss_cut (ps_if (pt_val (pv 1)) (pss_one (ps_expr (pe_methD0 (pv 0) T.cl_Tape D_Tape_step (hr.mono (by first | decide | omega)) pass0))) pss_nil)
      (pss_cons (ps_set (i := 2) sc_read_class.nd rfl (.inl rfl) (pe_callD D_read_item (hr.mono (by first | decide | omega)) rfl (passes_call (takes_of rfl rfl rfl rfl) (fun _ _ _ _ h => h)) (pa_cons (pv 0) pa_nil)))
      (pss_cons (ps_while (passes_of rfl) (pt_cmpR op_ne (pe_methD0 (pv 0) T.cl_Tape D_Tape_sign (hr.mono (by first | decide | omega)) pass0) pe_str (nomark _)) (pss_one (ps_set (i := 2) sc_read_class.nd rfl (.inl rfl) (pe_op op_add_str (pv 2) (pe_callD D_read_item (hr.mono (by first | decide | omega)) rfl (passes_call (takes_of rfl rfl rfl rfl) (fun _ _ _ _ h => h)) (pa_cons (pv 0) pa_nil))))))
      (pss_cons (ps_expr (pe_methD0 (pv 0) T.cl_Tape D_Tape_step (hr.mono (by first | decide | omega)) pass0))
      (pss_cons (ps_if (pt_val (pv 1)) (pss_one (ps_ret (pe_tup (pa_cons pe_str (pa_cons (pe_callD D_others (hr.mono (by first | decide | omega)) rfl pass0 (pa_cons (pv 2) pa_nil)) pa_nil))))) pss_nil)
      (pss_one (ps_ret (pe_tup (pa_cons pe_str (pa_cons (pe_callD D_in_order (hr.mono (by first | decide | omega)) rfl pass0 (pa_cons (pv 2) pa_nil)) pa_nil))))))))))), ?_⟩
    refine ⟨_, rfl, p, dx, _, rfl, hp, (tape_m L n).1, p, dx, L, n, rfl, hp, hl, rfl, ?_⟩
    have tn : decide (V.str (mk (sg (L.drop n))) = V.str ("^" : String)) = decide (sg (L.drop n) = [94]) := by
      rw [show (("^" : String) : Str) = mk [94] by decide +kernel, dec_mk]
    rw [tn]
    -- if turned: tape.step()
    refine ⟨fun σ H' => ∃ n0, σ = [some (.ref p), some (.bl (decide (sg (L.drop n) = [94]))), none] ∧ n ≤ n0 ∧ n0 ≤ L.length ∧ Kp p H H' ∧ H' p = some (.ins (CT K) dx (tapeF L n0)) ∧ classM (L.drop n) = classB (decide (sg (L.drop n) = [94])) (L.drop n0), ?_, ?_⟩
    · refine ⟨_, rfl, _, rfl, if_dec (fun e => ?_) (fun e => ?_)⟩
      · obtain ⟨r, er⟩ := sg_one e
        obtain ⟨h1, h2, _⟩ := drop_cons er
        refine ⟨_, rfl, p, dx, _, rfl, hp, (tape_m L n).2.1, p, dx, L, n, rfl, hp, hl, fun H1 k1 e1 => ?_⟩
        refine ⟨n + 1, rfl, by omega, h1, k1, e1, ?_⟩
        unfold classM
        rw [if_pos e, drop_tail, decide_eq_true e]
      · refine ⟨n, rfl, Nat.le_refl _, hn, Kp.refl _ _, hp, ?_⟩
        unfold classM
        rw [if_neg e, decide_eq_false e]
    · rintro σ H0 ⟨n0, rfl, h0, h0l, k0, e0, hm0⟩
      generalize decide (sg (L.drop n) = [94]) = tb at hm0 ⊢
      -- signs = read_item(tape)
      refine ⟨_, rfl, p, dx, L, n0, rfl, e0, h0l, hl, hs, fun s1 n1 hm1 v H1 hlt1 hle1 k1 e1 hA => ?_, fun n1 d H1 hm hle k1 ed => ?_⟩
      rotate_left
      · exact qb n1 d H1 (by rw [hm0]; exact classB_bad _ hm) hle (k0.trans k1) ed
      have hv : v = .str (mk s1) := hA
      subst hv
      rw [classB_eq tb hm1] at hm0
      -- the loop
      refine ⟨fun m σ H' => ∃ n2 acc f, σ = [some (.ref p), some (.bl tb), some (.str (mk acc))] ∧ m = L.length - n2 ∧ n < n2 ∧ n2 ≤ L.length ∧ Kp p H H' ∧ H' p = some (.ins (CT K) dx (tapeF L n2)) ∧ acc.length ≤ 95 * n2 ∧
        classM (L.drop n) = fin tb (itemsLoop (f + 1) acc (L.drop n2)) ∧ L.length - n2 ≤ f, ⟨_, n1, s1, (L.drop n1).length, rfl, rfl, by omega, hle1, k0.trans k1, e1, ?_, hm0, ?_⟩, ?_⟩
      · have := item_len hm1
        omega
      · rw [List.length_drop]; exact Nat.le_refl _
      rintro m σ H2 ⟨n2, acc, f, rfl, rfl, h2, h2l, k2, e2, hacc, hm2, hf⟩
      refine ⟨_, rfl, p, dx, _, rfl, e2, (tape_m L n2).1, p, dx, L, n2, rfl, e2, hl, rfl, _, rfl, if_nstr (b := [93]) (by decide +kernel) (fun e => ?_) (fun e => ?_)⟩
      · -- the class ends
        obtain ⟨r, er⟩ := sg_one e
        obtain ⟨h3, h4, _⟩ := drop_cons er
        have hmE : classM (L.drop n) = .ok (.one (if tb then oth acc else inO acc)) (L.drop (n2 + 1)) := by
          rw [hm2]
          show fin tb (if sg (L.drop n2) = [93] then .ok acc ((L.drop n2).drop 1) else _) = _
          rw [if_pos e, drop_tail] <;> rfl
        refine ⟨_, rfl, p, dx, _, rfl, e2, (tape_m L n2).2.1, p, dx, L, n2, rfl, e2, hl, fun H3 k3 e3 => ?_⟩
        have done : ∀ (ss : List Nat) (H4 : Hp) (x : Addr), (ss = if tb then oth acc else inO acc) → Same H3 H4 → H4 x = none → Q (.ref x) (upd H4 x (.tup [.str "one", .str (mk ss)])) := fun ss H4 x es s4 hx => by
          subst es
          have sx : Same H4 (upd H4 x (.tup [.str "one", .str (mk (if tb then oth acc else inO acc))])) := same_new hx
          refine qo _ (n2 + 1) hmE _ _ (by omega) h3 ((k2.trans k3).trans (Kp.of (s4.trans sx))) (sx _ _ (s4 _ _ e3)) ?_
          exact .tup upd_same (.cons (.str _) (.cons (.str _) .nil))
        refine ⟨_, rfl, _, rfl, ?_⟩
        cases tb with
        | true =>
          refine ⟨_, rfl, acc, rfl, fun H4 s4 => ⟨by show 2 ≤ sizeLine; decide +kernel, fun x hx => ?_⟩⟩
          exact done _ H4 x rfl s4 hx
        | false =>
          refine ⟨_, rfl, acc, rfl, fun H4 s4 => ⟨by show 2 ≤ sizeLine; decide +kernel, fun x hx => ?_⟩⟩
          exact done _ H4 x rfl s4 hx
      · -- one more item
        have hmI : itemsLoop (f + 1) acc (L.drop n2) = (match itemM (L.drop n2) with
            | .bad x => .bad x
            | .ok s r1 => itemsLoop f (acc ++ s) r1) := by
          show (if sg (L.drop n2) = [93] then _ else _) = _
          rw [if_neg e]
          all_goals (cases itemM (L.drop n2) <;> rfl)
        refine ⟨_, fun σ' H' hN => hN, _, rfl, _, rfl, p, dx, L, n2, rfl, e2, h2l, hl, hs, fun s3 n3 hm3 v H3 hlt3 hle3 k3 e3 hA => ?_, fun n3 d H3 hm hle k3 ed => ?_⟩
        rotate_left
        · exact qb n3 d H3 (by rw [hm2, hmI, hm] <;> rfl) hle (k2.trans k3) ed
        have hv : v = .str (mk s3) := hA
        subst hv
        have hl3 := item_len hm3
        refine ⟨_, _, rfl, rfl, ?_, ?_⟩
        · rw [len_mk, len_mk]
          have : 95 * n2 ≤ 95 * 100000 := Nat.mul_le_mul_left _ (by omega)
          have hsz : (9600000 : Nat) ≤ sizeLine := by decide +kernel
          omega
        · rw [add_mk]
          obtain ⟨f', rfl⟩ : ∃ f', f = f' + 1 := ⟨f - 1, by omega⟩
          rw [hm3] at hmI
          refine ⟨_, ?_, n3, acc ++ s3, f', rfl, rfl, by omega, hle3, k2.trans k3, e3, ?_, ?_, ?_⟩
          · omega
          · rw [List.length_append]; omega
          · rw [hm2, hmI]
          · omega
end
end TW

set_option maxHeartbeats 1000000
namespace TW
open PySem PySem.Spec PyProof.Rows L2
def atomM (sub : Option (List Nat → Res Tr)) : List Nat → Res Tr
  | [] => .bad []
  | c :: r => if c = 40 then (match sub with
      | none => .bad (c :: r)
      | some f => match f r with
        | .bad x => .bad x
        | .ok t r1 => if sg r1 = [41] then .ok t (r1.drop 1) else .bad r1)
    else if c = 46 then .ok (.one (oth [10])) r
    else if c = 91 then classM r
    else if c = 92 then (match turnedM r with
      | .bad x => .bad x
      | .ok a r1 => .ok (.one [a]) r1)
    else if c ∈ KEPTs then .bad (c :: r) else .ok (.one [c]) r
def markM (c : Nat) : Option (Tr → Tr) := if c = 42 then some .star else if c = 43 then some .plus else if c = 63 then some .maybe else none
def starsM : Tr → List Nat → Tr × List Nat
  | t, [] => (t, [])
  | t, c :: r => match markM c with
    | some f => starsM (f t) r
    | none => (t, c :: r)
def repM (sub : Option (List Nat → Res Tr)) (r : List Nat) : Res Tr := match atomM sub r with
  | .bad x => .bad x
  | .ok t r1 => .ok (starsM t r1).1 (starsM t r1).2
def rowLoop (sub : Option (List Nat → Res Tr)) : Nat → List Tr → List Nat → Res (List Tr)
  | 0, _, r => .bad r
  | n + 1, acc, r => if sg r ∈ [[], [124], [41]] then .ok acc r else match repM sub r with
    | .bad x => .bad x
    | .ok t r1 => rowLoop sub n (acc ++ [t]) r1
def joinT (k : List Tr → Tr) : List Tr → Tr
  | [t] => t
  | ts => k ts
def finT (k : List Tr → Tr) : Res (List Tr) → Res Tr
  | .bad x => .bad x
  | .ok ts r => .ok (joinT k ts) r
def rowM (sub : Option (List Nat → Res Tr)) (r : List Nat) : Res Tr := match repM sub r with
  | .bad x => .bad x
  | .ok t r1 => finT .row (rowLoop sub (r1.length + 1) [t] r1)
def choiceLoop (sub : Option (List Nat → Res Tr)) : Nat → List Tr → List Nat → Res (List Tr)
  | 0, _, r => .bad r
  | n + 1, acc, r => if sg r = [124] then (match rowM sub (r.drop 1) with
      | .bad x => .bad x
      | .ok t r1 => choiceLoop sub n (acc ++ [t]) r1)
    else .ok acc r
def choiceM (sub : Option (List Nat → Res Tr)) (r : List Nat) : Res Tr := match rowM sub r with
  | .bad x => .bad x
  | .ok t r1 => finT .or (choiceLoop sub (r1.length + 1) [t] r1)
def choiceD : Nat → List Nat → Res Tr
  | 0 => choiceM none
  | d + 1 => choiceM (some (choiceD d))
def subM : Nat → Option (List Nat → Res Tr)
  | 0 => none
  | d + 1 => some (choiceD d)
theorem choiceD_eq (d : Nat) : choiceD d = choiceM (subM d) := by cases d <;> rfl
def readM (r : List Nat) : Res Tr := match choiceD 6 r with
  | .bad x => .bad x
  | .ok t r1 => if sg r1 = [] then .ok t r1 else .bad r1
/-! ### read_atom .. read, the brackets' depth told by how deep one may still go -/
def dp (d : Nat) : Int := 6 - (d : Int)
def spSub (C CB : Addr) : Nat → Sp
  | 0 => fun _ _ _ _ => False
  | d + 1 => spRd C CB [.int (dp d)] (choiceD d) AtT
theorem Df.never {P : Program} {w : World} {K : PySem.W.Frag} {mg : Str → Option Value} {base : Heap} {CX : CXT} {x : Str} {f : Addr} {st : Stmt} {ps : List Str} (k : Nat) (F : FunT K x x st f) (g : mg x = some (.ref f)) (B : BindsAll x x st ps) :
    Df P w K mg base CX k x ps (fun _ _ _ _ => False) := by
  obtain ⟨fd, F⟩ := F
  exact ⟨f, fd, ⟨fun _ _ _ _ h => h.elim, fun _ _ _ _ _ _ _ _ _ _ _ _ _ h => h.elim⟩, g, F.kp, F.bindsN B⟩
section
variable {P : Program} {w : World} {K : PySem.W.Frag} {mg : Str → Option Value} {base : Heap}
theorem ok_read_atom (T : Top w K mg) (d k : Nat) (hk : 8 ≤ k + 1) (D_read_choice : Df P w K mg base (L2.CX P w) k "read_choice" ["tape", "deep"] (spSub (CT K) (CB K) d)) :
    Df P w K mg base (L2.CX P w) (k + 1) "read_atom" ["tape", "deep"] (spRd (CT K) (CB K) [.int (dp d)] (atomM (subM d)) AtT) := by
  have D_Tape_sign := ok_sign (P := P) (base := base) T
  have D_Tape_step := ok_step (P := P) (base := base) T
  have D_Tape_refuse := ok_refuse (P := P) (base := base) T
  have D_Tape_turned := ok_turnedT (P := P) (base := base) T
  have D_read_class := ok_read_class (P := P) (base := base) T
  have D_others := ok_others (P := P) (base := base) T
  refine Df.ofX T.f_read_atom T.g_read_atom sc_read_atom b_read_atom (fun vs H Q E h => ?_) (fun cdv A outer s H vs Q E hr h => ?_)
  · obtain ⟨p, dx, L, n, rfl, _⟩ := h
    rfl
  · obtain ⟨p, dx, L, n, rfl, hp, hn, hl, hs, qo, qb⟩ := h
    refine ⟨_, (pss_cons (ps_set (i := 2) sc_read_atom.nd rfl (.inl rfl) (pe_methD0 (pv 0) T.cl_Tape D_Tape_sign (hr.mono (by first | decide | omega)) pass0))
      (pss_cons (ps_if (pt_cmpR op_eq (pv 2) pe_str (nomark _)) (pss_cons (ps_if (pt_cmpR op_eq (pv 1) (pe_gint rfl T.g_MOST_DEEP) (nomark _)) (pss_one (ps_expr (pe_methD0 (pv 0) T.cl_Tape D_Tape_refuse (hr.mono (by first | decide | omega)) (passes_call (takes_of rfl rfl rfl rfl) (fun _ _ _ _ h => h))))) pss_nil)
      (pss_cons (ps_expr (pe_methD0 (pv 0) T.cl_Tape D_Tape_step (hr.mono (by first | decide | omega)) pass0))
      (pss_cons (ps_set (i := 3) sc_read_atom.nd rfl (.inl rfl) (pe_callD D_read_choice (hr.mono (by first | decide | omega)) rfl (passes_call (takes_of rfl rfl rfl rfl) (fun _ _ _ _ h => h)) (pa_cons (pv 0) (pa_cons (pe_op op_add (pv 1) pe_int) pa_nil))))
      (pss_cons (ps_if (pt_cmpR op_ne (pe_methD0 (pv 0) T.cl_Tape D_Tape_sign (hr.mono (by first | decide | omega)) pass0) pe_str (nomark _)) (pss_one (ps_expr (pe_methD0 (pv 0) T.cl_Tape D_Tape_refuse (hr.mono (by first | decide | omega)) (passes_call (takes_of rfl rfl rfl rfl) (fun _ _ _ _ h => h))))) pss_nil)
      (pss_cons (ps_expr (pe_methD0 (pv 0) T.cl_Tape D_Tape_step (hr.mono (by first | decide | omega)) pass0))
      (pss_one (ps_ret (pv 3)))))))) pss_nil)
      (pss_cons (ps_if (pt_cmpR op_eq (pv 2) pe_str (nomark _)) (pss_cons (ps_expr (pe_methD0 (pv 0) T.cl_Tape D_Tape_step (hr.mono (by first | decide | omega)) pass0))
      (pss_one (ps_ret (pe_tup (pa_cons pe_str (pa_cons (pe_callD D_others (hr.mono (by first | decide | omega)) rfl pass0 (pa_cons pe_str pa_nil)) pa_nil)))))) pss_nil)
      (pss_cons (ps_if (pt_cmpR op_eq (pv 2) pe_str (nomark _)) (pss_cons (ps_expr (pe_methD0 (pv 0) T.cl_Tape D_Tape_step (hr.mono (by first | decide | omega)) pass0))
      (pss_one (ps_ret (pe_callD D_read_class (hr.mono (by first | decide | omega)) rfl (passes_call (takes_of rfl rfl rfl rfl) (fun _ _ _ _ h => h)) (pa_cons (pv 0) pa_nil))))) pss_nil)
      (pss_cons (ps_if (pt_cmpR op_eq (pv 2) pe_str (nomark _)) (pss_cons (ps_expr (pe_methD0 (pv 0) T.cl_Tape D_Tape_step (hr.mono (by first | decide | omega)) pass0))
      (pss_one (ps_ret (pe_tup (pa_cons pe_str (pa_cons (pe_methD0 (pv 0) T.cl_Tape D_Tape_turned (hr.mono (by first | decide | omega)) (passes_call (takes_of rfl rfl rfl rfl) (fun _ _ _ _ h => h))) pa_nil)))))) pss_nil)
      (pss_cons (ps_if (PW.pt (pw_or (pt_cmpR op_eq (pv 2) pe_str (nomark _)) (pw_or1 (pt_cmpR op_in_sign (pv 2) (pe_gstr rfl T.g_KEPT) rfl)))) (pss_one (ps_expr (pe_methD0 (pv 0) T.cl_Tape D_Tape_refuse (hr.mono (by first | decide | omega)) (passes_call (takes_of rfl rfl rfl rfl) (fun _ _ _ _ h => h))))) pss_nil)
      (pss_one (ps_ret (pe_tup (pa_cons pe_str (pa_cons (pe_methD0 (pv 0) T.cl_Tape D_Tape_step (hr.mono (by first | decide | omega)) pass0) pa_nil))))))))))), ?_⟩
    have one : ∀ (ss : List Nat) (n1 : Nat) (H1 : Hp) (x : Addr), atomM (subM d) (L.drop n) = .ok (.one ss) (L.drop n1) → n < n1 → n1 ≤ L.length → Kp p H H1 → H1 p = some (.ins (CT K) dx (tapeF L n1)) → H1 x = none → Q (.ref x) (upd H1 x (.tup [.str "one", .str (mk ss)])) := fun ss n1 H1 x hm h1 h2 k1 e1 hx => by
      have sx : Same H1 (upd H1 x (.tup [.str "one", .str (mk ss)])) := same_new hx
      exact qo _ n1 hm _ _ h1 h2 (k1.trans (Kp.of sx)) (sx _ _ e1) (.tup upd_same (.cons (.str _) (.cons (.str _) .nil)))
    refine ⟨_, rfl, p, dx, _, rfl, hp, (tape_m L n).1, p, dx, L, n, rfl, hp, hl, ?_⟩
    -- "("
    refine ⟨_, rfl, rfl, _, rfl, if_str (b := [40]) (by decide +kernel) (fun e => ?_) (fun e40 => ?_)⟩
    · obtain ⟨r, er⟩ := sg_one e
      obtain ⟨h1, h2, _⟩ := drop_cons er
      refine ⟨_, rfl, rfl, _, rfl, if_dec (fun e6 => ?_) (fun e6 => ?_)⟩
      · have hd : d = 0 := by
          have := V.int.inj e6
          unfold dp at this
          omega
        subst hd
        refine ⟨_, rfl, p, dx, _, rfl, hp, (tape_m L n).2.2.1, p, dx, L, n, rfl, hp, fun d H1 s1 e1 => ?_⟩
        exact qb n d H1 (by rw [er]; rfl) hn (Kp.of s1) e1
      · obtain ⟨d', rfl⟩ : ∃ d', d = d' + 1 := by
          cases d with
          | zero => exact absurd rfl e6
          | succ d' => exact ⟨d', rfl⟩
        refine ⟨_, rfl, p, dx, _, rfl, hp, (tape_m L n).2.1, p, dx, L, n, rfl, hp, hl, fun H1 k1 e1 => ?_⟩
        have hdp : dp (d' + 1) + 1 = dp d' := by
          unfold dp
          omega
        have hm0 : atomM (subM (d' + 1)) (L.drop n) = (match choiceD d' (L.drop (n + 1)) with
            | .bad x => .bad x
            | .ok t r1 => if sg r1 = [41] then .ok t (r1.drop 1) else .bad r1) := by
          rw [er, h2]
          show (match choiceD d' r with
            | .bad x => Res.bad x
            | .ok t r1 => if sg r1 = [41] then .ok t (r1.drop 1) else .bad r1) = _
          cases choiceD d' r <;> rfl
        refine ⟨_, rfl, _, rfl, _, _, rfl, rfl, p, dx, L, n + 1, congrArg (fun z => [V.ref p, V.int z]) hdp, e1, h1, hl, hs, fun t n2 hm v H2 hlt hle k2 e2 hA => ?_, fun n' d H2 hm hle k2 ed => ?_⟩
        rotate_left
        · exact qb n' d H2 (by rw [hm0, hm]) hle (k1.trans k2) ed
        rw [hm] at hm0
        refine ⟨_, rfl, p, dx, _, rfl, e2, (tape_m L n2).1, p, dx, L, n2, rfl, e2, hl, ?_⟩
        refine ⟨rfl, _, rfl, if_nstr (b := [41]) (by decide +kernel) (fun e => ?_) (fun e => ?_)⟩
        · obtain ⟨r3, er3⟩ := sg_one e
          obtain ⟨h3, h4, _⟩ := drop_cons er3
          refine ⟨_, rfl, p, dx, _, rfl, e2, (tape_m L n2).2.1, p, dx, L, n2, rfl, e2, hl, fun H3 k3 e3 => ?_⟩
          refine ⟨_, rfl, qo t (n2 + 1) ?_ v H3 (by omega) h3 ((k1.trans k2).trans k3) e3 (hA.mono (k3.tup fun xs z => by rw [e2] at z; cases z))⟩
          rw [hm0, ← drop_tail]
          exact if_pos e
        · refine ⟨_, rfl, p, dx, _, rfl, e2, (tape_m L n2).2.2.1, p, dx, L, n2, rfl, e2, fun d H3 s3 e3 => ?_⟩
          exact qb n2 d H3 (by rw [hm0]; exact if_neg e) hle ((k1.trans k2).trans (Kp.of s3)) e3
    -- "."
    refine ⟨_, rfl, rfl, _, rfl, if_str (b := [46]) (by decide +kernel) (fun e => ?_) (fun e46 => ?_)⟩
    · obtain ⟨r, er⟩ := sg_one e
      obtain ⟨h1, h2, _⟩ := drop_cons er
      refine ⟨_, rfl, p, dx, _, rfl, hp, (tape_m L n).2.1, p, dx, L, n, rfl, hp, hl, fun H1 k1 e1 => ?_⟩
      refine ⟨[10], congrArg (fun z => [V.str z]) (by decide +kernel), fun H2 s2 => ⟨by show 2 ≤ sizeLine; decide +kernel, fun x hx => ?_⟩⟩
      exact one (oth [10]) (n + 1) H2 x (by rw [er, h2]; rfl) (by omega) h1 (k1.trans (Kp.of s2)) (s2 _ _ e1) hx
    -- "["
    refine ⟨_, rfl, rfl, _, rfl, if_str (b := [91]) (by decide +kernel) (fun e => ?_) (fun e91 => ?_)⟩
    · obtain ⟨r, er⟩ := sg_one e
      obtain ⟨h1, h2, _⟩ := drop_cons er
      have hm0 : atomM (subM d) (L.drop n) = classM (L.drop (n + 1)) := by rw [er, h2]; rfl
      refine ⟨_, rfl, p, dx, _, rfl, hp, (tape_m L n).2.1, p, dx, L, n, rfl, hp, hl, fun H1 k1 e1 => ?_⟩
      refine ⟨_, rfl, p, dx, L, n + 1, rfl, e1, h1, hl, hs, fun a n' hm v H2 hlt hle k2 e2 hA => ?_, fun n' d H2 hm hle k2 ed => ?_⟩
      · exact qo a n' (hm0.trans hm) v H2 (by omega) hle (k1.trans k2) e2 hA
      · exact qb n' d H2 (hm0.trans hm) hle (k1.trans k2) ed
    -- "\\"
    refine ⟨_, rfl, rfl, _, rfl, if_str (b := [92]) (by decide +kernel) (fun e => ?_) (fun e92 => ?_)⟩
    · obtain ⟨r, er⟩ := sg_one e
      obtain ⟨h1, h2, _⟩ := drop_cons er
      have hm0 : atomM (subM d) (L.drop n) = (match turnedM (L.drop (n + 1)) with
          | .bad x => .bad x
          | .ok a r1 => .ok (.one [a]) r1) := by
        rw [er, h2]
        show (match turnedM r with
          | .bad x => Res.bad x
          | .ok a r1 => .ok (Tr.one [a]) r1) = _
        cases turnedM r <;> rfl
      refine ⟨_, rfl, p, dx, _, rfl, hp, (tape_m L n).2.1, p, dx, L, n, rfl, hp, hl, fun H1 k1 e1 => ?_⟩
      refine ⟨_, rfl, p, dx, _, rfl, e1, (tape_m L (n + 1)).2.2.2, p, dx, L, n + 1, rfl, e1, h1, hl, hs, fun a n' hm v H2 hlt hle k2 e2 hA => ?_, fun n' d H2 hm hle k2 ed => ?_⟩
      · obtain ⟨rfl, _⟩ := hA
        refine ⟨by show 2 ≤ sizeLine; decide +kernel, fun x hx => ?_⟩
        exact one [a] n' H2 x (by rw [hm0, hm]) (by omega) hle (k1.trans k2) e2 hx
      · exact qb n' d H2 (by rw [hm0, hm]) hle (k1.trans k2) ed
    -- the end, a kept sign
    refine ⟨_, rfl, rfl, _, rfl, if_str (b := []) (by decide +kernel) (fun e => ?_) (fun e0 => ?_)⟩
    · refine ⟨_, rfl, p, dx, _, rfl, hp, (tape_m L n).2.2.1, p, dx, L, n, rfl, hp, fun d H1 s1 e1 => ?_⟩
      exact qb n d H1 (by rw [sg_nil_iff e]; rfl) hn (Kp.of s1) e1
    obtain ⟨c, r, er⟩ := sg_ne e0
    obtain ⟨h1, h2, hc⟩ := drop_cons er
    rw [er] at e40 e46 e91 e92
    have hm : atomM (subM d) (L.drop n) = if c ∈ KEPTs then .bad (c :: r) else .ok (.one [c]) r := by
      rw [er]
      show (if c = 40 then _ else _) = _
      rw [if_neg (fun z => e40 (by rw [z]; rfl)), if_neg (fun z => e46 (by rw [z]; rfl)), if_neg (fun z => e91 (by rw [z]; rfl)), if_neg (fun z => e92 (by rw [z]; rfl))]
    refine ⟨_, rfl, c, _, by rw [er]; rfl, rfl, _, rfl, ?_⟩
    rw [tl_kept]
    refine if_dec (fun hin => ?_) (fun hin => ?_)
    · refine ⟨_, rfl, p, dx, _, rfl, hp, (tape_m L n).2.2.1, p, dx, L, n, rfl, hp, fun d H1 s1 e1 => ?_⟩
      exact qb n d H1 (by rw [hm, if_pos hin, er]) hn (Kp.of s1) e1
    · refine ⟨_, rfl, p, dx, _, rfl, hp, (tape_m L n).2.1, p, dx, L, n, rfl, hp, hl, fun H1 k1 e1 => ?_⟩
      refine ⟨by show 2 ≤ sizeLine; decide +kernel, fun x hx => ?_⟩
      rw [er]
      exact one [c] (n + 1) H1 x (by rw [hm, if_neg hin, h2]) (by omega) h1 k1 e1 hx
end
end TW

set_option maxHeartbeats 1000000
namespace TW
open PySem PySem.Spec PyProof.Rows L2
theorem tab_get {K : PySem.W.Frag} {x k v : Str} : ∀ {ks vs : List Str}, tabB K x ks vs = true → (k, v) ∈ ks.zip vs → ∃ t, PySem.W.nsIn K (He.ga K x) k = some (some (.str v t)) := by
  intro ks vs h hk
  unfold tabB at h
  have h1 := List.all_eq_true.mp h (k, v) hk
  have h2 : (match PySem.W.nsIn K (He.ga K x) k with
    | some (some (.str y _)) => decide (y = v)
    | _ => false) = true := h1
  split at h2
  · rename_i y t e
    exact ⟨t, by rw [e, of_decide_eq_true h2]⟩
  · cases h2
section
variable {P : Program} {w : World} {K : PySem.W.Frag} {mg : Str → Option Value} {base : Heap}
theorem mark_some (T : Top w K mg) {c : Nat} {f : Tr → Tr} (h : markM c = some f) : ∃ v t, PySem.W.nsIn K (He.ga K "REPEATS") (mk [c]) = some (some (.str v t)) ∧ ∀ tr : Tr, (f tr).data = .tuple [.str v, tr.data] := by
  unfold markM at h
  by_cases h1 : c = 42
  · rw [if_pos h1] at h
    cases h
    subst h1
    obtain ⟨t, e⟩ := tab_get (k := "*") (v := "star") T.v_REPEATS (by decide +kernel)
    exact ⟨_, t, by rw [← e]; congr 1, fun _ => rfl⟩
  rw [if_neg h1] at h
  by_cases h2 : c = 43
  · rw [if_pos h2] at h
    cases h
    subst h2
    obtain ⟨t, e⟩ := tab_get (k := "+") (v := "plus") T.v_REPEATS (by decide +kernel)
    exact ⟨_, t, by rw [← e]; congr 1, fun _ => rfl⟩
  rw [if_neg h2] at h
  by_cases h3 : c = 63
  · rw [if_pos h3] at h
    cases h
    subst h3
    obtain ⟨t, e⟩ := tab_get (k := "?") (v := "maybe") T.v_REPEATS (by decide +kernel)
    exact ⟨_, t, by rw [← e]; congr 1, fun _ => rfl⟩
  rw [if_neg h3] at h
  cases h
theorem mark_keys : (["*", "+", "?"] : List Str) = [mk [42], mk [43], mk [63]] := by decide +kernel
theorem mark_none (T : Top w K mg) {r : List Nat} (h : ∀ c r', r = c :: r' → markM c = none) : PySem.W.nsIn K (He.ga K "REPEATS") (mk (sg r)) = some none := by
  refine dic_none T.w_REPEATS ?_
  rw [mark_keys]
  intro hm
  have h3 : sg r = [42] ∨ sg r = [43] ∨ sg r = [63] := by
    rcases List.mem_cons.mp hm with e | e
    · exact .inl (mk_inj e)
    rcases List.mem_cons.mp e with e | e
    · exact .inr (.inl (mk_inj e))
    rcases List.mem_cons.mp e with e | e
    · exact .inr (.inr (mk_inj e))
    · cases e
  rcases h3 with e | e | e <;> obtain ⟨r', rfl⟩ := sg_one e <;> exact absurd (h _ r' rfl) (by decide)
theorem ok_read_repeat (T : Top w K mg) (d k : Nat) (hk : 8 ≤ k) (D_read_atom : Df P w K mg base (L2.CX P w) k "read_atom" ["tape", "deep"] (spRd (CT K) (CB K) [.int (dp d)] (atomM (subM d)) AtT)) :
    Df P w K mg base (L2.CX P w) (k + 1) "read_repeat" ["tape", "deep"] (spRd (CT K) (CB K) [.int (dp d)] (repM (subM d)) AtT) := by
  have D_Tape_sign := ok_sign (P := P) (base := base) T
  have D_Tape_step := ok_step (P := P) (base := base) T
  obtain ⟨es, nn, D_REPEATS⟩ := T.t_REPEATS
  refine Df.ofX T.f_read_repeat T.g_read_repeat sc_read_repeat b_read_repeat (fun vs H Q E h => ?_) (fun cdv A outer s H vs Q E hr h => ?_)
  · obtain ⟨p, dx, L, n, rfl, _⟩ := h
    rfl
  · obtain ⟨p, dx, L, n, rfl, hp, hn, hl, hs, qo, qb⟩ := h
    refine ⟨_, (pss_cons (ps_set (i := 2) sc_read_repeat.nd rfl (.inl rfl) (pe_callD D_read_atom (hr.mono (by first | decide | omega)) rfl (passes_call (takes_of rfl rfl rfl rfl) (fun _ _ _ _ h => h)) (pa_cons (pv 0) (pa_cons (pv 1) pa_nil))))
      (pss_cons (ps_while (passes_of rfl) (pt_cmpR (op_in_kd D_REPEATS) (pe_methD0 (pv 0) T.cl_Tape D_Tape_sign (hr.mono (by first | decide | omega)) pass0) (pe_glob (v := .ref (He.ga K "REPEATS")) rfl T.g_REPEATS rfl) rfl) (pss_one (ps_set (i := 2) sc_read_repeat.nd rfl (.inl rfl) (pe_tup (pa_cons (pe_ix ix_kdict (pe_glob (v := .ref (He.ga K "REPEATS")) rfl T.g_REPEATS rfl) (pe_methD0 (pv 0) T.cl_Tape D_Tape_step (hr.mono (by first | decide | omega)) pass0) (fun _ _ => rfl)) (pa_cons (pv 2) pa_nil))))))
      (pss_one (ps_ret (pv 2))))), ?_⟩
    refine ⟨_, rfl, _, rfl, p, dx, L, n, rfl, hp, hn, hl, hs, fun t1 n1 hm1 v H1 hlt1 hle1 k1 e1 hA => ?_, fun n1 d H1 hm hle k1 ed => ?_⟩
    rotate_left
    · exact qb n1 d H1 (by unfold repM; rw [hm]) hle k1 ed
    have hm0 : repM (subM d) (L.drop n) = .ok (starsM t1 (L.drop n1)).1 (starsM t1 (L.drop n1)).2 := by
      unfold repM
      rw [hm1]
    refine ⟨fun m σ H' => ∃ n2 t v, σ = [some (.ref p), some (.int (dp d)), some v] ∧ m = L.length - n2 ∧ n < n2 ∧ n2 ≤ L.length ∧ Kp p H H' ∧ H' p = some (.ins (CT K) dx (tapeF L n2)) ∧ AtT t v H' ∧
      repM (subM d) (L.drop n) = .ok (starsM t (L.drop n2)).1 (starsM t (L.drop n2)).2, ⟨_, n1, t1, v, rfl, rfl, by omega, hle1, k1, e1, hA, hm0⟩, ?_⟩
    rintro m σ H2 ⟨n2, t, v2, rfl, rfl, h2, h2l, k2, e2, hA2, hm2⟩
    refine ⟨_, rfl, p, dx, _, rfl, e2, (tape_m L n2).1, p, dx, L, n2, rfl, e2, hl, ?_⟩
    rcases hd : L.drop n2 with _ | ⟨c, r⟩
    · rw [hd] at hm2
      refine ⟨_, none, rfl, rfl, mark_none T (r := []) (fun c r' e => by cases e), _, rfl, ?_⟩
      refine ⟨_, rfl, qo t n2 (by rw [hm2, hd]; rfl) v2 H2 h2 h2l k2 e2 hA2⟩
    · cases hc : markM c with
      | none =>
        refine ⟨_, none, rfl, rfl, mark_none T (r := c :: r) (fun c' r' e => by injection e with e1 _; rw [← e1]; exact hc), _, rfl, ?_⟩
        have hst : starsM t (c :: r) = (t, c :: r) := by
          show (match markM c with | some f => starsM (f t) r | none => (t, c :: r)) = _
          rw [hc]
        refine ⟨_, rfl, qo t n2 (by rw [hm2, hd, hst]) v2 H2 h2 h2l k2 e2 hA2⟩
      | some f =>
        obtain ⟨h3, h4, _⟩ := drop_cons hd
        obtain ⟨mv, mt, em, hmv⟩ := mark_some T hc
        have hst : starsM t (c :: r) = starsM (f t) r := by
          show (match markM c with | some f => starsM (f t) r | none => (t, c :: r)) = _
          rw [hc]
        refine ⟨_, some _, rfl, rfl, em, _, rfl, ?_⟩
        refine ⟨_, fun σ' H' hN => hN, ?_⟩
        refine ⟨_, rfl, p, dx, _, rfl, e2, (tape_m L n2).2.1, p, dx, L, n2, rfl, e2, hl, fun H3 k3 e3 => ?_⟩
        refine ⟨_, mk (sg (L.drop n2)), .str mv, rfl, rfl, ⟨_, _, _, D_REPEATS.at_, D_REPEATS.lit, by rw [hd]; exact em, ⟨mt, rfl⟩⟩, ?_⟩
        refine ⟨_, rfl, by show 2 ≤ sizeLine; decide +kernel, fun x hx => ?_⟩
        have sx : Same H3 (upd H3 x (.tup [.str mv, v2])) := same_new hx
        refine ⟨_, ?_, n2 + 1, f t, .ref x, rfl, rfl, by omega, h3, (k2.trans k3).trans (Kp.of sx), sx _ _ e3, ?_, ?_⟩
        · omega
        · show Dt _ _ (f t).data
          rw [hmv]
          exact .tup upd_same (.cons (.str _) (.cons ((Dt.mono (k3.tup fun xs z => by rw [e2] at z; cases z) hA2).mono (TupK.of sx)) .nil))
        · rw [hm2, hd, hst, h4]
end
end TW

set_option maxHeartbeats 1000000
namespace TW
open PySem PySem.Spec PyProof.Rows L2
theorem datas_append : ∀ (a b : List Tr), Tr.datas (a ++ b) = Tr.datas a ++ Tr.datas b
  | [], _ => rfl
  | t :: r, b => by
    show t.data :: Tr.datas (r ++ b) = t.data :: (Tr.datas r ++ Tr.datas b)
    rw [datas_append r b]
theorem datas_length : ∀ (a : List Tr), (Tr.datas a).length = a.length
  | [] => rfl
  | t :: r => congrArg (· + 1) (datas_length r)
def spJoined (K : PySem.W.Frag) : Sp := fun vs H Q _ => ∃ (z : Str) (a : Addr) (xs : List V) (ts : List Tr) (k : List Tr → Tr), vs = [.str z, .ref a] ∧ SqL K H a xs ∧ DtA H xs (Tr.datas ts) ∧ xs.length ≤ 100000 ∧
  (∀ ts, (k ts).data = .tuple [.str z, .tuple (Tr.datas ts)]) ∧ ∀ v H', Same H H' → AtT (joinT k ts) v H' → Q v H'
def spRead (CB : Addr) : Sp := fun vs H Q E => ∃ L, vs = [.str (mk L)] ∧ L.length ≤ 100000 ∧ (∀ c ∈ L, c ∈ SG) ∧
  (∀ t r, readM L = .ok t r → ∀ v H', Same H H' → AtT t v H' → Q v H') ∧
  (∀ n' d H', readM L = .bad (L.drop n') → n' ≤ L.length → Same H H' → H' d = some (.xd (badF 0 n')) → E (.ref CB) (some d) H')
section
variable {P : Program} {w : World} {K : PySem.W.Frag} {mg : Str → Option Value} {base : Heap}
theorem ok_joined (T : Top w K mg) : Df P w K mg base CX0 1 "joined" ["kind", "trees"] (spJoined K) := by
  refine Df.of T.f_joined T.g_joined sc_joined b_joined (fun vs H Q E h => ?_) (fun cdv A outer s H vs Q E hr h => ?_)
  · obtain ⟨z, a, xs, ts, k, rfl, _⟩ := h
    rfl
  · obtain ⟨z, a, xs, ts, k, rfl, ha, hd, hl, hk, q⟩ := h
    refine ⟨_, (pss_cons (ps_if (pt_cmpR op_eq (pe_callB call_len_seq rfl T.z_len boot_len (pa_cons (pv 1) pa_nil)) pe_int (nomark _)) (pss_one (ps_ret (pe_ix ix_list (pv 1) pe_int (fun _ _ => rfl)))) pss_nil)
      (pss_one (ps_ret (pe_tup (pa_cons (pv 0) (pa_cons (pe_callTy call_tuple_of rfl T.z_tuple (by decide +kernel) (pa_cons (pv 1) pa_nil)) pa_nil)))))), ?_⟩
    have hlen : xs.length = ts.length := by rw [hd.length, datas_length]
    refine ⟨_, rfl, a, xs, rfl, .inl ha, rfl, _, rfl, if_dec (fun e => ?_) (fun e => ?_)⟩
    · have e1 : ((xs.length : Nat) : Int) = 1 := V.int.inj e
      obtain ⟨t, rfl⟩ : ∃ t, ts = [t] := by
        match ts, hlen with
        | [t], _ => exact ⟨t, rfl⟩
        | [], h => rw [h] at e1; cases e1
        | _ :: _ :: _, h => rw [h] at e1; simp at e1; omega
      obtain ⟨v, r, rfl, hv, hr⟩ := DtA.cons_inv hd
      refine ⟨_, rfl, a, _, 0, v, rfl, rfl, ha, atI_nat (j := 0) rfl, q v H (Same.refl _) hv⟩
    · have hj : joinT k ts = k ts := by
        match ts, hlen with
        | [], _ => rfl
        | [t], h => exact absurd (congrArg V.int (by rw [h]; rfl)) e
        | _ :: _ :: _, _ => rfl
      refine ⟨_, rfl, _, rfl, a, xs, rfl, .inl ⟨ha, fun b hb => ?_⟩⟩
      refine ⟨by show 2 ≤ sizeLine; decide +kernel, fun c hc => ?_⟩
      have s1 : Same H (upd H b (.tup xs)) := same_new hb
      have s2 : Same (upd H b (.tup xs)) (upd (upd H b (.tup xs)) c (.tup [.str z, .ref b])) := same_new hc
      refine q _ _ (s1.trans s2) ?_
      show Dt _ _ (joinT k ts).data
      rw [hj, hk]
      exact .tup upd_same (.cons (.str _) (.cons (.tup (s2 _ _ upd_same) (hd.mono (TupK.of (s1.trans s2)))) .nil))
theorem ok_read_row (T : Top w K mg) (d k : Nat) (hk : 9 ≤ k) (D_read_repeat : Df P w K mg base (L2.CX P w) k "read_repeat" ["tape", "deep"] (spRd (CT K) (CB K) [.int (dp d)] (repM (subM d)) AtT)) :
    Df P w K mg base (L2.CX P w) (k + 1) "read_row" ["tape", "deep"] (spRd (CT K) (CB K) [.int (dp d)] (rowM (subM d)) AtT) := by
  have D_Tape_sign := ok_sign (P := P) (base := base) T
  have D_joined := ok_joined (P := P) (base := base) T
  refine Df.ofX T.f_read_row T.g_read_row sc_read_row b_read_row (fun vs H Q E h => ?_) (fun cdv A outer s H vs Q E hr h => ?_)
  · obtain ⟨p, dx, L, n, rfl, _⟩ := h
    rfl
  · obtain ⟨p, dx, L, n, rfl, hp, hn, hl, hs, qo, qb⟩ := h
    refine ⟨_, (pss_cons (ps_set (i := 2) sc_read_row.nd rfl (.inl rfl) (pe_lst (pa_cons (pe_callD D_read_repeat (hr.mono (by first | decide | omega)) rfl (passes_call (takes_of rfl rfl rfl rfl) (fun _ _ _ _ h => h)) (pa_cons (pv 0) (pa_cons (pv 1) pa_nil))) pa_nil)))
      (pss_cons (ps_while (passes_of rfl) (pt_cmpR op_notIn_seq (pe_methD0 (pv 0) T.cl_Tape D_Tape_sign (hr.mono (by first | decide | omega)) pass0) (pe_tup (pa_cons pe_str (pa_cons pe_str (pa_cons pe_str pa_nil)))) rfl) (pss_one (ps_expr (pe_bm PySem.F.plainAttrs_list PySem.F.slot_list_append PySem.F.type_list_append mt_append (pv 2) (pa_cons (pe_callD D_read_repeat (hr.mono (by first | decide | omega)) rfl (passes_call (takes_of rfl rfl rfl rfl) (fun _ _ _ _ h => h)) (pa_cons (pv 0) (pa_cons (pv 1) pa_nil))) pa_nil)))))
      (pss_one (ps_ret (pe_callD D_joined (hr.mono (by first | decide | omega)) rfl pass0 (pa_cons pe_str (pa_cons (pv 2) pa_nil))))))), ?_⟩
    refine ⟨_, rfl, _, rfl, p, dx, L, n, rfl, hp, hn, hl, hs, fun t1 n1 hm1 v1 H1 hlt1 hle1 k1 e1 hA => ?_, fun n1 d H1 hm hle k1 ed => ?_⟩
    rotate_left
    · exact qb n1 d H1 (by unfold rowM; rw [hm]) hle k1 ed
    refine ⟨by show 1 ≤ sizeLine; decide +kernel, fun l hl1 => ?_⟩
    have hlp : l ≠ p := fun e => by rw [e, e1] at hl1; cases hl1
    have hlH : H l = none := by
      cases z : H l with
      | none => rfl
      | some o => rw [k1 l o hlp z] at hl1; cases hl1
    have s1 : Same H1 (upd H1 l (.lst [v1])) := same_new hl1
    have hm0 : rowM (subM d) (L.drop n) = finT .row (rowLoop (subM d) ((L.drop n1).length + 1) [t1] (L.drop n1)) := by
      unfold rowM
      rw [hm1]
    refine ⟨fun m σ H' => ∃ n2 ts xs f, σ = [some (.ref p), some (.int (dp d)), some (.ref l)] ∧ m = L.length - n2 ∧ n < n2 ∧ n2 ≤ L.length ∧ Kp p H H' ∧ H' p = some (.ins (CT K) dx (tapeF L n2)) ∧ H' l = some (.lst xs) ∧ xs.length ≤ n2 ∧ DtA H' xs (Tr.datas ts) ∧
      rowM (subM d) (L.drop n) = finT .row (rowLoop (subM d) (f + 1) ts (L.drop n2)) ∧ L.length - n2 ≤ f,
      ⟨_, n1, [t1], [v1], _, rfl, rfl, by omega, hle1, k1.trans (Kp.of s1), s1 _ _ e1, upd_same, by show 1 ≤ n1; omega, .cons (hA.mono (TupK.of s1)) .nil, hm0, by rw [List.length_drop]; exact Nat.le_refl _⟩, ?_⟩
    rintro m σ H2 ⟨n2, ts, xs, f, rfl, rfl, h2, h2l, k2, e2, el, hx, hd, hm2, hf⟩
    refine ⟨_, rfl, p, dx, _, rfl, e2, (tape_m L n2).1, p, dx, L, n2, rfl, e2, hl, ?_⟩
    refine ⟨(by show 3 ≤ sizeLine; decide +kernel), fun t ht => ?_⟩
    have st : Same H2 (upd H2 t (.tup [.str "", .str "|", .str ")"])) := same_new ht
    refine ⟨t, _, rfl, .inr (SqT.of upd_same), rfl, rfl, _, rfl, ?_⟩
    rw [show (if true = true then !inV (.str (mk (sg (L.drop n2)))) [.str "", .str "|", .str ")"] else _) = !decide (sg (L.drop n2) ∈ [[], [124], [41]]) from congrArg not (inV_str _ ["", "|", ")"] [[], [124], [41]] (by decide +kernel))]
    refine if_ndec (fun hin => ?_) (fun hin => ?_)
    · have hmE : rowM (subM d) (L.drop n) = .ok (joinT .row ts) (L.drop n2) := by
        rw [hm2]
        show finT .row (if sg (L.drop n2) ∈ [[], [124], [41]] then .ok ts (L.drop n2) else _) = _
        rw [if_pos hin] <;> rfl
      refine ⟨_, rfl, _, l, xs, ts, .row, rfl, SqL.of (st _ _ el), hd.mono (TupK.of st), by omega, fun _ => rfl, fun v H3 s3 hv => ?_⟩
      exact qo _ n2 hmE v H3 h2 h2l (k2.trans (Kp.of (st.trans s3))) (s3 _ _ (st _ _ e2)) hv
    · have hmI : rowLoop (subM d) (f + 1) ts (L.drop n2) = (match repM (subM d) (L.drop n2) with
          | .bad x => .bad x
          | .ok t r1 => rowLoop (subM d) f (ts ++ [t]) r1) := by
        show (if sg (L.drop n2) ∈ [[], [124], [41]] then _ else _) = _
        rw [if_neg hin]
        all_goals (cases repM (subM d) (L.drop n2) <;> rfl)
      refine ⟨_, fun σ' H' hN => hN, ?_⟩
      refine ⟨_, rfl, .inl ⟨rfl, _, SqL.of (st _ _ el)⟩, _, rfl, _, rfl, p, dx, L, n2, rfl, st _ _ e2, h2l, hl, hs, fun t3 n3 hm3 v3 H3 hlt3 hle3 k3 e3 hA3 => ?_, fun n3 d H3 hm hle k3 ed => ?_⟩
      rotate_left
      · exact qb n3 d H3 (by rw [hm2, hmI, hm] <;> rfl) hle ((k2.trans (Kp.of st)).trans k3) ed
      have el3 := k3 _ _ hlp (st _ _ el)
      have tk3 : TupK (upd H2 t (.tup [.str "", .str "|", .str ")"])) H3 := k3.tup fun zs z => by rw [st _ _ e2] at z; cases z
      have tl : TupK H3 (upd H3 l (.lst (xs ++ [v3]))) := fun b zs hb => by
        rw [upd_ne (fun e => by rw [e, el3] at hb; cases hb)]
        exact hb
      refine ⟨l, xs, v3, rfl, rfl, el3, sz_lt (by omega), ?_⟩
      obtain ⟨f', rfl⟩ : ∃ f', f = f' + 1 := ⟨f - 1, by omega⟩
      rw [hm3] at hmI
      refine ⟨_, ?_, n3, ts ++ [t3], xs ++ [v3], f', rfl, rfl, by omega, hle3, fun b o hb hH => ?_, ?_, upd_same, ?_, ?_, ?_, ?_⟩
      · omega
      · rw [upd_ne (ne_of_none hH hlH)]
        exact k3 b o hb (st _ _ (k2 b o hb hH))
      · rw [upd_ne (Ne.symm hlp)]
        exact e3
      · rw [List.length_append]
        show xs.length + 1 ≤ n3
        omega
      · rw [datas_append]
        exact (hd.mono (((TupK.of st).trans tk3).trans tl)).append (.cons (hA3.mono tl) .nil)
      · rw [hm2, hmI]
      · omega
theorem ok_read_choice (T : Top w K mg) (d k : Nat) (hk : 10 ≤ k) (D_read_row : Df P w K mg base (L2.CX P w) k "read_row" ["tape", "deep"] (spRd (CT K) (CB K) [.int (dp d)] (rowM (subM d)) AtT)) :
    Df P w K mg base (L2.CX P w) (k + 1) "read_choice" ["tape", "deep"] (spRd (CT K) (CB K) [.int (dp d)] (choiceM (subM d)) AtT) := by
  have D_Tape_sign := ok_sign (P := P) (base := base) T
  have D_Tape_step := ok_step (P := P) (base := base) T
  have D_joined := ok_joined (P := P) (base := base) T
  refine Df.ofX T.f_read_choice T.g_read_choice sc_read_choice b_read_choice (fun vs H Q E h => ?_) (fun cdv A outer s H vs Q E hr h => ?_)
  · obtain ⟨p, dx, L, n, rfl, _⟩ := h
    rfl
  · obtain ⟨p, dx, L, n, rfl, hp, hn, hl, hs, qo, qb⟩ := h
    refine ⟨_, (pss_cons (ps_set (i := 2) sc_read_choice.nd rfl (.inl rfl) (pe_lst (pa_cons (pe_callD D_read_row (hr.mono (by first | decide | omega)) rfl (passes_call (takes_of rfl rfl rfl rfl) (fun _ _ _ _ h => h)) (pa_cons (pv 0) (pa_cons (pv 1) pa_nil))) pa_nil)))
      (pss_cons (ps_while (passes_of rfl) (pt_cmpR op_eq (pe_methD0 (pv 0) T.cl_Tape D_Tape_sign (hr.mono (by first | decide | omega)) pass0) pe_str (nomark _)) (pss_cons (ps_expr (pe_methD0 (pv 0) T.cl_Tape D_Tape_step (hr.mono (by first | decide | omega)) pass0))
      (pss_one (ps_expr (pe_bm PySem.F.plainAttrs_list PySem.F.slot_list_append PySem.F.type_list_append mt_append (pv 2) (pa_cons (pe_callD D_read_row (hr.mono (by first | decide | omega)) rfl (passes_call (takes_of rfl rfl rfl rfl) (fun _ _ _ _ h => h)) (pa_cons (pv 0) (pa_cons (pv 1) pa_nil))) pa_nil))))))
      (pss_one (ps_ret (pe_callD D_joined (hr.mono (by first | decide | omega)) rfl pass0 (pa_cons pe_str (pa_cons (pv 2) pa_nil))))))), ?_⟩
    refine ⟨_, rfl, _, rfl, p, dx, L, n, rfl, hp, hn, hl, hs, fun t1 n1 hm1 v1 H1 hlt1 hle1 k1 e1 hA => ?_, fun n1 d H1 hm hle k1 ed => ?_⟩
    rotate_left
    · exact qb n1 d H1 (by unfold choiceM; rw [hm]) hle k1 ed
    refine ⟨by show 1 ≤ sizeLine; decide +kernel, fun l hl1 => ?_⟩
    have hlp : l ≠ p := fun e => by rw [e, e1] at hl1; cases hl1
    have hlH : H l = none := by
      cases z : H l with
      | none => rfl
      | some o => rw [k1 l o hlp z] at hl1; cases hl1
    have s1 : Same H1 (upd H1 l (.lst [v1])) := same_new hl1
    have hm0 : choiceM (subM d) (L.drop n) = finT .or (choiceLoop (subM d) ((L.drop n1).length + 1) [t1] (L.drop n1)) := by
      unfold choiceM
      rw [hm1]
    refine ⟨fun m σ H' => ∃ n2 ts xs f, σ = [some (.ref p), some (.int (dp d)), some (.ref l)] ∧ m = L.length - n2 ∧ n < n2 ∧ n2 ≤ L.length ∧ Kp p H H' ∧ H' p = some (.ins (CT K) dx (tapeF L n2)) ∧ H' l = some (.lst xs) ∧ xs.length ≤ n2 ∧ DtA H' xs (Tr.datas ts) ∧
      choiceM (subM d) (L.drop n) = finT .or (choiceLoop (subM d) (f + 1) ts (L.drop n2)) ∧ L.length - n2 ≤ f,
      ⟨_, n1, [t1], [v1], _, rfl, rfl, by omega, hle1, k1.trans (Kp.of s1), s1 _ _ e1, upd_same, by show 1 ≤ n1; omega, .cons (hA.mono (TupK.of s1)) .nil, hm0, by rw [List.length_drop]; exact Nat.le_refl _⟩, ?_⟩
    rintro m σ H2 ⟨n2, ts, xs, f, rfl, rfl, h2, h2l, k2, e2, el, hx, hd, hm2, hf⟩
    refine ⟨_, rfl, p, dx, _, rfl, e2, (tape_m L n2).1, p, dx, L, n2, rfl, e2, hl, ?_⟩
    refine ⟨rfl, _, rfl, if_str (b := [124]) (by decide +kernel) (fun e => ?_) (fun e => ?_)⟩
    · obtain ⟨r, er⟩ := sg_one e
      obtain ⟨h3, h4, _⟩ := drop_cons er
      have hmI : choiceLoop (subM d) (f + 1) ts (L.drop n2) = (match rowM (subM d) (L.drop (n2 + 1)) with
          | .bad x => .bad x
          | .ok t r1 => choiceLoop (subM d) f (ts ++ [t]) r1) := by
        show (if sg (L.drop n2) = [124] then _ else _) = _
        rw [if_pos e, drop_tail]
        all_goals (cases rowM (subM d) (L.drop (n2 + 1)) <;> rfl)
      refine ⟨_, fun σ' H' hN => hN, ?_⟩
      refine ⟨_, rfl, p, dx, _, rfl, e2, (tape_m L n2).2.1, p, dx, L, n2, rfl, e2, hl, fun H2' k2' e2' => ?_⟩
      have el2 := k2' _ _ hlp el
      refine ⟨_, rfl, .inl ⟨rfl, _, SqL.of el2⟩, _, rfl, _, rfl, p, dx, L, n2 + 1, rfl, e2', h3, hl, hs, fun t3 n3 hm3 v3 H3 hlt3 hle3 k3 e3 hA3 => ?_, fun n3 d H3 hm hle k3 ed => ?_⟩
      rotate_left
      · exact qb n3 d H3 (by rw [hm2, hmI, hm] <;> rfl) hle ((k2.trans k2').trans k3) ed
      have el3 := k3 _ _ hlp el2
      have tk2 : TupK H2 H2' := k2'.tup fun zs z => by rw [e2] at z; cases z
      have tk3 : TupK H2' H3 := k3.tup fun zs z => by rw [e2'] at z; cases z
      have tl : TupK H3 (upd H3 l (.lst (xs ++ [v3]))) := fun b zs hb => by
        rw [upd_ne (fun e => by rw [e, el3] at hb; cases hb)]
        exact hb
      refine ⟨l, xs, v3, rfl, rfl, el3, sz_lt (by omega), ?_⟩
      obtain ⟨f', rfl⟩ : ∃ f', f = f' + 1 := ⟨f - 1, by omega⟩
      rw [hm3] at hmI
      refine ⟨_, ?_, n3, ts ++ [t3], xs ++ [v3], f', rfl, rfl, by omega, hle3, fun b o hb hH => ?_, ?_, upd_same, ?_, ?_, ?_, ?_⟩
      · omega
      · rw [upd_ne (ne_of_none hH hlH)]
        exact k3 b o hb (k2' b o hb (k2 b o hb hH))
      · rw [upd_ne (Ne.symm hlp)]
        exact e3
      · rw [List.length_append]
        show xs.length + 1 ≤ n3
        omega
      · rw [datas_append]
        exact (hd.mono ((tk2.trans tk3).trans tl)).append (.cons (hA3.mono tl) .nil)
      · rw [hm2, hmI]
      · omega
    · have hmE : choiceM (subM d) (L.drop n) = .ok (joinT .or ts) (L.drop n2) := by
        rw [hm2]
        show finT .or (if sg (L.drop n2) = [124] then _ else .ok ts (L.drop n2)) = _
        rw [if_neg e] <;> rfl
      refine ⟨_, rfl, _, l, xs, ts, .or, rfl, SqL.of el, hd, by omega, fun _ => rfl, fun v H3 s3 hv => ?_⟩
      exact qo _ n2 hmE v H3 h2 h2l (k2.trans (Kp.of s3)) (s3 _ _ e2) hv
theorem choice_of (T : Top w K mg) (d k : Nat) (hk : 8 ≤ k + 1) (D : Df P w K mg base (L2.CX P w) k "read_choice" ["tape", "deep"] (spSub (CT K) (CB K) d)) :
    Df P w K mg base (L2.CX P w) (k + 4) "read_choice" ["tape", "deep"] (spRd (CT K) (CB K) [.int (dp d)] (choiceM (subM d)) AtT) :=
  ok_read_choice T d (k + 3) (by omega) (ok_read_row T d (k + 2) (by omega) (ok_read_repeat T d (k + 1) (by omega) (ok_read_atom T d k hk D)))
theorem choice_all (T : Top w K mg) : ∀ d, Df P w K mg base (L2.CX P w) (11 + 4 * d) "read_choice" ["tape", "deep"] (spRd (CT K) (CB K) [.int (dp d)] (choiceM (subM d)) AtT)
  | 0 => choice_of T 0 7 (by omega) (Df.never 7 T.f_read_choice T.g_read_choice b_read_choice)
  | d + 1 => by
    have ih := choice_all T d
    rw [← choiceD_eq] at ih
    exact choice_of T (d + 1) (11 + 4 * d) (by omega) ih
theorem ok_read (T : Top w K mg) : Df P w K mg base (L2.CX P w) 36 "read" ["text"] (spRead (CB K)) := by
  have D_Tape := ok_tape_init (P := P) (base := base) T
  have D_Tape_sign := ok_sign (P := P) (base := base) T
  have D_Tape_refuse := ok_refuse (P := P) (base := base) T
  have D_read_choice := choice_all (P := P) (base := base) T 6
  rw [← choiceD_eq] at D_read_choice
  refine Df.ofX T.f_read T.g_read sc_read b_read (fun vs H Q E h => ?_) (fun cdv A outer s H vs Q E hr h => ?_)
  · obtain ⟨L, rfl, _⟩ := h
    rfl
  · obtain ⟨L, rfl, hl, hs, qo, qb⟩ := h
    refine ⟨_, (pss_cons (ps_set (i := 1) sc_read.nd rfl (.inl rfl) (pe_makeD T.mk_Tape D_Tape (hr.mono (by first | decide | omega)) rfl T.g_Tape pass0 (pa_cons (pv 0) pa_nil)))
      (pss_cons (ps_set (i := 2) sc_read.nd rfl (.inl rfl) (pe_callD D_read_choice (hr.mono (by first | decide | omega)) rfl (passes_call (takes_of rfl rfl rfl rfl) (fun _ _ _ _ h => h)) (pa_cons (pv 1) (pa_cons pe_int pa_nil))))
      (pss_cons (ps_if (pt_cmpR op_ne (pe_methD0 (pv 1) T.cl_Tape D_Tape_sign (hr.mono (by first | decide | omega)) pass0) pe_str (nomark _)) (pss_one (ps_expr (pe_methD0 (pv 1) T.cl_Tape D_Tape_refuse (hr.mono (by first | decide | omega)) (passes_call (takes_of rfl rfl rfl rfl) (fun _ _ _ _ h => h))))) pss_nil)
      (pss_one (ps_ret (pv 2)))))), ?_⟩
    refine ⟨_, rfl, fun p dx hp hdx hne => ?_⟩
    have sp : Same H (upd (upd H dx (.own p)) p (.ins (CT K) dx [])) := (same_new hdx).trans (same_new (by rw [upd_ne (Ne.symm hne)]; exact hp))
    refine ⟨p, dx, L, rfl, upd_same, fun H1 k1 e1 => ⟨rfl, ?_⟩⟩
    have s1 : Same H H1 := fun b o hb => k1 b o (ne_of_none hb hp) (sp b o hb)
    have kp : ∀ {H2}, Kp p H1 H2 → Same H H2 := fun k b o hb => k b o (ne_of_none hb hp) (s1 b o hb)
    refine ⟨_, rfl, p, dx, L, 0, rfl, e1, Nat.zero_le _, hl, hs, fun t n2 hm v H2 hlt hle k2 e2 hA => ?_, fun n2 d H2 hm hle k2 ed => ?_⟩
    rotate_left
    · exact qb n2 d H2 (by unfold readM; rw [List.drop_zero] at hm; rw [hm]) hle (kp k2) ed
    rw [List.drop_zero] at hm
    refine ⟨_, rfl, p, dx, _, rfl, e2, (tape_m L n2).1, p, dx, L, n2, rfl, e2, hl, ?_⟩
    refine ⟨rfl, _, rfl, if_nstr (b := []) (by decide +kernel) (fun e => ?_) (fun e => ?_)⟩
    · exact ⟨_, rfl, qo t (L.drop n2) (by unfold readM; rw [hm]; exact if_pos e) v H2 (kp k2) hA⟩
    · refine ⟨_, rfl, p, dx, _, rfl, e2, (tape_m L n2).2.2.1, p, dx, L, n2, rfl, e2, fun d H3 s3 e3 => ?_⟩
      exact qb n2 d H3 (by unfold readM; rw [hm]; exact if_neg e) hle ((kp k2).trans s3) e3
end
end TW

set_option maxHeartbeats 1000000
namespace TW
open PySem PySem.Spec PyProof.Rows L2
/-! ### writing.py -/
def ICs : List Nat := [93, 45, 92]
def turnW (ks : List Nat) (c : Nat) : List Nat := if c ∈ ks then [92, c] else [c]
def stepS (acc : List (List Nat)) (c : Nat) : List (List Nat) := match acc.getLast? with
  | none => [[c]]
  | some s => if ix c = ix (s.getLastD 0) + 1 then acc.dropLast ++ [s ++ [c]] else acc ++ [[c]]
def stretchM (s : List Nat) : List (List Nat) := s.foldl stepS []
def itemW (st : List Nat) : List Nat := if st.length > 2 then turnW ICs (st.headD 0) ++ [45] ++ turnW ICs (st.getLastD 0) else st.flatMap (turnW ICs)
def itemsW (s : List Nat) : List Nat := (stretchM s).flatMap itemW
def plainW (s : List Nat) : List Nat := if sg s = [94] then [91] ++ itemsW (s.drop 1) ++ [94, 93] else [91] ++ itemsW s ++ [93]
def roundW (s : List Nat) : List Nat := [91, 94] ++ itemsW (oth s) ++ [93]
def oneW (s : List Nat) : List Nat := if s.length = 1 then turnW KEPTs (s.headD 0) else if s = oth [10] then [46]
  else if s = [] ∨ (s ≠ SG ∧ (roundW s).length < (plainW s).length) then roundW s else plainW s
theorem turnW_len (ks : List Nat) (c : Nat) : (turnW ks c).length ≤ 2 := by
  unfold turnW
  split <;> simp
/-! the stretches: none is empty, all signs of them are signs of the text, in all as many -/
structure StOk (done : List Nat) (acc : List (List Nat)) : Prop where
  ne : ∀ s ∈ acc, s ≠ []
  fl : acc.flatten = done
theorem getLast?_snoc {α : Type} (l : List α) (x : α) : (l ++ [x]).getLast? = some x := by simp
theorem stepS_ok {done : List Nat} {acc : List (List Nat)} (h : StOk done acc) (c : Nat) : StOk (done ++ [c]) (stepS acc c) := by
  unfold stepS
  cases e : acc.getLast? with
  | none =>
    have : acc = [] := List.getLast?_eq_none_iff.mp e
    subst this
    exact ⟨fun s hs => by rw [List.mem_singleton.mp hs]; exact List.cons_ne_nil _ _, by rw [← h.fl]; rfl⟩
  | some s =>
    obtain ⟨ys, rfl⟩ : ∃ ys, acc = ys ++ [s] := by
      obtain ⟨ys, hy⟩ := List.getLast?_eq_some_iff.mp e
      exact ⟨ys, hy⟩
    have hf := h.fl
    rw [List.flatten_append] at hf
    show StOk _ (if ix c = ix (s.getLastD 0) + 1 then (ys ++ [s]).dropLast ++ [s ++ [c]] else (ys ++ [s]) ++ [[c]])
    split
    · rw [List.dropLast_concat]
      refine ⟨fun t ht => ?_, ?_⟩
      · rcases List.mem_append.mp ht with q | q
        · exact h.ne t (List.mem_append_left _ q)
        · rw [List.mem_singleton.mp q]
          simp
      · rw [List.flatten_append, ← hf]
        simp
    · refine ⟨fun t ht => ?_, ?_⟩
      · rcases List.mem_append.mp ht with q | q
        · exact h.ne t q
        · rw [List.mem_singleton.mp q]
          simp
      · rw [List.flatten_append, List.flatten_append, ← hf]
        simp
theorem stretch_take (s : List Nat) : ∀ (done : List Nat) (acc : List (List Nat)), StOk done acc → StOk (done ++ s) (s.foldl stepS acc) := by
  induction s with
  | nil => intro done acc h; rw [List.append_nil]; exact h
  | cons c r ih =>
    intro done acc h
    have := ih (done ++ [c]) (stepS acc c) (stepS_ok h c)
    rw [List.append_assoc] at this
    exact this
theorem stretch_ok (s : List Nat) : StOk s (stretchM s) := stretch_take s [] [] ⟨fun _ h => (nomatch h), rfl⟩
theorem length_flatten_ge : ∀ {l : List (List Nat)}, (∀ s ∈ l, s ≠ []) → l.length ≤ l.flatten.length
  | [], _ => Nat.zero_le _
  | a :: r, h => by
    have h1 : a ≠ [] := h a List.mem_cons_self
    have h2 : 0 < a.length := List.length_pos_iff.mpr h1
    have h3 := length_flatten_ge (l := r) (fun s hs => h s (List.mem_cons_of_mem _ hs))
    rw [List.flatten_cons, List.length_append, List.length_cons]
    omega
theorem flatMap_len2 (f : Nat → List Nat) (hf : ∀ c, (f c).length ≤ 2) : ∀ l : List Nat, (l.flatMap f).length ≤ 2 * l.length
  | [] => Nat.zero_le _
  | a :: r => by
    have h := flatMap_len2 f hf r
    have h2 := hf a
    rw [List.flatMap_cons, List.length_append, List.length_cons]
    omega
theorem itemW_len (st : List Nat) : (itemW st).length ≤ 2 * st.length := by
  unfold itemW
  split
  · rename_i h
    have h1 := turnW_len ICs (st.headD 0)
    have h2 := turnW_len ICs (st.getLastD 0)
    rw [List.length_append, List.length_append]
    show _ + 1 + _ ≤ _
    omega
  · exact flatMap_len2 _ (turnW_len ICs) st
theorem itemsW_lens : ∀ l : List (List Nat), (l.flatMap itemW).length ≤ 2 * l.flatten.length
  | [] => Nat.zero_le _
  | a :: r => by
    have h := itemsW_lens r
    have h2 := itemW_len a
    rw [List.flatMap_cons, List.length_append, List.flatten_cons, List.length_append]
    omega
theorem itemsW_len (s : List Nat) : (itemsW s).length ≤ 2 * s.length := by
  have h := itemsW_lens (stretchM s)
  rw [(stretch_ok s).fl] at h
  exact h
def spTurnW : Sp := fun vs H Q _ => ∃ c ks, vs = [.str (mk [c]), .str (mk ks)] ∧ Q (.str (mk (turnW ks c))) H
def spStretch : Sp := fun vs H Q _ => ∃ s, vs = [.str (mk s)] ∧ (∀ c ∈ s, c ∈ SG) ∧ s.length ≤ 1000 ∧ ∀ l H', H l = none → Same H H' → H' l = some (.lst ((stretchM s).map fun x => .str (mk x))) → Q (.ref l) H'
def spItems : Sp := fun vs H Q _ => ∃ s, vs = [.str (mk s)] ∧ (∀ c ∈ s, c ∈ SG) ∧ s.length ≤ 1000 ∧ ∀ H', Same H H' → Q (.str (mk (itemsW s))) H'
def spOneW : Sp := fun vs H Q _ => ∃ s, vs = [.str (mk s)] ∧ (∀ c ∈ s, c ∈ SG) ∧ s.length ≤ 1000 ∧ ∀ H', Same H H' → Q (.str (mk (oneW s))) H'
section
variable {P : Program} {w : World} {K : PySem.W.Frag} {mg : Str → Option Value} {base : Heap}
theorem ok_turned (T : Top w K mg) : Df P w K mg base CX0 1 "turned" ["sign", "kept"] spTurnW := by
  refine Df.of T.f_turned T.g_turned sc_turned b_turned (fun vs H Q E h => ?_) (fun cdv A outer s H vs Q E hr h => ?_)
  · obtain ⟨c, ks, rfl, _⟩ := h
    rfl
  · obtain ⟨c, ks, rfl, q⟩ := h
    refine ⟨_, (pss_cons (ps_if (pt_cmpR op_in_sign (pv 0) (pv 1) rfl) (pss_one (ps_ret (pe_op op_add_str pe_str (pv 0)))) pss_nil)
      (pss_one (ps_ret (pv 0)))), ?_⟩
    refine ⟨_, rfl, _, rfl, c, mk ks, rfl, rfl, _, rfl, if_dec (fun hin => ?_) (fun hin => ?_)⟩
    · have hin : c ∈ ks := hin
      refine ⟨_, rfl, mk [92], mk [c], congrArg V.str (by decide +kernel), rfl, by show 2 ≤ sizeLine; decide +kernel, ?_⟩
      rw [add_mk]
      unfold turnW at q
      rw [if_pos hin] at q
      exact q
    · have hin : ¬ c ∈ ks := hin
      unfold turnW at q
      rw [if_neg hin] at q
      exact ⟨_, rfl, q⟩
end
end TW

set_option maxHeartbeats 1000000
namespace TW
open PySem PySem.Spec PyProof.Rows L2
theorem for_str {l : List Nat} {g : TG} {tb : TS} {D : Ends} {σ : L2.St} {H : Hp} (Pv : Nat → L2.St → Hp → Prop) (h0 : Pv 0 σ H)
    (hs : ∀ i c σ H, l[i]? = some c → Pv i σ H → g (.str (mk [c])) σ H fun σ2 H2 => tb { D with nx := Pv (i + 1), ct := Pv (i + 1), bk := D.nx } σ2 H2) (hd : ∀ σ H, Pv l.length σ H → D.nx σ H) :
    ∃ W : Nat → Nat → L2.St → Hp → Prop, (∃ m, W 0 m σ H) ∧ ∀ i m σ H, W i m σ H →
      ((Its (mk l)).stop i H ∧ D.nx σ H) ∨ ((Its (mk l)).go i H ∧ ∃ N : L2.St → Hp → Prop, (∀ σ' H', N σ' H' → ∃ m', m' < m ∧ W (i + 1) m' σ' H') ∧ ∀ x H', (Its (mk l)).yld i H x H' → g x σ H' fun σ2 H2 => tb { D with nx := N, ct := N, bk := D.nx } σ2 H2) := by
  refine ⟨fun i m σ H => m = l.length - i ∧ i ≤ l.length ∧ Pv i σ H, ⟨l.length, by simp, Nat.zero_le _, h0⟩, ?_⟩
  rintro i m σ H ⟨rfl, hi, p⟩
  by_cases hlt : i < l.length
  · refine .inr ⟨hlt, Pv (i + 1), fun σ' H' p' => ⟨l.length - (i + 1), by omega, rfl, hlt, p'⟩, fun x H' y => ?_⟩
    obtain ⟨rfl, c, hc, rfl⟩ := y
    have hc' : l[i]? = some c := by
      have : l.toArray[i]? = some c := hc
      simpa using this
    exact hs i c σ H' hc' p
  · have e : i = l.length := by omega
    subst e
    exact .inl ⟨Nat.le_refl _, hd σ H p⟩
theorem take_succ_of {l : List Nat} {i c : Nat} (h : l[i]? = some c) : l.take (i + 1) = l.take i ++ [c] := by
  rw [List.take_add_one, h] <;> rfl
theorem last_neg {α : Type} (xs : List α) (v : α) : ixN (xs ++ [v]).length (-1) = some xs.length := by
  unfold ixN
  rw [if_neg (by decide), List.length_append]
  show (if -(((xs.length + 1 : Nat) : Int)) ≤ -1 then some (-1 + ((xs.length + 1 : Nat) : Int)).toNat else none) = _
  rw [if_pos (by omega)]
  congr 1
  omega
theorem ix_pred {c : Nat} (h : c ∈ SG) : (ix c : Int) < 95 := by
  have := ix_lt c h
  omega
abbrev strV (ls : List (List Nat)) : List V := ls.map fun x => .str (mk x)
section
variable {P : Program} {w : World} {K : PySem.W.Frag} {mg : Str → Option Value} {base : Heap}
theorem ok_stretches (T : Top w K mg) : Df P w K mg base CX0 2 "stretches" ["signs"] spStretch := by
  have D_place_of := ok_place_of (P := P) (base := base) T
  refine Df.of T.f_stretches T.g_stretches sc_stretches b_stretches (fun vs H Q E h => ?_) (fun cdv A outer s H vs Q E hr h => ?_)
  · obtain ⟨s, rfl, _⟩ := h
    rfl
  · obtain ⟨s, rfl, hs, hl, q⟩ := h
    refine ⟨_, (pss_cons (ps_set (i := 1) sc_stretches.nd rfl (.inl rfl) (pe_lst pa_nil))
      (pss_cons (ps_for PassesOwn.never rfl (pi_str (pv 0)) (pg_name (i := 2) sc_stretches.nd rfl (.inl rfl)) (pss_one (ps_if (PW.pt (pw_and (pt_truth (pv 1) (by intro _; rfl)) (pw_and1 (pt_cmpR op_eq (pe_callD D_place_of (hr.mono (by first | decide | omega)) rfl pass0 (pa_cons (pv 2) pa_nil)) (pe_op op_add (pe_callD D_place_of (hr.mono (by first | decide | omega)) rfl pass0 (pa_cons (pe_ix ix_str (pe_ix ix_list (pv 1) (pe_un un_neg pe_int) (fun _ _ => rfl)) (pe_un un_neg pe_int) (fun _ _ => rfl)) pa_nil)) pe_int) (nomark _))))) (pss_one (ps_asg (pe_op op_add_str (pe_ix ix_list (pv 1) (pe_un un_neg pe_int) (fun _ _ => rfl)) (pv 2)) (pg_sub (pv 1) (pe_un un_neg pe_int) set_list))) (pss_one (ps_expr (pe_bm PySem.F.plainAttrs_list PySem.F.slot_list_append PySem.F.type_list_append mt_append (pv 1) (pa_cons (pv 2) pa_nil)))))))
      (pss_one (ps_ret (pv 1))))), ?_⟩
    refine ⟨by show 0 ≤ sizeLine; decide +kernel, fun l hl0 => ?_⟩
    refine ⟨_, rfl, mk s, rfl, for_str (fun i σ H' => ∃ x, σ = [some (.str (mk s)), some (.ref l), x] ∧ Same H H' ∧ H' l = some (.lst (strV ((s.take i).foldl stepS [])))) ?_ ?_ ?_⟩
    · exact ⟨none, rfl, same_new hl0, upd_same⟩
    · rintro i c σ H2 hi ⟨x, rfl, s2, el⟩
      have hstep : (s.take (i + 1)).foldl stepS [] = stepS ((s.take i).foldl stepS []) c := by
        rw [take_succ_of hi, List.foldl_append] <;> rfl
      have ok : StOk (s.take i) ((s.take i).foldl stepS []) := stretch_ok (s.take i)
      have hcS : c ∈ SG := hs c (List.mem_of_getElem? hi)
      have hile : i < s.length := by
        rcases Nat.lt_or_ge i s.length with z | z
        · exact z
        · rw [List.getElem?_eq_none z] at hi; cases hi
      have hlen : ((s.take i).foldl stepS []).length ≤ 1000 := by
        have h1 := length_flatten_ge ok.ne
        rw [ok.fl, List.length_take] at h1
        omega
      have hmem : ∀ t ∈ (s.take i).foldl stepS [], ∀ z ∈ t, z ∈ SG := fun t ht z hz => by
        have : z ∈ s.take i := by
          rw [← ok.fl]
          exact List.mem_flatten.mpr ⟨t, ht, hz⟩
        exact hs z (List.mem_of_mem_take this)
      generalize (s.take i).foldl stepS [] = acc at el hstep ok hlen hmem
      -- if found and ..
      refine ⟨_, rfl, _, .inl ⟨_, SqL.of el, rfl⟩, ?_⟩
      rcases List.eq_nil_or_concat acc with rfl | ⟨ys, t, rfl⟩
      · -- found is empty
        refine ⟨_, rfl, .inl ⟨rfl, _, SqL.of el⟩, _, rfl, l, _, _, rfl, rfl, el, by show 0 < sizeLine; decide +kernel, ?_⟩
        refine ⟨_, rfl, Same.mut s2 hl0, ?_⟩
        rw [upd_same, hstep]
        rfl
      · have et : t ≠ [] := ok.ne t (by simp)
        obtain ⟨t', z, rfl⟩ : ∃ t' z, t = t' ++ [z] := by
          rcases List.eq_nil_or_concat t with h | ⟨t', z, h⟩
          · exact absurd h et
          · exact ⟨t', z, by rw [h, List.concat_eq_append]⟩
        rw [List.concat_eq_append] at el hstep hlen hmem
        have hzS : z ∈ SG := hmem (t' ++ [z]) (by simp) z (by simp)
        have el' : H2 l = some (.lst (strV ys ++ [.str (mk (t' ++ [z]))])) := by
          rw [el]; simp [strV]
        have hst : stepS (ys ++ [t' ++ [z]]) c = if ix c = ix z + 1 then ys ++ [t' ++ [z] ++ [c]] else (ys ++ [t' ++ [z]]) ++ [[c]] := by
          unfold stepS
          rw [getLast?_snoc]
          show (if ix c = ix ((t' ++ [z]).getLastD 0) + 1 then (ys ++ [t' ++ [z]]).dropLast ++ [t' ++ [z] ++ [c]] else _) = _
          rw [List.dropLast_concat, show (t' ++ [z]).getLastD 0 = z by simp]
        have htr : (!(strV (ys.concat (t' ++ [z]))).isEmpty) = true := by
          rw [List.concat_eq_append]
          cases ys <;> rfl
        rw [htr]
        have lst1 : (t' ++ [z]).length ≤ 1000 := by
          have : (t' ++ [z]).length ≤ (ys ++ [t' ++ [z]]).flatten.length := by
            rw [List.flatten_append, List.flatten_cons, List.flatten_nil, List.append_nil, List.length_append (as := ys.flatten)]
            omega
          rw [List.concat_eq_append] at ok
          rw [ok.fl, List.length_take] at this
          omega
        refine ⟨_, rfl, c, rfl, hcS, ?_⟩
        refine ⟨_, rfl, 1, rfl, l, _, _, _, rfl, rfl, SqL.of el', atI_last _ _, ?_⟩
        refine ⟨1, rfl, mk (t' ++ [z]), -1, z, rfl, rfl, by rw [len_mk]; exact sz_of (by omega), atI_last t' z, ?_⟩
        refine ⟨z, rfl, hzS, _, _, rfl, rfl, rfl, _, rfl, if_dec (fun e => ?_) (fun e => ?_)⟩
        · have e' : ix c = ix z + 1 := by
            have := V.int.inj e
            omega
          refine ⟨_, rfl, 1, rfl, l, _, _, _, rfl, rfl, SqL.of el', atI_last _ _, ?_⟩
          refine ⟨_, rfl, mk (t' ++ [z]), mk [c], rfl, rfl, ?_, ?_⟩
          · rw [len_mk, len_mk]
            show (t' ++ [z]).length + 1 ≤ sizeLine
            exact sz_of (by omega)
          · rw [add_mk]
            refine ⟨_, rfl, 1, rfl, l, _, _, _, rfl, rfl, el', last_neg _ _, ?_⟩
            refine ⟨_, rfl, Same.mut s2 hl0, ?_⟩
            rw [upd_same, hstep, hst, if_pos e', List.set_append_right _ _ (Nat.le_refl _), Nat.sub_self]
            simp [strV]
        · have e' : ¬ ix c = ix z + 1 := fun h => e (congrArg V.int (by omega))
          refine ⟨_, rfl, .inl ⟨rfl, _, SqL.of el'⟩, _, rfl, l, _, _, rfl, rfl, el', ?_, ?_⟩
          · rw [List.length_append, List.length_map]
            rw [List.length_append] at hlen
            exact sz_lt (by simp at hlen ⊢; omega)
          · refine ⟨_, rfl, Same.mut s2 hl0, ?_⟩
            rw [upd_same, hstep, hst, if_neg e']
            simp [strV]
    · rintro σ H2 ⟨x, rfl, s2, el⟩
      rw [List.take_length] at el
      exact ⟨_, rfl, q l H2 hl0 s2 el⟩
end
end TW

set_option maxHeartbeats 1000000
namespace TW
open PySem PySem.Spec PyProof.Rows L2
theorem ic_mk : c_IN_CLASS = mk ICs := by decide +kernel
theorem kept_mk : c_KEPT = mk KEPTs := by decide +kernel
theorem dash_mk : (("-" : String) : Str) = mk [45] := by decide +kernel
theorem sz_mk {l : List Nat} (h : l.length ≤ 100000) : (mk l).length ≤ sizeLine := sz_of h
theorem sz_add {a b : List Nat} (h : a.length + b.length ≤ 100000) : (mk a).length + (mk b).length ≤ sizeLine := sz_of h
theorem join_mk (ls : List (List Nat)) (h : ls.flatten.length ≤ 100000) : ((ls.map mk).map (·.length)).sum + (ls.map mk).length * (mk []).length ≤ 16777216 := by
  have e : ∀ ls : List (List Nat), ((ls.map mk).map (·.length)).sum = ls.flatten.length := by
    intro ls
    induction ls with
    | nil => rfl
    | cons a r ih =>
      rw [List.map_cons, List.map_cons, List.sum_cons, ih, List.flatten_cons, List.length_append] <;> rfl
  rw [e, show (mk []).length = 0 from rfl]
  omega
theorem filter_true {α : Type} (l : List α) : l.filter (fun _ => true) = l := List.filter_eq_self.mpr fun _ _ => rfl
theorem flatten_map_flatMap {α : Type} (f : α → List Nat) (l : List α) : (l.map f).flatten = l.flatMap f := by
  induction l with
  | nil => rfl
  | cons a r ih => rw [List.map_cons, List.flatten_cons, ih, List.flatMap_cons]
section
variable {P : Program} {w : World} {K : PySem.W.Frag} {mg : Str → Option Value} {base : Heap}
theorem ok_items (T : Top w K mg) : Df P w K mg base CX0 3 "items" ["signs"] spItems := by
  have D_stretches := ok_stretches (P := P) (base := base) T
  have D_turned := ok_turned (P := P) (base := base) T
  refine Df.of T.f_items T.g_items sc_items b_items (fun vs H Q E h => ?_) (fun cdv A outer s H vs Q E hr h => ?_)
  · obtain ⟨s, rfl, _⟩ := h
    rfl
  · obtain ⟨s, rfl, hs, hl, q⟩ := h
    refine ⟨_, (pss_cons (ps_set (i := 1) sc_items.nd rfl (.inl rfl) pe_str)
      (pss_cons (ps_for PassesOwn.never rfl (pi_list (pe_callD D_stretches (hr.mono (by first | decide | omega)) rfl pass0 (pa_cons (pv 0) pa_nil))) (pg_name (i := 2) sc_items.nd rfl (.inl rfl)) (pss_one (ps_if (pt_cmpR op_gt (pe_callB call_len_str rfl T.z_len boot_len (pa_cons (pv 2) pa_nil)) pe_int (nomark _)) (pss_one (ps_set (i := 1) sc_items.nd rfl (.inl rfl) (pe_op op_add_str (pe_op op_add_str (pe_op op_add_str (pv 1) (pe_callD D_turned (hr.mono (by first | decide | omega)) rfl pass0 (pa_cons (pe_ix ix_str (pv 2) pe_int (fun _ _ => rfl)) (pa_cons (pe_gstr rfl T.g_IN_CLASS) pa_nil)))) pe_str) (pe_callD D_turned (hr.mono (by first | decide | omega)) rfl pass0 (pa_cons (pe_ix ix_str (pv 2) (pe_un un_neg pe_int) (fun _ _ => rfl)) (pa_cons (pe_gstr rfl T.g_IN_CLASS) pa_nil)))))) (pss_one (ps_set (i := 1) sc_items.nd rfl (.inl rfl) (pe_op op_add_str (pv 1) (pe_join pe_str (pe_lc (own := [("sign", 3)]) (g := gName 3) rfl sc_items.nd (pi_str (pv 2)) (blkOk_by (own := [("sign", 3)]) (N := N_items) (sc := defScope s_items) (by decide +kernel)) (fun _ _ _ _ _ => pg_name (i := 3) sc_items.nd rfl (Or.inl rfl)) (fun _ _ _ _ _ => pts_nil) (fun _ _ _ _ _ => (pe_callD D_turned (hr.mono (by first | decide | omega)) rfl pass0 (pa_cons (pv 3) (pa_cons (pe_gstr rfl T.g_IN_CLASS) pa_nil))))))))))))
      (pss_one (ps_ret (pv 1))))), ?_⟩
    refine ⟨_, rfl, s, rfl, hs, hl, fun l H1 hl0 s1 el => ?_⟩
    refine ⟨l, rfl, ⟨_, SqL.of el⟩, for_list (K := K) (a := l) (xs := strV (stretchM s)) (fun i σ H' => ∃ x, σ = [some (.str (mk s)), some (.str (mk (((stretchM s).take i).flatMap itemW))), x, none] ∧ Same H1 H') ?_ ?_ ?_ ?_⟩
    · refine ⟨none, ?_, Same.refl _⟩
      rw [List.take_zero]
      show [_, some (V.str ("" : String)), _, _] = _
      rw [show (("" : String) : Str) = mk [] by decide +kernel] <;> rfl
    · rintro i σ H2 _ ⟨x, rfl, s2⟩
      exact s2.seq (SqL.of el)
    · rintro i y σ H2 hi ⟨x, rfl, s2⟩
      obtain ⟨st, hst, rfl⟩ : ∃ st, (stretchM s)[i]? = some st ∧ y = .str (mk st) := by
        rw [strV, List.getElem?_map] at hi
        cases e : (stretchM s)[i]? with
        | none => rw [e] at hi; cases hi
        | some st => rw [e] at hi; exact ⟨st, rfl, (Option.some.inj hi).symm⟩
      have hmem : st ∈ stretchM s := List.mem_of_getElem? hst
      have ok := stretch_ok s
      have hne : st ≠ [] := ok.ne st hmem
      have hsub : ∀ z ∈ st, z ∈ s := fun z hz => by
        have : z ∈ (stretchM s).flatten := List.mem_flatten.mpr ⟨st, hmem, hz⟩
        rw [ok.fl] at this
        exact this
      have hstep : ((stretchM s).take (i + 1)).flatMap itemW = ((stretchM s).take i).flatMap itemW ++ itemW st := by
        rw [List.take_add_one, hst, List.flatMap_append]
        show _ ++ (itemW st ++ []) = _
        rw [List.append_nil]
      have hacc : (((stretchM s).take i).flatMap itemW).length + (itemW st).length ≤ 2000 := by
        rw [← List.length_append, ← hstep]
        refine Nat.le_trans (itemsW_lens _) ?_
        have h1 : ((stretchM s).take (i + 1)).flatten.length ≤ (stretchM s).flatten.length := by
          have := congrArg List.length (congrArg List.flatten (List.take_append_drop (i + 1) (stretchM s)))
          rw [List.flatten_append, List.length_append] at this
          omega
        rw [ok.fl] at h1
        omega
      have hstl : st.length ≤ 1000 := by
        have h1 : st.length ≤ (stretchM s).flatten.length := by
          obtain ⟨a, b, e⟩ := List.append_of_mem hmem
          rw [e, List.flatten_append, List.flatten_cons, List.length_append, List.length_append]
          omega
        rw [ok.fl] at h1
        omega
      generalize hA : ((stretchM s).take i).flatMap itemW = acc at hstep hacc
      refine ⟨_, rfl, mk st, rfl, sz_mk (by omega), _, _, rfl, rfl, _, rfl, if_dec (fun e => ?_) (fun e => ?_)⟩
      · have hgt : st.length > 2 := by
          have : (2 : Int) < ((mk st).length : Int) := e
          rw [len_mk] at this
          omega
        have hW : itemW st = turnW ICs (st.headD 0) ++ [45] ++ turnW ICs (st.getLastD 0) := if_pos hgt
        have a0 : atI (mk st).cps.toList 0 = some (st.headD 0) := by
          show atI st 0 = _
          cases st with
          | nil => exact absurd rfl hne
          | cons c r => exact atI_nat (j := 0) rfl
        have aL : atI (mk st).cps.toList (-1) = some (st.getLastD 0) := by
          show atI st (-1) = _
          rcases List.eq_nil_or_concat st with h | ⟨t', z, h⟩
          · exact absurd h hne
          · rw [h, List.concat_eq_append, atI_last]
            simp
        have l1 := turnW_len ICs (st.headD 0)
        have l2 := turnW_len ICs (st.getLastD 0)
        refine ⟨_, rfl, _, rfl, mk st, 0, _, rfl, rfl, sz_mk (by omega), a0, st.headD 0, ICs, congrArg (fun z => [V.str (mk [st.headD 0]), V.str z]) ic_mk, ?_⟩
        refine ⟨mk acc, mk (turnW ICs (st.headD 0)), rfl, rfl, sz_add (by omega), ?_⟩
        rw [add_mk]
        refine ⟨mk _, mk [45], rfl, congrArg V.str dash_mk, sz_add (by rw [List.length_append]; show _ + 1 ≤ _; omega), ?_⟩
        rw [add_mk]
        refine ⟨_, rfl, 1, rfl, mk st, -1, _, rfl, rfl, sz_mk (by omega), aL, st.getLastD 0, ICs, congrArg (fun z => [V.str (mk [st.getLastD 0]), V.str z]) ic_mk, ?_⟩
        refine ⟨mk _, mk _, rfl, rfl, sz_add (by rw [List.length_append, List.length_append]; show _ + 1 + _ ≤ _; omega), ?_⟩
        rw [add_mk]
        refine ⟨some (.str (mk st)), ?_, s2⟩
        rw [hstep, hW, List.append_assoc acc, List.append_assoc acc]
        rfl
      · have hle : ¬ st.length > 2 := fun h => e (by show (2 : Int) < ((mk st).length : Int); rw [len_mk]; omega)
        have hW : itemW st = st.flatMap (turnW ICs) := if_neg hle
        refine ⟨_, rfl, ⟨_, rfl⟩, _, rfl, mk st, rfl, fun D hD => ?_⟩
        refine lc_ext (gives_str st H2) hD (sz_of (by omega)) (fun _ => true) (fun c v _ => v = .str (mk (turnW ICs c))) mono_const (fun x => rfl) ?_ ?_ ?_
        · rintro c hc x rfl H3 s3 Q1 q1
          exact q1 H3 (Same.refl _)
        · rintro c hc hf x rfl H3 s3 Q1 q1
          exact ⟨_, rfl, c, ICs, congrArg (fun z => [V.str (mk [c]), V.str z]) ic_mk, q1 _ H3 (Same.refl _) rfl⟩
        · intro H3 ys s3 e3 hR
          rw [filter_true] at hR
          have ey : ys = ((st.map (turnW ICs)).map mk).map V.str := by
            rw [RAll.map (f := fun c => V.str (mk (turnW ICs c))) hR, List.map_map, List.map_map] <;> rfl
          rw [ey] at e3
          refine ⟨_, D, _, rfl, rfl, .inl (SqL.of e3), join_mk _ (by rw [flatten_map_flatMap, ← hW]; omega), ?_⟩
          rw [show Txt.join (("" : String) : Str) _ = _ from join_nil (st.map (turnW ICs)), flatten_map_flatMap, ← hW]
          refine ⟨mk acc, mk (itemW st), rfl, rfl, sz_add (by omega), ?_⟩
          rw [add_mk]
          refine ⟨some (.str (mk st)), ?_, s2.trans s3⟩
          rw [hstep]
          rfl
    · rintro σ H2 ⟨x, rfl, s2⟩
      refine ⟨_, rfl, ?_⟩
      have e : (stretchM s).take (strV (stretchM s)).length = stretchM s := List.take_of_length_le (by rw [strV, List.length_map]; exact Nat.le_refl _)
      rw [e]
      exact q H2 (s1.trans s2)
end
end TW

set_option maxHeartbeats 1000000
namespace TW
open PySem PySem.Spec PyProof.Rows L2
theorem oth_len (s : List Nat) : (oth s).length ≤ 95 := Nat.le_trans (List.length_filter_le _ _) (by rw [SG_len]; exact Nat.le_refl _)
theorem oth_sg (s : List Nat) : ∀ c ∈ oth s, c ∈ SG := fun c h => (List.mem_filter.mp h).1
theorem inO_sg (s : List Nat) : ∀ c ∈ inO s, c ∈ SG := fun c h => (List.mem_filter.mp h).1
theorem cut_head (s : List Nat) : cutS (mk s) none (some (1 : Int)) = mk (sg s) := by
  have := cut_at s 0
  rw [List.drop_zero] at this
  rw [← this]
  unfold cutS
  rw [HT.sIx_none, show ((0 : Nat) : Int) = (0 : Int) from rfl]
  rfl
theorem cut_from1 (s : List Nat) : cutS (mk s) (some (1 : Int)) none = mk (s.drop 1) := by
  unfold cutS
  rw [HT.sIx_none, show (1 : Int) = ((1 : Nat) : Int) from rfl, HT.sIx_nat, len_mk]
  show mk _ = mk _
  rw [mk_iff]
  show List.take _ (List.drop _ s) = _
  cases s with
  | nil => rfl
  | cons a r =>
    rw [List.length_cons, show min 1 (r.length + 1) = 1 by omega]
    exact List.take_of_length_le (by simp)
section
variable {P : Program} {w : World} {K : PySem.W.Frag} {mg : Str → Option Value} {base : Heap}
theorem ok_one (T : Top w K mg) : Df P w K mg base CX0 4 "one" ["signs"] spOneW := by
  have D_items := ok_items (P := P) (base := base) T
  have D_turned := ok_turned (P := P) (base := base) T
  have D_others := ok_others (P := P) (base := base) T
  refine Df.of T.f_one T.g_one sc_one b_one (fun vs H Q E h => ?_) (fun cdv A outer s H vs Q E hr h => ?_)
  · obtain ⟨s, rfl, _⟩ := h
    rfl
  · obtain ⟨s, rfl, hs, hl, q⟩ := h
    refine ⟨_, (pss_cons (ps_if (pt_cmpR op_eq (pe_callB call_len_str rfl T.z_len boot_len (pa_cons (pv 0) pa_nil)) pe_int (nomark _)) (pss_one (ps_ret (pe_callD D_turned (hr.mono (by first | decide | omega)) rfl pass0 (pa_cons (pv 0) (pa_cons (pe_gstr rfl T.g_KEPT) pa_nil))))) pss_nil)
      (pss_cons (ps_if (pt_cmpR op_eq (pv 0) (pe_callD D_others (hr.mono (by first | decide | omega)) rfl pass0 (pa_cons pe_str pa_nil)) (nomark _)) (pss_one (ps_ret pe_str)) pss_nil)
      (pss_cons (ps_set (i := 1) sc_one.nd rfl (.inl rfl) (pe_op op_add_str (pe_op op_add_str pe_str (pe_callD D_items (hr.mono (by first | decide | omega)) rfl pass0 (pa_cons (pv 0) pa_nil))) pe_str))
      (C8.pss_cut (ps_if (pt_cmpR op_eq (pe_slice sl_str (pv 0) po_none (po_some pe_int)) pe_str (nomark _)) (pss_one (ps_set (i := 1) sc_one.nd rfl (.inl rfl) (pe_op op_add_str (pe_op op_add_str pe_str (pe_callD D_items (hr.mono (by first | decide | omega)) rfl pass0 (pa_cons (pe_slice sl_str (pv 0) (po_some pe_int) po_none) pa_nil))) pe_str))) pss_nil)
      (pss_cons (ps_set (i := 2) sc_one.nd rfl (.inl rfl) (pe_op op_add_str (pe_op op_add_str pe_str (pe_callD D_items (hr.mono (by first | decide | omega)) rfl pass0 (pa_cons (pe_callD D_others (hr.mono (by first | decide | omega)) rfl pass0 (pa_cons (pv 0) pa_nil)) pa_nil))) pe_str))
      (pss_cons (ps_if (PW.pt (pw_or (pt_cmpR op_eq (pv 0) pe_str (nomark _)) (pw_or1 (PW.pt (pw_and (pt_cmpR op_ne (pv 0) (pe_gstr rfl T.g_SIGNS) (nomark _)) (pw_and1 (pt_cmpR op_lt (pe_callB call_len_str rfl T.z_len boot_len (pa_cons (pv 2) pa_nil)) (pe_callB call_len_str rfl T.z_len boot_len (pa_cons (pv 1) pa_nil)) (nomark _)))))))) (pss_one (ps_ret (pv 2))) pss_nil)
      (pss_one (ps_ret (pv 1))))))))), ?_⟩
    refine ⟨_, rfl, mk s, rfl, sz_mk (by omega), rfl, _, rfl, if_dec (fun e => ?_) (fun e => ?_)⟩
    · have h1 : s.length = 1 := by
        have := V.int.inj e
        rw [len_mk] at this
        omega
      obtain ⟨c, rfl⟩ : ∃ c, s = [c] := by
        match s, h1 with
        | [c], _ => exact ⟨c, rfl⟩
      refine ⟨_, rfl, c, KEPTs, congrArg (fun z => [V.str (mk [c]), V.str z]) kept_mk, ?_⟩
      have := q H (Same.refl _)
      unfold oneW at this
      rw [if_pos h1] at this
      exact this
    have h1 : ¬ s.length = 1 := fun h => e (congrArg V.int (by rw [len_mk, h]; rfl))
    refine ⟨_, rfl, [10], congrArg (fun z => [V.str z]) (by decide +kernel), fun H1 s1 => ?_⟩
    refine ⟨rfl, _, rfl, if_str (b := oth [10]) rfl (fun e2 => ?_) (fun e2 => ?_)⟩
    · have := q H1 s1
      unfold oneW at this
      rw [if_neg h1, if_pos e2] at this
      show Q (V.str ("." : String)) H1
      rw [show (("." : String) : Str) = mk [46] by decide +kernel]
      exact this
    -- plain
    refine ⟨_, rfl, s, rfl, hs, hl, fun H2 s2 => ?_⟩
    have li := itemsW_len s
    refine ⟨mk [91], mk (itemsW s), congrArg V.str (by decide +kernel), rfl, sz_add (by show 1 + _ ≤ _; omega), ?_⟩
    rw [add_mk]
    refine ⟨mk _, mk [93], rfl, congrArg V.str (by decide +kernel), sz_add (by rw [List.length_append]; show 1 + _ + 1 ≤ _; omega), ?_⟩
    rw [add_mk]
    -- plain, where it begins with ^
    refine ⟨fun σ H' => σ = [some (.str (mk s)), some (.str (mk (plainW s))), none] ∧ Same H H', ?_, ?_⟩
    · refine ⟨_, rfl, 1, rfl, mk s, rfl, sz_mk (by omega), ?_⟩
      rw [cut_head]
      refine ⟨rfl, _, rfl, if_str (b := [94]) (by decide +kernel) (fun e3 => ?_) (fun e3 => ?_)⟩
      · refine ⟨_, rfl, 1, rfl, mk s, rfl, sz_mk (by omega), ?_⟩
        rw [cut_from1]
        refine ⟨s.drop 1, rfl, fun c hc => hs c (List.mem_of_mem_drop hc), by rw [List.length_drop]; omega, fun H3 s3 => ?_⟩
        have ld := itemsW_len (s.drop 1)
        rw [List.length_drop] at ld
        refine ⟨mk [91], mk (itemsW (s.drop 1)), congrArg V.str (by decide +kernel), rfl, sz_add (by show 1 + _ ≤ _; omega), ?_⟩
        rw [add_mk]
        refine ⟨mk _, mk [94, 93], rfl, congrArg V.str (by decide +kernel), sz_add (by rw [List.length_append]; show 1 + _ + 2 ≤ _; omega), ?_⟩
        rw [add_mk]
        refine ⟨?_, (s1.trans s2).trans s3⟩
        unfold plainW
        rw [if_pos e3]
        rfl
      · refine ⟨?_, s1.trans s2⟩
        unfold plainW
        rw [if_neg e3]
        rfl
    · rintro σ H3 ⟨rfl, s3⟩
      have lp : (plainW s).length ≤ 3000 := by
        unfold plainW
        have ld := itemsW_len s.tail
        rw [List.length_tail] at ld
        split <;> simp <;> omega
      refine ⟨_, rfl, s, rfl, fun H4 s4 => ?_⟩
      have lo := itemsW_len (oth s)
      have lo2 := oth_len s
      refine ⟨oth s, rfl, oth_sg s, by omega, fun H5 s5 => ?_⟩
      refine ⟨mk [91, 94], mk (itemsW (oth s)), congrArg V.str (by decide +kernel), rfl, sz_add (by show 2 + _ ≤ _; omega), ?_⟩
      rw [add_mk]
      refine ⟨mk _, mk [93], rfl, congrArg V.str (by decide +kernel), sz_add (by rw [List.length_append]; show 2 + _ + 1 ≤ _; omega), ?_⟩
      rw [add_mk]
      have hr : [91, 94] ++ itemsW (oth s) ++ [93] = roundW s := rfl
      rw [hr]
      have lr : (roundW s).length ≤ 3000 := by
        unfold roundW
        simp
        omega
      have qq := q H5 ((s3.trans s4).trans s5)
      unfold oneW at qq
      rw [if_neg h1, if_neg e2] at qq
      refine ⟨_, rfl, rfl, _, rfl, if_str (b := []) (by decide +kernel) (fun e4 => ?_) (fun e4 => ?_)⟩
      · rw [if_pos (.inl e4)] at qq
        exact iteT (B := True) ⟨_, rfl, qq⟩
      · refine ⟨_, rfl, rfl, _, rfl, if_nstr (b := SG) signs_mk (fun e5 => ?_) (fun e5 => ?_)⟩
        · rw [if_neg (fun z => by rcases z with z | z; exact e4 z; exact z.1 e5)] at qq
          exact ⟨_, rfl, qq⟩
        · refine ⟨_, rfl, mk (roundW s), rfl, sz_mk (by omega), _, rfl, mk (plainW s), rfl, sz_mk (by omega), _, _, rfl, rfl, _, rfl, if_dec (fun e6 => ?_) (fun e6 => ?_)⟩
          · have h6 : (roundW s).length < (plainW s).length := by
              rw [len_mk, len_mk] at e6
              omega
            rw [if_pos (.inr ⟨e5, h6⟩)] at qq
            exact ⟨_, rfl, qq⟩
          · have h6 : ¬ (roundW s).length < (plainW s).length := by
              rw [len_mk, len_mk] at e6
              omega
            rw [if_neg (fun z => by rcases z with z | z; exact e4 z; exact h6 z.2)] at qq
            exact ⟨_, rfl, qq⟩
end
end TW

set_option maxHeartbeats 1000000
namespace TW
open PySem PySem.Spec PyProof.Rows L2
def Tr.isOr : Tr → Bool
  | .or _ => true
  | _ => false
def Tr.isRow : Tr → Bool
  | .row _ => true
  | _ => false
def brW (b : Bool) (t : Tr) (x : List Nat) : List Nat := if (t.isOr || (b && t.isRow)) = true then [40] ++ x ++ [41] else x
mutual
def Tr.wr : Tr → List Nat
  | .one s => oneW s
  | .or ts => TL.joinL [124] (Tr.wrs false ts)
  | .row ts => (Tr.wrs true ts).flatten
  | .star t => brW true t t.wr ++ [42]
  | .plus t => brW true t t.wr ++ [43]
  | .maybe t => brW true t t.wr ++ [63]
def Tr.wrs (b : Bool) : List Tr → List (List Nat)
  | [] => []
  | t :: r => brW b t t.wr :: Tr.wrs b r
end
mutual
def Tr.nodes : Tr → Nat
  | .one _ => 1
  | .or ts => 1 + Tr.nodess ts
  | .row ts => 1 + Tr.nodess ts
  | .star t => 1 + t.nodes
  | .plus t => 1 + t.nodes
  | .maybe t => 1 + t.nodes
def Tr.nodess : List Tr → Nat
  | [] => 0
  | t :: r => t.nodes + Tr.nodess r
end
mutual
def Tr.dep : Tr → Nat
  | .one _ => 0
  | .or ts => 1 + Tr.deps ts
  | .row ts => 1 + Tr.deps ts
  | .star t => 1 + t.dep
  | .plus t => 1 + t.dep
  | .maybe t => 1 + t.dep
def Tr.deps : List Tr → Nat
  | [] => 0
  | t :: r => max t.dep (Tr.deps r)
end
mutual
def Tr.okS : Tr → Prop
  | .one s => s.length ≤ 95 ∧ ∀ c ∈ s, c ∈ SG
  | .or ts => Tr.okSs ts
  | .row ts => Tr.okSs ts
  | .star t => t.okS
  | .plus t => t.okS
  | .maybe t => t.okS
def Tr.okSs : List Tr → Prop
  | [] => True
  | t :: r => t.okS ∧ Tr.okSs r
end
theorem oneW_len {s : List Nat} (h : s.length ≤ 95) : (oneW s).length ≤ 195 := by
  unfold oneW
  have h1 := turnW_len KEPTs (s.headD 0)
  have h2 := itemsW_len s
  have h3 := itemsW_len s.tail
  have h4 := itemsW_len (oth s)
  have h5 := oth_len s
  have hp : (plainW s).length ≤ 195 := by
    unfold plainW
    rw [List.length_tail] at h3
    split <;> simp <;> omega
  have hr : (roundW s).length ≤ 195 := by
    unfold roundW
    simp
    omega
  split
  · omega
  split
  · simp
  split <;> assumption
theorem brW_len (b : Bool) (t : Tr) (x : List Nat) : (brW b t x).length ≤ x.length + 2 := by
  unfold brW
  split <;> simp
mutual
theorem Tr.wr_len : ∀ t : Tr, t.okS → t.wr.length + 3 ≤ 200 * t.nodes
  | .one s, h => by
    have := oneW_len h.1
    show (oneW s).length + 3 ≤ 200 * 1
    omega
  | .or ts, h => by
    have := Tr.wrs_len false ts h
    show (TL.joinL [124] (Tr.wrs false ts)).length + 3 ≤ 200 * (1 + Tr.nodess ts)
    omega
  | .row ts, h => by
    have := Tr.wrs_len true ts h
    show ((Tr.wrs true ts).flatten).length + 3 ≤ 200 * (1 + Tr.nodess ts)
    omega
  | .star t, h => by
    have := t.wr_len h
    have h2 := brW_len true t t.wr
    show (brW true t t.wr ++ [42]).length + 3 ≤ 200 * (1 + t.nodes)
    rw [List.length_append]
    show _ + 1 + 3 ≤ _
    omega
  | .plus t, h => by
    have := t.wr_len h
    have h2 := brW_len true t t.wr
    show (brW true t t.wr ++ [43]).length + 3 ≤ 200 * (1 + t.nodes)
    rw [List.length_append]
    show _ + 1 + 3 ≤ _
    omega
  | .maybe t, h => by
    have := t.wr_len h
    have h2 := brW_len true t t.wr
    show (brW true t t.wr ++ [63]).length + 3 ≤ 200 * (1 + t.nodes)
    rw [List.length_append]
    show _ + 1 + 3 ≤ _
    omega
theorem Tr.wrs_len (b : Bool) : ∀ ts : List Tr, Tr.okSs ts → (TL.joinL [124] (Tr.wrs b ts)).length ≤ 200 * Tr.nodess ts ∧ ((Tr.wrs b ts).flatten).length ≤ 200 * Tr.nodess ts
  | [], _ => ⟨Nat.le_refl _, Nat.le_refl _⟩
  | [t], h => by
    have h1 := t.wr_len h.1
    have h2 := brW_len b t t.wr
    show (brW b t t.wr).length ≤ 200 * (t.nodes + 0) ∧ (brW b t t.wr ++ []).length ≤ 200 * (t.nodes + 0)
    rw [List.append_nil]
    omega
  | t :: u :: r, h => by
    have h1 := t.wr_len h.1
    have h2 := brW_len b t t.wr
    obtain ⟨h3, h4⟩ := Tr.wrs_len b (u :: r) h.2
    show (brW b t t.wr ++ ([124] ++ TL.joinL [124] (Tr.wrs b (u :: r)))).length ≤ 200 * (t.nodes + Tr.nodess (u :: r)) ∧ (brW b t t.wr ++ (Tr.wrs b (u :: r)).flatten).length ≤ 200 * (t.nodes + Tr.nodess (u :: r))
    rw [List.length_append, List.length_append, List.length_append]
    show _ + (1 + _) ≤ _ ∧ _
    omega
end
/-! how trees lie -/
theorem at_one {s : List Nat} {v : V} {H : Hp} (h : AtT (.one s) v H) : ∃ a, v = .ref a ∧ H a = some (.tup [.str "one", .str (mk s)]) := by
  obtain ⟨a, xs, rfl, h1, h2⟩ := Dt.tup_inv h
  obtain ⟨v1, r1, rfl, e1, h3⟩ := h2.cons_inv
  obtain ⟨v2, r2, rfl, e2, h4⟩ := h3.cons_inv
  have e3 := h4.nil_inv
  subst e3
  rw [e1.str_inv, e2.str_inv] at h1
  exact ⟨a, rfl, h1⟩
theorem at_seq {z : Str} {ts : List Tr} {v : V} {H : Hp} (h : Dt H v (.tuple [.str z, .tuple (Tr.datas ts)])) : ∃ a b xs, v = .ref a ∧ H a = some (.tup [.str z, .ref b]) ∧ H b = some (.tup xs) ∧ DtA H xs (Tr.datas ts) := by
  obtain ⟨a, xs, rfl, h1, h2⟩ := Dt.tup_inv h
  obtain ⟨v1, r1, rfl, e1, h3⟩ := h2.cons_inv
  obtain ⟨v2, r2, rfl, e2, h4⟩ := h3.cons_inv
  have e3 := h4.nil_inv
  subst e3
  obtain ⟨b, ys, rfl, hb, hy⟩ := Dt.tup_inv e2
  rw [e1.str_inv] at h1
  exact ⟨a, b, ys, rfl, h1, hb, hy⟩
theorem at_un {z : Str} {t : Tr} {v : V} {H : Hp} (h : Dt H v (.tuple [.str z, t.data])) : ∃ a x, v = .ref a ∧ H a = some (.tup [.str z, x]) ∧ AtT t x H := by
  obtain ⟨a, xs, rfl, h1, h2⟩ := Dt.tup_inv h
  obtain ⟨v1, r1, rfl, e1, h3⟩ := h2.cons_inv
  obtain ⟨v2, r2, rfl, e2, h4⟩ := h3.cons_inv
  have e3 := h4.nil_inv
  subst e3
  rw [e1.str_inv] at h1
  exact ⟨a, v2, rfl, h1, e2⟩
/-- the kind's name -/
def Tr.kind : Tr → Str
  | .one _ => "one"
  | .row _ => "row"
  | .or _ => "or"
  | .star _ => "star"
  | .plus _ => "plus"
  | .maybe _ => "maybe"
theorem at_kind {t : Tr} {v : V} {H : Hp} (h : AtT t v H) : ∃ a x, v = .ref a ∧ H a = some (.tup [.str t.kind, x]) := by
  cases t with
  | one s =>
    obtain ⟨a, e, h1⟩ := at_one h
    exact ⟨a, _, e, h1⟩
  | row ts =>
    obtain ⟨a, b, xs, e, h1, _⟩ := at_seq h
    exact ⟨a, _, e, h1⟩
  | or ts =>
    obtain ⟨a, b, xs, e, h1, _⟩ := at_seq h
    exact ⟨a, _, e, h1⟩
  | star t =>
    obtain ⟨a, x, e, h1, _⟩ := at_un h
    exact ⟨a, _, e, h1⟩
  | plus t =>
    obtain ⟨a, x, e, h1, _⟩ := at_un h
    exact ⟨a, _, e, h1⟩
  | maybe t =>
    obtain ⟨a, x, e, h1, _⟩ := at_un h
    exact ⟨a, _, e, h1⟩
theorem kind_or (t : Tr) : inV (.str t.kind) [.str "or"] = t.isOr := by cases t <;> rfl
theorem kind_orrow (t : Tr) : inV (.str t.kind) [.str "or", .str "row"] = (t.isOr || (true && t.isRow)) := by cases t <;> rfl
theorem join_gen (s : List Nat) (ls : List (List Nat)) : Txt.join (mk s) (ls.map mk) = mk (TL.joinL s ls) := by
  apply TL.ext_tl
  rw [TL.join_eq, TL.tl_join]
  have e : (ls.map mk).map TL.tl = ls := by
    rw [List.map_map]
    exact List.map_id ls
  rw [e] <;> rfl
theorem joinL_len (s : List Nat) : ∀ ls : List (List Nat), (TL.joinL s ls).length ≤ ls.flatten.length + ls.length * s.length
  | [] => Nat.zero_le _
  | [p] => by
    show p.length ≤ (p ++ []).length + _
    rw [List.append_nil]
    omega
  | p :: q :: r => by
    have h := joinL_len s (q :: r)
    show (p ++ (s ++ TL.joinL s (q :: r))).length ≤ (p ++ (q :: r).flatten).length + (r.length + 1 + 1) * s.length
    rw [List.length_append, List.length_append, List.length_append]
    rw [List.length_cons] at h
    rw [Nat.add_mul (r.length + 1) 1, Nat.one_mul]
    omega
/-- sizes for a join -/
theorem join_mkS (s : List Nat) (ls : List (List Nat)) (h : ls.flatten.length + ls.length * s.length ≤ 1000000) : ((ls.map mk).map (·.length)).sum + (ls.map mk).length * (mk s).length ≤ 16777216 := by
  have e : ∀ ls : List (List Nat), ((ls.map mk).map (·.length)).sum = ls.flatten.length := by
    intro ls
    induction ls with
    | nil => rfl
    | cons a r ih =>
      rw [List.map_cons, List.map_cons, List.sum_cons, ih, List.flatten_cons, List.length_append] <;> rfl
  rw [e, List.length_map, len_mk]
  omega
theorem Tr.wrs_map (b : Bool) : ∀ ts : List Tr, Tr.wrs b ts = ts.map fun t => brW b t t.wr
  | [] => rfl
  | t :: r => by
    show brW b t t.wr :: Tr.wrs b r = _
    rw [Tr.wrs_map b r]
    rfl
theorem nodess_ge : ∀ ts : List Tr, ts.length ≤ Tr.nodess ts
  | [] => Nat.le_refl _
  | t :: r => by
    have h1 := nodess_ge r
    have h2 : 1 ≤ t.nodes := by cases t <;> simp [Tr.nodes] <;> omega
    show r.length + 1 ≤ t.nodes + Tr.nodess r
    omega
theorem nodess_mem {t : Tr} : ∀ {ts : List Tr}, t ∈ ts → t.nodes ≤ Tr.nodess ts
  | u :: r, h => by
    show _ ≤ u.nodes + Tr.nodess r
    rcases List.mem_cons.mp h with rfl | h
    · omega
    · have := nodess_mem h
      omega
theorem deps_mem {t : Tr} : ∀ {ts : List Tr}, t ∈ ts → t.dep ≤ Tr.deps ts
  | u :: r, h => by
    show _ ≤ max u.dep (Tr.deps r)
    rcases List.mem_cons.mp h with rfl | h
    · omega
    · have := deps_mem h
      omega
theorem okSs_mem {t : Tr} : ∀ {ts : List Tr}, Tr.okSs ts → t ∈ ts → t.okS
  | u :: r, ⟨h1, h2⟩, h => by
    rcases List.mem_cons.mp h with rfl | h
    · exact h1
    · exact okSs_mem h2 h
/-- values and trees, side by side -/
theorem zip_at {H : Hp} : ∀ {xs : List V} {ts : List Tr}, DtA H xs (Tr.datas ts) → ∀ p ∈ xs.zip ts, AtT p.2 p.1 H ∧ p.2 ∈ ts
  | _, [], h => by
    rw [h.nil_inv]
    intro p hp
    cases hp
  | _, t :: r, h => by
    obtain ⟨v, vs, rfl, h1, h2⟩ := h.cons_inv
    intro p hp
    rcases List.mem_cons.mp hp with rfl | hp
    · exact ⟨h1, List.mem_cons_self⟩
    · obtain ⟨a, b⟩ := zip_at h2 p hp
      exact ⟨a, List.mem_cons_of_mem _ b⟩
theorem zip_snd {α β : Type} : ∀ {xs : List α} {ts : List β}, xs.length = ts.length → (xs.zip ts).map (·.2) = ts
  | [], [], _ => rfl
  | _ :: _, _ :: _, h => congrArg _ (zip_snd (Nat.succ.inj h))
  | [], _ :: _, h => by cases h
  | _ :: _, [], h => by cases h
theorem gives_zip {β : Type} {J : It} {H1 : Hp} {xs : List V} {ts : List β} (h : Gives J H1 xs (fun x v => v = x)) (hl : xs.length = ts.length) : Gives J H1 (xs.zip ts) (fun p v => v = p.1) := by
  have hz : (xs.zip ts).length = xs.length := by rw [List.length_zip]; omega
  refine ⟨fun i H s hi => h.go i H s (by omega), fun i H x H' s y hi => ?_, fun H s => ?_⟩
  · obtain ⟨e, a, ha, hv⟩ := h.yld i H x H' s y (by omega)
    have hb : i < ts.length := by omega
    refine ⟨e, (a, ts[i]), ?_, hv⟩
    rw [List.getElem?_zip_eq_some]
    exact ⟨ha, List.getElem?_eq_getElem hb⟩
  · rw [hz]
    exact h.stop H s
end TW

set_option maxHeartbeats 1000000
namespace TW
open PySem PySem.Spec PyProof.Rows L2
def kindsV : Bool → List V
  | false => [.str "or"]
  | true => [.str "or", .str "row"]
theorem kinds_in (b : Bool) (t : Tr) : inV (.str t.kind) (kindsV b) = (t.isOr || (b && t.isRow)) := by
  cases b
  · rw [show kindsV false = [.str "or"] from rfl, kind_or]
    cases t <;> rfl
  · exact kind_orrow t
theorem kinds_flat (b : Bool) : (kindsV b).all flatV = true := by cases b <;> rfl
def spWritten (n : Nat) : Sp := fun vs H Q _ => ∃ v t, vs = [v] ∧ AtT t v H ∧ t.okS ∧ t.dep ≤ n ∧ t.nodes ≤ 400 ∧ ∀ H', Same H H' → Q (.str (mk t.wr)) H'
def spInner (K : PySem.W.Frag) (n : Nat) : Sp := fun vs H Q _ => ∃ v kk t b, vs = [v, .ref kk] ∧ SqT K H kk (kindsV b) ∧ AtT t v H ∧ t.okS ∧ t.dep ≤ n ∧ t.nodes ≤ 400 ∧ ∀ H', Same H H' → Q (.str (mk (brW b t t.wr))) H'
def spInnerP (K : PySem.W.Frag) : Nat → Sp
  | 0 => fun _ _ _ _ => False
  | n + 1 => spInner K n
section
variable {P : Program} {w : World} {K : PySem.W.Frag} {mg : Str → Option Value} {base : Heap}
theorem ok_inner (T : Top w K mg) (n k : Nat) (D_written : Df P w K mg base CX0 k "written" ["tree"] (spWritten n)) : Df P w K mg base CX0 (k + 1) "inner" ["tree", "kinds"] (spInner K n) := by
  refine Df.of T.f_inner T.g_inner sc_inner b_inner (fun vs H Q E h => ?_) (fun cdv A outer s H vs Q E hr h => ?_)
  · obtain ⟨v, kk, t, b, rfl, _⟩ := h
    rfl
  · obtain ⟨v, kk, t, b, rfl, hkk, ht, ho, hd, hn, q⟩ := h
    refine ⟨_, (pss_cons (ps_if (pt_cmpR op_in_seq (pe_ix ix_tup (pv 0) pe_int (fun _ _ => rfl)) (pv 1) rfl) (pss_one (ps_ret (pe_op op_add_str (pe_op op_add_str pe_str (pe_callD D_written (hr.mono (by first | decide | omega)) rfl pass0 (pa_cons (pv 0) pa_nil))) pe_str))) pss_nil)
      (pss_one (ps_ret (pe_callD D_written (hr.mono (by first | decide | omega)) rfl pass0 (pa_cons (pv 0) pa_nil))))), ?_⟩
    obtain ⟨a, x, rfl, ha⟩ := at_kind ht
    have hlen := t.wr_len ho
    refine ⟨_, rfl, a, _, 0, _, rfl, rfl, SqT.of ha, atI_nat (j := 0) rfl, _, rfl, kk, _, rfl, .inr hkk, rfl, kinds_flat b, _, rfl, ?_⟩
    rw [show (if false = true then _ else inV (V.str t.kind) (kindsV b)) = (t.isOr || (b && t.isRow)) from kinds_in b t]
    unfold brW at q
    refine ite2 (fun e => ?_) (fun e => ?_)
    · rw [if_pos e] at q
      refine ⟨_, rfl, _, t, rfl, ht, ho, hd, hn, fun H1 s1 => ?_⟩
      refine ⟨mk [40], mk t.wr, congrArg V.str (by decide +kernel), rfl, sz_add (by show 1 + _ ≤ _; omega), ?_⟩
      rw [add_mk]
      refine ⟨mk _, mk [41], rfl, congrArg V.str (by decide +kernel), sz_add (by rw [List.length_append]; show 1 + _ + 1 ≤ _; omega), ?_⟩
      rw [add_mk]
      exact q H1 s1
    · rw [if_neg e] at q
      exact ⟨_, rfl, _, t, rfl, ht, ho, hd, hn, fun H1 s1 => q H1 s1⟩
theorem marks_get (T : Top w K mg) {x z : Str} (h : (x, z) ∈ (["star", "plus", "maybe"] : List Str).zip (["*", "+", "?"] : List Str)) : ∃ t, PySem.W.nsIn K (He.ga K "MARKS") x = some (some (.str z t)) := tab_get T.v_MARKS h
theorem ok_written (T : Top w K mg) (n k : Nat) (hk : 4 ≤ k) (D_inner : Df P w K mg base CX0 k "inner" ["tree", "kinds"] (spInnerP K n)) : Df P w K mg base CX0 (k + 1) "written" ["tree"] (spWritten n) := by
  have D_one := ok_one (P := P) (base := base) T
  obtain ⟨es, nn, D_MARKS⟩ := T.t_MARKS
  refine Df.of T.f_written T.g_written sc_written b_written (fun vs H Q E h => ?_) (fun cdv A outer s H vs Q E hr h => ?_)
  · obtain ⟨v, t, rfl, _⟩ := h
    rfl
  · obtain ⟨v, t, rfl, ht, ho, hd, hn, q⟩ := h
    refine ⟨_, (pss_cons (ps_set (i := 1) sc_written.nd rfl (.inl rfl) (pe_ix ix_tup (pv 0) pe_int (fun _ _ => rfl)))
      (pss_cons (ps_if (pt_cmpR op_eq (pv 1) pe_str (nomark _)) (pss_one (ps_ret (pe_callD D_one (hr.mono (by first | decide | omega)) rfl pass0 (pa_cons (pe_ix ix_tup (pv 0) pe_int (fun _ _ => rfl)) pa_nil)))) pss_nil)
      (pss_cons (ps_if (pt_cmpR op_eq (pv 1) pe_str (nomark _)) (pss_one (ps_ret (pe_join pe_str (pe_lc (own := [("part", 2)]) (g := gName 2) rfl sc_written.nd (pi_tup (pe_ix ix_tup (pv 0) pe_int (fun _ _ => rfl))) (blkOk_by (own := [("part", 2)]) (N := N_written) (sc := defScope s_written) (by decide +kernel)) (fun _ _ _ _ _ => pg_name (i := 2) sc_written.nd rfl (Or.inl rfl)) (fun _ _ _ _ _ => pts_nil) (fun _ _ _ _ _ => (pe_callD D_inner (hr.mono (by first | decide | omega)) rfl pass0 (pa_cons (pv 2) (pa_cons (pe_tup (pa_cons pe_str pa_nil)) pa_nil)))))))) pss_nil)
      (pss_cons (ps_if (pt_cmpR op_eq (pv 1) pe_str (nomark _)) (pss_one (ps_ret (pe_join pe_str (pe_lc (own := [("part", 2)]) (g := gName 2) rfl sc_written.nd (pi_tup (pe_ix ix_tup (pv 0) pe_int (fun _ _ => rfl))) (blkOk_by (own := [("part", 2)]) (N := N_written) (sc := defScope s_written) (by decide +kernel)) (fun _ _ _ _ _ => pg_name (i := 2) sc_written.nd rfl (Or.inl rfl)) (fun _ _ _ _ _ => pts_nil) (fun _ _ _ _ _ => (pe_callD D_inner (hr.mono (by first | decide | omega)) rfl pass0 (pa_cons (pv 2) (pa_cons (pe_tup (pa_cons pe_str (pa_cons pe_str pa_nil))) pa_nil)))))))) pss_nil)
      (pss_one (ps_ret (pe_op op_add_str (pe_callD D_inner (hr.mono (by first | decide | omega)) rfl pass0 (pa_cons (pe_ix ix_tup (pv 0) pe_int (fun _ _ => rfl)) (pa_cons (pe_tup (pa_cons pe_str (pa_cons pe_str pa_nil))) pa_nil))) (pe_ix ix_kdict (pe_glob (v := .ref (He.ga K "MARKS")) rfl T.g_MARKS rfl) (pv 1) (fun _ _ => rfl))))))))), ?_⟩
    have hlen := t.wr_len ho
    -- the parts of a row or a choice
    have parts : ∀ (b : Bool) (bs : Addr) (xs : List V) (ts : List Tr) (D : Addr) (H1 : Hp) (Q1 : VK) (z : Str) (tt : TE), H1 bs = some (.tup xs) → DtA H1 xs (Tr.datas ts) → Tr.okSs ts → 1 + Tr.deps ts ≤ n → Tr.nodess ts ≤ 400 → H1 D = none → True := fun _ _ _ _ _ _ _ _ _ _ _ _ _ _ _ => trivial
    cases t with
    | one ss =>
      obtain ⟨a, rfl, ha⟩ := at_one ht
      refine ⟨_, rfl, a, _, 0, _, rfl, rfl, SqT.of ha, atI_nat (j := 0) rfl, ?_⟩
      refine ⟨_, rfl, rfl, _, rfl, if_dec (fun _ => ?_) (fun e => absurd rfl e)⟩
      refine ⟨_, rfl, a, _, 1, _, rfl, rfl, SqT.of ha, atI_nat (j := 1) rfl, ss, rfl, ho.2, Nat.le_trans ho.1 (by decide), fun H1 s1 => ?_⟩
      exact q H1 s1
    | or ts =>
      obtain ⟨a, b, xs, rfl, ha, hb, hx⟩ := at_seq ht
      have hlz : xs.length = ts.length := by rw [hx.length, datas_length]
      have hnn : Tr.nodess ts ≤ 400 := by
        have : 1 + Tr.nodess ts ≤ 400 := hn
        omega
      obtain ⟨n', rfl⟩ : ∃ n', n = n' + 1 := ⟨n - 1, by
        have : 1 + Tr.deps ts ≤ n := hd
        omega⟩
      have hdd : Tr.deps ts ≤ n' := by
        have : 1 + Tr.deps ts ≤ n' + 1 := hd
        omega
      refine ⟨_, rfl, a, _, 0, _, rfl, rfl, SqT.of ha, atI_nat (j := 0) rfl, ?_⟩
      refine ⟨_, rfl, rfl, _, rfl, if_dec (fun e => absurd e (by decide +kernel)) (fun _ => ?_)⟩
      refine ⟨_, rfl, rfl, _, rfl, if_dec (fun _ => ?_) (fun e => absurd rfl e)⟩
      refine ⟨⟨_, rfl⟩, _, rfl, a, _, 1, _, rfl, rfl, SqT.of ha, atI_nat (j := 1) rfl, b, rfl, ⟨_, SqT.of hb⟩, fun D hD => ?_⟩
      have hge := nodess_ge ts
      have hwl := Tr.wrs_len false ts ho
      refine lc_ext (gives_zip (gives_tup (SqT.of hb)) hlz) hD (sz_of (by rw [List.length_zip]; omega)) (fun _ => true) (fun p v _ => v = .str (mk (brW false p.2 p.2.wr))) (fun _ _ _ _ _ h => h) (fun x => rfl) ?_ ?_ ?_
      · rintro p hp x rfl H3 s3 Q1 q1
        exact q1 H3 (Same.refl _)
      · rintro p hp hf x rfl H3 s3 Q1 q1
        obtain ⟨hat, hmem⟩ := zip_at hx p hp
        refine ⟨_, rfl, by show 1 ≤ sizeLine; decide +kernel, fun kk hkk => ?_⟩
        have sk : Same H3 (upd H3 kk (.tup [.str "or"])) := same_new hkk
        refine ⟨p.1, kk, p.2, false, rfl, SqT.of upd_same, hat.mono (TupK.of (s3.trans sk)), okSs_mem ho hmem, Nat.le_trans (deps_mem hmem) hdd, Nat.le_trans (nodess_mem hmem) hnn, fun H4 s4 => ?_⟩
        exact q1 _ H4 (sk.trans s4) rfl
      · intro H3 ys s3 e3 hR
        rw [filter_true] at hR
        have ey : ys = ((Tr.wrs false ts).map mk).map V.str := by
          rw [RAll.map (f := fun p : V × Tr => V.str (mk (brW false p.2 p.2.wr))) hR, Tr.wrs_map, List.map_map, List.map_map]
          conv => rhs; rw [← zip_snd hlz]
          rw [List.map_map] <;> rfl
        rw [ey] at e3
        refine ⟨mk [124], D, _, congrArg V.str (by decide +kernel), rfl, .inl (SqL.of e3), join_mkS _ _ ?_, ?_⟩
        · rw [Tr.wrs_map, List.length_map, ← Tr.wrs_map]
          show _ + ts.length * 1 ≤ _
          omega
        · rw [join_gen]
          exact q H3 s3
    | row ts =>
      obtain ⟨a, b, xs, rfl, ha, hb, hx⟩ := at_seq ht
      have hlz : xs.length = ts.length := by rw [hx.length, datas_length]
      have hnn : Tr.nodess ts ≤ 400 := by
        have : 1 + Tr.nodess ts ≤ 400 := hn
        omega
      obtain ⟨n', rfl⟩ : ∃ n', n = n' + 1 := ⟨n - 1, by
        have : 1 + Tr.deps ts ≤ n := hd
        omega⟩
      have hdd : Tr.deps ts ≤ n' := by
        have : 1 + Tr.deps ts ≤ n' + 1 := hd
        omega
      refine ⟨_, rfl, a, _, 0, _, rfl, rfl, SqT.of ha, atI_nat (j := 0) rfl, ?_⟩
      refine ⟨_, rfl, rfl, _, rfl, if_dec (fun e => absurd e (by decide +kernel)) (fun _ => ?_)⟩
      refine ⟨_, rfl, rfl, _, rfl, if_dec (fun e => absurd e (by decide +kernel)) (fun _ => ?_)⟩
      refine ⟨_, rfl, rfl, _, rfl, if_dec (fun _ => ?_) (fun e => absurd rfl e)⟩
      refine ⟨⟨_, rfl⟩, _, rfl, a, _, 1, _, rfl, rfl, SqT.of ha, atI_nat (j := 1) rfl, b, rfl, ⟨_, SqT.of hb⟩, fun D hD => ?_⟩
      have hge := nodess_ge ts
      have hwl := Tr.wrs_len true ts ho
      refine lc_ext (gives_zip (gives_tup (SqT.of hb)) hlz) hD (sz_of (by rw [List.length_zip]; omega)) (fun _ => true) (fun p v _ => v = .str (mk (brW true p.2 p.2.wr))) (fun _ _ _ _ _ h => h) (fun x => rfl) ?_ ?_ ?_
      · rintro p hp x rfl H3 s3 Q1 q1
        exact q1 H3 (Same.refl _)
      · rintro p hp hf x rfl H3 s3 Q1 q1
        obtain ⟨hat, hmem⟩ := zip_at hx p hp
        refine ⟨_, rfl, by show 2 ≤ sizeLine; decide +kernel, fun kk hkk => ?_⟩
        have sk : Same H3 (upd H3 kk (.tup [.str "or", .str "row"])) := same_new hkk
        refine ⟨p.1, kk, p.2, true, rfl, SqT.of upd_same, hat.mono (TupK.of (s3.trans sk)), okSs_mem ho hmem, Nat.le_trans (deps_mem hmem) hdd, Nat.le_trans (nodess_mem hmem) hnn, fun H4 s4 => ?_⟩
        exact q1 _ H4 (sk.trans s4) rfl
      · intro H3 ys s3 e3 hR
        rw [filter_true] at hR
        have ey : ys = ((Tr.wrs true ts).map mk).map V.str := by
          rw [RAll.map (f := fun p : V × Tr => V.str (mk (brW true p.2 p.2.wr))) hR, Tr.wrs_map, List.map_map, List.map_map]
          conv => rhs; rw [← zip_snd hlz]
          rw [List.map_map] <;> rfl
        rw [ey] at e3
        refine ⟨mk [], D, _, congrArg V.str (by decide +kernel), rfl, .inl (SqL.of e3), join_mkS _ _ ?_, ?_⟩
        · show _ + _ * 0 ≤ _
          omega
        · rw [join_nil]
          exact q H3 s3
    | star u =>
      obtain ⟨a, x, rfl, ha, hx⟩ := at_un ht
      obtain ⟨mt, em⟩ := marks_get T (x := "star") (z := "*") (by decide +kernel)
      obtain ⟨n', rfl⟩ : ∃ n', n = n' + 1 := ⟨n - 1, by
        have : 1 + u.dep ≤ n := hd
        omega⟩
      have hdd : u.dep ≤ n' := by
        have : 1 + u.dep ≤ n' + 1 := hd
        omega
      have hnn : u.nodes ≤ 400 := by
        have : 1 + u.nodes ≤ 400 := hn
        omega
      refine ⟨_, rfl, a, _, 0, _, rfl, rfl, SqT.of ha, atI_nat (j := 0) rfl, ?_⟩
      refine ⟨_, rfl, rfl, _, rfl, if_dec (fun e => absurd e (by decide +kernel)) (fun _ => ?_)⟩
      refine ⟨_, rfl, rfl, _, rfl, if_dec (fun e => absurd e (by decide +kernel)) (fun _ => ?_)⟩
      refine ⟨_, rfl, rfl, _, rfl, if_dec (fun e => absurd e (by decide +kernel)) (fun _ => ?_)⟩
      refine ⟨_, rfl, a, _, 1, _, rfl, rfl, SqT.of ha, atI_nat (j := 1) rfl, by show 2 ≤ sizeLine; decide +kernel, fun kk hkk => ?_⟩
      have sk : Same H (upd H kk (.tup [.str "or", .str "row"])) := same_new hkk
      refine ⟨x, kk, u, true, rfl, SqT.of upd_same, hx.mono (TupK.of sk), ho, hdd, hnn, fun H4 s4 => ?_⟩
      refine ⟨_, rfl, _, _, .str "*", rfl, rfl, ⟨_, _, _, D_MARKS.at_, D_MARKS.lit, em, ⟨mt, rfl⟩⟩, ?_⟩
      have hu := u.wr_len ho
      have hu2 := brW_len true u u.wr
      refine ⟨mk _, mk [42], rfl, congrArg V.str (by decide +kernel), sz_add (by show _ + 1 ≤ _; omega), ?_⟩
      rw [add_mk]
      exact q H4 (sk.trans s4)
    | plus u =>
      obtain ⟨a, x, rfl, ha, hx⟩ := at_un ht
      obtain ⟨mt, em⟩ := marks_get T (x := "plus") (z := "+") (by decide +kernel)
      obtain ⟨n', rfl⟩ : ∃ n', n = n' + 1 := ⟨n - 1, by
        have : 1 + u.dep ≤ n := hd
        omega⟩
      have hdd : u.dep ≤ n' := by
        have : 1 + u.dep ≤ n' + 1 := hd
        omega
      have hnn : u.nodes ≤ 400 := by
        have : 1 + u.nodes ≤ 400 := hn
        omega
      refine ⟨_, rfl, a, _, 0, _, rfl, rfl, SqT.of ha, atI_nat (j := 0) rfl, ?_⟩
      refine ⟨_, rfl, rfl, _, rfl, if_dec (fun e => absurd e (by decide +kernel)) (fun _ => ?_)⟩
      refine ⟨_, rfl, rfl, _, rfl, if_dec (fun e => absurd e (by decide +kernel)) (fun _ => ?_)⟩
      refine ⟨_, rfl, rfl, _, rfl, if_dec (fun e => absurd e (by decide +kernel)) (fun _ => ?_)⟩
      refine ⟨_, rfl, a, _, 1, _, rfl, rfl, SqT.of ha, atI_nat (j := 1) rfl, by show 2 ≤ sizeLine; decide +kernel, fun kk hkk => ?_⟩
      have sk : Same H (upd H kk (.tup [.str "or", .str "row"])) := same_new hkk
      refine ⟨x, kk, u, true, rfl, SqT.of upd_same, hx.mono (TupK.of sk), ho, hdd, hnn, fun H4 s4 => ?_⟩
      refine ⟨_, rfl, _, _, .str "+", rfl, rfl, ⟨_, _, _, D_MARKS.at_, D_MARKS.lit, em, ⟨mt, rfl⟩⟩, ?_⟩
      have hu := u.wr_len ho
      have hu2 := brW_len true u u.wr
      refine ⟨mk _, mk [43], rfl, congrArg V.str (by decide +kernel), sz_add (by show _ + 1 ≤ _; omega), ?_⟩
      rw [add_mk]
      exact q H4 (sk.trans s4)
    | maybe u =>
      obtain ⟨a, x, rfl, ha, hx⟩ := at_un ht
      obtain ⟨mt, em⟩ := marks_get T (x := "maybe") (z := "?") (by decide +kernel)
      obtain ⟨n', rfl⟩ : ∃ n', n = n' + 1 := ⟨n - 1, by
        have : 1 + u.dep ≤ n := hd
        omega⟩
      have hdd : u.dep ≤ n' := by
        have : 1 + u.dep ≤ n' + 1 := hd
        omega
      have hnn : u.nodes ≤ 400 := by
        have : 1 + u.nodes ≤ 400 := hn
        omega
      refine ⟨_, rfl, a, _, 0, _, rfl, rfl, SqT.of ha, atI_nat (j := 0) rfl, ?_⟩
      refine ⟨_, rfl, rfl, _, rfl, if_dec (fun e => absurd e (by decide +kernel)) (fun _ => ?_)⟩
      refine ⟨_, rfl, rfl, _, rfl, if_dec (fun e => absurd e (by decide +kernel)) (fun _ => ?_)⟩
      refine ⟨_, rfl, rfl, _, rfl, if_dec (fun e => absurd e (by decide +kernel)) (fun _ => ?_)⟩
      refine ⟨_, rfl, a, _, 1, _, rfl, rfl, SqT.of ha, atI_nat (j := 1) rfl, by show 2 ≤ sizeLine; decide +kernel, fun kk hkk => ?_⟩
      have sk : Same H (upd H kk (.tup [.str "or", .str "row"])) := same_new hkk
      refine ⟨x, kk, u, true, rfl, SqT.of upd_same, hx.mono (TupK.of sk), ho, hdd, hnn, fun H4 s4 => ?_⟩
      refine ⟨_, rfl, _, _, .str "?", rfl, rfl, ⟨_, _, _, D_MARKS.at_, D_MARKS.lit, em, ⟨mt, rfl⟩⟩, ?_⟩
      have hu := u.wr_len ho
      have hu2 := brW_len true u u.wr
      refine ⟨mk _, mk [63], rfl, congrArg V.str (by decide +kernel), sz_add (by show _ + 1 ≤ _; omega), ?_⟩
      rw [add_mk]
      exact q H4 (sk.trans s4)
theorem written_all (T : Top w K mg) : ∀ n, Df P w K mg base CX0 (5 + 2 * n) "written" ["tree"] (spWritten n)
  | 0 => ok_written T 0 4 (by omega) (Df.never 4 T.f_inner T.g_inner b_inner)
  | n + 1 => ok_written T (n + 1) (5 + 2 * n + 1) (by omega) (ok_inner T n (5 + 2 * n) (written_all T n))
end
end TW

set_option maxHeartbeats 1000000
namespace TW
open PySem PySem.Spec PyProof.Rows L2
/-! ### the law's own makers -/
def cellZ (ns : List Int) (k : Nat) : Int := ns.getD (k % ns.length) 0
def mixZ (ns : List Int) (k : Nat) : Int :=
  let n1 := (cellZ ns k + 104729 * ((k : Int) + 1)) % 4294967291
  let n2 := n1 * 48271 % 4294967279
  (n2 / 64 * 69621 + n2) % 4294967231
def mixN (ns : List Int) (k : Nat) : Nat := (mixZ ns k).toNat
theorem mixN_eq (ns : List Int) (k : Nat) : (mixN ns k : Int) = mixZ ns k := Int.toNat_of_nonneg (Int.emod_nonneg _ (by decide))
theorem mixN_lt (ns : List Int) (k : Nat) : mixN ns k < 4294967231 := by
  have h := mixN_eq ns k
  have h2 : mixZ ns k < 4294967231 := Int.emod_lt_of_pos _ (by decide)
  omega
def MENU : List Nat := [97, 98, 99, 48, 49, 45, 94, 93, 46, 42, 10, 92]
def someM (q : Nat) : List Nat := SG.filter fun c => decide (c ∈ [97, 98, 99]) || decide (c ∈ (SG.drop (q % 92)).take 4)
def signsM (n : Nat) : List Nat :=
  if n % 8 < 4 then [MENU.getD (n / 8 % 12) 0]
  else if n % 8 = 4 then SG.drop 1
  else if n % 8 = 5 then [SG.getD (n / 8 % 95) 0]
  else if n % 8 = 6 then someM (n / 8)
  else if n / 8 % 5 < 2 then (if n / 8 % 5 = 0 then [] else SG)
  else SG.filter fun c => !decide (c ∈ someM (n / 8))
def unM (way : Nat) (t : Tr) : Tr := if way = 5 then .star t else if way = 6 then .plus t else .maybe t
def treeM (mix : Nat → Nat) : Nat → Nat → Tr
  | 0, b => .one (signsM (mix b / 8))
  | d + 1, b => if mix b % 8 < 3 then .one (signsM (mix b / 8))
    else if mix b % 8 < 5 then (if mix b % 8 = 3 then Tr.row else Tr.or) ((List.range (2 + mix b / 8 % 2)).map fun k => treeM mix d (3 * b + 1 + k))
    else unM (mix b % 8) (treeM mix d (3 * b + 1))
def spCell (K : PySem.W.Frag) : Sp := fun vs H Q _ => ∃ a ns k, vs = [.ref a, .int (k : Nat)] ∧ SqL K H a (ns.map V.int) ∧ Q (.int (cellZ ns k)) H
def spMix (K : PySem.W.Frag) : Sp := fun vs H Q _ => ∃ a ns k, vs = [.ref a, .int (k : Nat)] ∧ SqL K H a (ns.map V.int) ∧ Q (.int (mixN ns k : Nat)) H
def spAll : Sp := fun vs H Q _ => vs = [] ∧ Q (.str (mk SG)) H
def spSigns : Sp := fun vs H Q _ => ∃ n : Nat, vs = [.int (n : Nat)] ∧ ∀ H', Same H H' → Q (.str (mk (signsM n))) H'
def spTree (K : PySem.W.Frag) (d : Nat) : Sp := fun vs H Q _ => ∃ a ns b, vs = [.ref a, .int (b : Nat), .int (d : Nat)] ∧ SqL K H a (ns.map V.int) ∧ ∀ v H', Same H H' → AtT (treeM (mixN ns) d b) v H' → Q v H'
theorem getD_lt {α : Type} {l : List α} {i : Nat} (h : i < l.length) (d : α) : l[i]? = some (l.getD i d) := by
  rw [List.getD_eq_getElem?_getD, List.getElem?_eq_getElem h] <;> rfl
theorem isEmpty_map {α β : Type} (f : α → β) (l : List α) : (l.map f).isEmpty = l.isEmpty := by cases l <;> rfl
section
variable {P : Program} {w : World} {K : PySem.W.Frag} {mg : Str → Option Value} {base : Heap}
theorem ok_cell (T : Top w K mg) : Df P w K mg base CX0 1 "_law_cell" ["_law_script", "_law_k"] (spCell K) := by
  refine Df.of T.f_l_cell T.g_l_cell sc_l_cell b_l_cell (fun vs H Q E h => ?_) (fun cdv A outer s H vs Q E hr h => ?_)
  · obtain ⟨a, ns, k, rfl, _⟩ := h
    rfl
  · obtain ⟨a, ns, k, rfl, ha, q⟩ := h
    refine ⟨_, (pss_cons (ps_if (pt_truth (pv 0) (by intro _; rfl)) (pss_one (ps_ret (pe_ix ix_list (pv 0) (pe_op op_mod (pv 1) (pe_callB call_len_seq rfl T.z_len boot_len (pa_cons (pv 0) pa_nil))) (fun _ _ => rfl)))) pss_nil)
      (pss_one (ps_ret pe_int))), ?_⟩
    refine ⟨_, rfl, _, .inl ⟨_, ha, rfl⟩, ?_⟩
    rw [isEmpty_map]
    cases ns with
    | nil => exact q
    | cons z r =>
      have hl : ((z :: r).map V.int).length = (z :: r).length := List.length_map _
      have hm : k % (z :: r).length < (z :: r).length := Nat.mod_lt _ (by simp)
      refine ⟨_, rfl, _, rfl, _, rfl, a, _, rfl, .inl ha, _, _, rfl, rfl, ?_, a, _, _, .int (cellZ (z :: r) k), rfl, rfl, ha, ?_, q⟩
      · rw [hl]
        show (0 : Int) < ((r.length + 1 : Nat) : Int)
        omega
      · rw [hl, show ((k : Nat) : Int) % (((z :: r).length : Nat) : Int) = ((k % (z :: r).length : Nat) : Int) from (Int.natCast_emod _ _).symm]
        refine atI_nat ?_
        rw [List.getElem?_map, getD_lt hm 0]
        rfl
theorem ok_mix (T : Top w K mg) : Df P w K mg base CX0 2 "_law_mix" ["_law_script", "_law_k"] (spMix K) := by
  have D_l_cell := ok_cell (P := P) (base := base) T
  refine Df.of T.f_l_mix T.g_l_mix sc_l_mix b_l_mix (fun vs H Q E h => ?_) (fun cdv A outer s H vs Q E hr h => ?_)
  · obtain ⟨a, ns, k, rfl, _⟩ := h
    rfl
  · obtain ⟨a, ns, k, rfl, ha, q⟩ := h
    refine ⟨_, (pss_cons (ps_set (i := 2) sc_l_mix.nd rfl (.inl rfl) (pe_op op_mod (pe_op op_add (pe_callD D_l_cell (hr.mono (by first | decide | omega)) rfl pass0 (pa_cons (pv 0) (pa_cons (pv 1) pa_nil))) (pe_op op_mul pe_int (pe_op op_add (pv 1) pe_int))) pe_int))
      (pss_cons (ps_set (i := 2) sc_l_mix.nd rfl (.inl rfl) (pe_op op_mod (pe_op op_mul (pv 2) pe_int) pe_int))
      (pss_one (ps_ret (pe_op op_mod (pe_op op_add (pe_op op_mul (pe_op op_fdiv (pv 2) pe_int) pe_int) (pv 2)) pe_int))))), ?_⟩
    refine ⟨_, rfl, _, rfl, a, ns, k, rfl, ha, ?_⟩
    refine ⟨_, rfl, _, _, rfl, rfl, _, _, rfl, rfl, .inl (by decide), _, _, rfl, rfl, _, _, rfl, rfl, by show (0 : Int) < 4294967291; decide, ?_⟩
    refine ⟨_, rfl, _, _, rfl, rfl, .inr (by decide), _, _, rfl, rfl, by show (0 : Int) < 4294967279; decide, ?_⟩
    refine ⟨_, rfl, _, _, rfl, rfl, ⟨by decide, by decide⟩, _, _, rfl, rfl, .inr (by decide), _, rfl, _, _, rfl, rfl, _, _, rfl, rfl, by show (0 : Int) < 4294967231; decide, ?_⟩
    rw [mixN_eq] at q
    exact q
theorem ok_all (T : Top w K mg) : Df P w K mg base CX0 1 "_law_all" [] spAll := by
  refine Df.of T.f_l_all T.g_l_all sc_l_all b_l_all (fun vs H Q E h => ?_) (fun cdv A outer s H vs Q E hr h => ?_)
  · obtain ⟨rfl, _⟩ := h
    rfl
  · obtain ⟨rfl, q⟩ := h
    refine ⟨_, (pss_cons (ps_set (i := 0) sc_l_all.nd rfl (.inl rfl) pe_str)
      (pss_one (ps_ret (pe_op op_add_str pe_str (pv 0))))), ?_⟩
    refine ⟨_, rfl, mk [10], mk (SG.drop 1), congrArg V.str (by decide +kernel), congrArg V.str (by decide +kernel), by decide +kernel, ?_⟩
    rw [add_mk]
    exact q
theorem menu_mk : (("abc01-^].*\n\\" : String) : Str) = mk MENU := by decide +kernel
theorem abc_mk : (("abc" : String) : Str) = mk [97, 98, 99] := by decide +kernel
theorem div_mod (n a b : Nat) : ((n : Int) / (a : Int)) % (b : Int) = ((n / a % b : Nat) : Int) := by
  rw [Int.natCast_emod, Int.natCast_ediv]
theorem ok_signs (T : Top w K mg) : Df P w K mg base CX0 2 "_law_signs" ["_law_number"] spSigns := by
  have D_l_all := ok_all (P := P) (base := base) T
  refine Df.of T.f_l_signs T.g_l_signs sc_l_signs b_l_signs (fun vs H Q E h => ?_) (fun cdv A outer s H vs Q E hr h => ?_)
  · obtain ⟨n, rfl, _⟩ := h
    rfl
  · obtain ⟨n, rfl, q⟩ := h
    refine ⟨_, (pss_cons (ps_set (i := 1) sc_l_signs.nd rfl (.inl rfl) (pe_callD0 D_l_all (hr.mono (by first | decide | omega)) rfl pass0))
      (pss_cons (ps_set (i := 2) sc_l_signs.nd rfl (.inl rfl) (pe_op op_mod (pv 0) pe_int))
      (pss_cons (ps_if (pt_cmpR op_lt (pv 2) pe_int (nomark _)) (pss_one (ps_ret (pe_ix ix_str pe_str (pe_op op_mod (pe_op op_fdiv (pv 0) pe_int) pe_int) (fun _ _ => rfl)))) pss_nil)
      (pss_cons (ps_if (pt_cmpR op_eq (pv 2) pe_int (nomark _)) (pss_one (ps_ret (pe_slice sl_str (pv 1) (po_some pe_int) po_none))) pss_nil)
      (pss_cons (ps_if (pt_cmpR op_eq (pv 2) pe_int (nomark _)) (pss_one (ps_ret (pe_ix ix_str (pv 1) (pe_op op_mod (pe_op op_fdiv (pv 0) pe_int) pe_int) (fun _ _ => rfl)))) pss_nil)
      (pss_cons (ps_set (i := 3) sc_l_signs.nd rfl (.inr rfl) (pe_slice sl_str (pv 1) (po_some (pe_op op_mod (pe_op op_fdiv (pv 0) pe_int) pe_int)) (po_some (pe_op op_add (pe_op op_mod (pe_op op_fdiv (pv 0) pe_int) pe_int) pe_int))))
      (pss_cons (ps_set (i := 4) sc_l_signs.nd rfl (.inr rfl) (pe_lc (own := [("_law_sign", 5)]) (g := gName 5) rfl sc_l_signs.nd (pi_str (pv 1)) (blkOk_by (own := [("_law_sign", 5)]) (N := N_l_signs) (sc := defScope s_l_signs) (by decide +kernel)) (fun _ _ _ _ _ => pg_name (i := 5) sc_l_signs.nd rfl (Or.inl rfl)) (fun _ _ _ _ _ => pts_one (PW.pt (pw_or (pt_cmpR op_in_sign (pv 5) pe_str rfl) (pw_or1 (pt_cmpR op_in_sign (pv 5) (pv 3) rfl))))) (fun _ _ _ _ _ => (pv 5))))
      (pss_cons (ps_if (pt_cmpR op_eq (pv 2) pe_int (nomark _)) (pss_one (ps_ret (pe_join pe_str (pv 4)))) pss_nil)
      (pss_cons (ps_if (pt_cmpR op_lt (pe_op op_mod (pe_op op_fdiv (pv 0) pe_int) pe_int) pe_int (nomark _)) (pss_one (ps_ret (pe_ix ix_list (pe_lst (pa_cons pe_str (pa_cons (pv 1) pa_nil))) (pe_op op_mod (pe_op op_fdiv (pv 0) pe_int) pe_int) (fun _ _ => rfl)))) pss_nil)
      (pss_one (ps_ret (pe_join pe_str (pe_lc (own := [("_law_sign", 5)]) (g := gName 5) rfl sc_l_signs.nd (pi_str (pv 1)) (blkOk_by (own := [("_law_sign", 5)]) (N := N_l_signs) (sc := defScope s_l_signs) (by decide +kernel)) (fun _ _ _ _ _ => pg_name (i := 5) sc_l_signs.nd rfl (Or.inl rfl)) (fun _ _ _ _ _ => pts_one (pt_cmpR (show OpR _ (compareOp .NotIn) (rIn K true) from op_notIn_seq) (pv 5) (pv 4) rfl)) (fun _ _ _ _ _ => (pv 5))))))))))))))), ?_⟩
    unfold signsM at q
    have m8 : ((n : Int) % 8) = ((n % 8 : Nat) : Int) := by omega
    refine ⟨rfl, ?_⟩
    refine ⟨_, rfl, _, _, rfl, rfl, by show (0 : Int) < 8; decide, ?_⟩
    refine ⟨_, rfl, _, _, rfl, rfl, _, rfl, if_dec (fun e => ?_) (fun e1 => ?_)⟩
    · rw [if_pos (by omega)] at q
      have hq : n / 8 % 12 < MENU.length := Nat.mod_lt _ (by decide)
      refine ⟨_, rfl, _, _, rfl, rfl, ⟨by decide, by decide⟩, _, _, rfl, rfl, by show (0 : Int) < 12; decide, _, _, MENU.getD (n / 8 % 12) 0, rfl, rfl, by decide +kernel, ?_, q H (Same.refl _)⟩
      rw [menu_mk, show ((n : Int) / 8) % 12 = ((n / 8 % 12 : Nat) : Int) by omega]
      refine atI_nat ?_
      show MENU[_]? = _
      exact getD_lt hq 0
    rw [if_neg (by omega)] at q
    refine ⟨_, rfl, rfl, _, rfl, if_dec (fun e => ?_) (fun e2 => ?_)⟩
    · have e' := V.int.inj e
      rw [if_pos (by omega)] at q
      refine ⟨_, rfl, 1, rfl, mk SG, rfl, by decide +kernel, ?_⟩
      rw [cut_from1]
      exact q H (Same.refl _)
    have e2' : ¬ n % 8 = 4 := fun z => e2 (congrArg V.int (by omega))
    rw [if_neg e2'] at q
    refine ⟨_, rfl, rfl, _, rfl, if_dec (fun e => ?_) (fun e3 => ?_)⟩
    · have e' := V.int.inj e
      rw [if_pos (by omega)] at q
      have hq : n / 8 % 95 < SG.length := Nat.mod_lt _ (by decide)
      refine ⟨_, rfl, _, rfl, _, _, rfl, rfl, ⟨by decide, by decide⟩, _, _, rfl, rfl, by show (0 : Int) < 95; decide, _, _, SG.getD (n / 8 % 95) 0, rfl, rfl, by decide +kernel, ?_, q H (Same.refl _)⟩
      rw [show ((n : Int) / 8) % 95 = ((n / 8 % 95 : Nat) : Int) by omega]
      refine atI_nat ?_
      show SG[_]? = _
      exact getD_lt hq 0
    have e3' : ¬ n % 8 = 5 := fun z => e3 (congrArg V.int (by omega))
    rw [if_neg e3'] at q
    -- the stretch
    refine ⟨_, rfl, _, rfl, _, _, rfl, rfl, ⟨by decide, by decide⟩, _, _, rfl, rfl, by show (0 : Int) < 92; decide, _, rfl, ?_⟩
    refine ⟨_, rfl, _, _, rfl, rfl, ⟨by decide, by decide⟩, _, _, rfl, rfl, by show (0 : Int) < 92; decide, _, _, rfl, rfl, _, rfl, mk SG, rfl, by decide +kernel, ?_⟩
    have est : cutS (mk SG) (some ((n : Int) / 8 % 92)) (some ((n : Int) / 8 % 92 + 4)) = mk ((SG.drop (n / 8 % 92)).take 4) := by
      unfold cutS
      rw [show ((n : Int) / 8) % 92 = ((n / 8 % 92 : Nat) : Int) by omega, show (((n / 8 % 92 : Nat) : Int) + 4) = ((n / 8 % 92 + 4 : Nat) : Int) from rfl, HT.sIx_nat, HT.sIx_nat, len_mk, SG_len]
      have h92 : n / 8 % 92 < 92 := Nat.mod_lt _ (by decide)
      rw [show min (n / 8 % 92) 95 = n / 8 % 92 by omega, show min (n / 8 % 92 + 4) 95 - n / 8 % 92 = 4 by omega]
      rfl
    rw [est]
    refine ⟨_, rfl, _, rfl, fun D hD => ?_⟩
    refine lc_ext (gives_str SG H) hD (by decide) (fun c => decide (c ∈ [97, 98, 99]) || decide (c ∈ (SG.drop (n / 8 % 92)).take 4)) (fun c v _ => v = .str (mk [c])) mono_const (fun x => rfl) ?_ ?_ ?_
    · rintro c hc x rfl H1 s1 Q1 q1
      refine ⟨_, rfl, c, _, rfl, rfl, _, rfl, ?_⟩
      rw [show (Str.ofString "abc").cps.toList = [97, 98, 99] by decide +kernel]
      refine if_dec (fun e => ?_) (fun e => ?_)
      · rw [decide_eq_true e] at q1
        exact q1 H1 (Same.refl _)
      · rw [decide_eq_false e, Bool.false_or] at q1
        exact ⟨_, rfl, _, rfl, c, mk _, rfl, rfl, _, rfl, q1 H1 (Same.refl _)⟩
    · rintro c hc hf x rfl H1 s1 Q1 q1
      exact ⟨_, rfl, q1 _ H1 (Same.refl _) rfl⟩
    · intro H1 ys s1 e1 hR
      have esome : SG.filter (fun c => decide (c ∈ [97, 98, 99]) || decide (c ∈ (SG.drop (n / 8 % 92)).take 4)) = someM (n / 8) := rfl
      have hys := join_signs _ ys H1 hR
      refine ⟨_, rfl, rfl, _, rfl, if_dec (fun e => ?_) (fun e4 => ?_)⟩
      · have e' := V.int.inj e
        rw [if_pos (by omega)] at q
        rw [hys] at e1
        refine ⟨⟨_, rfl⟩, _, rfl, mk [], D, _, congrArg V.str (by decide +kernel), rfl, .inl (SqL.of e1), join_size _, ?_⟩
        rw [join_signs2]
        exact q H1 s1
      have e4' : ¬ n % 8 = 6 := fun z => e4 (congrArg V.int (by omega))
      rw [if_neg e4'] at q
      refine ⟨_, rfl, _, _, rfl, rfl, ⟨by decide, by decide⟩, _, _, rfl, rfl, by show (0 : Int) < 5; decide, _, _, rfl, rfl, _, rfl, if_dec (fun e => ?_) (fun e5 => ?_)⟩
      · rw [if_pos (by omega)] at q
        refine ⟨_, rfl, by show 2 ≤ sizeLine; decide +kernel, fun l hl => ?_⟩
        refine ⟨_, rfl, _, _, rfl, rfl, ⟨by decide, by decide⟩, _, _, rfl, rfl, by show (0 : Int) < 5; decide, l, _, _, _, rfl, rfl, SqL.of upd_same, ?_, q _ (s1.trans (same_new hl))⟩
        rcases (show n / 8 % 5 = 0 ∨ n / 8 % 5 = 1 by omega) with z | z
        · rw [show ((n : Int) / 8) % 5 = ((0 : Nat) : Int) by omega, if_pos z]
          exact atI_nat (by rw [show mk [] = (("" : String) : Str) by decide +kernel]; rfl)
        · rw [show ((n : Int) / 8) % 5 = ((1 : Nat) : Int) by omega, if_neg (by omega)]
          exact atI_nat rfl
      rw [if_neg (by omega)] at q
      refine ⟨⟨_, rfl⟩, _, rfl, mk SG, rfl, fun D2 hD2 => ?_⟩
      have hne : D ≠ D2 := fun e => by rw [← e, e1] at hD2; cases hD2
      refine lc_ext (gives_str SG H1) hD2 (by decide) (fun c => !decide (c ∈ someM (n / 8))) (fun c v _ => v = .str (mk [c])) mono_const (fun x => rfl) ?_ ?_ ?_
      · rintro c hc x rfl H2 s2 Q1 q1
        have hin : inV (.str (mk [c])) ys = decide (c ∈ someM (n / 8)) := by
          have h1 := inV_str [c] (((SG.filter fun c => decide (c ∈ [97, 98, 99]) || decide (c ∈ (SG.drop (n / 8 % 92)).take 4)).map fun c => mk [c])) ((someM (n / 8)).map fun c => [c]) (by rw [List.map_map]; rfl)
          rw [← hys] at h1
          rw [h1]
          by_cases hc : c ∈ someM (n / 8)
          · rw [decide_eq_true hc, decide_eq_true (List.mem_map.mpr ⟨c, hc, rfl⟩)]
          · have hn : ¬ [c] ∈ (someM (n / 8)).map fun c => [c] := fun z => by
              obtain ⟨b, hb, eb⟩ := List.mem_map.mp z
              injection eb with e1 _
              rw [← e1] at hc
              exact hc hb
            rw [decide_eq_false hc, decide_eq_false hn]
        have hfl : ys.all flatV = true := by
          rw [hys]
          refine List.all_eq_true.mpr fun v hv => ?_
          obtain ⟨z, _, rfl⟩ := List.mem_map.mp hv
          rfl
        refine ⟨_, rfl, _, rfl, D, ys, rfl, .inl (SqL.of (s2 _ _ e1)), rfl, hfl, _, rfl, ?_⟩
        have := q1 H2 (Same.refl _)
        rw [← hin] at this
        exact this
      · rintro c hc hf x rfl H2 s2 Q1 q1
        exact ⟨_, rfl, q1 _ H2 (Same.refl _) rfl⟩
      · intro H2 zs s2 e2 hR2
        rw [join_signs _ zs H2 hR2] at e2
        refine ⟨mk [], D2, _, congrArg V.str (by decide +kernel), rfl, .inl (SqL.of e2), join_size _, ?_⟩
        rw [join_signs2]
        exact q H2 (s1.trans s2)
end
end TW

set_option maxHeartbeats 1000000
namespace TW
open PySem PySem.Spec PyProof.Rows L2
theorem RAll.at {f : Nat → Tr} {H : Hp} : ∀ {ks : List Nat} {vs : List V}, RAll (fun k v H => AtT (f k) v H) H ks vs → DtA H vs (Tr.datas (ks.map f))
  | [], [], _ => .nil
  | _ :: _, _ :: _, ⟨h1, h2⟩ => .cons h1 (RAll.at h2)
  | [], _ :: _, h => h.elim
  | _ :: _, [], h => h.elim
theorem args3 {a : Addr} {i j k l : Int} (h1 : i = j) (h2 : k = l) : [V.ref a, V.int i, V.int k] = [V.ref a, V.int j, V.int l] := by rw [h1, h2]
def spTreeP (K : PySem.W.Frag) : Nat → Sp
  | 0 => fun _ _ _ _ => False
  | d + 1 => spTree K d
section
variable {P : Program} {w : World} {K : PySem.W.Frag} {mg : Str → Option Value} {base : Heap}
theorem at_pair {H : Hp} {r x : Addr} {z : Str} {v : V} {d : PyData} (h : H r = some (.tup [.str z, v])) (hv : Dt H v d) : Dt H (.ref r) (.tuple [.str z, d]) := .tup h (.cons (.str _) (.cons hv .nil))
theorem ok_tree (T : Top w K mg) (d k : Nat) (hk : 2 ≤ k) (D_l_tree : Df P w K mg base CX0 k "_law_tree" ["_law_script", "_law_base", "_law_deep"] (spTreeP K d)) :
    Df P w K mg base CX0 (k + 1) "_law_tree" ["_law_script", "_law_base", "_law_deep"] (spTree K d) := by
  have D_l_mix := ok_mix (P := P) (base := base) T
  have D_l_signs := ok_signs (P := P) (base := base) T
  refine Df.of T.f_l_tree T.g_l_tree sc_l_tree b_l_tree (fun vs H Q E h => ?_) (fun cdv A outer s H vs Q E hr h => ?_)
  · obtain ⟨a, ns, b, rfl, _⟩ := h
    rfl
  · obtain ⟨a, ns, b, rfl, ha, q⟩ := h
    refine ⟨_, (pss_cons (ps_set (i := 3) sc_l_tree.nd rfl (.inl rfl) (pe_callD D_l_mix (hr.mono (by first | decide | omega)) rfl pass0 (pa_cons (pv 0) (pa_cons (pv 1) pa_nil))))
      (pss_cons (ps_set (i := 4) sc_l_tree.nd rfl (.inl rfl) (pe_op op_mod (pv 3) pe_int))
      (pss_cons (ps_if (PW.pt (pw_or (pt_cmpR op_eq (pv 2) pe_int (nomark _)) (pw_or1 (pt_cmpR op_lt (pv 4) pe_int (nomark _))))) (pss_one (ps_ret (pe_tup (pa_cons pe_str (pa_cons (pe_callD D_l_signs (hr.mono (by first | decide | omega)) rfl pass0 (pa_cons (pe_op op_fdiv (pv 3) pe_int) pa_nil)) pa_nil))))) pss_nil)
      (pss_cons (ps_if (pt_cmpR op_lt (pv 4) pe_int (nomark _)) (pss_cons (ps_setLc (i := 5) rfl sc_l_tree.nd rfl rfl (sw_true rfl rfl rfl (by decide +kernel)) (pi_range1 rfl T.z_range (pa_cons (pe_op op_add pe_int (pe_op op_mod (pe_op op_fdiv (pv 3) pe_int) pe_int)) pa_nil)) (blkOk_by (own := [("_law_k", 6)]) (N := N_l_tree) (sc := defScope s_l_tree) (by decide +kernel)) (fun _ _ _ _ _ => pg_name (i := 6) sc_l_tree.nd rfl (Or.inl rfl)) (fun _ _ _ _ _ => pts_nil) (fun _ _ _ _ _ => (pe_callD D_l_tree (hr.mono (by first | decide | omega)) rfl pass0 (pa_cons (pv 0) (pa_cons (pe_op op_add (pe_op op_add (pe_op op_mul pe_int (pv 1)) pe_int) (pv 6)) (pa_cons (pe_op op_sub (pv 2) pe_int) pa_nil))))))
      (pss_one (ps_ret (pe_tup (pa_cons (pe_ix ix_list (pe_lst (pa_cons pe_str (pa_cons pe_str pa_nil))) (pe_op op_sub (pv 4) pe_int) (fun _ _ => rfl)) (pa_cons (pe_callTy call_tuple_of rfl T.z_tuple (by decide +kernel) (pa_cons (pv 5) pa_nil)) pa_nil)))))) pss_nil)
      (pss_one (ps_ret (pe_tup (pa_cons (pe_ix ix_list (pe_lst (pa_cons pe_str (pa_cons pe_str (pa_cons pe_str pa_nil)))) (pe_op op_sub (pv 4) pe_int) (fun _ _ => rfl)) (pa_cons (pe_callD D_l_tree (hr.mono (by first | decide | omega)) rfl pass0 (pa_cons (pv 0) (pa_cons (pe_op op_add (pe_op op_mul pe_int (pv 1)) pe_int) (pa_cons (pe_op op_sub (pv 2) pe_int) pa_nil)))) pa_nil))))))))), ?_⟩
    refine ⟨_, rfl, _, rfl, a, ns, b, rfl, ha, ?_⟩
    generalize hn : mixN ns b = n at q ⊢
    refine ⟨_, rfl, _, _, rfl, rfl, by show (0 : Int) < 8; decide, ?_⟩
    -- a leaf
    have leaf : ∀ (H1 : Hp) (x : Addr), Same H H1 → H1 x = none → treeM (mixN ns) d b = .one (signsM (n / 8)) → Q (.ref x) (upd H1 x (.tup [.str "one", .str (mk (signsM (n / 8)))])) := fun H1 x s1 hx e => by
      have sx : Same H1 (upd H1 x (.tup [.str "one", .str (mk (signsM (n / 8)))])) := same_new hx
      refine q _ _ (s1.trans sx) ?_
      rw [e]
      exact at_pair (x := x) upd_same (.str _)
    have e8 : ((n : Int) / 8) = ((n / 8 : Nat) : Int) := by omega
    have hleaf : treeM (mixN ns) d b = .one (signsM (n / 8)) → tRet (tTup (tCons (tC (.str "one")) (tCons (tCall spSigns [] E0 (tCons (tOp (rI CDiv fun i j => .int (i / j)) (tVar 3) (tC (.int 8))) tNil)) tNil))) { nx := fun _ H' => Q .non H', rt := Q } [some (.ref a), some (.int (b : Nat)), some (.int (d : Nat)), some (.int (n : Nat)), some (.int ((n : Int) % 8)), none, none] H := fun e => by
      refine ⟨_, rfl, _, _, rfl, rfl, ⟨by decide, by decide⟩, n / 8, congrArg (fun z => [V.int z]) e8, fun H1 s1 => ⟨by show 2 ≤ sizeLine; decide +kernel, fun x hx => ?_⟩⟩
      exact leaf H1 x s1 hx e
    refine ⟨_, rfl, rfl, _, rfl, if_dec (fun e => ?_) (fun e => ?_)⟩
    · have hd : d = 0 := by
        have := V.int.inj e
        omega
      subst hd
      exact iteT (B := True) (hleaf (by show Tr.one _ = _; rw [hn]))
    obtain ⟨d', rfl⟩ : ∃ d', d = d' + 1 := by
      cases d with
      | zero => exact absurd rfl e
      | succ d' => exact ⟨d', rfl⟩
    have hT : treeM (mixN ns) (d' + 1) b = if n % 8 < 3 then .one (signsM (n / 8)) else if n % 8 < 5 then (if n % 8 = 3 then Tr.row else Tr.or) ((List.range (2 + n / 8 % 2)).map fun k => treeM (mixN ns) d' (3 * b + 1 + k)) else unM (n % 8) (treeM (mixN ns) d' (3 * b + 1)) := by
      rw [← hn] <;> rfl
    refine ⟨_, rfl, _, _, rfl, rfl, _, rfl, if_dec (fun e1 => ?_) (fun e1 => ?_)⟩
    · exact hleaf (by rw [hT, if_pos (by omega)])
    have h1 : ¬ n % 8 < 3 := by omega
    rw [if_neg h1] at hT
    refine ⟨_, rfl, _, _, rfl, rfl, _, rfl, if_dec (fun e2 => ?_) (fun e2 => ?_)⟩
    · have h2 : n % 8 < 5 := by omega
      rw [if_pos h2] at hT
      refine ⟨_, rfl, _, _, rfl, rfl, ⟨by decide, by decide⟩, _, _, rfl, rfl, by show (0 : Int) < 2; decide, _, _, rfl, rfl, _, rfl, by omega, by omega, fun D hD => ?_⟩
      rw [show (2 + (n : Int) / 8 % 2).toNat = 2 + n / 8 % 2 by omega]
      refine lc_ext (gives_range (2 + n / 8 % 2) H) hD (sz_of (by rw [List.length_range]; omega)) (fun _ => true) (fun k v H => AtT (treeM (mixN ns) d' (3 * b + 1 + k)) v H) (fun k v H H' t h => Dt.mono t h) (fun x => rfl) ?_ ?_ ?_
      · rintro c hc x rfl H1 s1 Q1 q1
        exact q1 H1 (Same.refl _)
      · rintro c hc hf x rfl H1 s1 Q1 q1
        refine ⟨_, rfl, _, rfl, _, _, rfl, rfl, .inl (by decide), _, _, rfl, rfl, _, rfl, _, _, rfl, rfl, _, rfl, _, _, rfl, rfl, a, ns, 3 * b + 1 + c, ?_, s1.seq ha, fun v H2 s2 hv => q1 v H2 s2 hv⟩
        have z1 : (3 * (b : Int) + 1 + (c : Int)) = ((3 * b + 1 + c : Nat) : Int) := by omega
        have z2 : (((d' + 1 : Nat) : Int) - 1) = ((d' : Nat) : Int) := by omega
        exact args3 z1 z2
      · intro H1 ys s1 e1 hR
        rw [filter_true] at hR
        have hA := RAll.at hR
        refine ⟨by show 2 ≤ sizeLine; decide +kernel, fun l hl => ?_⟩
        have sl : Same H1 (upd H1 l (.lst [.str "row", .str "or"])) := same_new hl
        have hD1 := sl _ _ e1
        have e38 : n % 8 = 3 ∨ n % 8 = 4 := by omega
        refine ⟨_, rfl, _, _, rfl, rfl, l, _, _, .str (if n % 8 = 3 then "row" else "or"), rfl, rfl, SqL.of upd_same, ?_, ?_⟩
        · rcases e38 with z | z
          · rw [show ((n : Int) % 8 - 3) = ((0 : Nat) : Int) by omega, if_pos z]
            exact atI_nat rfl
          · rw [show ((n : Int) % 8 - 3) = ((1 : Nat) : Int) by omega, if_neg (by omega)]
            exact atI_nat rfl
        refine ⟨_, rfl, D, ys, rfl, .inl ⟨SqL.of hD1, fun tp htp => ?_⟩⟩
        refine ⟨by show 2 ≤ sizeLine; decide +kernel, fun r hr2 => ?_⟩
        generalize hHl : upd H1 l (.lst [.str "row", .str "or"]) = Hl at sl htp hr2 ⊢
        have st : Same Hl (upd Hl tp (.tup ys)) := same_new htp
        generalize hHt : upd Hl tp (.tup ys) = Ht at st hr2 ⊢
        have ht : Ht tp = some (.tup ys) := by rw [← hHt, upd_same]
        have sr : Same Ht (upd Ht r (.tup [.str (if n % 8 = 3 then "row" else "or"), .ref tp])) := same_new hr2
        refine q _ _ (((s1.trans sl).trans st).trans sr) ?_
        rw [hT]
        have hA2 := hA.mono (TupK.of ((sl.trans st).trans sr))
        rcases e38 with z | z
        · rw [if_pos z]
          exact at_pair (x := r) (by rw [upd_same, if_pos z]) (.tup (sr _ _ ht) hA2)
        · rw [if_neg (by omega)]
          exact at_pair (x := r) (by rw [upd_same, if_neg (by omega)]) (.tup (sr _ _ ht) hA2)
    · have h2 : ¬ n % 8 < 5 := by omega
      rw [if_neg h2] at hT
      refine ⟨by show 3 ≤ sizeLine; decide +kernel, fun l hl => ?_⟩
      have sl : Same H (upd H l (.lst [.str "star", .str "plus", .str "maybe"])) := same_new hl
      have e567 : n % 8 = 5 ∨ n % 8 = 6 ∨ n % 8 = 7 := by omega
      refine ⟨_, rfl, _, _, rfl, rfl, l, _, _, .str (if n % 8 = 5 then "star" else if n % 8 = 6 then "plus" else "maybe"), rfl, rfl, SqL.of upd_same, ?_, ?_⟩
      · rcases e567 with z | z | z
        · rw [show ((n : Int) % 8 - 5) = ((0 : Nat) : Int) by omega, if_pos z]
          exact atI_nat rfl
        · rw [show ((n : Int) % 8 - 5) = ((1 : Nat) : Int) by omega, if_neg (by omega), if_pos z]
          exact atI_nat rfl
        · rw [show ((n : Int) % 8 - 5) = ((2 : Nat) : Int) by omega, if_neg (by omega), if_neg (by omega)]
          exact atI_nat rfl
      refine ⟨_, rfl, _, rfl, _, _, rfl, rfl, .inl (by decide), _, _, rfl, rfl, _, rfl, _, _, rfl, rfl, a, ns, 3 * b + 1, ?_, sl.seq ha, fun v H2 s2 hv => ?_⟩
      · have z1 : (3 * (b : Int) + 1) = ((3 * b + 1 : Nat) : Int) := by omega
        have z2 : (((d' + 1 : Nat) : Int) - 1) = ((d' : Nat) : Int) := by omega
        exact args3 z1 z2
      refine ⟨by show 2 ≤ sizeLine; decide +kernel, fun r hr2 => ?_⟩
      have sr : Same H2 (upd H2 r (.tup [.str (if n % 8 = 5 then "star" else if n % 8 = 6 then "plus" else "maybe"), v])) := same_new hr2
      refine q _ _ ((sl.trans s2).trans sr) ?_
      rw [hT]
      have hv2 := hv.mono (TupK.of sr)
      unfold unM
      rcases e567 with z | z | z
      · rw [if_pos z]
        exact at_pair (x := r) (by rw [upd_same, if_pos z]) hv2
      · rw [if_neg (by omega), if_pos z]
        exact at_pair (x := r) (by rw [upd_same, if_neg (by omega), if_pos z]) hv2
      · rw [if_neg (by omega), if_neg (by omega)]
        exact at_pair (x := r) (by rw [upd_same, if_neg (by omega), if_neg (by omega)]) hv2
theorem tree_all (T : Top w K mg) : ∀ d, Df P w K mg base CX0 (3 + d) "_law_tree" ["_law_script", "_law_base", "_law_deep"] (spTree K d)
  | 0 => ok_tree T 0 2 (by omega) (Df.never 2 T.f_l_tree T.g_l_tree b_l_tree)
  | d + 1 => ok_tree T (d + 1) (3 + d) (by omega) (tree_all T d)
end
end TW

set_option maxHeartbeats 1000000
namespace TW
open PySem PySem.Spec PyProof.Rows L2
def lturn (ks : List Nat) (c : Nat) : List Nat := if c = 10 then [92, 110] else if c ∈ ks then [92, c] else [c]
def spanRun : Nat → List Nat → List Nat × List Nat
  | _, [] => ([], [])
  | p, c :: r => if ix c = ix p + 1 then (c :: (spanRun c r).1, (spanRun c r).2) else ([], c :: r)
def runsM : Nat → List Nat → List (List Nat)
  | 0, _ => []
  | _ + 1, [] => []
  | n + 1, c :: r => (c :: (spanRun c r).1) :: runsM n (spanRun c r).2
def litem (ks run : List Nat) : List Nat :=
  if run.length > 2 then lturn ks (run.headD 0) ++ [45] ++ lturn ks (run.getLastD 0)
  else if run.length > 1 then lturn ks (run.getLastD 0) ++ lturn ks (run.headD 0) else lturn ks (run.headD 0)
def lkept (n : Nat) : List Nat := if n % 2 = 0 then TURNs else [93, 92, 45, 94]
def lrot {α : Type} (n : Nat) (xs : List α) : List α := xs.drop (n / 2 % max 1 xs.length) ++ xs.take (n / 2 % max 1 xs.length) ++ xs.take (n / 14 % 3 / 2)
def lclass (s : List Nat) (n : Nat) : List Nat := (lrot n ((runsM s.length s).map (litem (lkept n)))).flatten
def spLTurn : Sp := fun vs H Q _ => ∃ c ks, vs = [.str (mk [c]), .str (mk ks)] ∧ Q (.str (mk (lturn ks c))) H
def spLClass : Sp := fun vs H Q _ => ∃ s n, vs = [.str (mk s), .int (n : Nat)] ∧ (∀ c ∈ s, c ∈ SG) ∧ s.length ≤ 1000 ∧ ∀ H', Same H H' → Q (.str (mk (lclass s n))) H'
theorem lturn_len (ks : List Nat) (c : Nat) : (lturn ks c).length ≤ 2 := by
  unfold lturn
  split
  · simp
  split <;> simp
theorem litem_len (ks run : List Nat) : (litem ks run).length ≤ 5 := by
  unfold litem
  have h1 := lturn_len ks (run.headD 0)
  have h2 := lturn_len ks (run.getLastD 0)
  split
  · rw [List.length_append, List.length_append]
    show _ + 1 + _ ≤ _
    omega
  split
  · rw [List.length_append]; omega
  · omega
theorem spanRun_len : ∀ (p : Nat) (r : List Nat), (spanRun p r).1.length + (spanRun p r).2.length = r.length
  | _, [] => rfl
  | p, c :: r => by
    have h := spanRun_len c r
    unfold spanRun
    split
    · show (spanRun c r).1.length + 1 + (spanRun c r).2.length = r.length + 1
      omega
    · show 0 + (r.length + 1) = r.length + 1
      omega
theorem runs_len : ∀ (n : Nat) (r : List Nat), (runsM n r).length ≤ r.length
  | 0, _ => Nat.zero_le _
  | _ + 1, [] => Nat.le_refl _
  | n + 1, c :: r => by
    have h1 := runs_len n (spanRun c r).2
    have h2 := spanRun_len c r
    show (runsM n (spanRun c r).2).length + 1 ≤ r.length + 1
    omega
theorem flatten_le (k : Nat) : ∀ l : List (List Nat), (∀ x ∈ l, x.length ≤ k) → l.flatten.length ≤ k * l.length
  | [], _ => Nat.zero_le _
  | a :: r, h => by
    have h1 := flatten_le k r fun x hx => h x (List.mem_cons_of_mem _ hx)
    have h2 := h a List.mem_cons_self
    rw [List.flatten_cons, List.length_append, List.length_cons, Nat.mul_add]
    omega
theorem lclass_len (s : List Nat) (n : Nat) (h : s.length ≤ 1000) : (lclass s n).length ≤ 20000 := by
  have h1 := runs_len s.length s
  have h2 : (lrot n ((runsM s.length s).map (litem (lkept n)))).flatten.length ≤ 5 * (lrot n ((runsM s.length s).map (litem (lkept n)))).length := flatten_le 5 _ fun x hx => by
    have : x ∈ (runsM s.length s).map (litem (lkept n)) := by
      unfold lrot at hx
      rcases List.mem_append.mp hx with h | h
      · rcases List.mem_append.mp h with h | h
        · exact List.mem_of_mem_drop h
        · exact List.mem_of_mem_take h
      · exact List.mem_of_mem_take h
    obtain ⟨r, _, rfl⟩ := List.mem_map.mp this
    exact litem_len _ _
  have h3 : (lrot n ((runsM s.length s).map (litem (lkept n)))).length ≤ 3 * (runsM s.length s).length := by
    unfold lrot
    rw [List.length_append, List.length_append, List.length_drop, List.length_take, List.length_take, List.length_map]
    omega
  unfold lclass
  omega
theorem occ_sign {c : Nat} (h : c ∈ SG) : Builtin.Str.occurrences (mk SG) (mk [c]) 0 (mk SG).length 1 = [ix c] := by
  have : ∀ c ∈ SG, Builtin.Str.occurrences (mk SG) (mk [c]) 0 (mk SG).length 1 = [ix c] := by decide +kernel
  exact this c h
theorem snoc_lastD (l : List Nat) (z : Nat) : (l ++ [z]).getLastD 0 = z := by simp
theorem at_code {s : List Nat} {j c : Nat} (h : s[j]? = some c) : atI (mk s).cps.toList ((j : Nat) : Int) = some c := atI_nat h
theorem drop_get {s : List Nat} {j : Nat} (h : j < s.length) : ∃ c, s[j]? = some c ∧ s.drop j = c :: s.drop (j + 1) ∧ c ∈ s := ⟨s[j], List.getElem?_eq_getElem h, List.drop_eq_getElem_cons h, List.getElem_mem h⟩
section
variable {P : Program} {w : World} {K : PySem.W.Frag} {mg : Str → Option Value} {base : Heap}
theorem ok_lturned (T : Top w K mg) : Df P w K mg base CX0 1 "_law_turned" ["_law_sign", "_law_kept"] spLTurn := by
  refine Df.of T.f_l_turned T.g_l_turned sc_l_turned b_l_turned (fun vs H Q E h => ?_) (fun cdv A outer s H vs Q E hr h => ?_)
  · obtain ⟨c, ks, rfl, _⟩ := h
    rfl
  · obtain ⟨c, ks, rfl, q⟩ := h
    refine ⟨_, (pss_cons (ps_if (pt_cmpR op_eq (pv 0) pe_str (nomark _)) (pss_one (ps_ret pe_str)) pss_nil)
      (pss_one (ps_ret (pe_ifExp (pt_cmpR op_in_sign (pv 0) (pv 1) rfl) (pe_op op_add_str pe_str (pv 0)) (pv 0))))), ?_⟩
    unfold lturn at q
    refine ⟨_, rfl, rfl, _, rfl, if_str (b := [10]) (by decide +kernel) (fun e => ?_) (fun e => ?_)⟩
    · injection e with e1 _
      rw [if_pos e1] at q
      show Q (V.str ("\\n" : String)) H
      rw [show (("\\n" : String) : Str) = mk [92, 110] by decide +kernel]
      exact q
    · have h10 : ¬ c = 10 := fun z => e (by rw [z])
      rw [if_neg h10] at q
      refine ⟨_, rfl, _, rfl, c, mk ks, rfl, rfl, _, rfl, if_dec (fun hin => ?_) (fun hin => ?_)⟩
      · have hin : c ∈ ks := hin
        rw [if_pos hin] at q
        refine ⟨_, rfl, mk [92], mk [c], congrArg V.str (by decide +kernel), rfl, by show 2 ≤ sizeLine; decide +kernel, ?_⟩
        rw [add_mk]
        exact q
      · have hin : ¬ c ∈ ks := hin
        rw [if_neg hin] at q
        exact ⟨_, rfl, q⟩
theorem ok_lclass (T : Top w K mg) : Df P w K mg base CX0 2 "_law_class" ["_law_signs_here", "_law_number"] spLClass := by
  have D_l_all := ok_all (P := P) (base := base) T
  have D_l_turned := ok_lturned (P := P) (base := base) T
  refine Df.of T.f_l_class T.g_l_class sc_l_class b_l_class (fun vs H Q E h => ?_) (fun cdv A outer s H vs Q E hr h => ?_)
  · obtain ⟨L, n, rfl, _⟩ := h
    rfl
  · obtain ⟨L, n, rfl, hs, hl, q⟩ := h
    refine ⟨_, (pss_cons (ps_set (i := 2) sc_l_class.nd rfl (.inl rfl) (pe_ix ix_list (pe_lst (pa_cons pe_str (pa_cons pe_str pa_nil))) (pe_op op_mod (pv 1) pe_int) (fun _ _ => rfl)))
      (pss_cons (ps_set (i := 3) sc_l_class.nd rfl (.inl rfl) (pe_lst pa_nil))
      (pss_cons (ps_set (i := 4) sc_l_class.nd rfl (.inl rfl) pe_int)
      (pss_cons (ps_set (i := 5) sc_l_class.nd rfl (.inl rfl) (pe_callD0 D_l_all (hr.mono (by first | decide | omega)) rfl pass0))
      (pss_cons (ps_while PassesOwn.never (pt_cmpR op_lt (pv 4) (pe_callB call_len_str rfl T.z_len boot_len (pa_cons (pv 0) pa_nil)) (nomark _)) (pss_cons (ps_set (i := 6) sc_l_class.nd rfl (.inl rfl) (pv 4))
      (pss_cons (ps_while PassesOwn.never (PW.pt (pw_and (pt_cmpR op_lt (pe_op op_add (pv 6) pe_int) (pe_callB call_len_str rfl T.z_len boot_len (pa_cons (pv 0) pa_nil)) (nomark _)) (pw_and1 (pt_cmpR op_eq (pe_m1 PySem.F.slot_str_index PySem.F.type_str_index mt_sindex (pv 5) (pe_ix ix_str (pv 0) (pe_op op_add (pv 6) pe_int) (fun _ _ => rfl))) (pe_op op_add (pe_m1 PySem.F.slot_str_index PySem.F.type_str_index mt_sindex (pv 5) (pe_ix ix_str (pv 0) (pv 6) (fun _ _ => rfl))) pe_int) (nomark _))))) (pss_one (ps_set (i := 6) sc_l_class.nd rfl (.inl rfl) (pe_op op_add (pv 6) pe_int))))
      (pss_cons (ps_set (i := 7) sc_l_class.nd rfl (.inl rfl) (pe_callD D_l_turned (hr.mono (by first | decide | omega)) rfl pass0 (pa_cons (pe_ix ix_str (pv 0) (pv 4) (fun _ _ => rfl)) (pa_cons (pv 2) pa_nil))))
      (pss_cons (ps_if (pt_cmpR op_gt (pv 6) (pe_op op_add (pv 4) pe_int) (nomark _)) (pss_one (ps_set (i := 7) sc_l_class.nd rfl (.inl rfl) (pe_op op_add_str (pe_op op_add_str (pv 7) pe_str) (pe_callD D_l_turned (hr.mono (by first | decide | omega)) rfl pass0 (pa_cons (pe_ix ix_str (pv 0) (pv 6) (fun _ _ => rfl)) (pa_cons (pv 2) pa_nil)))))) (pss_one (ps_if (pt_cmpR op_gt (pv 6) (pv 4) (nomark _)) (pss_one (ps_set (i := 7) sc_l_class.nd rfl (.inl rfl) (pe_op op_add_str (pe_callD D_l_turned (hr.mono (by first | decide | omega)) rfl pass0 (pa_cons (pe_ix ix_str (pv 0) (pv 6) (fun _ _ => rfl)) (pa_cons (pv 2) pa_nil))) (pv 7)))) pss_nil)))
      (pss_cons (ps_expr (pe_bm PySem.F.plainAttrs_list PySem.F.slot_list_append PySem.F.type_list_append mt_append (pv 3) (pa_cons (pv 7) pa_nil)))
      (pss_one (ps_set (i := 4) sc_l_class.nd rfl (.inl rfl) (pe_op op_add (pv 6) pe_int)))))))))
      (pss_cons (ps_set (i := 8) sc_l_class.nd rfl (.inl rfl) (pe_op op_mod (pe_op op_fdiv (pv 1) pe_int) (pe_callB (call_max2 rfl) rfl T.z_max (by decide +kernel) (pa_cons pe_int (pa_cons (pe_callB call_len_seq rfl T.z_len boot_len (pa_cons (pv 3) pa_nil)) pa_nil)))))
      (pss_one (ps_ret (pe_join pe_str (pe_op op_cat (pe_op op_cat (pe_slice sl_list (pv 3) (po_some (pv 8)) po_none) (pe_slice sl_list (pv 3) po_none (po_some (pv 8)))) (pe_slice sl_list (pv 3) po_none (po_some (pe_op op_fdiv (pe_op op_mod (pe_op op_fdiv (pv 1) pe_int) pe_int) pe_int))))))))))))), ?_⟩
    refine ⟨by show 2 ≤ sizeLine; decide +kernel, fun l0 hl0 => ?_⟩
    refine ⟨_, rfl, _, _, rfl, rfl, by show (0 : Int) < 2; decide, l0, _, _, .str (mk (lkept n)), rfl, rfl, SqL.of upd_same, ?_, ?_⟩
    · unfold lkept
      rcases (show n % 2 = 0 ∨ n % 2 = 1 by omega) with z | z
      · rw [show ((n : Int) % 2) = ((0 : Nat) : Int) by omega, if_pos z, show mk TURNs = ((".|()[]*+?\\-^" : String) : Str) by decide +kernel]
        exact atI_nat rfl
      · rw [show ((n : Int) % 2) = ((1 : Nat) : Int) by omega, if_neg (by omega), show mk [93, 92, 45, 94] = (("]\\-^" : String) : Str) by decide +kernel]
        exact atI_nat rfl
    have s0 : Same H (upd H l0 (.lst [.str ".|()[]*+?\\-^", .str "]\\-^"])) := same_new hl0
    generalize upd H l0 (.lst [.str ".|()[]*+?\\-^", .str "]\\-^"]) = H0 at s0 ⊢
    generalize hks : lkept n = ks
    refine ⟨by show 0 ≤ sizeLine; decide +kernel, fun l hlf => ?_⟩
    have hlH : H l = none := Same.free s0 hlf
    refine ⟨rfl, ?_⟩
    -- the loop over the runs
    refine ⟨fun m σ H' => ∃ at' done f x6 x7, σ = [some (.str (mk L)), some (.int (n : Nat)), some (.str (mk ks)), some (.ref l), some (.int (at' : Nat)), some (.str (mk SG)), x6, x7, none] ∧ m = L.length - at' ∧ at' ≤ L.length ∧ Same H H' ∧
      H' l = some (.lst (strV (done.map (litem ks)))) ∧ runsM L.length L = done ++ runsM f (L.drop at') ∧ L.length - at' ≤ f ∧ done.length ≤ at',
      ⟨_, 0, [], L.length, none, none, rfl, rfl, Nat.zero_le _, s0.trans (same_new hlf), upd_same, rfl, by omega, Nat.le_refl _⟩, ?_⟩
    rintro m σ H2 ⟨at', done, f, x6, x7, rfl, rfl, hat, s2, el, hrun, hf, hdl⟩
    refine ⟨_, rfl, _, rfl, mk L, rfl, sz_mk (by omega), _, _, rfl, rfl, _, rfl, if_dec (fun e => ?_) (fun e => ?_)⟩
    · have hlt : at' < L.length := by
        rw [len_mk] at e
        omega
      obtain ⟨c, hc, hdc, hcm⟩ := drop_get hlt
      have hcS := hs c hcm
      obtain ⟨f', rfl⟩ : ∃ f', f = f' + 1 := ⟨f - 1, by omega⟩
      rw [hdc] at hrun
      have hrun2 : runsM L.length L = (done ++ [c :: (spanRun c (L.drop (at' + 1))).1]) ++ runsM f' (spanRun c (L.drop (at' + 1))).2 := by
        rw [hrun, List.append_assoc]
        rfl
      refine ⟨_, fun σ' H' hN => hN, ?_⟩
      -- end = at; the inner loop
      refine ⟨_, rfl, ?_⟩
      refine ⟨fun m σ H' => ∃ (en z : Nat), σ = [some (.str (mk L)), some (.int (n : Nat)), some (.str (mk ks)), some (.ref l), some (.int (at' : Nat)), some (.str (mk SG)), some (.int (en : Nat)), x7, none] ∧ m = L.length - en ∧ at' ≤ en ∧ en < L.length ∧ H' = H2 ∧ L[en]? = some z ∧
        (spanRun c (L.drop (at' + 1))).1 = (L.drop (at' + 1)).take (en - at') ++ (spanRun z (L.drop (en + 1))).1 ∧ (spanRun c (L.drop (at' + 1))).2 = (spanRun z (L.drop (en + 1))).2,
        ⟨_, at', c, rfl, rfl, Nat.le_refl _, hlt, rfl, hc, by rw [Nat.sub_self, List.take_zero, List.nil_append], rfl⟩, ?_⟩
      rintro m2 σ2 H3 ⟨en, z, rfl, rfl, hae, hen, rfl, hz, hsp1, hsp2⟩
      have hzS : z ∈ SG := hs z (List.mem_of_getElem? hz)
      -- what follows the inner loop
      have rest : spanRun z (L.drop (en + 1)) = ([], L.drop (en + 1)) → ∃ run, (c :: (spanRun c (L.drop (at' + 1))).1) = run ∧ run.length = en - at' + 1 ∧ run.headD 0 = c ∧ run.getLastD 0 = z := fun hend => by
        rw [hend] at hsp1
        rw [List.append_nil] at hsp1
        refine ⟨_, rfl, ?_, rfl, ?_⟩
        · rw [hsp1, List.length_cons, List.length_take, List.length_drop]
          omega
        · rw [hsp1]
          rcases Nat.lt_or_ge at' en with h | h
          · have e1 : (L.drop (at' + 1)).take (en - at') = (L.drop (at' + 1)).take (en - at' - 1) ++ [z] := by
              have : (L.drop (at' + 1))[en - at' - 1]? = some z := by
                rw [List.getElem?_drop, show at' + 1 + (en - at' - 1) = en by omega]
                exact hz
              rw [← take_succ_of this, show en - at' - 1 + 1 = en - at' by omega]
            rw [e1, ← List.cons_append, snoc_lastD]
          · have : en = at' := by omega
            subst this
            rw [Nat.sub_self, List.take_zero]
            exact Option.some.inj (hc.symm.trans hz)
      have finish : spanRun z (L.drop (en + 1)) = ([], L.drop (en + 1)) → ∀ (it : List Nat), it = litem ks (c :: (spanRun c (L.drop (at' + 1))).1) → ∀ x6', ∃ m', m' < L.length - at' ∧ (∃ at2 done2 f2 y6 y7, ([some (.str (mk L)), some (.int (n : Nat)), some (.str (mk ks)), some (.ref l), some (.int ((en + 1 : Nat) : Int)), some (.str (mk SG)), x6', some (.str (mk it)), none] : L2.St) = [some (.str (mk L)), some (.int (n : Nat)), some (.str (mk ks)), some (.ref l), some (.int (at2 : Nat)), some (.str (mk SG)), y6, y7, none] ∧ m' = L.length - at2 ∧ at2 ≤ L.length ∧ Same H (upd H3 l (.lst (strV (done.map (litem ks)) ++ [.str (mk it)]))) ∧
          (upd H3 l (.lst (strV (done.map (litem ks)) ++ [.str (mk it)]))) l = some (.lst (strV (done2.map (litem ks)))) ∧ runsM L.length L = done2 ++ runsM f2 (L.drop at2) ∧ L.length - at2 ≤ f2 ∧ done2.length ≤ at2) := fun hend it hit x6' => by
        refine ⟨L.length - (en + 1), by omega, en + 1, done ++ [c :: (spanRun c (L.drop (at' + 1))).1], f', x6', some (.str (mk it)), rfl, rfl, by omega, Same.mut s2 hlH, ?_, ?_, by omega, ?_⟩
        · rw [upd_same, hit]
          simp [strV]
        · rw [hrun2, hsp2, hend]
        · rw [List.length_append]
          show done.length + 1 ≤ en + 1
          omega
      have close : spanRun z (L.drop (en + 1)) = ([], L.drop (en + 1)) → ∀ D' : Prop, True := fun _ _ => trivial
      have lt1 := lturn_len ks c
      have lt2 := lturn_len ks z
      have hap : (strV (done.map (litem ks))).length < sizeLine := by
        rw [strV, List.length_map, List.length_map]
        exact sz_lt (by omega)
      refine ⟨_, rfl, _, _, rfl, rfl, _, rfl, mk L, rfl, sz_mk (by omega), _, _, rfl, rfl, _, rfl, if_dec (fun e2 => ?_) (fun e2 => ?_)⟩
      · have hlt2 : en + 1 < L.length := by
          rw [len_mk] at e2
          omega
        obtain ⟨y, hy, hdy, hym⟩ := drop_get hlt2
        have hyS := hs y hym
        refine ⟨_, rfl, ⟨_, rfl⟩, _, rfl, _, rfl, _, _, rfl, rfl, mk L, _, y, rfl, rfl, sz_mk (by omega), ?_, ?_⟩
        · exact at_code (j := en + 1) hy
        refine ⟨mk SG, mk [y], _, _, rfl, rfl, occ_sign hyS, ?_⟩
        refine ⟨_, rfl, ⟨_, rfl⟩, _, rfl, _, rfl, mk L, _, z, rfl, rfl, sz_mk (by omega), at_code hz, mk SG, mk [z], _, _, rfl, rfl, occ_sign hzS, _, _, rfl, rfl, rfl, _, rfl, if_dec (fun e3 => ?_) (fun e3 => ?_)⟩
        · have h3 : ix y = ix z + 1 := by
            have := V.int.inj e3
            omega
          have hsr : spanRun z (L.drop (en + 1)) = (y :: (spanRun y (L.drop (en + 1 + 1))).1, (spanRun y (L.drop (en + 1 + 1))).2) := by
            rw [hdy]
            show (if ix y = ix z + 1 then _ else _) = _
            rw [if_pos h3]
          refine ⟨_, fun σ' H' hN => hN, ?_⟩
          refine ⟨_, rfl, _, _, rfl, rfl, L.length - (en + 1), by omega, en + 1, y, rfl, rfl, by omega, hlt2, rfl, hy, ?_, ?_⟩
          · rw [hsp1, hsr]
            have : (L.drop (at' + 1))[en - at']? = some y := by
              rw [List.getElem?_drop, show at' + 1 + (en - at') = en + 1 by omega]
              exact hy
            rw [show en + 1 - at' = en - at' + 1 by omega, take_succ_of this, List.append_assoc]
            rfl
          · rw [hsp2, hsr]
        · have h3 : ¬ ix y = ix z + 1 := fun h => e3 (congrArg V.int (by omega))
          have hend : spanRun z (L.drop (en + 1)) = ([], L.drop (en + 1)) := by
            rw [hdy]
            show (if ix y = ix z + 1 then _ else _) = _
            rw [if_neg h3]
          obtain ⟨run, hr1, hrl, hrh, hrz⟩ := rest hend
          refine ⟨_, rfl, _, rfl, mk L, _, c, rfl, rfl, sz_mk (by omega), at_code hc, _, rfl, c, ks, rfl, ?_⟩
          refine ⟨_, rfl, _, rfl, _, _, rfl, rfl, _, _, rfl, rfl, _, rfl, if_dec (fun e4 => ?_) (fun e4 => ?_)⟩
          · refine ⟨_, rfl, mk _, mk [45], rfl, congrArg V.str dash_mk, sz_add (by show _ + 1 ≤ _; omega), ?_⟩
            rw [add_mk]
            refine ⟨_, rfl, _, rfl, mk L, _, z, rfl, rfl, sz_mk (by omega), at_code hz, _, rfl, z, ks, rfl, ?_⟩
            refine ⟨mk _, mk _, rfl, rfl, sz_add (by rw [List.length_append]; show _ + 1 + _ ≤ _; omega), ?_⟩
            rw [add_mk]
            refine ⟨_, rfl, .inl ⟨rfl, _, SqL.of el⟩, _, rfl, l, _, _, rfl, rfl, el, hap, ?_⟩
            refine ⟨_, rfl, _, _, rfl, rfl, ?_⟩
            refine finish hend _ ?_ _
            rw [hr1]
            unfold litem
            rw [if_pos (by omega), hrh, hrz]
          · refine ⟨_, rfl, _, rfl, _, _, rfl, rfl, _, rfl, if_dec (fun e5 => ?_) (fun e5 => ?_)⟩
            · refine ⟨_, rfl, _, rfl, mk L, _, z, rfl, rfl, sz_mk (by omega), at_code hz, _, rfl, z, ks, rfl, ?_⟩
              refine ⟨_, rfl, mk _, mk _, rfl, rfl, sz_add (by omega), ?_⟩
              rw [add_mk]
              refine ⟨_, rfl, .inl ⟨rfl, _, SqL.of el⟩, _, rfl, l, _, _, rfl, rfl, el, hap, ?_⟩
              refine ⟨_, rfl, _, _, rfl, rfl, ?_⟩
              refine finish hend _ ?_ _
              rw [hr1]
              unfold litem
              rw [if_neg (by omega), if_pos (by omega), hrh, hrz]
            · refine ⟨_, rfl, .inl ⟨rfl, _, SqL.of el⟩, _, rfl, l, _, _, rfl, rfl, el, hap, ?_⟩
              refine ⟨_, rfl, _, _, rfl, rfl, ?_⟩
              refine finish hend _ ?_ _
              rw [hr1]
              unfold litem
              rw [if_neg (by omega), if_neg (by omega), hrh]
      · have hlt2 : ¬ en + 1 < L.length := by
          rw [len_mk] at e2
          omega
        have hend : spanRun z (L.drop (en + 1)) = ([], L.drop (en + 1)) := by
          rw [List.drop_eq_nil_of_le (by omega)]
          rfl
        obtain ⟨run, hr1, hrl, hrh, hrz⟩ := rest hend
        refine ⟨_, rfl, _, rfl, mk L, _, c, rfl, rfl, sz_mk (by omega), at_code hc, _, rfl, c, ks, rfl, ?_⟩
        refine ⟨_, rfl, _, rfl, _, _, rfl, rfl, _, _, rfl, rfl, _, rfl, if_dec (fun e4 => ?_) (fun e4 => ?_)⟩
        · refine ⟨_, rfl, mk _, mk [45], rfl, congrArg V.str dash_mk, sz_add (by show _ + 1 ≤ _; omega), ?_⟩
          rw [add_mk]
          refine ⟨_, rfl, _, rfl, mk L, _, z, rfl, rfl, sz_mk (by omega), at_code hz, _, rfl, z, ks, rfl, ?_⟩
          refine ⟨mk _, mk _, rfl, rfl, sz_add (by rw [List.length_append]; show _ + 1 + _ ≤ _; omega), ?_⟩
          rw [add_mk]
          refine ⟨_, rfl, .inl ⟨rfl, _, SqL.of el⟩, _, rfl, l, _, _, rfl, rfl, el, hap, ?_⟩
          refine ⟨_, rfl, _, _, rfl, rfl, ?_⟩
          refine finish hend _ ?_ _
          rw [hr1]
          unfold litem
          rw [if_pos (by omega), hrh, hrz]
        · refine ⟨_, rfl, _, rfl, _, _, rfl, rfl, _, rfl, if_dec (fun e5 => ?_) (fun e5 => ?_)⟩
          · refine ⟨_, rfl, _, rfl, mk L, _, z, rfl, rfl, sz_mk (by omega), at_code hz, _, rfl, z, ks, rfl, ?_⟩
            refine ⟨_, rfl, mk _, mk _, rfl, rfl, sz_add (by omega), ?_⟩
            rw [add_mk]
            refine ⟨_, rfl, .inl ⟨rfl, _, SqL.of el⟩, _, rfl, l, _, _, rfl, rfl, el, hap, ?_⟩
            refine ⟨_, rfl, _, _, rfl, rfl, ?_⟩
            refine finish hend _ ?_ _
            rw [hr1]
            unfold litem
            rw [if_neg (by omega), if_pos (by omega), hrh, hrz]
          · refine ⟨_, rfl, .inl ⟨rfl, _, SqL.of el⟩, _, rfl, l, _, _, rfl, rfl, el, hap, ?_⟩
            refine ⟨_, rfl, _, _, rfl, rfl, ?_⟩
            refine finish hend _ ?_ _
            rw [hr1]
            unfold litem
            rw [if_neg (by omega), if_neg (by omega), hrh]
    · -- all runs are found
      have hge : ¬ at' < L.length := by
        rw [len_mk] at e
        omega
      have hall : runsM L.length L = done := by
        rw [hrun, List.drop_eq_nil_of_le (by omega)]
        cases f <;> exact List.append_nil _
      have hnl : done.length ≤ 1000 := by omega
      have hlen : (strV (done.map (litem ks))).length = done.length := by rw [strV, List.length_map, List.length_map]
      refine ⟨_, rfl, _, _, rfl, rfl, ⟨by decide, by decide⟩, _, rfl, l, _, rfl, .inl (SqL.of el), 1, _, rfl, _, _, rfl, rfl, by show (0 : Int) < _; rw [hlen]; split <;> omega, ?_⟩
      have eturn : ((n : Int) / 2) % (if (((strV (done.map (litem ks))).length : Nat) : Int) > 1 then (((strV (done.map (litem ks))).length : Nat) : Int) else 1) = ((n / 2 % max 1 done.length : Nat) : Int) := by
        rw [hlen, Int.natCast_emod, Int.natCast_ediv]
        congr 1
        split <;> omega
      dsimp only
      rw [eturn]
      have htl : n / 2 % max 1 done.length ≤ done.length := by
        have := Nat.mod_lt (n / 2) (show 0 < max 1 done.length by omega)
        omega
      refine ⟨⟨_, rfl⟩, _, rfl, _, rfl, _, rfl, l, _, rfl, SqL.of el, fun a1 h1 => ?_⟩
      have sa1 := same_new (o := .lst (cutV (strV (done.map (litem ks))) (some ((n / 2 % max 1 done.length : Nat) : Int)) none)) h1
      refine ⟨_, rfl, _, rfl, _, rfl, l, _, rfl, SqL.of (sa1 _ _ el), fun a2 h2 => ?_⟩
      have sa2 := same_new (o := .lst (cutV (strV (done.map (litem ks))) none (some ((n / 2 % max 1 done.length : Nat) : Int)))) h2
      have cl := fun lo hi => cutV_length (strV (done.map (litem ks))) lo hi
      rw [hlen] at cl
      refine ⟨a1, a2, _, _, rfl, rfl, sa2 _ _ upd_same, upd_same, ?_, fun a3 h3 => ?_⟩
      · have c1 := cl (some ((n / 2 % max 1 done.length : Nat) : Int)) none
        have c2 := cl none (some ((n / 2 % max 1 done.length : Nat) : Int))
        exact sz_of (by omega)
      have sa3 := same_new (o := .lst (cutV (strV (done.map (litem ks))) (some ((n / 2 % max 1 done.length : Nat) : Int)) none ++ cutV (strV (done.map (litem ks))) none (some ((n / 2 % max 1 done.length : Nat) : Int)))) h3
      refine ⟨_, rfl, _, rfl, _, _, rfl, rfl, ⟨by decide, by decide⟩, _, _, rfl, rfl, by show (0 : Int) < 3; decide, _, _, rfl, rfl, ⟨by decide, by decide⟩, _, rfl, l, _, rfl, SqL.of (sa3 _ _ (sa2 _ _ (sa1 _ _ el))), fun a4 h4 => ?_⟩
      have e14 : ((n : Int) / 14 % 3 / 2) = ((n / 14 % 3 / 2 : Nat) : Int) := by omega
      dsimp only
      rw [e14]
      have sa4 := same_new (o := .lst (cutV (strV (done.map (litem ks))) none (some ((n / 14 % 3 / 2 : Nat) : Int)))) h4
      refine ⟨a3, a4, _, _, rfl, rfl, sa4 _ _ upd_same, upd_same, ?_, fun a5 h5 => ?_⟩
      · have c1 := cl (some ((n / 2 % max 1 done.length : Nat) : Int)) none
        have c2 := cl none (some ((n / 2 % max 1 done.length : Nat) : Int))
        have c3 := cl none (some ((n / 14 % 3 / 2 : Nat) : Int))
        rw [List.length_append]
        exact sz_of (by omega)
      have sa5 := same_new (o := .lst ((cutV (strV (done.map (litem ks))) (some ((n / 2 % max 1 done.length : Nat) : Int)) none ++ cutV (strV (done.map (litem ks))) none (some ((n / 2 % max 1 done.length : Nat) : Int))) ++ cutV (strV (done.map (litem ks))) none (some ((n / 14 % 3 / 2 : Nat) : Int)))) h5
      have efin : ((cutV (strV (done.map (litem ks))) (some ((n / 2 % max 1 done.length : Nat) : Int)) none ++ cutV (strV (done.map (litem ks))) none (some ((n / 2 % max 1 done.length : Nat) : Int))) ++ cutV (strV (done.map (litem ks))) none (some ((n / 14 % 3 / 2 : Nat) : Int))) = ((lrot n (done.map (litem ks))).map mk).map V.str := by
        unfold cutV lrot
        rw [HT.sIx_none, HT.sIx_none, HT.sIx_nat, HT.sIx_nat, hlen, List.length_map]
        rw [show min (n / 2 % max 1 done.length) done.length = n / 2 % max 1 done.length by omega]
        rw [List.take_of_length_le (by rw [List.length_drop, hlen]; exact Nat.le_refl _), List.drop_zero, Nat.sub_zero, Nat.sub_zero]
        have hz : ∀ xs : List (List Nat), strV xs = (xs.map mk).map V.str := fun xs => by rw [strV, List.map_map]; rfl
        rw [hz, List.map_append, List.map_append, List.map_append, List.map_append, List.map_drop, List.map_drop, List.map_take, List.map_take, List.map_take, List.map_take]
        congr 1
        have h14 : n / 14 % 3 / 2 ≤ 1 := by omega
        rcases Nat.lt_or_ge done.length 1 with hd0 | hd0
        · have : done = [] := List.eq_nil_of_length_eq_zero (by omega)
          subst this
          simp
        · rw [HT.sIx_nat, show min (n / 14 % 3 / 2) done.length = n / 14 % 3 / 2 by omega]
      refine ⟨mk [], a5, _, congrArg V.str (by decide +kernel), rfl, .inl (SqL.of (by rw [← efin]; exact upd_same)), join_mkS [] _ ?_, ?_⟩
      · have := lclass_len L n hl
        unfold lclass at this
        rw [hall, hks] at this
        show _ + _ * 0 ≤ _
        omega
      · rw [join_nil]
        have hfin : lclass L n = (lrot n (done.map (litem ks))).flatten := by
          unfold lclass
          rw [hall, hks]
        rw [← hfin]
        exact q _ (((((s2.trans sa1).trans sa2).trans sa3).trans sa4).trans sa5)
end
end TW

set_option maxHeartbeats 1000000
namespace TW
open PySem PySem.Spec PyProof.Rows L2
theorem lclass_len2 (s : List Nat) (n : Nat) : (lclass s n).length ≤ 15 * s.length := by
  have h1 := runs_len s.length s
  have h2 : (lrot n ((runsM s.length s).map (litem (lkept n)))).flatten.length ≤ 5 * (lrot n ((runsM s.length s).map (litem (lkept n)))).length := flatten_le 5 _ fun x hx => by
    have : x ∈ (runsM s.length s).map (litem (lkept n)) := by
      unfold lrot at hx
      rcases List.mem_append.mp hx with h | h
      · rcases List.mem_append.mp h with h | h
        · exact List.mem_of_mem_drop h
        · exact List.mem_of_mem_take h
      · exact List.mem_of_mem_take h
    obtain ⟨r, _, rfl⟩ := List.mem_map.mp this
    exact litem_len _ _
  have h3 : (lrot n ((runsM s.length s).map (litem (lkept n)))).length ≤ 3 * (runsM s.length s).length := by
    unfold lrot
    rw [List.length_append, List.length_append, List.length_drop, List.length_take, List.length_take, List.length_map]
    omega
  unfold lclass
  omega
def lone (s : List Nat) (n : Nat) : List Nat :=
  if s.length = 1 ∧ n % 2 = 0 then lturn (KEPTs ++ [45, 94].take (n / 2 % 3)) (s.headD 0)
  else if s = SG.drop 1 ∧ n % 2 = 0 then [46]
  else if s = [] ∨ (s.length < 95 ∧ n / 2 % 3 = 0) then [91, 94] ++ lclass (oth s) (n / 6) ++ [93]
  else [91] ++ lclass s (n / 6) ++ [93]
theorem lone_len (s : List Nat) (n : Nat) (h : s.length ≤ 95) : (lone s n).length ≤ 1500 := by
  unfold lone
  have h1 := lturn_len (KEPTs ++ [45, 94].take (n / 2 % 3)) (s.headD 0)
  have h2 := lclass_len2 s (n / 6)
  have h3 := lclass_len2 (oth s) (n / 6)
  have h4 := oth_len s
  split
  · omega
  split
  · simp
  split <;> simp <;> omega
def spLOne : Sp := fun vs H Q _ => ∃ s n, vs = [.str (mk s), .int (n : Nat)] ∧ (∀ c ∈ s, c ∈ SG) ∧ s.length ≤ 95 ∧ ∀ H', Same H H' → Q (.str (mk (lone s n))) H'
theorem cut_to (s : List Nat) (k : Nat) : cutS (mk s) none (some ((k : Nat) : Int)) = mk (s.take k) := by
  unfold cutS
  rw [HT.sIx_none, HT.sIx_nat, len_mk]
  show mk _ = mk _
  rw [mk_iff]
  show List.take _ (List.drop 0 s) = _
  rw [List.drop_zero, Nat.sub_zero]
  rcases Nat.lt_or_ge k s.length with h | h
  · rw [show min k s.length = k by omega]
  · rw [show min k s.length = s.length by omega, List.take_length, List.take_of_length_le h]
section
variable {P : Program} {w : World} {K : PySem.W.Frag} {mg : Str → Option Value} {base : Heap}
theorem ok_lone (T : Top w K mg) : Df P w K mg base CX0 3 "_law_one" ["_law_signs_here", "_law_number"] spLOne := by
  have D_l_all := ok_all (P := P) (base := base) T
  have D_l_turned := ok_lturned (P := P) (base := base) T
  have D_l_class := ok_lclass (P := P) (base := base) T
  refine Df.of T.f_l_one T.g_l_one sc_l_one b_l_one (fun vs H Q E h => ?_) (fun cdv A outer s H vs Q E hr h => ?_)
  · obtain ⟨L, n, rfl, _⟩ := h
    rfl
  · obtain ⟨L, n, rfl, hs, hl, q⟩ := h
    refine ⟨_, (C8.pss_cut (ps_if (PW.pt (pw_and (pt_cmpR op_eq (pe_callB call_len_str rfl T.z_len boot_len (pa_cons (pv 0) pa_nil)) pe_int (nomark _)) (pw_and1 (pt_cmpR op_eq (pe_op op_mod (pv 1) pe_int) pe_int (nomark _))))) (pss_one (ps_ret (pe_callD D_l_turned (hr.mono (by first | decide | omega)) rfl pass0 (pa_cons (pv 0) (pa_cons (pe_op op_add_str pe_str (pe_slice sl_str pe_str po_none (po_some (pe_op op_mod (pe_op op_fdiv (pv 1) pe_int) pe_int)))) pa_nil))))) pss_nil)
      (C8.pss_cut (ps_if (PW.pt (pw_and (pt_cmpR op_eq (pv 0) (pe_slice sl_str (pe_callD0 D_l_all (hr.mono (by first | decide | omega)) rfl pass0) (po_some pe_int) po_none) (nomark _)) (pw_and1 (pt_cmpR op_eq (pe_op op_mod (pv 1) pe_int) pe_int (nomark _))))) (pss_one (ps_ret pe_str)) pss_nil)
      (C8.pss_cut (ps_if (PW.pt (pw_or (pt_cmpR op_eq (pv 0) pe_str (nomark _)) (pw_or1 (PW.pt (pw_and (pt_cmpR op_lt (pe_callB call_len_str rfl T.z_len boot_len (pa_cons (pv 0) pa_nil)) pe_int (nomark _)) (pw_and1 (pt_cmpR op_eq (pe_op op_mod (pe_op op_fdiv (pv 1) pe_int) pe_int) pe_int (nomark _)))))))) (pss_one (ps_ret (pe_op op_add_str (pe_op op_add_str pe_str (pe_callD D_l_class (hr.mono (by first | decide | omega)) rfl pass0 (pa_cons (pe_join pe_str (pe_lc (own := [("_law_sign", 2)]) (g := gName 2) rfl sc_l_one.nd (pi_str (pe_callD0 D_l_all (hr.mono (by first | decide | omega)) rfl pass0)) (blkOk_by (own := [("_law_sign", 2)]) (N := N_l_one) (sc := defScope s_l_one) (by decide +kernel)) (fun _ _ _ _ _ => pg_name (i := 2) sc_l_one.nd rfl (Or.inl rfl)) (fun _ _ _ _ _ => pts_one (pt_cmpR op_notIn_sign (pv 2) (pv 0) rfl)) (fun _ _ _ _ _ => (pv 2)))) (pa_cons (pe_op op_fdiv (pv 1) pe_int) pa_nil)))) pe_str))) pss_nil)
      (pss_one (ps_ret (pe_op op_add_str (pe_op op_add_str pe_str (pe_callD D_l_class (hr.mono (by first | decide | omega)) rfl pass0 (pa_cons (pv 0) (pa_cons (pe_op op_fdiv (pv 1) pe_int) pa_nil)))) pe_str)))))), ?_⟩
    unfold lone at q
    have l2 := lclass_len2 L (n / 6)
    have l3 := lclass_len2 (oth L) (n / 6)
    have l4 := oth_len L
    have step2 : (∀ H', Same H H' → Q (.str (mk (if L = SG.drop 1 ∧ n % 2 = 0 then [46] else if L = [] ∨ (L.length < 95 ∧ n / 2 % 3 = 0) then [91, 94] ++ lclass (oth L) (n / 6) ++ [93] else [91] ++ lclass L (n / 6) ++ [93]))) H') → True := fun _ => trivial
    have e6 : ((n : Int) / 6) = ((n / 6 : Nat) : Int) := by omega
    refine ⟨fun σ H' => σ = [some (.str (mk L)), some (.int (n : Nat)), none] ∧ H' = H ∧ ¬ (L.length = 1 ∧ n % 2 = 0), ?_, ?_⟩
    · refine ⟨_, rfl, mk L, rfl, sz_mk (by omega), rfl, _, rfl, if_dec (fun e => ?_) (fun e => ?_)⟩
      · have h1 : L.length = 1 := by
          have := V.int.inj e
          rw [len_mk] at this
          omega
        refine ⟨_, rfl, _, _, rfl, rfl, by show (0 : Int) < 2; decide, rfl, _, rfl, if_dec (fun e2 => ?_) (fun e2 => ?_)⟩
        · have h2 : n % 2 = 0 := by
            have := V.int.inj e2
            omega
          rw [if_pos ⟨h1, h2⟩] at q
          obtain ⟨c, rfl⟩ : ∃ c, L = [c] := by
            match L, h1 with
            | [c], _ => exact ⟨c, rfl⟩
          refine ⟨_, rfl, _, rfl, _, _, rfl, rfl, ⟨by decide, by decide⟩, _, _, rfl, rfl, by show (0 : Int) < 3; decide, _, rfl, mk [45, 94], congrArg V.str (by decide +kernel), by decide +kernel, ?_⟩
          rw [show ((n : Int) / 2 % 3) = ((n / 2 % 3 : Nat) : Int) by omega, cut_to]
          refine ⟨mk KEPTs, mk ([45, 94].take (n / 2 % 3)), congrArg V.str (by decide +kernel), rfl, sz_add (by rw [List.length_take]; show 10 + min _ 2 ≤ _; omega), ?_⟩
          rw [add_mk]
          exact ⟨c, _, rfl, q H (Same.refl _)⟩
        · exact ⟨rfl, rfl, fun z => e2 (congrArg V.int (by omega))⟩
      · exact ⟨rfl, rfl, fun z => e (congrArg V.int (by rw [len_mk, z.1]; rfl))⟩
    rintro σ H1 ⟨rfl, rfl, hn1⟩
    rw [if_neg hn1] at q
    refine ⟨fun σ H' => σ = [some (.str (mk L)), some (.int (n : Nat)), none] ∧ H' = H1 ∧ ¬ (L = SG.drop 1 ∧ n % 2 = 0), ?_, ?_⟩
    · refine ⟨_, rfl, rfl, 1, rfl, mk SG, rfl, by decide +kernel, ?_⟩
      rw [cut_from1]
      refine ⟨rfl, _, rfl, if_str (b := SG.drop 1) rfl (fun e => ?_) (fun e => ?_)⟩
      · refine ⟨_, rfl, _, _, rfl, rfl, by show (0 : Int) < 2; decide, rfl, _, rfl, if_dec (fun e2 => ?_) (fun e2 => ?_)⟩
        · have h2 : n % 2 = 0 := by
            have := V.int.inj e2
            omega
          rw [if_pos ⟨e, h2⟩] at q
          show Q (V.str ("." : String)) H1
          rw [show (("." : String) : Str) = mk [46] by decide +kernel]
          exact q H1 (Same.refl _)
        · exact ⟨rfl, rfl, fun z => e2 (congrArg V.int (by omega))⟩
      · exact ⟨rfl, rfl, fun z => e z.1⟩
    rintro σ H2 ⟨rfl, rfl, hn2⟩
    rw [if_neg hn2] at q
    refine ⟨fun σ H' => σ = [some (.str (mk L)), some (.int (n : Nat)), none] ∧ H' = H2 ∧ ¬ (L = [] ∨ (L.length < 95 ∧ n / 2 % 3 = 0)), ?_, ?_⟩
    · have round : (L = [] ∨ (L.length < 95 ∧ n / 2 % 3 = 0)) → ∀ {rest : TS}, True := fun _ {_} => trivial
      have h23 : ((n : Int) / 2 % 3) = ((n / 2 % 3 : Nat) : Int) := by omega
      refine ⟨_, rfl, rfl, _, rfl, if_str (b := []) (by decide +kernel) (fun e => ?_) (fun e => ?_)⟩
      · rw [if_pos (.inl e)] at q
        refine iteT (B := True) ?_
        refine ⟨⟨_, rfl⟩, rfl, mk SG, rfl, fun D hD => ?_⟩
        refine lc_ext (gives_str SG H2) hD (by decide) (fun c => !decide (c ∈ L)) (fun c v _ => v = .str (mk [c])) mono_const (fun x => rfl) ?_ ?_ ?_
        · rintro c hc x rfl H3 s3 Q1 q1
          exact ⟨_, rfl, _, rfl, c, mk L, rfl, rfl, _, rfl, q1 H3 (Same.refl _)⟩
        · rintro c hc hf x rfl H3 s3 Q1 q1
          exact ⟨_, rfl, q1 _ H3 (Same.refl _) rfl⟩
        · intro H3 ys s3 e3 hR
          rw [join_signs _ ys H3 hR] at e3
          refine ⟨mk [], D, _, congrArg V.str (by decide +kernel), rfl, .inl (SqL.of e3), join_size _, ?_⟩
          rw [join_signs2]
          refine ⟨_, rfl, _, _, rfl, rfl, ⟨by decide, by decide⟩, oth L, n / 6, congrArg (fun z => [V.str (mk (oth L)), V.int z]) e6, oth_sg L, by omega, fun H4 s4 => ?_⟩
          refine ⟨mk [91, 94], mk _, congrArg V.str (by decide +kernel), rfl, sz_add (by show 2 + _ ≤ _; omega), ?_⟩
          rw [add_mk]
          refine ⟨mk _, mk [93], rfl, congrArg V.str (by decide +kernel), sz_add (by rw [List.length_append]; show 2 + _ + 1 ≤ _; omega), ?_⟩
          rw [add_mk]
          exact q H4 (s3.trans s4)
      · refine ⟨_, rfl, mk L, rfl, sz_mk (by omega), _, _, rfl, rfl, _, rfl, if_dec (fun e2 => ?_) (fun e2 => ?_)⟩
        · have h95 : L.length < 95 := by
            rw [len_mk] at e2
            omega
          refine ⟨_, rfl, _, _, rfl, rfl, ⟨by decide, by decide⟩, _, _, rfl, rfl, by show (0 : Int) < 3; decide, rfl, _, rfl, if_dec (fun e3 => ?_) (fun e3 => ?_)⟩
          · have h3 : n / 2 % 3 = 0 := by
              have := V.int.inj e3
              omega
            rw [if_pos (.inr ⟨h95, h3⟩)] at q
            refine ⟨⟨_, rfl⟩, rfl, mk SG, rfl, fun D hD => ?_⟩
            refine lc_ext (gives_str SG H2) hD (by decide) (fun c => !decide (c ∈ L)) (fun c v _ => v = .str (mk [c])) mono_const (fun x => rfl) ?_ ?_ ?_
            · rintro c hc x rfl H3 s3 Q1 q1
              exact ⟨_, rfl, _, rfl, c, mk L, rfl, rfl, _, rfl, q1 H3 (Same.refl _)⟩
            · rintro c hc hf x rfl H3 s3 Q1 q1
              exact ⟨_, rfl, q1 _ H3 (Same.refl _) rfl⟩
            · intro H3 ys s3 e3 hR
              rw [join_signs _ ys H3 hR] at e3
              refine ⟨mk [], D, _, congrArg V.str (by decide +kernel), rfl, .inl (SqL.of e3), join_size _, ?_⟩
              rw [join_signs2]
              refine ⟨_, rfl, _, _, rfl, rfl, ⟨by decide, by decide⟩, oth L, n / 6, congrArg (fun z => [V.str (mk (oth L)), V.int z]) e6, oth_sg L, by omega, fun H4 s4 => ?_⟩
              refine ⟨mk [91, 94], mk _, congrArg V.str (by decide +kernel), rfl, sz_add (by show 2 + _ ≤ _; omega), ?_⟩
              rw [add_mk]
              refine ⟨mk _, mk [93], rfl, congrArg V.str (by decide +kernel), sz_add (by rw [List.length_append]; show 2 + _ + 1 ≤ _; omega), ?_⟩
              rw [add_mk]
              exact q H4 (s3.trans s4)
          · refine ⟨rfl, rfl, fun z => ?_⟩
            rcases z with z | z
            · exact e z
            · exact e3 (congrArg V.int (by omega))
        · refine ⟨rfl, rfl, fun z => ?_⟩
          rcases z with z | z
          · exact e z
          · rw [len_mk] at e2
            omega
    rintro σ H3 ⟨rfl, rfl, hn3⟩
    rw [if_neg hn3] at q
    refine ⟨_, rfl, _, rfl, _, _, rfl, rfl, ⟨by decide, by decide⟩, L, n / 6, congrArg (fun z => [V.str (mk L), V.int z]) e6, hs, by omega, fun H4 s4 => ?_⟩
    refine ⟨mk [91], mk _, congrArg V.str (by decide +kernel), rfl, sz_add (by show 1 + _ ≤ _; omega), ?_⟩
    rw [add_mk]
    refine ⟨mk _, mk [93], rfl, congrArg V.str (by decide +kernel), sz_add (by rw [List.length_append]; show 1 + _ + 1 ≤ _; omega), ?_⟩
    rw [add_mk]
    exact q H4 s4
end
end TW

set_option maxHeartbeats 1000000
namespace TW
open PySem PySem.Spec PyProof.Rows L2
def lbr (c : Bool) (x : List Nat) : List Nat := if c = true then [40] ++ x ++ [41] else x
mutual
def told (mix : Nat → Nat) : Nat → Tr → List Nat
  | b, .one s => lone s (mix b)
  | b, .row ts => (tolds mix b (mix b) true 0 ts).flatten
  | b, .or ts => TL.joinL [124] (tolds mix b (mix b) false 0 ts)
  | b, .star t => lbr (t.isRow || t.isOr || decide (mix b % 5 = 0)) (told mix (b + 1) t) ++ [42]
  | b, .plus t => lbr (t.isRow || t.isOr || decide (mix b % 5 = 0)) (told mix (b + 1) t) ++ [43]
  | b, .maybe t => lbr (t.isRow || t.isOr || decide (mix b % 5 = 0)) (told mix (b + 1) t) ++ [63]
def tolds (mix : Nat → Nat) (b n : Nat) (r : Bool) : Nat → List Tr → List (List Nat)
  | _, [] => []
  | k, t :: ts => lbr ((t.isOr || (r && t.isRow)) || decide (n / 4 % 7 = k)) (told mix (b + 1 + 5 * k) t) :: tolds mix b n r (k + 1) ts
end
theorem lbr_len (c : Bool) (x : List Nat) : (lbr c x).length ≤ x.length + 2 := by
  unfold lbr
  split <;> simp
mutual
theorem told_len (mix : Nat → Nat) : ∀ (b : Nat) (t : Tr), t.okS → (told mix b t).length + 3 ≤ 1510 * t.nodes
  | b, .one s, h => by
    have := lone_len s (mix b) h.1
    show (lone s (mix b)).length + 3 ≤ 1510 * 1
    omega
  | b, .row ts, h => by
    have := tolds_len mix b (mix b) true 0 ts h
    show ((tolds mix b (mix b) true 0 ts).flatten).length + 3 ≤ 1510 * (1 + Tr.nodess ts)
    omega
  | b, .or ts, h => by
    have := tolds_len mix b (mix b) false 0 ts h
    show (TL.joinL [124] (tolds mix b (mix b) false 0 ts)).length + 3 ≤ 1510 * (1 + Tr.nodess ts)
    omega
  | b, .star t, h => by
    have := told_len mix (b + 1) t h
    have h2 := lbr_len (t.isRow || t.isOr || decide (mix b % 5 = 0)) (told mix (b + 1) t)
    show (lbr (t.isRow || t.isOr || decide (mix b % 5 = 0)) (told mix (b + 1) t) ++ [42]).length + 3 ≤ 1510 * (1 + t.nodes)
    rw [List.length_append]
    show _ + 1 + 3 ≤ _
    omega
  | b, .plus t, h => by
    have := told_len mix (b + 1) t h
    have h2 := lbr_len (t.isRow || t.isOr || decide (mix b % 5 = 0)) (told mix (b + 1) t)
    show (lbr (t.isRow || t.isOr || decide (mix b % 5 = 0)) (told mix (b + 1) t) ++ [43]).length + 3 ≤ 1510 * (1 + t.nodes)
    rw [List.length_append]
    show _ + 1 + 3 ≤ _
    omega
  | b, .maybe t, h => by
    have := told_len mix (b + 1) t h
    have h2 := lbr_len (t.isRow || t.isOr || decide (mix b % 5 = 0)) (told mix (b + 1) t)
    show (lbr (t.isRow || t.isOr || decide (mix b % 5 = 0)) (told mix (b + 1) t) ++ [63]).length + 3 ≤ 1510 * (1 + t.nodes)
    rw [List.length_append]
    show _ + 1 + 3 ≤ _
    omega
theorem tolds_len (mix : Nat → Nat) (b n : Nat) (r : Bool) : ∀ (k : Nat) (ts : List Tr), Tr.okSs ts → (TL.joinL [124] (tolds mix b n r k ts)).length ≤ 1510 * Tr.nodess ts ∧ ((tolds mix b n r k ts).flatten).length ≤ 1510 * Tr.nodess ts
  | _, [], _ => ⟨Nat.le_refl _, Nat.le_refl _⟩
  | k, [t], h => by
    have h1 := told_len mix (b + 1 + 5 * k) t h.1
    have h2 := lbr_len ((t.isOr || (r && t.isRow)) || decide (n / 4 % 7 = k)) (told mix (b + 1 + 5 * k) t)
    show (lbr _ _).length ≤ 1510 * (t.nodes + 0) ∧ (lbr _ _ ++ []).length ≤ 1510 * (t.nodes + 0)
    rw [List.append_nil]
    omega
  | k, t :: u :: ts, h => by
    have h1 := told_len mix (b + 1 + 5 * k) t h.1
    have h2 := lbr_len ((t.isOr || (r && t.isRow)) || decide (n / 4 % 7 = k)) (told mix (b + 1 + 5 * k) t)
    obtain ⟨h3, h4⟩ := tolds_len mix b n r (k + 1) (u :: ts) h.2
    show (lbr ((t.isOr || (r && t.isRow)) || decide (n / 4 % 7 = k)) (told mix (b + 1 + 5 * k) t) ++ ([124] ++ TL.joinL [124] (tolds mix b n r (k + 1) (u :: ts)))).length ≤ 1510 * (t.nodes + Tr.nodess (u :: ts)) ∧ (lbr ((t.isOr || (r && t.isRow)) || decide (n / 4 % 7 = k)) (told mix (b + 1 + 5 * k) t) ++ (tolds mix b n r (k + 1) (u :: ts)).flatten).length ≤ 1510 * (t.nodes + Tr.nodess (u :: ts))
    rw [List.length_append, List.length_append, List.length_append]
    show _ + (1 + _) ≤ _ ∧ _
    omega
end
theorem tolds_get (mix : Nat → Nat) (b n : Nat) (r : Bool) : ∀ (ts : List Tr) (k i : Nat) (t : Tr), ts[i]? = some t → (tolds mix b n r k ts)[i]? = some (lbr ((t.isOr || (r && t.isRow)) || decide (n / 4 % 7 = k + i)) (told mix (b + 1 + 5 * (k + i)) t))
  | [], _, _, _, h => by simp at h
  | u :: ts, k, 0, t, h => by
    have e : u = t := Option.some.inj h
    subst e
    rfl
  | u :: ts, k, i + 1, t, h => by
    have := tolds_get mix b n r ts (k + 1) i t h
    show (tolds mix b n r (k + 1) ts)[i]? = _
    rw [this, show k + 1 + i = k + (i + 1) by omega]
theorem tolds_length (mix : Nat → Nat) (b n : Nat) (r : Bool) : ∀ (ts : List Tr) (k : Nat), (tolds mix b n r k ts).length = ts.length
  | [], _ => rfl
  | u :: ts, k => congrArg (· + 1) (tolds_length mix b n r ts (k + 1))
def spTold (K : PySem.W.Frag) (d : Nat) : Sp := fun vs H Q _ => ∃ a ns b v t, vs = [.ref a, .int (b : Nat), v] ∧ SqL K H a (ns.map V.int) ∧ AtT t v H ∧ t.okS ∧ t.dep ≤ d ∧ t.nodes ≤ 60 ∧ ∀ H', Same H H' → Q (.str (mk (told (mixN ns) b t))) H'
def spToldP (K : PySem.W.Frag) : Nat → Sp
  | 0 => fun _ _ _ _ => False
  | d + 1 => spTold K d
theorem orrow_in (t : Tr) : inV (.str t.kind) [.str "row", .str "or"] = (t.isRow || t.isOr) := by cases t <;> rfl
theorem roworw (t : Tr) : inV (.str t.kind) [.str "row", .str "or"] = (t.isOr || (true && t.isRow)) := by cases t <;> rfl
theorem kk_in (r : Bool) (t : Tr) : inV (.str t.kind) (if r = true then [.str "row", .str "or"] else [.str "or"]) = (t.isOr || (r && t.isRow)) := by
  cases r
  · exact (kind_or t).trans (by cases t <;> rfl)
  · exact roworw t
theorem at_get {H : Hp} {xs : List V} {ts : List Tr} {i : Nat} {t : Tr} (h : DtA H xs (Tr.datas ts)) (hi : ts[i]? = some t) : ∃ v, xs[i]? = some v ∧ AtT t v H := by
  have : (Tr.datas ts)[i]? = some t.data := by
    rw [Tr.datas_map, List.getElem?_map, hi] <;> rfl
  exact h.get this
theorem lbr_mk {c : Bool} {x : List Nat} {z : Str} : True := trivial
section
variable {P : Program} {w : World} {K : PySem.W.Frag} {mg : Str → Option Value} {base : Heap}
theorem ok_told (T : Top w K mg) (d k : Nat) (hk : 3 ≤ k) (D_l_told : Df P w K mg base CX0 k "_law_told" ["_law_script", "_law_base", "_law_tree_here"] (spToldP K d)) :
    Df P w K mg base CX0 (k + 1) "_law_told" ["_law_script", "_law_base", "_law_tree_here"] (spTold K d) := by
  have D_l_mix := ok_mix (P := P) (base := base) T
  have D_l_one := ok_lone (P := P) (base := base) T
  refine Df.of T.f_l_told T.g_l_told sc_l_told b_l_told (fun vs H Q E h => ?_) (fun cdv A outer s H vs Q E hr h => ?_)
  · obtain ⟨a, ns, b, v, t, rfl, _⟩ := h
    rfl
  · obtain ⟨a, ns, b, v, t, rfl, ha, ht, ho, hd, hn, q⟩ := h
    refine ⟨_, (pss_cons (ps_set (i := 3) sc_l_told.nd rfl (.inl rfl) (pe_callD D_l_mix (hr.mono (by first | decide | omega)) rfl pass0 (pa_cons (pv 0) (pa_cons (pv 1) pa_nil))))
      (pss_cons (ps_if (pt_cmpR op_eq (pe_ix ix_tup (pv 2) pe_int (fun _ _ => rfl)) pe_str (nomark _)) (pss_one (ps_ret (pe_callD D_l_one (hr.mono (by first | decide | omega)) rfl pass0 (pa_cons (pe_ix ix_tup (pv 2) pe_int (fun _ _ => rfl)) (pa_cons (pv 3) pa_nil))))) pss_nil)
      (pss_cons (ps_if (pt_cmpR op_in_seq (pe_ix ix_tup (pv 2) pe_int (fun _ _ => rfl)) (pe_tup (pa_cons pe_str (pa_cons pe_str pa_nil))) rfl) (pss_cons (ps_set (i := 4) sc_l_told.nd rfl (.inl rfl) (pe_ix ix_list (pe_lst (pa_cons (pe_tup (pa_cons pe_str (pa_cons pe_str pa_nil))) (pa_cons (pe_tup (pa_cons pe_str pa_nil)) pa_nil))) (pe_callTy call_int1 rfl T.z_int (by decide +kernel) (pa_cons (pe_cmpR op_eq (pe_ix ix_tup (pv 2) pe_int (fun _ _ => rfl)) pe_str (nomark _)) pa_nil)) (fun _ _ => rfl)))
      (pss_cons (ps_set (i := 5) sc_l_told.nd rfl (.inl rfl) (pe_lst pa_nil))
      (pss_cons (ps_for PassesOwn.never rfl (pi_range1 rfl T.z_range (pa_cons (pe_callB call_len_seq rfl T.z_len boot_len (pa_cons (pe_ix ix_tup (pv 2) pe_int (fun _ _ => rfl)) pa_nil)) pa_nil)) (pg_name (i := 6) sc_l_told.nd rfl (.inl rfl)) (pss_cons (ps_set (i := 7) sc_l_told.nd rfl (.inl rfl) (pe_callD D_l_told (hr.mono (by first | decide | omega)) rfl pass0 (pa_cons (pv 0) (pa_cons (pe_op op_add (pe_op op_add (pv 1) pe_int) (pe_op op_mul pe_int (pv 6))) (pa_cons (pe_ix ix_tup (pe_ix ix_tup (pv 2) pe_int (fun _ _ => rfl)) (pv 6) (fun _ _ => rfl)) pa_nil)))))
      (C8.pss_cut (ps_if (PW.pt (pw_or (pt_cmpR op_in_seq (pe_ix ix_tup (pe_ix ix_tup (pe_ix ix_tup (pv 2) pe_int (fun _ _ => rfl)) (pv 6) (fun _ _ => rfl)) pe_int (fun _ _ => rfl)) (pv 4) rfl) (pw_or1 (pt_cmpR op_eq (pe_op op_mod (pe_op op_fdiv (pv 3) pe_int) pe_int) (pv 6) (nomark _))))) (pss_one (ps_set (i := 7) sc_l_told.nd rfl (.inl rfl) (pe_op op_add_str (pe_op op_add_str pe_str (pv 7)) pe_str))) pss_nil)
      (pss_one (ps_expr (pe_bm PySem.F.plainAttrs_list PySem.F.slot_list_append PySem.F.type_list_append mt_append (pv 5) (pa_cons (pv 7) pa_nil)))))))
      (pss_one (ps_ret (pe_join (pe_ix ix_list (pe_lst (pa_cons pe_str (pa_cons pe_str pa_nil))) (pe_callTy call_int1 rfl T.z_int (by decide +kernel) (pa_cons (pe_cmpR op_eq (pe_ix ix_tup (pv 2) pe_int (fun _ _ => rfl)) pe_str (nomark _)) pa_nil)) (fun _ _ => rfl)) (pv 5))))))) pss_nil)
      (pss_cons (ps_set (i := 7) sc_l_told.nd rfl (.inl rfl) (pe_callD D_l_told (hr.mono (by first | decide | omega)) rfl pass0 (pa_cons (pv 0) (pa_cons (pe_op op_add (pv 1) pe_int) (pa_cons (pe_ix ix_tup (pv 2) pe_int (fun _ _ => rfl)) pa_nil)))))
      (C8.pss_cut (ps_if (PW.pt (pw_or (pt_cmpR op_in_seq (pe_ix ix_tup (pe_ix ix_tup (pv 2) pe_int (fun _ _ => rfl)) pe_int (fun _ _ => rfl)) (pe_tup (pa_cons pe_str (pa_cons pe_str pa_nil))) rfl) (pw_or1 (pt_cmpR op_eq (pe_op op_mod (pv 3) pe_int) pe_int (nomark _))))) (pss_one (ps_set (i := 7) sc_l_told.nd rfl (.inl rfl) (pe_op op_add_str (pe_op op_add_str pe_str (pv 7)) pe_str))) pss_nil)
      (pss_one (ps_ret (pe_op op_add_str (pv 7) (pe_dget (hu_of hr) (pe_disp (pps_cons pe_str pe_str (pps_cons pe_str pe_str (pps_cons pe_str pe_str pps_nil))) (by rfl) (by rfl) (fun z => by cases z) (by decide)) (pe_ix ix_tup (pv 2) pe_int (fun _ _ => rfl)) (fun _ _ => rfl)))))))))), ?_⟩
    refine ⟨_, rfl, _, rfl, a, ns, b, rfl, ha, ?_⟩
    generalize hm : mixN ns b = m
    obtain ⟨ta, tx, rfl, hta⟩ := at_kind ht
    have hlen := told_len (mixN ns) b t ho
    -- a leaf
    refine ⟨_, rfl, ta, _, 0, _, rfl, rfl, SqT.of hta, atI_nat (j := 0) rfl, rfl, _, rfl, if_dec (fun e => ?_) (fun e => ?_)⟩
    · cases t with
      | one ss =>
        obtain ⟨a2, e2, h1⟩ := at_one ht
        cases e2
        refine ⟨_, rfl, ta, _, 1, _, rfl, rfl, SqT.of h1, atI_nat (j := 1) rfl, _, rfl, ss, m, rfl, ho.2, ho.1, fun H1 s1 => ?_⟩
        have := q H1 s1
        have e3 : told (mixN ns) b (.one ss) = lone ss (mixN ns b) := rfl
        rw [e3, hm] at this
        exact this
      | row _ => exact absurd (V.str.inj e) (show ¬ (("row" : String) : Str) = "one" by decide +kernel)
      | or _ => exact absurd (V.str.inj e) (show ¬ (("or" : String) : Str) = "one" by decide +kernel)
      | star _ => exact absurd (V.str.inj e) (show ¬ (("star" : String) : Str) = "one" by decide +kernel)
      | plus _ => exact absurd (V.str.inj e) (show ¬ (("plus" : String) : Str) = "one" by decide +kernel)
      | maybe _ => exact absurd (V.str.inj e) (show ¬ (("maybe" : String) : Str) = "one" by decide +kernel)
    -- a row, a choice
    refine ⟨_, rfl, ta, _, 0, _, rfl, rfl, SqT.of hta, atI_nat (j := 0) rfl, by show 2 ≤ sizeLine; decide +kernel, fun tt htt => ?_⟩
    have st := same_new (o := .tup [.str "row", .str "or"]) htt
    generalize hH1 : upd H tt (.tup [.str "row", .str "or"]) = H1 at st ⊢
    have htt1 : H1 tt = some (.tup [.str "row", .str "or"]) := by rw [← hH1, upd_same]
    refine ⟨tt, _, rfl, .inr (SqT.of htt1), rfl, rfl, _, rfl, ?_⟩
    rw [show (if false = true then _ else inV (V.str t.kind) [.str "row", .str "or"]) = (t.isRow || t.isOr) from orrow_in t]
    refine ite2 (fun e1 => ?_) (fun e1 => ?_)
    · obtain ⟨r, ts, hrt, hdat, htold⟩ : ∃ (r : Bool) (ts : List Tr), t = (if r = true then .row ts else .or ts) ∧ (t.kind = if r = true then "row" else "or") ∧ told (mixN ns) b t = (if r = true then (tolds (mixN ns) b m true 0 ts).flatten else TL.joinL [124] (tolds (mixN ns) b m false 0 ts)) := by
        cases t with
        | row ts => exact ⟨true, ts, rfl, rfl, by rw [← hm]; rfl⟩
        | or ts => exact ⟨false, ts, rfl, rfl, by rw [← hm]; rfl⟩
        | _ => cases e1
      obtain ⟨a2, tb, xs, e2, h1, hb, hx⟩ : ∃ a2 tb xs, V.ref ta = .ref a2 ∧ H a2 = some (.tup [.str t.kind, .ref tb]) ∧ H tb = some (.tup xs) ∧ DtA H xs (Tr.datas ts) := by
        cases r with
        | true => subst hrt; exact at_seq ht
        | false => subst hrt; exact at_seq ht
      cases e2
      have hoo : Tr.okSs ts := by
        cases r with
        | true => subst hrt; exact ho
        | false => subst hrt; exact ho
      have hdd : 1 + Tr.deps ts ≤ d := by
        cases r with
        | true => subst hrt; exact hd
        | false => subst hrt; exact hd
      have hnn : 1 + Tr.nodess ts ≤ 60 := by
        cases r with
        | true => subst hrt; exact hn
        | false => subst hrt; exact hn
      obtain ⟨d', rfl⟩ : ∃ d', d = d' + 1 := ⟨d - 1, by omega⟩
      have hlz : xs.length = ts.length := by rw [hx.length, datas_length]
      have hge := nodess_ge ts
      rw [htold] at q
      clear htold e1 hlen
      have isor : (decide (V.str t.kind = V.str ("or" : String))) = !r := by
        rw [hdat]
        cases r <;> decide +kernel
      have h1' := st _ _ h1
      have hb' := st _ _ hb
      -- kinds
      refine ⟨by show 2 ≤ sizeLine; decide +kernel, fun u1 hu1 => ⟨by show 1 ≤ sizeLine; decide +kernel, fun u2 hu2 => ⟨by show 2 ≤ sizeLine; decide +kernel, fun u3 hu3 => ?_⟩⟩⟩
      have sA := same_new (o := .tup [.str "row", .str "or"]) hu1
      have sB := same_new (o := .tup [.str "or"]) hu2
      have sC := same_new (o := .lst [.ref u1, .ref u2]) hu3
      generalize hK1 : upd H1 u1 (.tup [.str "row", .str "or"]) = K1 at sA sB sC hu2 hu3 ⊢
      have hu1' : K1 u1 = some (.tup [.str "row", .str "or"]) := by rw [← hK1, upd_same]
      generalize hK2 : upd K1 u2 (.tup [.str "or"]) = K2 at sB sC hu3 ⊢
      have hu2' : K2 u2 = some (.tup [.str "or"]) := by rw [← hK2, upd_same]
      generalize hK3 : upd K2 u3 (.lst [.ref u1, .ref u2]) = K3 at sC ⊢
      have hu3' : K3 u3 = some (.lst [.ref u1, .ref u2]) := by rw [← hK3, upd_same]
      have sK : Same H K3 := ((st.trans sA).trans sB).trans sC
      refine ⟨_, rfl, ta, _, 0, _, rfl, rfl, SqT.of (sK _ _ h1), atI_nat (j := 0) rfl, rfl, .inr ⟨_, rfl, ?_⟩⟩
      rw [isor]
      refine ⟨u3, _, _, .ref (if r = true then u1 else u2), rfl, rfl, SqL.of hu3', ?_, ?_⟩
      · cases r
        · exact atI_nat (j := 1) rfl
        · exact atI_nat (j := 0) rfl
      have hkk : K3 (if r = true then u1 else u2) = some (.tup (if r = true then [.str "row", .str "or"] else [.str "or"])) := by
        cases r
        · exact sC _ _ hu2'
        · exact sC _ _ (sB _ _ hu1')
      generalize (if r = true then u1 else u2) = kk at hkk ⊢
      refine ⟨by show 0 ≤ sizeLine; decide +kernel, fun l hl0 => ?_⟩
      have hlH : H l = none := sK.free hl0
      -- the loop
      refine ⟨_, rfl, ta, _, 1, _, rfl, rfl, SqT.of (same_new hl0 _ _ (sK _ _ h1)), atI_nat (j := 1) rfl, tb, xs, rfl, .inr (SqT.of (same_new hl0 _ _ (sK _ _ hb))), _, rfl, by omega, by
        have : xs.length ≤ 60 := by omega
        omega, ?_⟩
      rw [show ((xs.length : Nat) : Int).toNat = xs.length from rfl]
      refine for_range (lo := 0) (n := xs.length) (fun i σ H' => ∃ x6 x7, σ = [some (.ref a), some (.int (b : Nat)), some (.ref ta), some (.int (m : Nat)), some (.ref kk), some (.ref l), x6, x7] ∧ Same K3 H' ∧ H' l = some (.lst (strV ((tolds (mixN ns) b m r 0 ts).take i)))) ?_ ?_ ?_
      · exact ⟨none, none, rfl, same_new hl0, upd_same⟩
      · rintro i σ H2 hi ⟨x6, x7, rfl, s2, el⟩
        have hit : i < ts.length := by omega
        obtain ⟨u, hu⟩ : ∃ u, ts[i]? = some u := ⟨ts[i], List.getElem?_eq_getElem hit⟩
        have humem : u ∈ ts := List.mem_of_getElem? hu
        obtain ⟨uv, huv, hat⟩ := at_get hx hu
        have hun := nodess_mem humem
        have hdp := deps_mem humem
        have huo := okSs_mem hoo humem
        have hul := told_len (mixN ns) (b + 1 + 5 * i) u huo
        have sH : Same H H2 := sK.trans s2
        have hstep : (tolds (mixN ns) b m r 0 ts).take (i + 1) = (tolds (mixN ns) b m r 0 ts).take i ++ [lbr ((u.isOr || (r && u.isRow)) || decide (m / 4 % 7 = i)) (told (mixN ns) (b + 1 + 5 * i) u)] := by
          have := tolds_get (mixN ns) b m r ts 0 i u hu
          rw [Nat.zero_add] at this
          rw [List.take_add_one, this] <;> rfl
        refine ⟨_, rfl, _, rfl, _, _, rfl, rfl, _, rfl, _, _, rfl, rfl, .inl (by decide), _, _, rfl, rfl, ?_⟩
        refine ⟨_, rfl, ta, _, 1, _, rfl, rfl, SqT.of (sH _ _ h1), atI_nat (j := 1) rfl, _, rfl, tb, xs, _, uv, rfl, rfl, SqT.of (sH _ _ hb), ?_, a, ns, b + 1 + 5 * i, uv, u, ?_, sH.seq ha, hat.mono (TupK.of sH), huo, by omega, by omega, fun H3 s3 => ?_⟩
        · rw [show (0 + (i : Int)) = ((i : Nat) : Int) by omega]
          exact atI_nat huv
        · exact (show [V.ref a, V.int ((b : Int) + 1 + 5 * (0 + (i : Int))), uv] = [V.ref a, V.int ((b + 1 + 5 * i : Nat) : Int), uv] by rw [show ((b : Int) + 1 + 5 * (0 + (i : Int))) = ((b + 1 + 5 * i : Nat) : Int) by omega])
        have sH3 := sH.trans s3
        obtain ⟨ua, ux, rfl, hua⟩ := at_kind (hat.mono (TupK.of sH3))
        -- the brackets
        refine ⟨fun σ H' => ∃ x6', σ = [some (.ref a), some (.int (b : Nat)), some (.ref ta), some (.int (m : Nat)), some (.ref kk), some (.ref l), x6', some (.str (mk (lbr ((u.isOr || (r && u.isRow)) || decide (m / 4 % 7 = i)) (told (mixN ns) (b + 1 + 5 * i) u))))] ∧ H' = H3, ?_, ?_⟩
        · refine ⟨_, rfl, ta, _, 1, _, rfl, rfl, SqT.of (sH3 _ _ h1), atI_nat (j := 1) rfl, _, rfl, tb, xs, _, _, rfl, rfl, SqT.of (sH3 _ _ hb), ?_, ua, _, 0, _, rfl, rfl, SqT.of hua, atI_nat (j := 0) rfl, _, rfl, kk, _, rfl, .inr (SqT.of ((s2.trans s3) _ _ hkk)), rfl, ?_, _, rfl, ?_⟩
          · rw [show (0 + (i : Int)) = ((i : Nat) : Int) by omega]
            exact atI_nat huv
          · cases r <;> rfl
          rw [show (if false = true then _ else inV (V.str u.kind) (if r = true then [.str "row", .str "or"] else [.str "or"])) = (u.isOr || (r && u.isRow)) from kk_in r u]
          have br : ∀ x, lbr true x = [40] ++ x ++ [41] := fun _ => rfl
          have nb : ∀ x, lbr false x = x := fun _ => rfl
          cases hb1 : (u.isOr || (r && u.isRow)) with
          | true =>
            refine iteT (B := True) ⟨_, rfl, ?_⟩
            refine ⟨mk [40], mk _, congrArg V.str (by decide +kernel), rfl, sz_add (by show 1 + _ ≤ _; omega), ?_⟩
            rw [add_mk]
            refine ⟨mk _, mk [41], rfl, congrArg V.str (by decide +kernel), sz_add (by rw [List.length_append]; show 1 + _ + 1 ≤ _; omega), ?_⟩
            rw [add_mk]
            exact ⟨some (.int (0 + (i : Int))), by rw [Bool.true_or, br]; rfl, rfl⟩
          | false =>
            refine ⟨_, rfl, _, _, rfl, rfl, ⟨by decide, by decide⟩, _, _, rfl, rfl, by show (0 : Int) < 7; decide, _, rfl, rfl, _, rfl, if_dec (fun e => ?_) (fun e => ?_)⟩
            · have e7 : m / 4 % 7 = i := by
                have := V.int.inj e
                omega
              refine ⟨_, rfl, ?_⟩
              refine ⟨mk [40], mk _, congrArg V.str (by decide +kernel), rfl, sz_add (by show 1 + _ ≤ _; omega), ?_⟩
              rw [add_mk]
              refine ⟨mk _, mk [41], rfl, congrArg V.str (by decide +kernel), sz_add (by rw [List.length_append]; show 1 + _ + 1 ≤ _; omega), ?_⟩
              rw [add_mk]
              exact ⟨some (.int (0 + (i : Int))), by rw [Bool.false_or, decide_eq_true e7, br]; rfl, rfl⟩
            · have e7 : ¬ m / 4 % 7 = i := fun z => e (congrArg V.int (by omega))
              exact ⟨some (.int (0 + (i : Int))), by rw [Bool.false_or, decide_eq_false e7, nb]; rfl, rfl⟩
        · rintro σ H4 ⟨x6', rfl, rfl⟩
          have el3 := s3 _ _ el
          have hpl : (strV ((tolds (mixN ns) b m r 0 ts).take i)).length ≤ 60 := by
            rw [strV, List.length_map, List.length_take]
            omega
          refine ⟨_, rfl, .inl ⟨rfl, _, SqL.of el3⟩, _, rfl, l, _, _, rfl, rfl, el3, sz_lt (by omega), ?_⟩
          refine ⟨x6', _, rfl, Same.mut (s2.trans s3) hl0, ?_⟩
          rw [upd_same, hstep]
          simp [strV]
      · rintro σ H2 ⟨x6, x7, rfl, s2, el⟩
        rw [List.take_of_length_le (by rw [tolds_length, hlz]; exact Nat.le_refl _)] at el
        have sH : Same H H2 := sK.trans s2
        refine ⟨by show 2 ≤ sizeLine; decide +kernel, fun v1 hv1 => ?_⟩
        have sv := same_new (o := .lst [.str "", .str "|"]) hv1
        generalize hV1 : upd H2 v1 (.lst [.str "", .str "|"]) = V1 at sv ⊢
        have hv1' : V1 v1 = some (.lst [.str "", .str "|"]) := by rw [← hV1, upd_same]
        refine ⟨_, rfl, ta, _, 0, _, rfl, rfl, SqT.of (sv _ _ (sH _ _ h1)), atI_nat (j := 0) rfl, rfl, .inr ⟨_, rfl, ?_⟩⟩
        rw [isor]
        refine ⟨v1, _, _, .str (mk (if r = true then [] else [124])), rfl, rfl, SqL.of hv1', ?_, ?_⟩
        · cases r
          · rw [show (if (false = true) then ([] : List Nat) else [124]) = [124] from rfl, show mk [124] = (("|" : String) : Str) by decide +kernel]
            exact atI_nat (j := 1) rfl
          · rw [show (if (true = true) then ([] : List Nat) else [124]) = [] from rfl, show mk [] = (("" : String) : Str) by decide +kernel]
            exact atI_nat (j := 0) rfl
        have ell : strV (tolds (mixN ns) b m r 0 ts) = ((tolds (mixN ns) b m r 0 ts).map mk).map V.str := by rw [strV, List.map_map]; rfl
        rw [ell] at el
        have hll := tolds_len (mixN ns) b m r 0 ts hoo
        refine ⟨⟨_, rfl⟩, _, rfl, _, l, _, rfl, rfl, .inl (SqL.of (sv _ _ el)), join_mkS _ _ ?_, ?_⟩
        · rw [tolds_length]
          have : (if r = true then ([] : List Nat) else [124]).length ≤ 1 := by cases r <;> decide
          have h2 : ts.length * (if r = true then ([] : List Nat) else [124]).length ≤ ts.length * 1 := Nat.mul_le_mul_left _ this
          omega
        · rw [join_gen]
          have qq := q V1 (sH.trans sv)
          cases r with
          | true =>
            have ej : ∀ ls : List (List Nat), TL.joinL [] ls = ls.flatten := by
              intro ls
              induction ls with
              | nil => rfl
              | cons p r ih =>
                cases r with
                | nil =>
                  show p = p ++ []
                  rw [List.append_nil]
                | cons q r =>
                  show p ++ ([] ++ TL.joinL [] (q :: r)) = _
                  rw [ih] <;> rfl
            show Q (V.str (mk (TL.joinL [] _))) V1
            rw [ej]
            exact qq
          | false => exact qq
    -- a star, a plus, a maybe
    · obtain ⟨u, mc, hu, hdat, htold, hz⟩ : ∃ (u : Tr) (mc : List Nat), t.data = .tuple [.str t.kind, u.data] ∧ (u.okS ∧ 1 + u.dep ≤ d ∧ 1 + u.nodes ≤ 60) ∧ told (mixN ns) b t = lbr (u.isRow || u.isOr || decide (m % 5 = 0)) (told (mixN ns) (b + 1) u) ++ mc ∧ ((t.kind = "star" ∧ mc = [42]) ∨ (t.kind = "plus" ∧ mc = [43]) ∨ (t.kind = "maybe" ∧ mc = [63])) := by
        cases t with
        | one s => exact absurd rfl e
        | row ts => exact absurd rfl e1
        | or ts => exact absurd rfl e1
        | star u => exact ⟨u, [42], rfl, ⟨ho, hd, hn⟩, by rw [← hm]; rfl, .inl ⟨rfl, rfl⟩⟩
        | plus u => exact ⟨u, [43], rfl, ⟨ho, hd, hn⟩, by rw [← hm]; rfl, .inr (.inl ⟨rfl, rfl⟩)⟩
        | maybe u => exact ⟨u, [63], rfl, ⟨ho, hd, hn⟩, by rw [← hm]; rfl, .inr (.inr ⟨rfl, rfl⟩)⟩
      obtain ⟨huo, hud, hun⟩ := hdat
      obtain ⟨d', rfl⟩ : ∃ d', d = d' + 1 := ⟨d - 1, by omega⟩
      have ht' : Dt H (.ref ta) (.tuple [.str t.kind, u.data]) := by
        rw [← hu]
        exact ht
      obtain ⟨a2, uv, e2, h1, hat⟩ := at_un ht'
      cases e2
      rw [htold] at q
      have hul := told_len (mixN ns) (b + 1) u huo
      have h1' := st _ _ h1
      refine ⟨_, rfl, _, rfl, _, _, rfl, rfl, _, rfl, ta, _, 1, _, rfl, rfl, SqT.of h1', atI_nat (j := 1) rfl, a, ns, b + 1, uv, u, rfl, st.seq ha, hat.mono (TupK.of st), huo, by omega, by omega, fun H3 s3 => ?_⟩
      have sH3 := st.trans s3
      obtain ⟨ua, ux, rfl, hua⟩ := at_kind (hat.mono (TupK.of sH3))
      have hlb := lbr_len (u.isRow || u.isOr || decide (m % 5 = 0)) (told (mixN ns) (b + 1) u)
      refine ⟨fun σ H' => σ = [some (.ref a), some (.int (b : Nat)), some (.ref ta), some (.int (m : Nat)), none, none, none, some (.str (mk (lbr (u.isRow || u.isOr || decide (m % 5 = 0)) (told (mixN ns) (b + 1) u))))] ∧ Same H H', ?_, ?_⟩
      · refine ⟨_, rfl, ta, _, 1, _, rfl, rfl, SqT.of (sH3 _ _ h1), atI_nat (j := 1) rfl, ua, _, 0, _, rfl, rfl, SqT.of hua, atI_nat (j := 0) rfl, by show 2 ≤ sizeLine; decide +kernel, fun t2 ht2 => ?_⟩
        have s5 := same_new (o := .tup [.str "row", .str "or"]) ht2
        refine ⟨t2, _, rfl, .inr (SqT.of upd_same), rfl, rfl, _, rfl, ?_⟩
        rw [show (if false = true then _ else inV (V.str u.kind) [.str "row", .str "or"]) = (u.isRow || u.isOr) from orrow_in u]
        have br : ∀ x, lbr true x = [40] ++ x ++ [41] := fun _ => rfl
        have nb : ∀ x, lbr false x = x := fun _ => rfl
        cases hb1 : (u.isRow || u.isOr) with
        | true =>
          refine iteT (B := True) ⟨_, rfl, ?_⟩
          refine ⟨mk [40], mk _, congrArg V.str (by decide +kernel), rfl, sz_add (by show 1 + _ ≤ _; omega), ?_⟩
          rw [add_mk]
          refine ⟨mk _, mk [41], rfl, congrArg V.str (by decide +kernel), sz_add (by rw [List.length_append]; show 1 + _ + 1 ≤ _; omega), ?_⟩
          rw [add_mk]
          exact ⟨by rw [Bool.true_or, br]; rfl, sH3.trans s5⟩
        | false =>
          refine ⟨_, rfl, _, _, rfl, rfl, by show (0 : Int) < 5; decide, rfl, _, rfl, if_dec (fun e => ?_) (fun e => ?_)⟩
          · have e7 : m % 5 = 0 := by
              have := V.int.inj e
              omega
            refine ⟨_, rfl, ?_⟩
            refine ⟨mk [40], mk _, congrArg V.str (by decide +kernel), rfl, sz_add (by show 1 + _ ≤ _; omega), ?_⟩
            rw [add_mk]
            refine ⟨mk _, mk [41], rfl, congrArg V.str (by decide +kernel), sz_add (by rw [List.length_append]; show 1 + _ + 1 ≤ _; omega), ?_⟩
            rw [add_mk]
            exact ⟨by rw [Bool.false_or, decide_eq_true e7, br]; rfl, sH3.trans s5⟩
          · have e7 : ¬ m % 5 = 0 := fun z => e (congrArg V.int (by omega))
            exact ⟨by rw [Bool.false_or, decide_eq_false e7, nb]; rfl, sH3.trans s5⟩
      · rintro σ H4 ⟨rfl, s4⟩
        refine ⟨_, rfl, fun dd hdd => ?_⟩
        have s5 : Same H4 (upd H4 dd (.dK [])) := same_new hdd
        refine ⟨upd_same, [(.inr "star", .str "*"), (.inr "plus", .str "+"), (.inr "maybe", .str "?")], rfl, by show 3 ≤ 15; decide, ?_⟩
        rw [upd_upd]
        have s6 := same_new (o := .dK (mergeK [] [(.inr "star", .str "*"), (.inr "plus", .str "+"), (.inr "maybe", .str "?")])) hdd
        have hv : valV (mergeK [] [(.inr "star", .str "*"), (.inr "plus", .str "+"), (.inr "maybe", .str "?")]) (.inr t.kind) = some (V.str (mk mc)) := by
          rcases hz with ⟨z1, z2⟩ | ⟨z1, z2⟩ | ⟨z1, z2⟩ <;> rw [z1, z2] <;> decide +kernel
        refine ⟨_, rfl, ta, _, 0, _, rfl, rfl, SqT.of (s6 _ _ (s4 _ _ h1)), atI_nat (j := 0) rfl, dd, .str (mk mc), rfl, ?_, ?_⟩
        · rw [← hv]
          exact DGet.k (k := .inr t.kind) upd_same
        · have hmc : mc.length = 1 := by rcases hz with ⟨z1, z2⟩ | ⟨z1, z2⟩ | ⟨z1, z2⟩ <;> rw [z2] <;> rfl
          refine ⟨mk _, mk mc, rfl, rfl, sz_add (by omega), ?_⟩
          rw [add_mk]
          exact q _ (s4.trans s6)
theorem told_all (T : Top w K mg) : ∀ d, Df P w K mg base CX0 (4 + d) "_law_told" ["_law_script", "_law_base", "_law_tree_here"] (spTold K d)
  | 0 => ok_told T 0 3 (by omega) (Df.never 3 T.f_l_told T.g_l_told b_l_told)
  | d + 1 => ok_told T (d + 1) (4 + d) (by omega) (told_all T d)
end
end TW

set_option maxHeartbeats 1000000
namespace TW
open PySem PySem.Spec PyProof.Rows L2
mutual
def Tr.two : Tr → Prop
  | .one _ => True
  | .or ts => 2 ≤ ts.length ∧ Tr.twos ts
  | .row ts => 2 ≤ ts.length ∧ Tr.twos ts
  | .star t => t.two
  | .plus t => t.two
  | .maybe t => t.two
def Tr.twos : List Tr → Prop
  | [] => True
  | t :: r => t.two ∧ Tr.twos r
end
mutual
def Tr.leaves : Tr → Nat
  | .one _ => 1
  | .or ts => Tr.leavess ts
  | .row ts => Tr.leavess ts
  | .star t => t.leaves
  | .plus t => t.leaves
  | .maybe t => t.leaves
def Tr.leavess : List Tr → Nat
  | [] => 0
  | t :: r => t.leaves + Tr.leavess r
end
theorem twos_mem {t : Tr} : ∀ {ts : List Tr}, Tr.twos ts → t ∈ ts → t.two
  | u :: r, ⟨h1, h2⟩, h => by
    rcases List.mem_cons.mp h with rfl | h
    · exact h1
    · exact twos_mem h2 h
theorem leavess_sum : ∀ ts : List Tr, (ts.map fun t => ((t.leaves : Nat) : Int)).sum = ((Tr.leavess ts : Nat) : Int)
  | [] => rfl
  | t :: r => by
    rw [List.map_cons, List.sum_cons, leavess_sum r]
    show _ = (((t.leaves + Tr.leavess r : Nat)) : Int)
    omega
/-- what lies of a tree: its kind, and by it a text, parts, or a part -/
theorem at_cases {t : Tr} {v : V} {H : Hp} (h : AtT t v H) : ∃ a x, v = .ref a ∧ H a = some (.tup [.str t.kind, x]) ∧
    ((∃ s, t = .one s ∧ x = .str (mk s)) ∨ (∃ ts b xs, (t = .row ts ∨ t = .or ts) ∧ x = .ref b ∧ H b = some (.tup xs) ∧ DtA H xs (Tr.datas ts)) ∨ (∃ u, (t = .star u ∨ t = .plus u ∨ t = .maybe u) ∧ AtT u x H)) := by
  cases t with
  | one s =>
    obtain ⟨a, e, h1⟩ := at_one h
    exact ⟨a, _, e, h1, .inl ⟨s, rfl, rfl⟩⟩
  | row ts =>
    obtain ⟨a, b, xs, e, h1, h2, h3⟩ := at_seq h
    exact ⟨a, _, e, h1, .inr (.inl ⟨ts, b, xs, .inl rfl, rfl, h2, h3⟩)⟩
  | or ts =>
    obtain ⟨a, b, xs, e, h1, h2, h3⟩ := at_seq h
    exact ⟨a, _, e, h1, .inr (.inl ⟨ts, b, xs, .inr rfl, rfl, h2, h3⟩)⟩
  | star t =>
    obtain ⟨a, x, e, h1, h2⟩ := at_un h
    exact ⟨a, _, e, h1, .inr (.inr ⟨t, .inl rfl, h2⟩)⟩
  | plus t =>
    obtain ⟨a, x, e, h1, h2⟩ := at_un h
    exact ⟨a, _, e, h1, .inr (.inr ⟨t, .inr (.inl rfl), h2⟩)⟩
  | maybe t =>
    obtain ⟨a, x, e, h1, h2⟩ := at_un h
    exact ⟨a, _, e, h1, .inr (.inr ⟨t, .inr (.inr rfl), h2⟩)⟩
theorem kind_one {t : Tr} : (V.str t.kind = V.str ("one" : String)) ↔ ∃ s, t = .one s := by
  constructor
  · intro e
    have e := V.str.inj e
    cases t with
    | one s => exact ⟨s, rfl⟩
    | row _ => exact absurd e (show ¬ (("row" : String) : Str) = "one" by decide +kernel)
    | or _ => exact absurd e (show ¬ (("or" : String) : Str) = "one" by decide +kernel)
    | star _ => exact absurd e (show ¬ (("star" : String) : Str) = "one" by decide +kernel)
    | plus _ => exact absurd e (show ¬ (("plus" : String) : Str) = "one" by decide +kernel)
    | maybe _ => exact absurd e (show ¬ (("maybe" : String) : Str) = "one" by decide +kernel)
  · rintro ⟨s, rfl⟩
    rfl
def spIsTree (d : Nat) : Sp := fun vs H Q _ => ∃ v t, vs = [v] ∧ AtT t v H ∧ t.two ∧ t.dep ≤ d ∧ t.nodes ≤ 60 ∧ ∀ H', Same H H' → Q (.bl true) H'
def spIsTreeP : Nat → Sp
  | 0 => fun _ _ _ _ => False
  | d + 1 => spIsTree d
def spMany (d : Nat) : Sp := fun vs H Q _ => ∃ v t, vs = [v] ∧ AtT t v H ∧ t.dep ≤ d ∧ t.nodes ≤ 60 ∧ ∀ H', Same H H' → Q (.int (t.leaves : Nat)) H'
def spManyP : Nat → Sp
  | 0 => fun _ _ _ _ => False
  | d + 1 => spMany d
theorem dep_pos {t : Tr} {ts : List Tr} {d : Nat} (h : t = .row ts ∨ t = .or ts) (hd : t.dep ≤ d) : 1 + Tr.deps ts ≤ d := by
  rcases h with rfl | rfl <;> exact hd
theorem dep_un {t u : Tr} {d : Nat} (h : t = .star u ∨ t = .plus u ∨ t = .maybe u) (hd : t.dep ≤ d) : 1 + u.dep ≤ d := by
  rcases h with rfl | rfl | rfl <;> exact hd
theorem nod_pos {t : Tr} {ts : List Tr} {d : Nat} (h : t = .row ts ∨ t = .or ts) (hd : t.nodes ≤ d) : 1 + Tr.nodess ts ≤ d := by
  rcases h with rfl | rfl <;> exact hd
theorem nod_un {t u : Tr} {d : Nat} (h : t = .star u ∨ t = .plus u ∨ t = .maybe u) (hd : t.nodes ≤ d) : 1 + u.nodes ≤ d := by
  rcases h with rfl | rfl | rfl <;> exact hd
theorem two_pos {t : Tr} {ts : List Tr} (h : t = .row ts ∨ t = .or ts) (hd : t.two) : 2 ≤ ts.length ∧ Tr.twos ts := by
  rcases h with rfl | rfl <;> exact hd
theorem two_un {t u : Tr} (h : t = .star u ∨ t = .plus u ∨ t = .maybe u) (hd : t.two) : u.two := by
  rcases h with rfl | rfl | rfl <;> exact hd
theorem leaves_pos {t : Tr} {ts : List Tr} (h : t = .row ts ∨ t = .or ts) : t.leaves = Tr.leavess ts := by
  rcases h with rfl | rfl <;> rfl
theorem leaves_un {t u : Tr} (h : t = .star u ∨ t = .plus u ∨ t = .maybe u) : t.leaves = u.leaves := by
  rcases h with rfl | rfl | rfl <;> rfl
theorem kindT_pos {t : Tr} {ts : List Tr} (h : t = .row ts ∨ t = .or ts) : (t.isRow || t.isOr) = true ∧ ¬ ∃ s, t = .one s := by
  rcases h with rfl | rfl <;> exact ⟨rfl, fun ⟨s, e⟩ => nomatch e⟩
theorem kindT_un {t u : Tr} (h : t = .star u ∨ t = .plus u ∨ t = .maybe u) : (t.isRow || t.isOr) = false ∧ (¬ ∃ s, t = .one s) ∧ inV (.str t.kind) [.str "star", .str "plus", .str "maybe"] = true := by
  rcases h with rfl | rfl | rfl <;> exact ⟨rfl, fun ⟨s, e⟩ => (nomatch e), rfl⟩
section
variable {P : Program} {w : World} {K : PySem.W.Frag} {mg : Str → Option Value} {base : Heap}
theorem ok_is_tree (T : Top w K mg) (d k : Nat) (D_l_is_tree : Df P w K mg base CX0 k "_law_is_tree" ["_law_tree_here"] (spIsTreeP d)) : Df P w K mg base CX0 (k + 1) "_law_is_tree" ["_law_tree_here"] (spIsTree d) := by
  refine Df.of T.f_l_is_tree T.g_l_is_tree sc_l_is_tree b_l_is_tree (fun vs H Q E h => ?_) (fun cdv A outer s H vs Q E hr h => ?_)
  · obtain ⟨v, t, rfl, _⟩ := h
    rfl
  · obtain ⟨v, t, rfl, ht, h2, hd, hn, q⟩ := h
    refine ⟨_, (pss_cons (ps_if (PW.pt (pw_or (pt_not (pt_val (pe_callB call_isi rfl T.z_isinstance (by decide +kernel) (pa_cons (pv 0) (pa_cons (pe_bltn (v := .ty "tuple") rfl T.z_tuple (by decide +kernel) rfl) pa_nil))))) (pw_or1 (pt_cmpR op_ne (pe_callB call_len_seq rfl T.z_len boot_len (pa_cons (pv 0) pa_nil)) pe_int (nomark _))))) (pss_one (ps_ret pe_bl)) pss_nil)
      (pss_cons (ps_if (pt_cmpR op_eq (pe_ix ix_tup (pv 0) pe_int (fun _ _ => rfl)) pe_str (nomark _)) (pss_one (ps_ret (pe_callB call_isi rfl T.z_isinstance (by decide +kernel) (pa_cons (pe_ix ix_tup (pv 0) pe_int (fun _ _ => rfl)) (pa_cons (pe_bltn (v := .ty "str") rfl T.z_str (by decide +kernel) rfl) pa_nil))))) pss_nil)
      (pss_cons (ps_if (pt_cmpR op_in_seq (pe_ix ix_tup (pv 0) pe_int (fun _ _ => rfl)) (pe_tup (pa_cons pe_str (pa_cons pe_str pa_nil))) rfl) (pss_one (ps_ret (pe_and (pe_callB call_isi rfl T.z_isinstance (by decide +kernel) (pa_cons (pe_ix ix_tup (pv 0) pe_int (fun _ _ => rfl)) (pa_cons (pe_bltn (v := .ty "tuple") rfl T.z_tuple (by decide +kernel) rfl) pa_nil))) (pe_and (pe_cmpR op_gt (pe_callB call_len_seq rfl T.z_len boot_len (pa_cons (pe_ix ix_tup (pv 0) pe_int (fun _ _ => rfl)) pa_nil)) pe_int (nomark _)) (pe_one (pe_callB (cr_all rfl) rfl T.z_all (by decide +kernel) (pa_cons (pe_lc (own := [("_law_part", 1)]) (g := gName 1) rfl sc_l_is_tree.nd (pi_tup (pe_ix ix_tup (pv 0) pe_int (fun _ _ => rfl))) (blkOk_by (own := [("_law_part", 1)]) (N := N_l_is_tree) (sc := defScope s_l_is_tree) (by decide +kernel)) (fun _ _ _ _ _ => pg_name (i := 1) sc_l_is_tree.nd rfl (Or.inl rfl)) (fun _ _ _ _ _ => pts_nil) (fun _ _ _ _ _ => (pe_callD D_l_is_tree (hr.mono (by first | decide | omega)) rfl pass0 (pa_cons (pv 1) pa_nil)))) pa_nil))))))) pss_nil)
      (pss_one (ps_ret (pe_and (pe_cmpR op_in_seq (pe_ix ix_tup (pv 0) pe_int (fun _ _ => rfl)) (pe_tup (pa_cons pe_str (pa_cons pe_str (pa_cons pe_str pa_nil)))) rfl) (pe_one (pe_callD D_l_is_tree (hr.mono (by first | decide | omega)) rfl pass0 (pa_cons (pe_ix ix_tup (pv 0) pe_int (fun _ _ => rfl)) pa_nil))))))))), ?_⟩
    obtain ⟨a, x, rfl, ha, hx⟩ := at_cases ht
    refine ⟨_, rfl, _, _, .type "tuple", .type "tuple", true, rfl, .ty "tuple", .base (.tup ha), kit_ty (by decide +kernel), true, rfl, ?_⟩
    refine ⟨_, rfl, a, _, rfl, .inr (SqT.of ha), rfl, _, rfl, if_ndec (fun _ => ?_) (fun e => absurd rfl e)⟩
    refine ⟨_, rfl, a, _, 0, _, rfl, rfl, SqT.of ha, atI_nat (j := 0) rfl, rfl, _, rfl, if_dec (fun e => ?_) (fun e => ?_)⟩
    · rcases hx with ⟨ss, rfl, rfl⟩ | ⟨ts, b, xs, hts, _⟩ | ⟨u, hu, _⟩
      · exact ⟨_, rfl, a, _, 1, _, rfl, rfl, SqT.of ha, atI_nat (j := 1) rfl, _, _, .type "str", .type "str", true, rfl, .ty "str", .base (.str _), kit_ty (by decide +kernel), q H (Same.refl _)⟩
      · exact absurd (kind_one.mp e) (kindT_pos hts).2
      · exact absurd (kind_one.mp e) (kindT_un hu).2.1
    refine ⟨_, rfl, a, _, 0, _, rfl, rfl, SqT.of ha, atI_nat (j := 0) rfl, by show 2 ≤ sizeLine; decide +kernel, fun tt htt => ?_⟩
    have st := same_new (o := .tup [.str "row", .str "or"]) htt
    refine ⟨tt, _, rfl, .inr (SqT.of upd_same), rfl, rfl, _, rfl, ?_⟩
    rw [show (if false = true then _ else inV (V.str t.kind) [.str "row", .str "or"]) = (t.isRow || t.isOr) from orrow_in t]
    generalize upd H tt (.tup [.str "row", .str "or"]) = H1 at st ⊢
    have ha1 := st _ _ ha
    rcases hx with ⟨ss, rfl, rfl⟩ | ⟨ts, b, xs, hts, rfl, hb, hxs⟩ | ⟨u, hu, hat⟩
    · exact absurd (kind_one.mpr ⟨ss, rfl⟩) e
    · have hb1 := st _ _ hb
      have hdd := dep_pos hts hd
      have hnn := nod_pos hts hn
      obtain ⟨h22, htw⟩ := two_pos hts h2
      obtain ⟨d', rfl⟩ : ∃ d', d = d' + 1 := ⟨d - 1, by omega⟩
      have hlz : xs.length = ts.length := by rw [hxs.length, datas_length]
      have hge := nodess_ge ts
      rw [(kindT_pos hts).1]
      refine iteT (B := True) ?_
      refine ⟨_, rfl, a, _, 1, _, rfl, rfl, SqT.of ha1, atI_nat (j := 1) rfl, _, _, .type "tuple", .type "tuple", true, rfl, .ty "tuple", .base (.tup hb1), kit_ty (by decide +kernel), true, rfl, ?_⟩
      refine iteT (B := True) ?_
      refine ⟨_, rfl, a, _, 1, _, rfl, rfl, SqT.of ha1, atI_nat (j := 1) rfl, b, xs, rfl, .inr (SqT.of hb1), _, _, rfl, rfl, _, rfl, if_dec (fun _ => ?_) (fun e => absurd (by omega) e)⟩
      refine ⟨_, rfl, a, _, 1, _, rfl, rfl, SqT.of ha1, atI_nat (j := 1) rfl, b, rfl, ⟨_, SqT.of hb1⟩, fun D hD => ?_⟩
      refine lc_ext (gives_zip (gives_tup (SqT.of hb1)) hlz) hD (sz_of (by rw [List.length_zip]; omega)) (fun _ => true) (fun p v _ => v = .bl true) (fun _ _ _ _ _ h => h) (fun x => rfl) ?_ ?_ ?_
      · rintro p hp x rfl H3 s3 Q1 q1
        exact q1 H3 (Same.refl _)
      · rintro p hp hf x rfl H3 s3 Q1 q1
        obtain ⟨hat, hmem⟩ := zip_at hxs p hp
        have h5 := deps_mem hmem
        have h6 := nodess_mem hmem
        exact ⟨_, rfl, p.1, p.2, rfl, hat.mono (TupK.of (st.trans s3)), twos_mem htw hmem, by omega, by omega, fun H4 s4 => q1 _ H4 s4 rfl⟩
      · intro H3 ys s3 e3 hR
        rw [filter_true] at hR
        have ey : ys = ((xs.zip ts).map fun _ => true).map V.bl := by
          rw [RAll.map (f := fun _ : V × Tr => V.bl true) hR, List.map_map] <;> rfl
        rw [ey] at e3
        refine ⟨D, _, rfl, SqL.of e3, ?_⟩
        rw [show ((xs.zip ts).map fun _ => true).all id = true from List.all_eq_true.mpr fun b hb => by
          obtain ⟨_, _, rfl⟩ := List.mem_map.mp hb
          rfl]
        exact q H3 (st.trans s3)
    · have hdd := dep_un hu hd
      have hnn := nod_un hu hn
      obtain ⟨d', rfl⟩ : ∃ d', d = d' + 1 := ⟨d - 1, by omega⟩
      rw [(kindT_un hu).1]
      refine ⟨_, rfl, a, _, 0, _, rfl, rfl, SqT.of ha1, atI_nat (j := 0) rfl, by show 3 ≤ sizeLine; decide +kernel, fun t2 ht2 => ?_⟩
      have s2 := same_new (o := .tup [.str "star", .str "plus", .str "maybe"]) ht2
      refine ⟨t2, _, rfl, .inr (SqT.of upd_same), rfl, rfl, _, rfl, ?_⟩
      rw [show (if false = true then _ else inV (V.str t.kind) [.str "star", .str "plus", .str "maybe"]) = true from (kindT_un hu).2.2]
      refine iteT (B := True) ?_
      refine ⟨_, rfl, a, _, 1, _, rfl, rfl, SqT.of (s2 _ _ ha1), atI_nat (j := 1) rfl, x, u, rfl, hat.mono (TupK.of (st.trans s2)), two_un hu h2, by omega, by omega, fun H4 s4 => ?_⟩
      exact q H4 ((st.trans s2).trans s4)
theorem is_tree_all (T : Top w K mg) : ∀ d, Df P w K mg base CX0 (1 + d) "_law_is_tree" ["_law_tree_here"] (spIsTree d)
  | 0 => ok_is_tree T 0 0 (Df.never 0 T.f_l_is_tree T.g_l_is_tree b_l_is_tree)
  | d + 1 => by
    have := ok_is_tree T (d + 1) (1 + d) (is_tree_all T d)
    rw [show 1 + (d + 1) = 1 + d + 1 by omega]
    exact this
theorem ok_many (T : Top w K mg) (d k : Nat) (D_l_many : Df P w K mg base CX0 k "_law_many" ["_law_tree_here"] (spManyP d)) : Df P w K mg base CX0 (k + 1) "_law_many" ["_law_tree_here"] (spMany d) := by
  refine Df.of T.f_l_many T.g_l_many sc_l_many b_l_many (fun vs H Q E h => ?_) (fun cdv A outer s H vs Q E hr h => ?_)
  · obtain ⟨v, t, rfl, _⟩ := h
    rfl
  · obtain ⟨v, t, rfl, ht, hd, hn, q⟩ := h
    refine ⟨_, (pss_cons (ps_if (pt_cmpR op_eq (pe_ix ix_tup (pv 0) pe_int (fun _ _ => rfl)) pe_str (nomark _)) (pss_one (ps_ret pe_int)) pss_nil)
      (pss_cons (ps_if (pt_cmpR op_in_seq (pe_ix ix_tup (pv 0) pe_int (fun _ _ => rfl)) (pe_tup (pa_cons pe_str (pa_cons pe_str pa_nil))) rfl) (pss_one (ps_ret (pe_callB (cr_sum rfl) rfl T.z_sum (by decide +kernel) (pa_cons (pe_lc (own := [("_law_part", 1)]) (g := gName 1) rfl sc_l_many.nd (pi_tup (pe_ix ix_tup (pv 0) pe_int (fun _ _ => rfl))) (blkOk_by (own := [("_law_part", 1)]) (N := N_l_many) (sc := defScope s_l_many) (by decide +kernel)) (fun _ _ _ _ _ => pg_name (i := 1) sc_l_many.nd rfl (Or.inl rfl)) (fun _ _ _ _ _ => pts_nil) (fun _ _ _ _ _ => (pe_callD D_l_many (hr.mono (by first | decide | omega)) rfl pass0 (pa_cons (pv 1) pa_nil)))) pa_nil)))) pss_nil)
      (pss_one (ps_ret (pe_callD D_l_many (hr.mono (by first | decide | omega)) rfl pass0 (pa_cons (pe_ix ix_tup (pv 0) pe_int (fun _ _ => rfl)) pa_nil)))))), ?_⟩
    obtain ⟨a, x, rfl, ha, hx⟩ := at_cases ht
    refine ⟨_, rfl, a, _, 0, _, rfl, rfl, SqT.of ha, atI_nat (j := 0) rfl, rfl, _, rfl, if_dec (fun e => ?_) (fun e => ?_)⟩
    · obtain ⟨ss, rfl⟩ := kind_one.mp e
      exact q H (Same.refl _)
    refine ⟨_, rfl, a, _, 0, _, rfl, rfl, SqT.of ha, atI_nat (j := 0) rfl, by show 2 ≤ sizeLine; decide +kernel, fun tt htt => ?_⟩
    have st := same_new (o := .tup [.str "row", .str "or"]) htt
    refine ⟨tt, _, rfl, .inr (SqT.of upd_same), rfl, rfl, _, rfl, ?_⟩
    rw [show (if false = true then _ else inV (V.str t.kind) [.str "row", .str "or"]) = (t.isRow || t.isOr) from orrow_in t]
    generalize upd H tt (.tup [.str "row", .str "or"]) = H1 at st ⊢
    have ha1 := st _ _ ha
    rcases hx with ⟨ss, rfl, rfl⟩ | ⟨ts, b, xs, hts, rfl, hb, hxs⟩ | ⟨u, hu, hat⟩
    · exact absurd (kind_one.mpr ⟨ss, rfl⟩) e
    · have hb1 := st _ _ hb
      have hdd := dep_pos hts hd
      have hnn := nod_pos hts hn
      obtain ⟨d', rfl⟩ : ∃ d', d = d' + 1 := ⟨d - 1, by omega⟩
      have hlz : xs.length = ts.length := by rw [hxs.length, datas_length]
      have hge := nodess_ge ts
      rw [(kindT_pos hts).1]
      refine iteT (B := True) ?_
      refine ⟨_, rfl, a, _, 1, _, rfl, rfl, SqT.of ha1, atI_nat (j := 1) rfl, b, rfl, ⟨_, SqT.of hb1⟩, fun D hD => ?_⟩
      refine lc_ext (gives_zip (gives_tup (SqT.of hb1)) hlz) hD (sz_of (by rw [List.length_zip]; omega)) (fun _ => true) (fun p v _ => v = .int (p.2.leaves : Nat)) (fun _ _ _ _ _ h => h) (fun x => rfl) ?_ ?_ ?_
      · rintro p hp x rfl H3 s3 Q1 q1
        exact q1 H3 (Same.refl _)
      · rintro p hp hf x rfl H3 s3 Q1 q1
        obtain ⟨hat, hmem⟩ := zip_at hxs p hp
        have h5 := deps_mem hmem
        have h6 := nodess_mem hmem
        exact ⟨_, rfl, p.1, p.2, rfl, hat.mono (TupK.of (st.trans s3)), by omega, by omega, fun H4 s4 => q1 _ H4 s4 rfl⟩
      · intro H3 ys s3 e3 hR
        rw [filter_true] at hR
        have ey : ys = (ts.map fun t => ((t.leaves : Nat) : Int)).map V.int := by
          rw [RAll.map (f := fun p : V × Tr => V.int (p.2.leaves : Nat)) hR, List.map_map]
          conv => rhs; rw [← zip_snd hlz]
          rw [List.map_map] <;> rfl
        rw [ey] at e3
        refine ⟨D, _, rfl, SqL.of e3, ?_⟩
        rw [leavess_sum]
        have := q H3 (st.trans s3)
        rw [leaves_pos hts] at this
        exact this
    · have hdd := dep_un hu hd
      have hnn := nod_un hu hn
      obtain ⟨d', rfl⟩ : ∃ d', d = d' + 1 := ⟨d - 1, by omega⟩
      rw [(kindT_un hu).1]
      refine ⟨_, rfl, a, _, 1, _, rfl, rfl, SqT.of ha1, atI_nat (j := 1) rfl, x, u, rfl, hat.mono (TupK.of st), by omega, by omega, fun H4 s4 => ?_⟩
      have := q H4 (st.trans s4)
      rw [leaves_un hu] at this
      exact this
theorem many_all (T : Top w K mg) : ∀ d, Df P w K mg base CX0 (1 + d) "_law_many" ["_law_tree_here"] (spMany d)
  | 0 => ok_many T 0 0 (Df.never 0 T.f_l_many T.g_l_many b_l_many)
  | d + 1 => by
    have := ok_many T (d + 1) (1 + d) (many_all T d)
    rw [show 1 + (d + 1) = 1 + d + 1 by omega]
    exact this
end
end TW

set_option maxHeartbeats 1000000
namespace TW
/-! ### the plain law: what is written is read -/
theorem inO_ext {a b : List Nat} (h : ∀ c ∈ SG, (c ∈ a ↔ c ∈ b)) : inO a = inO b := by
  unfold inO
  refine List.filter_congr fun c hc => ?_
  rw [decide_eq_decide]
  exact h c hc
theorem oth_ext {a b : List Nat} (h : ∀ c ∈ SG, (c ∈ a ↔ c ∈ b)) : oth a = oth b := by
  unfold oth
  refine List.filter_congr fun c hc => ?_
  rw [decide_eq_decide.mpr (h c hc)]
theorem mem_oth {c : Nat} {s : List Nat} : c ∈ oth s ↔ c ∈ SG ∧ c ∉ s := by
  unfold oth
  rw [List.mem_filter]
  simp
theorem mem_inO {c : Nat} {s : List Nat} : c ∈ inO s ↔ c ∈ SG ∧ c ∈ s := by
  unfold inO
  rw [List.mem_filter]
  simp
theorem oth_oth {s : List Nat} (h : inO s = s) : oth (oth s) = s := by
  have e : oth (oth s) = inO s := by
    unfold oth inO
    refine List.filter_congr fun c hc => ?_
    have h1 : c ∈ SG.filter (fun c => !decide (c ∈ s)) ↔ ¬ c ∈ s := by
      rw [List.mem_filter]
      simp [hc]
    by_cases hs : c ∈ s
    · rw [decide_eq_true hs, decide_eq_false (fun z => h1.mp z hs)]
      rfl
    · rw [decide_eq_false hs, decide_eq_true (h1.mpr hs)]
      rfl
  rw [e, h]
/-! a run of neighbours -/
def Run : List Nat → Prop
  | [] => True
  | [c] => c ∈ SG
  | a :: b :: r => a ∈ SG ∧ ix b = ix a + 1 ∧ Run (b :: r)
theorem Run.tail {a : Nat} {r : List Nat} (h : Run (a :: r)) : Run r := by
  cases r with
  | nil => trivial
  | cons b r => exact h.2.2
theorem Run.head {a : Nat} {r : List Nat} (h : Run (a :: r)) : a ∈ SG := by
  cases r with
  | nil => exact h
  | cons b r => exact h.1
theorem ix_inj {a b : Nat} (ha : a ∈ SG) (hb : b ∈ SG) (h : ix a = ix b) : a = b := by
  have h1 := ix_at a ha
  rw [h, ix_at b hb] at h1
  exact (Option.some.inj h1).symm
theorem run_cut : ∀ {r : List Nat} {a : Nat}, Run (a :: r) → a :: r = (SG.drop (ix a)).take (r.length + 1) ∧ ix ((a :: r).getLastD 0) = ix a + r.length ∧ (a :: r).getLastD 0 ∈ SG
  | [], a, h => by
    have h1 := ix_at a h
    have h2 := ix_lt a h
    have h3 : ix a < SG.length := by rw [SG_len]; exact h2
    refine ⟨?_, rfl, h⟩
    rw [List.drop_eq_getElem_cons h3]
    show [a] = SG[ix a] :: []
    rw [List.getElem?_eq_getElem h3] at h1
    rw [Option.some.inj h1]
  | b :: r, a, h => by
    obtain ⟨ha, hb, hr⟩ := h
    obtain ⟨e1, e2, e3⟩ := run_cut hr
    have h1 := ix_at a ha
    have h2 := ix_lt a ha
    have h3 : ix a < SG.length := by rw [SG_len]; exact h2
    refine ⟨?_, ?_, e3⟩
    · rw [List.drop_eq_getElem_cons h3, ← hb]
      rw [List.getElem?_eq_getElem h3] at h1
      show a :: (b :: r) = SG[ix a] :: (SG.drop (ix b)).take (r.length + 1)
      rw [Option.some.inj h1, ← e1]
    · show ix ((b :: r).getLastD 0) = _
      rw [e2, hb, List.length_cons]
      omega
theorem run_btw {a : Nat} {r : List Nat} (h : Run (a :: r)) : btw a ((a :: r).getLastD 0) = a :: r := by
  obtain ⟨e1, e2, e3⟩ := run_cut h
  rw [← btw_cut h.head e3, e2, show ix a + r.length + 1 - ix a = r.length + 1 by omega]
  exact e1.symm
theorem run_le {a : Nat} {r : List Nat} (h : Run (a :: r)) : a ≤ (a :: r).getLastD 0 := by
  obtain ⟨e1, e2, e3⟩ := run_cut h
  exact (ix_le h.head e3).mp (by omega)
theorem run_mem : ∀ {r : List Nat}, Run r → ∀ c ∈ r, c ∈ SG
  | a :: r, h, c, hc => by
    rcases List.mem_cons.mp hc with rfl | hc
    · exact h.head
    · exact run_mem h.tail c hc
/-! class signs -/
/-- x is a way to write the class sign c -/
structure CsOk (x : List Nat) (c : Nat) : Prop where
  rd : ∀ rest, classSign (x ++ rest) = .ok c rest
  hd : ∃ a r, x = a :: r ∧ a ≠ 93 ∧ a ≠ 45
theorem cs_plain {c : Nat} (h1 : c ≠ 92) (h2 : c ≠ 93) (h3 : c ≠ 45) : CsOk [c] c where
  rd := fun rest => by
    show (if c = 92 then turnedM rest else if c = 93 ∨ c = 45 then .bad (c :: rest) else .ok c rest) = _
    rw [if_neg h1, if_neg (by omega)]
  hd := ⟨c, [], rfl, h2, h3⟩
theorem cs_turned {c : Nat} (h : c ∈ TURNs) : CsOk [92, c] c where
  rd := fun rest => by
    show turnedM (c :: rest) = _
    show (if c = 110 then Res.ok 10 rest else if c ∈ TURNs then Res.ok c rest else Res.bad (c :: rest)) = _
    have : c ≠ 110 := fun e => by
      rw [e] at h
      exact absurd h (by decide)
    rw [if_neg this, if_pos h]
  hd := ⟨92, [c], rfl, by decide, by decide⟩
theorem cs_line : CsOk [92, 110] 10 where
  rd := fun rest => rfl
  hd := ⟨92, [110], rfl, by decide, by decide⟩
theorem cs_turnW (c : Nat) : CsOk (turnW ICs c) c := by
  unfold turnW
  by_cases h : c ∈ ICs
  · rw [if_pos h]
    exact cs_turned ((show ∀ d ∈ ICs, d ∈ TURNs by decide) c h)
  · rw [if_neg h]
    have : ∀ d ∈ [92, 93, 45], c ≠ d := fun d hd e => h (by rw [e]; exact (show ∀ d ∈ [92, 93, 45], d ∈ ICs by decide) d hd)
    exact cs_plain (this 92 (by decide)) (this 93 (by decide)) (this 45 (by decide))
theorem cs_lturn {ks : List Nat} (h1 : ∀ c ∈ ks, c ∈ TURNs) (h2 : ∀ c ∈ [92, 93, 45], c ∈ ks) (c : Nat) : CsOk (lturn ks c) c := by
  unfold lturn
  by_cases h : c = 10
  · rw [if_pos h, h]
    exact cs_line
  rw [if_neg h]
  by_cases hk : c ∈ ks
  · rw [if_pos hk]
    exact cs_turned (h1 c hk)
  · rw [if_neg hk]
    have : ∀ d ∈ [92, 93, 45], c ≠ d := fun d hd e => hk (by rw [e]; exact h2 d hd)
    exact cs_plain (this 92 (by decide)) (this 93 (by decide)) (this 45 (by decide))
/-! items -/
/-- x is an item that means the signs s -/
structure ItOk (x s : List Nat) : Prop where
  rd : ∀ rest, sg rest ≠ [45] → itemM (x ++ rest) = .ok s rest
  hd : ∃ a r, x = a :: r ∧ a ≠ 93 ∧ a ≠ 45
theorem it_one {x : List Nat} {c : Nat} (h : CsOk x c) : ItOk x [c] where
  rd := fun rest hr => by
    unfold itemM
    rw [h.rd rest]
    show (if sg rest = [45] then _ else Res.ok [c] rest) = _
    rw [if_neg hr]
  hd := h.hd
theorem it_two {x y : List Nat} {a b : Nat} (h : CsOk x a) (h2 : CsOk y b) (hab : a ≤ b) : ItOk (x ++ [45] ++ y) (btw a b) where
  rd := fun rest hr => by
    unfold itemM
    rw [List.append_assoc, List.append_assoc, h.rd]
    show (if sg ([45] ++ (y ++ rest)) = [45] then (match classSign (([45] ++ (y ++ rest)).drop 1) with
      | .bad x => Res.bad x
      | .ok b r3 => if b < a then .bad (([45] ++ (y ++ rest)).drop 1) else .ok (btw a b) r3) else _) = _
    rw [if_pos (show sg ([45] ++ (y ++ rest)) = [45] from rfl)]
    show (match classSign (y ++ rest) with
      | .bad x => Res.bad x
      | .ok b r3 => if b < a then .bad (y ++ rest) else .ok (btw a b) r3) = _
    rw [h2.rd]
    show (if b < a then _ else Res.ok (btw a b) rest) = _
    rw [if_neg (by omega)]
  hd := by
    obtain ⟨c, r, rfl, h1, h3⟩ := h.hd
    exact ⟨c, r ++ [45] ++ y, rfl, h1, h3⟩
/-- a list of items, its texts and its signs one behind the other -/
inductive Its' : List Nat → List Nat → Nat → Prop
  | nil : Its' [] [] 0
  | cons {x s y t : List Nat} {n : Nat} : ItOk x s → Its' y t n → Its' (x ++ y) (s ++ t) (n + 1)
theorem Its'.append {x s y t : List Nat} {n m : Nat} (h : Its' x s n) (h2 : Its' y t m) : Its' (x ++ y) (s ++ t) (n + m) := by
  induction h with
  | nil => rw [Nat.zero_add]; exact h2
  | cons h1 _ ih =>
    rw [List.append_assoc, List.append_assoc, Nat.add_right_comm]
    exact .cons h1 ih
theorem Its'.one {x s : List Nat} (h : ItOk x s) : Its' x s 1 := by
  have := Its'.cons h .nil
  rw [List.append_nil, List.append_nil] at this
  exact this
theorem Its'.hd {x s : List Nat} {n : Nat} (h : Its' x s n) : (n = 0 ∧ x = []) ∨ ∃ a r, x = a :: r ∧ a ≠ 93 ∧ a ≠ 45 := by
  cases h with
  | nil => exact .inl ⟨rfl, rfl⟩
  | cons h1 h2 =>
    obtain ⟨a, r, rfl, h3, h4⟩ := h1.hd
    exact .inr ⟨a, _, rfl, h3, h4⟩
theorem Its'.len {x s : List Nat} {n : Nat} (h : Its' x s n) : n ≤ x.length := by
  induction h with
  | nil => exact Nat.le_refl _
  | cons h1 _ ih =>
    obtain ⟨a, r, rfl, _, _⟩ := h1.hd
    rw [List.length_append, List.length_cons]
    omega
theorem sg_next {x s rest : List Nat} {n : Nat} (h : Its' x s n) : sg (x ++ 93 :: rest) ≠ [45] := by
  rcases h.hd with ⟨_, rfl⟩ | ⟨a, r, rfl, _, h2⟩
  · show [93] ≠ [45]
    decide
  · intro e
    have : [a] = [45] := e
    injection this with e1 _
    exact h2 e1
theorem loop_items {x s : List Nat} {n : Nat} (h : Its' x s n) : ∀ (f : Nat) (acc rest : List Nat), n ≤ f → itemsLoop (f + 1) acc (x ++ 93 :: rest) = .ok (acc ++ s) rest := by
  induction h with
  | nil =>
    intro f acc rest _
    show (if sg (93 :: rest) = [93] then Res.ok acc rest else _) = _
    rw [if_pos (show sg (93 :: rest) = [93] from rfl), List.append_nil]
  | @cons x s y t n h1 h2 ih =>
    intro f acc rest hf
    obtain ⟨f', rfl⟩ : ∃ f', f = f' + 1 := ⟨f - 1, by omega⟩
    obtain ⟨a, r, hx, h3, h4⟩ := h1.hd
    have hs : sg (x ++ y ++ 93 :: rest) ≠ [93] := by
      rw [hx]
      intro e
      have : [a] = [93] := e
      injection this with e1 _
      exact h3 e1
    show (if sg (x ++ y ++ 93 :: rest) = [93] then _ else (match itemM (x ++ y ++ 93 :: rest) with
      | .bad x => Res.bad x
      | .ok s r1 => itemsLoop (f' + 1) (acc ++ s) r1)) = _
    rw [if_neg hs, List.append_assoc, h1.rd _ (sg_next h2)]
    show itemsLoop (f' + 1) (acc ++ s) (y ++ 93 :: rest) = _
    rw [ih f' (acc ++ s) rest (by omega), List.append_assoc]
theorem classB_items {x s : List Nat} {n : Nat} (h : Its' x s (n + 1)) (tn : Bool) (rest : List Nat) : classB tn (x ++ 93 :: rest) = .ok (.one (if tn then oth s else inO s)) rest := by
  cases h with
  | @cons x s y t n h1 h2 =>
    have e : itemM (x ++ y ++ 93 :: rest) = .ok s (y ++ 93 :: rest) := by
      rw [List.append_assoc]
      exact h1.rd _ (sg_next h2)
    rw [classB_eq tn e, loop_items h2 _ s rest ?_]
    · rfl
    · have := h2.len
      rw [List.length_append]
      omega
/-! atoms that are leaves -/
/-- x is an atom that means the signs s -/
structure LfOk (x s : List Nat) : Prop where
  rd : ∀ sub rest, atomM sub (x ++ rest) = .ok (.one s) rest
  hd : ∃ a r, x = a :: r ∧ a ∉ [42, 43, 63, 124, 41]
theorem lf_dot : LfOk [46] (oth [10]) where
  rd := fun sub rest => rfl
  hd := ⟨46, [], rfl, by decide⟩
theorem lf_plain {c : Nat} (h : c ∉ KEPTs) : LfOk [c] [c] where
  rd := fun sub rest => by
    have : ∀ d ∈ KEPTs, c ≠ d := fun d hd e => h (by rw [e]; exact hd)
    show (if c = 40 then _ else if c = 46 then _ else if c = 91 then _ else if c = 92 then _ else if c ∈ KEPTs then _ else Res.ok (Tr.one [c]) rest) = _
    rw [if_neg (this 40 (by decide)), if_neg (this 46 (by decide)), if_neg (this 91 (by decide)), if_neg (this 92 (by decide)), if_neg h]
  hd := ⟨c, [], rfl, fun z => h ((show ∀ d ∈ [42, 43, 63, 124, 41], d ∈ KEPTs by decide) c z)⟩
theorem lf_turned {c : Nat} (h : c ∈ TURNs) : LfOk [92, c] [c] where
  rd := fun sub rest => by
    show (match turnedM (c :: rest) with
      | .bad x => Res.bad x
      | .ok a r1 => .ok (Tr.one [a]) r1) = _
    have e : turnedM (c :: rest) = .ok c rest := by
      show (if c = 110 then Res.ok 10 rest else if c ∈ TURNs then Res.ok c rest else Res.bad (c :: rest)) = _
      have : c ≠ 110 := fun e => by
        rw [e] at h
        exact absurd h (by decide)
      rw [if_neg this, if_pos h]
    rw [e]
  hd := ⟨92, [c], rfl, by decide⟩
theorem lf_line : LfOk [92, 110] [10] where
  rd := fun sub rest => rfl
  hd := ⟨92, [110], rfl, by decide⟩
theorem lf_class {x s : List Nat} {n : Nat} (h : Its' x s (n + 1)) (h94 : sg x ≠ [94]) : LfOk ([91] ++ x ++ [93]) (inO s) where
  rd := fun sub rest => by
    have e : [91] ++ x ++ [93] ++ rest = 91 :: (x ++ 93 :: rest) := by simp
    rw [e]
    show classM (x ++ 93 :: rest) = _
    unfold classM
    have h1 : sg (x ++ 93 :: rest) ≠ [94] := by
      rcases h.hd with ⟨z, _⟩ | ⟨a, r, rfl, _, _⟩
      · cases z
      · exact h94
    rw [if_neg h1, classB_items h false rest]
    rfl
  hd := ⟨91, x ++ [93], rfl, by decide⟩
theorem lf_round {x s : List Nat} {n : Nat} (h : Its' x s (n + 1)) : LfOk ([91, 94] ++ x ++ [93]) (oth s) where
  rd := fun sub rest => by
    have e : [91, 94] ++ x ++ [93] ++ rest = 91 :: 94 :: (x ++ 93 :: rest) := by simp
    rw [e]
    show classM (94 :: (x ++ 93 :: rest)) = _
    unfold classM
    rw [if_pos (show sg (94 :: (x ++ 93 :: rest)) = [94] from rfl)]
    show classB true (x ++ 93 :: rest) = _
    rw [classB_items h true rest]
    rfl
  hd := ⟨91, 94 :: x ++ [93], rfl, by decide⟩
end TW

set_option maxHeartbeats 1000000
namespace TW
/-! ### the leaves -/
theorem run_snoc {c : Nat} (hc : c ∈ SG) : ∀ {r : List Nat}, Run r → r ≠ [] → ix c = ix (r.getLastD 0) + 1 → Run (r ++ [c])
  | [], _, h, _ => absurd rfl h
  | [a], h, _, e => ⟨h, e, hc⟩
  | a :: b :: r, h, _, e => ⟨h.1, h.2.1, run_snoc hc h.2.2 (List.cons_ne_nil _ _) e⟩
/-- a list of runs, none empty -/
def Runs (l : List (List Nat)) : Prop := ∀ r ∈ l, r ≠ [] ∧ Run r
theorem step_runs {acc : List (List Nat)} {c : Nat} (h : Runs acc) (hc : c ∈ SG) : Runs (stepS acc c) := by
  unfold stepS
  cases e : acc.getLast? with
  | none =>
    intro r hr
    rw [List.mem_singleton.mp hr]
    exact ⟨List.cons_ne_nil _ _, hc⟩
  | some s =>
    obtain ⟨ys, rfl⟩ := List.getLast?_eq_some_iff.mp e
    show Runs (if ix c = ix (s.getLastD 0) + 1 then (ys ++ [s]).dropLast ++ [s ++ [c]] else (ys ++ [s]) ++ [[c]])
    obtain ⟨h1, h2⟩ := h s (by simp)
    by_cases hi : ix c = ix (s.getLastD 0) + 1
    · rw [if_pos hi, List.dropLast_concat]
      intro r hr
      rcases List.mem_append.mp hr with q | q
      · exact h r (List.mem_append_left _ q)
      · rw [List.mem_singleton.mp q]
        exact ⟨by simp, run_snoc hc h2 h1 hi⟩
    · rw [if_neg hi]
      intro r hr
      rcases List.mem_append.mp hr with q | q
      · exact h r q
      · rw [List.mem_singleton.mp q]
        exact ⟨List.cons_ne_nil _ _, hc⟩
theorem fold_runs : ∀ (s : List Nat) (acc : List (List Nat)), (∀ c ∈ s, c ∈ SG) → Runs acc → Runs (s.foldl stepS acc)
  | [], _, _, h => h
  | c :: r, acc, hs, h => fold_runs r _ (fun x hx => hs x (List.mem_cons_of_mem _ hx)) (step_runs h (hs c List.mem_cons_self))
theorem stretch_runs {s : List Nat} (h : ∀ c ∈ s, c ∈ SG) : Runs (stretchM s) := fold_runs s [] h fun _ hr => nomatch hr
/-- the two ways to the runs are one -/
theorem fold_span : ∀ (r : List Nat) (acc : List (List Nat)) (st : List Nat) (f : Nat), st ≠ [] → r.length ≤ f →
    r.foldl stepS (acc ++ [st]) = acc ++ [st ++ (spanRun (st.getLastD 0) r).1] ++ runsM f (spanRun (st.getLastD 0) r).2
  | [], acc, st, f, h, _ => by
    show acc ++ [st] = acc ++ [st ++ []] ++ runsM f []
    rw [List.append_nil]
    cases f <;> simp [runsM]
  | c :: r, acc, st, f, h, hf => by
    have hstep : stepS (acc ++ [st]) c = if ix c = ix (st.getLastD 0) + 1 then acc ++ [st ++ [c]] else (acc ++ [st]) ++ [[c]] := by
      unfold stepS
      rw [getLast?_snoc]
      show (if ix c = ix (st.getLastD 0) + 1 then (acc ++ [st]).dropLast ++ [st ++ [c]] else _) = _
      rw [List.dropLast_concat]
    show r.foldl stepS (stepS (acc ++ [st]) c) = _
    rw [hstep]
    have hsp : spanRun (st.getLastD 0) (c :: r) = if ix c = ix (st.getLastD 0) + 1 then (c :: (spanRun c r).1, (spanRun c r).2) else ([], c :: r) := rfl
    rw [List.length_cons] at hf
    by_cases hi : ix c = ix (st.getLastD 0) + 1
    · rw [if_pos hi, hsp, if_pos hi, fold_span r acc (st ++ [c]) f (by simp) (by omega), snoc_lastD]
      simp
    · obtain ⟨f', rfl⟩ : ∃ f', f = f' + 1 := ⟨f - 1, by omega⟩
      rw [if_neg hi, hsp, if_neg hi, fold_span r (acc ++ [st]) [c] f' (by simp) (by omega)]
      show (acc ++ [st]) ++ [[c] ++ (spanRun c r).1] ++ runsM f' (spanRun c r).2 = acc ++ [st ++ []] ++ ((c :: (spanRun c r).1) :: runsM f' (spanRun c r).2)
      simp
theorem stretch_eq (s : List Nat) : stretchM s = runsM s.length s := by
  cases s with
  | nil => rfl
  | cons c r =>
    have := fold_span r [] [c] r.length (by simp) (Nat.le_refl _)
    exact this
/-! items of a list of runs -/
theorem its_flat {f : Nat → List Nat} (hf : ∀ c, CsOk (f c) c) : ∀ st : List Nat, Its' (st.flatMap f) st st.length
  | [] => .nil
  | c :: r => by
    rw [List.flatMap_cons]
    exact .cons (s := [c]) (it_one (hf c)) (its_flat hf r)
theorem item_ok {st : List Nat} (h : st ≠ []) (hr : Run st) : ∃ k, Its' (itemW st) st (k + 1) := by
  obtain ⟨a, r, rfl⟩ : ∃ a r, st = a :: r := by
    cases st with
    | nil => exact absurd rfl h
    | cons a r => exact ⟨a, r, rfl⟩
  unfold itemW
  split
  · have := it_two (cs_turnW a) (cs_turnW ((a :: r).getLastD 0)) (run_le hr)
    rw [run_btw hr] at this
    exact ⟨0, .one this⟩
  · exact ⟨r.length, its_flat cs_turnW (a :: r)⟩
theorem items_runs : ∀ l : List (List Nat), Runs l → ∃ n, Its' (l.flatMap itemW) l.flatten n ∧ l.length ≤ n
  | [], _ => ⟨0, .nil, Nat.le_refl _⟩
  | st :: l, h => by
    obtain ⟨n, h1, h2⟩ := items_runs l fun r hr => h r (List.mem_cons_of_mem _ hr)
    obtain ⟨h3, h4⟩ := h st List.mem_cons_self
    obtain ⟨k, h5⟩ := item_ok h3 h4
    rw [List.flatMap_cons, List.flatten_cons]
    exact ⟨k + 1 + n, h5.append h1, by rw [List.length_cons]; omega⟩
theorem items_ok {s : List Nat} (h : ∀ c ∈ s, c ∈ SG) (hne : s ≠ []) : ∃ n, Its' (itemsW s) s (n + 1) := by
  obtain ⟨n, h1, h2⟩ := items_runs (stretchM s) (stretch_runs h)
  rw [(stretch_ok s).fl] at h1
  have h3 : 0 < (stretchM s).length := by
    rcases Nat.eq_zero_or_pos (stretchM s).length with z | z
    · have := (stretch_ok s).fl
      rw [List.eq_nil_of_length_eq_zero z] at this
      exact absurd this.symm hne
    · exact z
  obtain ⟨m, rfl⟩ : ∃ m, n = m + 1 := ⟨n - 1, by omega⟩
  exact ⟨m, h1⟩
theorem turnW_head (c : Nat) (r : List Nat) (h : c ≠ 94) : sg (turnW ICs c ++ r) ≠ [94] := by
  unfold turnW
  split
  · show [92] ≠ [94]
    decide
  · intro e
    have : [c] = [94] := e
    injection this with e1 _
    exact h e1
theorem itemW_head {c : Nat} {r : List Nat} (x : List Nat) (h : c ≠ 94) : sg (itemW (c :: r) ++ x) ≠ [94] := by
  unfold itemW
  split
  · rw [List.append_assoc, List.append_assoc]
    exact turnW_head c _ h
  · rw [List.flatMap_cons, List.append_assoc]
    exact turnW_head c _ h
theorem itemsW_head {s : List Nat} (x : List Nat) (hne : s ≠ []) (h : sg s ≠ [94]) : sg (itemsW s ++ x) ≠ [94] := by
  have ok := stretch_ok s
  unfold itemsW
  cases e : stretchM s with
  | nil =>
    have := ok.fl
    rw [e] at this
    exact absurd this.symm hne
  | cons st l =>
    have h1 : st ≠ [] := ok.ne st (by rw [e]; exact List.mem_cons_self)
    obtain ⟨c, r, rfl⟩ : ∃ c r, st = c :: r := by
      cases st with
      | nil => exact absurd rfl h1
      | cons a r => exact ⟨a, r, rfl⟩
    have h2 := ok.fl
    rw [e] at h2
    have hc : c ≠ 94 := fun z => h (by rw [← h2, z]; rfl)
    rw [List.flatMap_cons, List.append_assoc]
    exact itemW_head _ hc
theorem inO_sub {s : List Nat} (h : inO s = s) : ∀ c ∈ s, c ∈ SG := fun c hc => by
  rw [← h] at hc
  exact (mem_inO.mp hc).1
theorem inO_nd {s : List Nat} (h : inO s = s) : s.Nodup := by
  rw [← h]
  exact List.Nodup.sublist List.filter_sublist SG_nd
theorem oth_ne {s : List Nat} (h : inO s = s) (h2 : s ≠ SG) : oth s ≠ [] := fun e => by
  refine h2 ?_
  rw [← h]
  unfold inO
  refine List.filter_eq_self.mpr fun c hc => ?_
  by_cases hs : c ∈ s
  · exact decide_eq_true hs
  · have : c ∈ oth s := mem_oth.mpr ⟨hc, hs⟩
    rw [e] at this
    cases this
theorem kept_turns : ∀ c ∈ KEPTs, c ∈ TURNs := by decide
/-- what written writes of some signs -/
theorem lf_oneW {s : List Nat} (h : inO s = s) : LfOk (oneW s) s := by
  have hsub := inO_sub h
  unfold oneW
  split
  · rename_i h1
    obtain ⟨c, rfl⟩ : ∃ c, s = [c] := by
      match s, h1 with
      | [c], _ => exact ⟨c, rfl⟩
    show LfOk (turnW KEPTs c) [c]
    unfold turnW
    by_cases hk : c ∈ KEPTs
    · rw [if_pos hk]
      exact lf_turned (kept_turns c hk)
    · rw [if_neg hk]
      exact lf_plain hk
  rename_i hl1
  split
  · rename_i h1
    rw [h1]
    exact lf_dot
  split
  · rename_i h1
    have hne : oth s ≠ [] := by
      rcases h1 with rfl | h1
      · decide
      · exact oth_ne h h1.1
    obtain ⟨n, hn⟩ := items_ok (oth_sg s) hne
    have := lf_round hn
    rw [oth_oth h] at this
    exact this
  · rename_i h1
    have hne : s ≠ [] := fun z => h1 (.inl z)
    unfold plainW
    split
    · rename_i h94
      obtain ⟨r, rfl⟩ := sg_one h94
      have hr : r ≠ [] := fun z => hl1 (by rw [z]; rfl)
      obtain ⟨n, hn⟩ := items_ok (fun c hc => hsub c (List.mem_cons_of_mem _ hc)) hr
      have h2 := hn.append (.one (it_one (cs_plain (c := 94) (by decide) (by decide) (by decide))))
      have nd := inO_nd h
      have hh : sg r ≠ [94] := fun z => by
        obtain ⟨r', rfl⟩ := sg_one z
        exact (List.nodup_cons.mp nd).1 List.mem_cons_self
      have h3 := lf_class (n := n + 1) h2 (itemsW_head [94] hr hh)
      have e : inO (r ++ [94]) = 94 :: r := by
        refine Eq.trans (inO_ext fun c _ => ?_) h
        simp
        exact Or.comm
      rw [e] at h3
      show LfOk ([91] ++ itemsW r ++ [94, 93]) (94 :: r)
      rw [show [91] ++ itemsW r ++ [94, 93] = [91] ++ (itemsW r ++ [94]) ++ [93] by simp]
      exact h3
    · rename_i h94
      obtain ⟨n, hn⟩ := items_ok hsub hne
      have hh := itemsW_head [] hne h94
      rw [List.append_nil] at hh
      have h3 := lf_class hn hh
      rw [h] at h3
      exact h3
/-! what the law writes of some signs -/
theorem span_run : ∀ (r : List Nat) (p : Nat), p ∈ SG → (∀ c ∈ r, c ∈ SG) → Run (p :: (spanRun p r).1) ∧ (spanRun p r).1 ++ (spanRun p r).2 = r
  | [], p, hp, _ => ⟨hp, rfl⟩
  | c :: r, p, hp, hs => by
    have hsp : spanRun p (c :: r) = if ix c = ix p + 1 then (c :: (spanRun c r).1, (spanRun c r).2) else ([], c :: r) := rfl
    have hc := hs c List.mem_cons_self
    rw [hsp]
    by_cases hi : ix c = ix p + 1
    · rw [if_pos hi]
      obtain ⟨h1, h2⟩ := span_run r c hc fun x hx => hs x (List.mem_cons_of_mem _ hx)
      exact ⟨⟨hp, hi, h1⟩, by show c :: ((spanRun c r).1 ++ (spanRun c r).2) = c :: r; rw [h2]⟩
    · rw [if_neg hi]
      exact ⟨hp, rfl⟩
theorem runs_ok {s : List Nat} (h : ∀ c ∈ s, c ∈ SG) : Runs (runsM s.length s) ∧ (runsM s.length s).flatten = s := by
  rw [← stretch_eq]
  exact ⟨stretch_runs h, (stretch_ok s).fl⟩
structure KsOk (ks : List Nat) : Prop where
  sub : ∀ c ∈ ks, c ∈ TURNs
  need : ∀ c ∈ [92, 93, 45], c ∈ ks
  up : 94 ∈ ks
theorem lkept_ok (n : Nat) : KsOk (lkept n) := by
  unfold lkept
  split
  · exact ⟨fun _ h => h, by decide, by decide⟩
  · exact ⟨by decide, by decide, by decide⟩
theorem litem_ok {ks st : List Nat} (k : KsOk ks) (h : st ≠ []) (hr : Run st) : ∃ n S, Its' (litem ks st) S (n + 1) ∧ ∀ c, c ∈ S ↔ c ∈ st := by
  have cs := cs_lturn k.sub k.need
  obtain ⟨a, r, rfl⟩ : ∃ a r, st = a :: r := by
    cases st with
    | nil => exact absurd rfl h
    | cons a r => exact ⟨a, r, rfl⟩
  unfold litem
  split
  · have := it_two (cs a) (cs ((a :: r).getLastD 0)) (run_le hr)
    rw [run_btw hr] at this
    exact ⟨0, a :: r, .one this, fun _ => Iff.rfl⟩
  split
  · rename_i h1 h2
    obtain ⟨b, rfl⟩ : ∃ b, r = [b] := by
      match r, h1, h2 with
      | [b], _, _ => exact ⟨b, rfl⟩
      | [], _, h2 => simp at h2
      | _ :: _ :: _, h1, _ => simp at h1
    refine ⟨1, [b] ++ [a], ?_, ?_⟩
    · exact Its'.append (.one (it_one (cs b))) (.one (it_one (cs a)))
    · intro c
      simp
      exact Or.comm
  · rename_i h1 h2
    have : r = [] := by
      cases r with
      | nil => rfl
      | cons b r => simp at h2
    subst this
    exact ⟨0, [a], .one (it_one (cs a)), fun _ => Iff.rfl⟩
theorem litems_ok {ks : List Nat} (k : KsOk ks) : ∀ l : List (List Nat), Runs l → ∃ n S, Its' ((l.map (litem ks)).flatten) S n ∧ l.length ≤ n ∧ ∀ c, c ∈ S ↔ c ∈ l.flatten
  | [], _ => ⟨0, [], .nil, Nat.le_refl _, fun _ => Iff.rfl⟩
  | st :: l, h => by
    obtain ⟨n, S, h1, h2, h3⟩ := litems_ok k l fun r hr => h r (List.mem_cons_of_mem _ hr)
    obtain ⟨h4, h5⟩ := h st List.mem_cons_self
    obtain ⟨m, S', h6, h7⟩ := litem_ok k h4 h5
    rw [List.map_cons, List.flatten_cons, List.flatten_cons]
    refine ⟨m + 1 + n, S' ++ S, h6.append h1, by rw [List.length_cons]; omega, fun c => ?_⟩
    rw [List.mem_append, List.mem_append, h7, h3]
theorem lrot_map {α β : Type} (f : α → β) (n : Nat) (xs : List α) : lrot n (xs.map f) = (lrot n xs).map f := by
  unfold lrot
  rw [List.length_map, List.map_append, List.map_append, List.map_drop, List.map_take, List.map_take]
theorem lrot_mem {α : Type} (n : Nat) (xs : List α) (x : α) : x ∈ lrot n xs ↔ x ∈ xs := by
  unfold lrot
  rw [List.mem_append, List.mem_append]
  constructor
  · rintro ((h | h) | h)
    · exact List.mem_of_mem_drop h
    · exact List.mem_of_mem_take h
    · exact List.mem_of_mem_take h
  · intro h
    rw [← List.take_append_drop (n / 2 % max 1 xs.length) xs, List.mem_append] at h
    rcases h with h | h
    · exact .inl (.inr h)
    · exact .inl (.inl h)
theorem lturn_head {ks : List Nat} (h : 94 ∈ ks) (c : Nat) (x : List Nat) : sg (lturn ks c ++ x) ≠ [94] := by
  unfold lturn
  split
  · show [92] ≠ [94]
    decide
  split
  · show [92] ≠ [94]
    decide
  · rename_i h1 h2
    intro e
    have : [c] = [94] := e
    injection this with e1 _
    rw [e1] at h2
    exact h2 h
theorem litem_head {ks : List Nat} (h : 94 ∈ ks) (st x : List Nat) : sg (litem ks st ++ x) ≠ [94] := by
  unfold litem
  split
  · rw [List.append_assoc, List.append_assoc]
    exact lturn_head h _ _
  split
  · rw [List.append_assoc]
    exact lturn_head h _ _
  · exact lturn_head h _ _
theorem lclass_ok {s : List Nat} (h : ∀ c ∈ s, c ∈ SG) (hne : s ≠ []) (n : Nat) : ∃ m S, Its' (lclass s n) S (m + 1) ∧ (∀ c, c ∈ S ↔ c ∈ s) ∧ sg (lclass s n) ≠ [94] := by
  obtain ⟨h1, h2⟩ := runs_ok h
  have k := lkept_ok n
  unfold lclass
  rw [lrot_map]
  have hr : Runs (lrot n (runsM s.length s)) := fun r hr => h1 r ((lrot_mem _ _ _).mp hr)
  obtain ⟨m, S, h3, h4, h5⟩ := litems_ok k _ hr
  have hmem : ∀ c, c ∈ S ↔ c ∈ s := fun c => by
    rw [h5, ← h2, List.mem_flatten, h2, ← h2, List.mem_flatten]
    constructor
    · rintro ⟨l, hl, hc⟩
      exact ⟨l, (lrot_mem _ _ _).mp (by rw [h2] at hl; exact hl), hc⟩
    · rintro ⟨l, hl, hc⟩
      exact ⟨l, (lrot_mem _ _ _).mpr (by rw [h2]; exact hl), hc⟩
  cases e : lrot n (runsM s.length s) with
  | nil =>
    exfalso
    cases s with
    | nil => exact hne rfl
    | cons c r =>
      have h6 : c ∈ S := (hmem c).mpr List.mem_cons_self
      rw [h5, e] at h6
      cases h6
  | cons st l =>
    rw [e] at h3 h4
    rw [List.length_cons] at h4
    obtain ⟨m', rfl⟩ : ∃ m', m = m' + 1 := ⟨m - 1, by omega⟩
    exact ⟨m', S, h3, hmem, by rw [List.map_cons, List.flatten_cons]; exact litem_head k.up st _⟩
theorem lf_lone {s : List Nat} (h : inO s = s) (n : Nat) : LfOk (lone s n) s := by
  have hsub := inO_sub h
  unfold lone
  split
  · rename_i h1
    obtain ⟨c, rfl⟩ : ∃ c, s = [c] := by
      match s, h1.1 with
      | [c], _ => exact ⟨c, rfl⟩
    show LfOk (lturn (KEPTs ++ [45, 94].take (n / 2 % 3)) c) [c]
    unfold lturn
    by_cases h10 : c = 10
    · rw [if_pos h10, h10]
      exact lf_line
    rw [if_neg h10]
    by_cases hk : c ∈ KEPTs ++ [45, 94].take (n / 2 % 3)
    · rw [if_pos hk]
      refine lf_turned ?_
      rcases List.mem_append.mp hk with z | z
      · exact kept_turns c z
      · exact (show ∀ d ∈ [45, 94], d ∈ TURNs by decide) c (List.mem_of_mem_take z)
    · rw [if_neg hk]
      exact lf_plain fun z => hk (List.mem_append_left _ z)
  split
  · rename_i h1
    rw [h1.1, show SG.drop 1 = oth [10] by decide +kernel]
    exact lf_dot
  split
  · rename_i h1
    have hne : oth s ≠ [] := by
      refine oth_ne h fun z => ?_
      rcases h1 with rfl | h1
      · cases z
      · rw [z, SG_len] at h1
        omega
    obtain ⟨m, S, h2, h3, _⟩ := lclass_ok (oth_sg s) hne (n / 6)
    have := lf_round h2
    rw [oth_ext (b := oth s) (fun c _ => h3 c), oth_oth h] at this
    exact this
  · rename_i h1
    have hne : s ≠ [] := fun z => h1 (.inl z)
    obtain ⟨m, S, h2, h3, h4⟩ := lclass_ok hsub hne (n / 6)
    have := lf_class h2 h4
    rw [inO_ext (b := s) (fun c _ => h3 c), h] at this
    exact this
end TW

set_option maxHeartbeats 1000000
namespace TW
/-! ### trees written and read -/
mutual
def gW (lf : Nat → List Nat → List Nat) (e1 : Nat → Bool) (e2 : Nat → Nat → Bool) : Nat → Tr → List Nat
  | b, .one s => lf b s
  | b, .row ts => (gWs lf e1 e2 b true 0 ts).flatten
  | b, .or ts => TL.joinL [124] (gWs lf e1 e2 b false 0 ts)
  | b, .star t => lbr (t.isRow || t.isOr || e1 b) (gW lf e1 e2 (b + 1) t) ++ [42]
  | b, .plus t => lbr (t.isRow || t.isOr || e1 b) (gW lf e1 e2 (b + 1) t) ++ [43]
  | b, .maybe t => lbr (t.isRow || t.isOr || e1 b) (gW lf e1 e2 (b + 1) t) ++ [63]
def gWs (lf : Nat → List Nat → List Nat) (e1 : Nat → Bool) (e2 : Nat → Nat → Bool) (b : Nat) (r : Bool) : Nat → List Tr → List (List Nat)
  | _, [] => []
  | k, t :: ts => lbr ((t.isOr || (r && t.isRow)) || e2 b k) (gW lf e1 e2 (b + 1 + 5 * k) t) :: gWs lf e1 e2 b r (k + 1) ts
end
mutual
theorem told_gW (mix : Nat → Nat) : ∀ (b : Nat) (t : Tr), told mix b t = gW (fun b s => lone s (mix b)) (fun b => decide (mix b % 5 = 0)) (fun b k => decide (mix b / 4 % 7 = k)) b t
  | b, .one s => rfl
  | b, .row ts => congrArg List.flatten (tolds_gWs mix b true 0 ts)
  | b, .or ts => congrArg (TL.joinL [124]) (tolds_gWs mix b false 0 ts)
  | b, .star t => congrArg (fun z => lbr (t.isRow || t.isOr || decide (mix b % 5 = 0)) z ++ [42]) (told_gW mix (b + 1) t)
  | b, .plus t => congrArg (fun z => lbr (t.isRow || t.isOr || decide (mix b % 5 = 0)) z ++ [43]) (told_gW mix (b + 1) t)
  | b, .maybe t => congrArg (fun z => lbr (t.isRow || t.isOr || decide (mix b % 5 = 0)) z ++ [63]) (told_gW mix (b + 1) t)
theorem tolds_gWs (mix : Nat → Nat) (b : Nat) (r : Bool) : ∀ (k : Nat) (ts : List Tr), tolds mix b (mix b) r k ts = gWs (fun b s => lone s (mix b)) (fun b => decide (mix b % 5 = 0)) (fun b k => decide (mix b / 4 % 7 = k)) b r k ts
  | _, [] => rfl
  | k, t :: ts => by
    show lbr _ (told mix (b + 1 + 5 * k) t) :: tolds mix b (mix b) r (k + 1) ts = _
    rw [told_gW mix (b + 1 + 5 * k) t, tolds_gWs mix b r (k + 1) ts]
    rfl
end
mutual
theorem wr_gW : ∀ (b : Nat) (t : Tr), t.wr = gW (fun _ s => oneW s) (fun _ => false) (fun _ _ => false) b t
  | b, .one s => rfl
  | b, .row ts => congrArg List.flatten (wrs_gWs b true 0 ts)
  | b, .or ts => congrArg (TL.joinL [124]) (wrs_gWs b false 0 ts)
  | b, .star t => by
    show brW true t t.wr ++ [42] = lbr (t.isRow || t.isOr || false) _ ++ [42]
    rw [← wr_gW (b + 1) t]
    cases t <;> rfl
  | b, .plus t => by
    show brW true t t.wr ++ [43] = lbr (t.isRow || t.isOr || false) _ ++ [43]
    rw [← wr_gW (b + 1) t]
    cases t <;> rfl
  | b, .maybe t => by
    show brW true t t.wr ++ [63] = lbr (t.isRow || t.isOr || false) _ ++ [63]
    rw [← wr_gW (b + 1) t]
    cases t <;> rfl
theorem wrs_gWs (b : Nat) (r : Bool) : ∀ (k : Nat) (ts : List Tr), Tr.wrs r ts = gWs (fun _ s => oneW s) (fun _ => false) (fun _ _ => false) b r k ts
  | _, [] => rfl
  | k, t :: ts => by
    show brW r t t.wr :: Tr.wrs r ts = lbr ((t.isOr || (r && t.isRow)) || false) _ :: _
    rw [← wr_gW (b + 1 + 5 * k) t, ← wrs_gWs b r (k + 1) ts]
    rw [Bool.or_false]
    rfl
end
/-! predicates on leaves; rows and choices of two or more -/
mutual
def Tr.leafP (q : List Nat → Prop) : Tr → Prop
  | .one s => q s
  | .or ts => 2 ≤ ts.length ∧ Tr.leafPs q ts
  | .row ts => 2 ≤ ts.length ∧ Tr.leafPs q ts
  | .star t => t.leafP q
  | .plus t => t.leafP q
  | .maybe t => t.leafP q
def Tr.leafPs (q : List Nat → Prop) : List Tr → Prop
  | [] => True
  | t :: r => t.leafP q ∧ Tr.leafPs q r
end
mutual
theorem leafP_imp {q q' : List Nat → Prop} (h : ∀ s, q s → q' s) : ∀ t : Tr, t.leafP q → t.leafP q'
  | .one s, hq => h s hq
  | .or ts, hq => ⟨hq.1, leafPs_imp h ts hq.2⟩
  | .row ts, hq => ⟨hq.1, leafPs_imp h ts hq.2⟩
  | .star t, hq => leafP_imp (q := q) (q' := q') h t hq
  | .plus t, hq => leafP_imp (q := q) (q' := q') h t hq
  | .maybe t, hq => leafP_imp (q := q) (q' := q') h t hq
theorem leafPs_imp {q q' : List Nat → Prop} (h : ∀ s, q s → q' s) : ∀ ts : List Tr, Tr.leafPs q ts → Tr.leafPs q' ts
  | [], _ => trivial
  | t :: r, hq => ⟨leafP_imp h t hq.1, leafPs_imp h r hq.2⟩
end
mutual
theorem leafP_two {q : List Nat → Prop} : ∀ t : Tr, t.leafP q → t.two
  | .one s, _ => trivial
  | .or ts, h => ⟨h.1, leafPs_twos ts h.2⟩
  | .row ts, h => ⟨h.1, leafPs_twos ts h.2⟩
  | .star t, h => leafP_two (q := q) t h
  | .plus t, h => leafP_two (q := q) t h
  | .maybe t, h => leafP_two (q := q) t h
theorem leafPs_twos {q : List Nat → Prop} : ∀ ts : List Tr, Tr.leafPs q ts → Tr.twos ts
  | [], _ => trivial
  | t :: r, h => ⟨leafP_two t h.1, leafPs_twos r h.2⟩
end
theorem inO_len {s : List Nat} (h : inO s = s) : s.length ≤ 95 := by
  rw [← h]
  exact Nat.le_trans (List.length_filter_le _ _) (by rw [SG_len]; exact Nat.le_refl _)
mutual
theorem leafP_okS : ∀ t : Tr, t.leafP (fun s => inO s = s) → t.okS
  | .one s, h => ⟨inO_len h, inO_sub h⟩
  | .or ts, h => leafPs_okSs ts h.2
  | .row ts, h => leafPs_okSs ts h.2
  | .star t, h => leafP_okS t h
  | .plus t, h => leafP_okS t h
  | .maybe t, h => leafP_okS t h
theorem leafPs_okSs : ∀ ts : List Tr, Tr.leafPs (fun s => inO s = s) ts → Tr.okSs ts
  | [], _ => trivial
  | t :: r, h => ⟨leafP_okS t h.1, leafPs_okSs r h.2⟩
end
/-! what is asked at the three levels -/
def Hd (x : List Nat) : Prop := ∃ a r, x = a :: r ∧ a ∉ [42, 43, 63, 124, 41]
def P0 (d : Nat) (t : Tr) (x : List Nat) : Prop := ∀ rest, sg rest ∈ [[], [41]] → choiceM (subM d) (x ++ rest) = .ok t rest
def P1 (d : Nat) (t : Tr) (x : List Nat) : Prop := ∀ rest, sg rest ∈ [[], [124], [41]] → rowM (subM d) (x ++ rest) = .ok t rest
def P2 (d : Nat) (t : Tr) (x : List Nat) : Prop := ∀ rest, repM (subM d) (x ++ rest) = .ok (starsM t rest).1 (starsM t rest).2
theorem stars_stop (t : Tr) {rest : List Nat} (h : ∀ c r, rest = c :: r → markM c = none) : starsM t rest = (t, rest) := by
  cases rest with
  | nil => rfl
  | cons c r =>
    show (match markM c with | some f => starsM (f t) r | none => (t, c :: r)) = _
    rw [h c r rfl]
theorem mark_sg {rest : List Nat} (h : sg rest ∈ [[], [124], [41]]) : ∀ c r, rest = c :: r → markM c = none := by
  rintro c r rfl
  have : [c] ∈ [[], [124], [41]] := h
  simp at this
  rcases this with rfl | rfl <;> rfl
theorem mark_hd {x rest : List Nat} (h : Hd x) : ∀ c r, x ++ rest = c :: r → markM c = none := by
  obtain ⟨a, s, rfl, ha⟩ := h
  intro c r e
  have : a = c := by
    injection e
  subst this
  have h1 : ∀ d ∈ [42, 43, 63, 124, 41], a ≠ d := fun d hd e => ha (by rw [e]; exact hd)
  unfold markM
  rw [if_neg (h1 42 (by decide)), if_neg (h1 43 (by decide)), if_neg (h1 63 (by decide))]
theorem p2_p1 {d : Nat} {t : Tr} {x : List Nat} (h : P2 d t x) : P1 d t x := fun rest hr => by
  have e : starsM t rest = (t, rest) := stars_stop t (mark_sg hr)
  unfold rowM
  rw [h rest, e]
  show finT .row (if sg rest ∈ [[], [124], [41]] then Res.ok [t] rest else _) = _
  rw [if_pos hr]
  rfl
theorem p1_p0 {d : Nat} {t : Tr} {x : List Nat} (h : P1 d t x) : P0 d t x := fun rest hr => by
  have hr2 : sg rest ∈ [[], [124], [41]] := by
    simp at hr ⊢
    rcases hr with z | z
    · exact .inl z
    · exact .inr (.inr z)
  have hn : sg rest ≠ [124] := fun e => by
    rw [e] at hr
    simp at hr
  unfold choiceM
  rw [h rest hr2]
  show finT .or (if sg rest = [124] then _ else Res.ok [t] rest) = _
  rw [if_neg hn]
  rfl
theorem p0_br {d : Nat} {t : Tr} {x : List Nat} (h : P0 d t x) : P2 (d + 1) t ([40] ++ x ++ [41]) := fun rest => by
  have e : [40] ++ x ++ [41] ++ rest = 40 :: (x ++ 41 :: rest) := by simp
  unfold repM
  rw [e]
  have h1 : choiceD d (x ++ 41 :: rest) = .ok t (41 :: rest) := by
    rw [choiceD_eq]
    exact h (41 :: rest) (by show [41] ∈ _; decide)
  have h2 : atomM (subM (d + 1)) (40 :: (x ++ 41 :: rest)) = .ok t rest := by
    show (match choiceD d (x ++ 41 :: rest) with
      | .bad x => Res.bad x
      | .ok t r1 => if sg r1 = [41] then .ok t (r1.drop 1) else .bad r1) = _
    rw [h1]
    rfl
  rw [h2]
theorem p2_mark {d : Nat} {t : Tr} {x : List Nat} {c : Nat} {f : Tr → Tr} (hc : markM c = some f) (h : P2 d t x) : P2 d (f t) (x ++ [c]) := fun rest => by
  rw [List.append_assoc, h ([c] ++ rest)]
  have : starsM t ([c] ++ rest) = starsM (f t) rest := by
    show (match markM c with | some f => starsM (f t) rest | none => (t, c :: rest)) = _
    rw [hc]
  rw [this]
def Ps (P : Tr → List Nat → Prop) : List Tr → List (List Nat) → Prop
  | [], [] => True
  | t :: ts, x :: xs => P t x ∧ Hd x ∧ Ps P ts xs
  | _, _ => False
theorem Ps.len {P : Tr → List Nat → Prop} : ∀ {ts : List Tr} {xs : List (List Nat)}, Ps P ts xs → ts.length ≤ xs.flatten.length
  | [], [], _ => Nat.le_refl _
  | t :: ts, x :: xs, ⟨_, ⟨a, r, e, _⟩, h⟩ => by
    have := Ps.len h
    rw [List.flatten_cons, List.length_append, e, List.length_cons, List.length_cons]
    omega
  | [], _ :: _, h => h.elim
  | _ :: _, [], h => h.elim
theorem next_mark {P : Tr → List Nat → Prop} {ts : List Tr} {xs : List (List Nat)} {rest : List Nat} (h : Ps P ts xs) (hr : sg rest ∈ [[], [124], [41]]) : ∀ c r, xs.flatten ++ rest = c :: r → markM c = none := by
  cases xs with
  | nil => exact mark_sg hr
  | cons x xs =>
    cases ts with
    | nil => exact h.elim
    | cons t ts =>
      rw [List.flatten_cons, List.append_assoc]
      exact mark_hd h.2.1
theorem row_loop {d : Nat} {rest : List Nat} (hr : sg rest ∈ [[], [124], [41]]) : ∀ (ts : List Tr) (xs : List (List Nat)), Ps (P2 d) ts xs → ∀ (f : Nat) (acc : List Tr), ts.length ≤ f → rowLoop (subM d) (f + 1) acc (xs.flatten ++ rest) = .ok (acc ++ ts) rest
  | [], [], _, f, acc, _ => by
    show (if sg rest ∈ [[], [124], [41]] then Res.ok acc rest else _) = _
    rw [if_pos hr, List.append_nil]
  | t :: ts, x :: xs, ⟨h1, h2, h3⟩, f, acc, hf => by
    rw [List.length_cons] at hf
    obtain ⟨f', rfl⟩ : ∃ f', f = f' + 1 := ⟨f - 1, by omega⟩
    rw [List.flatten_cons, List.append_assoc]
    have hs : sg (x ++ (xs.flatten ++ rest)) ∉ [[], [124], [41]] := by
      obtain ⟨a, r, rfl, ha⟩ := h2
      show [a] ∉ [[], [124], [41]]
      intro z
      simp at z
      rcases z with rfl | rfl <;> exact ha (by decide)
    show (if sg (x ++ (xs.flatten ++ rest)) ∈ [[], [124], [41]] then _ else (match repM (subM d) (x ++ (xs.flatten ++ rest)) with
      | .bad x => Res.bad x
      | .ok t r1 => rowLoop (subM d) (f' + 1) (acc ++ [t]) r1)) = _
    rw [if_neg hs, h1, stars_stop t (next_mark h3 hr)]
    show rowLoop (subM d) (f' + 1) (acc ++ [t]) (xs.flatten ++ rest) = _
    rw [row_loop hr ts xs h3 f' (acc ++ [t]) (by omega), List.append_assoc]
    rfl
  | [], _ :: _, h, _, _, _ => h.elim
  | _ :: _, [], h, _, _, _ => h.elim
theorem joinT_two (k : List Tr → Tr) {ts : List Tr} (h : 2 ≤ ts.length) : joinT k ts = k ts := by
  match ts, h with
  | _ :: _ :: _, _ => rfl
theorem p1_row {d : Nat} {ts : List Tr} {xs : List (List Nat)} (h2 : 2 ≤ ts.length) (h : Ps (P2 d) ts xs) : P1 d (.row ts) xs.flatten := fun rest hr => by
  cases ts with
  | nil => simp at h2
  | cons t ts =>
    cases xs with
    | nil => exact h.elim
    | cons x xs =>
      obtain ⟨h1, hh, h3⟩ := h
      unfold rowM
      rw [List.flatten_cons, List.append_assoc, h1, stars_stop t (next_mark h3 hr)]
      show finT .row (rowLoop (subM d) ((xs.flatten ++ rest).length + 1) [t] (xs.flatten ++ rest)) = _
      rw [row_loop hr ts xs h3 _ [t] (by have := Ps.len h3; rw [List.length_append]; omega)]
      show Res.ok (joinT .row (t :: ts)) rest = _
      rw [joinT_two _ h2]
def bars (xs : List (List Nat)) : List Nat := (xs.map fun x => 124 :: x).flatten
theorem joinL_bars (x : List Nat) : ∀ xs : List (List Nat), TL.joinL [124] (x :: xs) = x ++ bars xs
  | [] => by
    show x = x ++ []
    rw [List.append_nil]
  | y :: ys => by
    show x ++ ([124] ++ TL.joinL [124] (y :: ys)) = _
    rw [joinL_bars y ys]
    rfl
theorem bars_sg (xs : List (List Nat)) {rest : List Nat} (hr : sg rest ∈ [[], [41]]) : sg (bars xs ++ rest) ∈ [[], [124], [41]] := by
  cases xs with
  | nil =>
    simp at hr ⊢
    show sg rest = [] ∨ sg rest = [124] ∨ sg rest = [41]
    rcases hr with z | z
    · exact .inl z
    · exact .inr (.inr z)
  | cons x xs =>
    show [124] ∈ _
    decide
theorem choice_loop {d : Nat} {rest : List Nat} (hr : sg rest ∈ [[], [41]]) : ∀ (ts : List Tr) (xs : List (List Nat)), Ps (P1 d) ts xs → ∀ (f : Nat) (acc : List Tr), ts.length ≤ f → choiceLoop (subM d) (f + 1) acc (bars xs ++ rest) = .ok (acc ++ ts) rest
  | [], [], _, f, acc, _ => by
    have hn : sg rest ≠ [124] := fun e => by
      rw [e] at hr
      simp at hr
    show (if sg rest = [124] then _ else Res.ok acc rest) = _
    rw [if_neg hn, List.append_nil]
  | t :: ts, x :: xs, ⟨h1, h2, h3⟩, f, acc, hf => by
    rw [List.length_cons] at hf
    obtain ⟨f', rfl⟩ : ∃ f', f = f' + 1 := ⟨f - 1, by omega⟩
    have e : bars (x :: xs) ++ rest = 124 :: (x ++ (bars xs ++ rest)) := by
      unfold bars
      rw [List.map_cons, List.flatten_cons]
      simp
    rw [e]
    show (if sg (124 :: (x ++ (bars xs ++ rest))) = [124] then (match rowM (subM d) (x ++ (bars xs ++ rest)) with
      | .bad x => Res.bad x
      | .ok t r1 => choiceLoop (subM d) (f' + 1) (acc ++ [t]) r1) else _) = _
    rw [if_pos (show sg (124 :: (x ++ (bars xs ++ rest))) = [124] from rfl), h1 _ (bars_sg xs hr)]
    show choiceLoop (subM d) (f' + 1) (acc ++ [t]) (bars xs ++ rest) = _
    rw [choice_loop hr ts xs h3 f' (acc ++ [t]) (by omega), List.append_assoc]
    rfl
  | [], _ :: _, h, _, _, _ => h.elim
  | _ :: _, [], h, _, _, _ => h.elim
theorem bars_len (xs : List (List Nat)) : xs.length ≤ (bars xs).length := by
  induction xs with
  | nil => exact Nat.le_refl _
  | cons x xs ih =>
    show _ ≤ (124 :: x ++ bars xs).length
    rw [List.length_append, List.length_cons, List.length_cons]
    omega
theorem Ps.lenEq {P : Tr → List Nat → Prop} : ∀ {ts : List Tr} {xs : List (List Nat)}, Ps P ts xs → ts.length = xs.length
  | [], [], _ => rfl
  | _ :: _, _ :: _, ⟨_, _, h⟩ => congrArg (· + 1) (Ps.lenEq h)
  | [], _ :: _, h => h.elim
  | _ :: _, [], h => h.elim
theorem p0_or {d : Nat} {ts : List Tr} {xs : List (List Nat)} (h2 : 2 ≤ ts.length) (h : Ps (P1 d) ts xs) : P0 d (.or ts) (TL.joinL [124] xs) := fun rest hr => by
  cases ts with
  | nil => simp at h2
  | cons t ts =>
    cases xs with
    | nil => exact h.elim
    | cons x xs =>
      obtain ⟨h1, hh, h3⟩ := h
      unfold choiceM
      rw [joinL_bars, List.append_assoc, h1 _ (bars_sg xs hr)]
      show finT .or (choiceLoop (subM d) ((bars xs ++ rest).length + 1) [t] (bars xs ++ rest)) = _
      rw [choice_loop hr ts xs h3 _ [t] (by have := bars_len xs; have := h3.lenEq; rw [List.length_append]; omega)]
      show Res.ok (joinT .or (t :: ts)) rest = _
      rw [joinT_two _ h2]
theorem p2_leaf {d : Nat} {s x : List Nat} (h : LfOk x s) : P2 d (.one s) x := fun rest => by
  unfold repM
  rw [h.rd]
theorem hd_app {x y : List Nat} (h : Hd x) : Hd (x ++ y) := by
  obtain ⟨a, r, rfl, ha⟩ := h
  exact ⟨a, r ++ y, rfl, ha⟩
theorem hd_lbr {c : Bool} {x : List Nat} (h : Hd x) : Hd (lbr c x) := by
  unfold lbr
  split
  · exact ⟨40, _, rfl, by decide⟩
  · exact h
section
variable {lf : Nat → List Nat → List Nat} {e1 : Nat → Bool} {e2 : Nat → Nat → Bool}
/-- a part under a mark, of a row: in brackets, or neither row nor choice -/
theorem p2_part {c : Bool} {d : Nat} {t : Tr} {x : List Nat} (h0 : P0 d t x) (h2 : t.isOr = false → t.isRow = false → P2 (d + 1) t x) (hc : c = false → t.isOr = false ∧ t.isRow = false) : P2 (d + 1) t (lbr c x) := by
  unfold lbr
  split
  · exact p0_br h0
  · rename_i hf
    obtain ⟨a, b⟩ := hc (Bool.eq_false_iff.mpr hf)
    exact h2 a b
mutual
theorem gW_ok (hl : ∀ b s, inO s = s → LfOk (lf b s) s) : ∀ (t : Tr), t.leafP (fun s => inO s = s) → ∀ (b d : Nat), t.dep ≤ d →
    Hd (gW lf e1 e2 b t) ∧ P0 d t (gW lf e1 e2 b t) ∧ (t.isOr = false → P1 d t (gW lf e1 e2 b t)) ∧ (t.isOr = false → t.isRow = false → P2 d t (gW lf e1 e2 b t))
  | .one s, h, b, d, _ => by
    have l := hl b s h
    have p2 : P2 d (.one s) (lf b s) := p2_leaf l
    exact ⟨l.hd, p1_p0 (p2_p1 p2), fun _ => p2_p1 p2, fun _ _ => p2⟩
  | .row ts, h, b, d, hd => by
    have hd' : 1 + Tr.deps ts ≤ d := hd
    obtain ⟨d', rfl⟩ : ∃ d', d = d' + 1 := ⟨d - 1, by omega⟩
    have hp := gWs_ok hl ts h.2 b 0 d' true (by omega)
    have p1 := p1_row h.1 hp
    refine ⟨?_, p1_p0 p1, fun _ => p1, fun _ z => nomatch z⟩
    show Hd (gWs lf e1 e2 b true 0 ts).flatten
    cases ts with
    | nil => exact absurd h.1 (by decide)
    | cons t ts => exact hd_app hp.2.1
  | .or ts, h, b, d, hd => by
    have hd' : 1 + Tr.deps ts ≤ d := hd
    obtain ⟨d', rfl⟩ : ∃ d', d = d' + 1 := ⟨d - 1, by omega⟩
    have hp := gWs_ok hl ts h.2 b 0 d' false (by omega)
    refine ⟨?_, p0_or h.1 hp, (fun z => (nomatch z)), (fun z => (nomatch z))⟩
    show Hd (TL.joinL [124] (gWs lf e1 e2 b false 0 ts))
    cases ts with
    | nil => exact absurd h.1 (by decide)
    | cons t ts =>
      show Hd (TL.joinL [124] (_ :: gWs lf e1 e2 b false 1 ts))
      rw [joinL_bars]
      exact hd_app hp.2.1
  | .star t, h, b, d, hd => by
    have hd' : 1 + t.dep ≤ d := hd
    obtain ⟨d', rfl⟩ : ∃ d', d = d' + 1 := ⟨d - 1, by omega⟩
    obtain ⟨a1, a2, _, _⟩ := gW_ok hl t h (b + 1) d' (by omega)
    obtain ⟨_, _, _, a4⟩ := gW_ok hl t h (b + 1) (d' + 1) (by omega)
    have p : P2 (d' + 1) (.star t) (lbr (t.isRow || t.isOr || e1 b) (gW lf e1 e2 (b + 1) t) ++ [42]) := p2_mark (c := 42) rfl (p2_part a2 a4 fun hc => by
      simp at hc
      exact ⟨hc.1.2, hc.1.1⟩)
    exact ⟨hd_app (hd_lbr a1), p1_p0 (p2_p1 p), fun _ => p2_p1 p, fun _ _ => p⟩
  | .plus t, h, b, d, hd => by
    have hd' : 1 + t.dep ≤ d := hd
    obtain ⟨d', rfl⟩ : ∃ d', d = d' + 1 := ⟨d - 1, by omega⟩
    obtain ⟨a1, a2, _, _⟩ := gW_ok hl t h (b + 1) d' (by omega)
    obtain ⟨_, _, _, a4⟩ := gW_ok hl t h (b + 1) (d' + 1) (by omega)
    have p : P2 (d' + 1) (.plus t) (lbr (t.isRow || t.isOr || e1 b) (gW lf e1 e2 (b + 1) t) ++ [43]) := p2_mark (c := 43) rfl (p2_part a2 a4 fun hc => by
      simp at hc
      exact ⟨hc.1.2, hc.1.1⟩)
    exact ⟨hd_app (hd_lbr a1), p1_p0 (p2_p1 p), fun _ => p2_p1 p, fun _ _ => p⟩
  | .maybe t, h, b, d, hd => by
    have hd' : 1 + t.dep ≤ d := hd
    obtain ⟨d', rfl⟩ : ∃ d', d = d' + 1 := ⟨d - 1, by omega⟩
    obtain ⟨a1, a2, _, _⟩ := gW_ok hl t h (b + 1) d' (by omega)
    obtain ⟨_, _, _, a4⟩ := gW_ok hl t h (b + 1) (d' + 1) (by omega)
    have p : P2 (d' + 1) (.maybe t) (lbr (t.isRow || t.isOr || e1 b) (gW lf e1 e2 (b + 1) t) ++ [63]) := p2_mark (c := 63) rfl (p2_part a2 a4 fun hc => by
      simp at hc
      exact ⟨hc.1.2, hc.1.1⟩)
    exact ⟨hd_app (hd_lbr a1), p1_p0 (p2_p1 p), fun _ => p2_p1 p, fun _ _ => p⟩
theorem gWs_ok (hl : ∀ b s, inO s = s → LfOk (lf b s) s) : ∀ (ts : List Tr), Tr.leafPs (fun s => inO s = s) ts → ∀ (b k d : Nat) (r : Bool), Tr.deps ts ≤ d →
    Ps (if r = true then P2 (d + 1) else P1 (d + 1)) ts (gWs lf e1 e2 b r k ts)
  | [], _, _, _, _, _, _ => trivial
  | t :: ts, h, b, k, d, r, hd => by
    have hd' : max t.dep (Tr.deps ts) ≤ d := hd
    obtain ⟨a1, a2, _, _⟩ := gW_ok hl t h.1 (b + 1 + 5 * k) d (by omega)
    obtain ⟨_, _, a3, a4⟩ := gW_ok hl t h.1 (b + 1 + 5 * k) (d + 1) (by omega)
    refine ⟨?_, hd_lbr a1, gWs_ok hl ts h.2 b (k + 1) d r (by omega)⟩
    cases r with
    | true =>
      show P2 (d + 1) t (lbr ((t.isOr || (true && t.isRow)) || e2 b k) _)
      exact p2_part a2 a4 fun hc => by
        simp at hc
        exact hc.1
    | false =>
      show P1 (d + 1) t (lbr ((t.isOr || (false && t.isRow)) || e2 b k) _)
      unfold lbr
      split
      · exact p2_p1 (p0_br a2)
      · rename_i hf
        have := Bool.eq_false_iff.mpr hf
        simp at this
        exact a3 this.1
end
theorem read_gW (hl : ∀ b s, inO s = s → LfOk (lf b s) s) {t : Tr} (h : t.leafP (fun s => inO s = s)) (hd : t.dep ≤ 6) (b : Nat) : readM (gW lf e1 e2 b t) = .ok t [] := by
  have p := (gW_ok (e1 := e1) (e2 := e2) hl t h b 6 hd).2.1 [] (by decide)
  rw [List.append_nil, ← choiceD_eq] at p
  unfold readM
  rw [p]
  rfl
/-! the signs of what is written -/
theorem lbr_sg {c : Bool} {x : List Nat} (h : ∀ z ∈ x, z ∈ SG) : ∀ z ∈ lbr c x, z ∈ SG := by
  unfold lbr
  split
  · intro z hz
    rcases List.mem_append.mp hz with hz | hz
    · rcases List.mem_append.mp hz with hz | hz
      · rw [List.mem_singleton.mp hz]; decide
      · exact h z hz
    · rw [List.mem_singleton.mp hz]; decide
  · exact h
theorem app_sg {x y : List Nat} (h : ∀ z ∈ x, z ∈ SG) (h2 : ∀ z ∈ y, z ∈ SG) : ∀ z ∈ x ++ y, z ∈ SG := fun z hz => by
  rcases List.mem_append.mp hz with hz | hz
  · exact h z hz
  · exact h2 z hz
mutual
theorem gW_sg {q : List Nat → Prop} (hl : ∀ b s, q s → ∀ z ∈ lf b s, z ∈ SG) : ∀ (t : Tr), t.leafP q → ∀ b, ∀ z ∈ gW lf e1 e2 b t, z ∈ SG
  | .one s, h, b => hl b s h
  | .row ts, h, b => (gWs_sg hl ts h.2 b true 0).1
  | .or ts, h, b => (gWs_sg hl ts h.2 b false 0).2
  | .star t, h, b => app_sg (lbr_sg (gW_sg (q := q) hl t h (b + 1))) (by decide)
  | .plus t, h, b => app_sg (lbr_sg (gW_sg (q := q) hl t h (b + 1))) (by decide)
  | .maybe t, h, b => app_sg (lbr_sg (gW_sg (q := q) hl t h (b + 1))) (by decide)
theorem gWs_sg {q : List Nat → Prop} (hl : ∀ b s, q s → ∀ z ∈ lf b s, z ∈ SG) : ∀ (ts : List Tr), Tr.leafPs q ts → ∀ (b : Nat) (r : Bool) (k : Nat), (∀ z ∈ (gWs lf e1 e2 b r k ts).flatten, z ∈ SG) ∧ ∀ z ∈ TL.joinL [124] (gWs lf e1 e2 b r k ts), z ∈ SG
  | [], _, _, _, _ => ⟨(fun _ h => (nomatch h)), (fun _ h => (nomatch h))⟩
  | [t], h, b, r, k => by
    have h1 := lbr_sg (c := (t.isOr || (r && t.isRow)) || e2 b k) (gW_sg hl t h.1 (b + 1 + 5 * k))
    exact ⟨app_sg h1 (fun _ h => (nomatch h)), h1⟩
  | t :: u :: ts, h, b, r, k => by
    have h1 := lbr_sg (c := (t.isOr || (r && t.isRow)) || e2 b k) (gW_sg hl t h.1 (b + 1 + 5 * k))
    obtain ⟨h2, h3⟩ := gWs_sg hl (u :: ts) h.2 b r (k + 1)
    exact ⟨app_sg h1 h2, app_sg h1 (app_sg (by decide) h3)⟩
end
end
end TW

set_option maxHeartbeats 1000000
namespace TW
/-! ### the trees the law makes -/
theorem inO_filter (f : Nat → Bool) : inO (SG.filter f) = SG.filter f := by
  unfold inO
  refine List.filter_congr fun c hc => ?_
  have : (c ∈ SG.filter f) ↔ f c = true := by
    rw [List.mem_filter]
    exact ⟨fun h => h.2, fun h => ⟨hc, h⟩⟩
  cases hf : f c with
  | true => exact decide_eq_true (this.mpr hf)
  | false =>
    refine decide_eq_false fun z => ?_
    · have w := this.mp z
      rw [hf] at w
      exact Bool.noConfusion w
theorem someM_inO (q : Nat) : inO (someM q) = someM q := inO_filter _
theorem someM_len (q : Nat) : (someM q).length ≤ 7 := by
  have h : ∀ k < 92, (SG.filter fun c => decide (c ∈ [97, 98, 99]) || decide (c ∈ (SG.drop k).take 4)).length ≤ 7 := by decide +kernel
  exact h (q % 92) (Nat.mod_lt _ (by decide))
theorem signs_cases (n : Nat) : (∃ c ∈ SG, signsM n = [c]) ∨ signsM n = SG.drop 1 ∨ (∃ q, signsM n = someM q) ∨ signsM n = [] ∨ signsM n = SG ∨ ∃ q, signsM n = oth (someM q) := by
  unfold signsM
  by_cases h1 : n % 8 < 4
  · rw [if_pos h1]
    have hl : n / 8 % 12 < MENU.length := Nat.mod_lt _ (by decide)
    refine .inl ⟨MENU.getD (n / 8 % 12) 0, ?_, rfl⟩
    have : ∀ k < 12, MENU.getD k 0 ∈ SG := by decide +kernel
    exact this _ hl
  rw [if_neg h1]
  by_cases h2 : n % 8 = 4
  · rw [if_pos h2]
    exact .inr (.inl rfl)
  rw [if_neg h2]
  by_cases h3 : n % 8 = 5
  · rw [if_pos h3]
    have hl : n / 8 % 95 < 95 := Nat.mod_lt _ (by decide)
    refine .inl ⟨SG.getD (n / 8 % 95) 0, ?_, rfl⟩
    have : ∀ k < 95, SG.getD k 0 ∈ SG := by decide +kernel
    exact this _ hl
  rw [if_neg h3]
  by_cases h4 : n % 8 = 6
  · rw [if_pos h4]
    exact .inr (.inr (.inl ⟨_, rfl⟩))
  rw [if_neg h4]
  by_cases h5 : n / 8 % 5 < 2
  · rw [if_pos h5]
    by_cases h6 : n / 8 % 5 = 0
    · rw [if_pos h6]
      exact .inr (.inr (.inr (.inl rfl)))
    · rw [if_neg h6]
      exact .inr (.inr (.inr (.inr (.inl rfl))))
  rw [if_neg h5]
  exact .inr (.inr (.inr (.inr (.inr ⟨_, rfl⟩))))
theorem signs_inO (n : Nat) : inO (signsM n) = signsM n := by
  rcases signs_cases n with ⟨c, hc, e⟩ | e | ⟨q, e⟩ | e | e | ⟨q, e⟩
  · rw [e]
    have : ∀ c ∈ SG, inO [c] = [c] := by decide +kernel
    exact this c hc
  · rw [e]; decide +kernel
  · rw [e]; exact someM_inO q
  · rw [e]; decide +kernel
  · rw [e]; decide +kernel
  · rw [e]; exact inO_filter _
theorem leafPs_map {q : List Nat → Prop} (f : Nat → Tr) : ∀ l : List Nat, (∀ k, (f k).leafP q) → Tr.leafPs q (l.map f)
  | [], _ => trivial
  | a :: r, h => ⟨h a, leafPs_map f r h⟩
theorem deps_map {d : Nat} (f : Nat → Tr) : ∀ l : List Nat, (∀ k, (f k).dep ≤ d) → Tr.deps (l.map f) ≤ d
  | [], _ => Nat.zero_le _
  | a :: r, h => Nat.max_le.mpr ⟨h a, deps_map f r h⟩
theorem nodess_map {d : Nat} (f : Nat → Tr) : ∀ l : List Nat, (∀ k, (f k).nodes ≤ d) → Tr.nodess (l.map f) ≤ d * l.length
  | [], _ => Nat.zero_le _
  | a :: r, h => by
    have h1 := nodess_map f r h
    have h2 := h a
    show (f a).nodes + Tr.nodess (r.map f) ≤ d * (r.length + 1)
    rw [Nat.mul_add]
    omega
theorem tree_leafP (mix : Nat → Nat) : ∀ (d b : Nat), (treeM mix d b).leafP fun s => ∃ n, s = signsM n
  | 0, b => ⟨_, rfl⟩
  | d + 1, b => by
    unfold treeM
    split
    · exact ⟨_, rfl⟩
    split
    · have h1 : 2 ≤ ((List.range (2 + mix b / 8 % 2)).map fun k => treeM mix d (3 * b + 1 + k)).length := by
        rw [List.length_map, List.length_range]
        omega
      have h2 := leafPs_map (fun k => treeM mix d (3 * b + 1 + k)) (List.range (2 + mix b / 8 % 2)) fun k => tree_leafP mix d _
      split
      · exact ⟨h1, h2⟩
      · exact ⟨h1, h2⟩
    · have h := tree_leafP mix d (3 * b + 1)
      unfold unM
      split
      · exact h
      split
      · exact h
      · exact h
theorem tree_dep (mix : Nat → Nat) : ∀ (d b : Nat), (treeM mix d b).dep ≤ d
  | 0, b => Nat.le_refl _
  | d + 1, b => by
    unfold treeM
    split
    · exact Nat.zero_le _
    split
    · have h2 := deps_map (fun k => treeM mix d (3 * b + 1 + k)) (List.range (2 + mix b / 8 % 2)) fun k => tree_dep mix d _
      split
      · show 1 + _ ≤ _
        omega
      · show 1 + _ ≤ _
        omega
    · have h := tree_dep mix d (3 * b + 1)
      unfold unM
      split
      · show 1 + _ ≤ _
        omega
      split
      · show 1 + _ ≤ _
        omega
      · show 1 + _ ≤ _
        omega
def nodeMost : Nat → Nat
  | 0 => 1
  | d + 1 => 1 + nodeMost d * 3
theorem nodeMost_pos (d : Nat) : 1 ≤ nodeMost d := by
  cases d with
  | zero => exact Nat.le_refl _
  | succ d => show 1 ≤ 1 + _; omega
theorem tree_nodes (mix : Nat → Nat) : ∀ (d b : Nat), (treeM mix d b).nodes ≤ nodeMost d
  | 0, b => Nat.le_refl _
  | d + 1, b => by
    have hp := nodeMost_pos d
    unfold treeM
    split
    · show 1 ≤ 1 + nodeMost d * 3
      omega
    split
    · have h2 := nodess_map (fun k => treeM mix d (3 * b + 1 + k)) (List.range (2 + mix b / 8 % 2)) fun k => tree_nodes mix d _
      have h3 : nodeMost d * (List.range (2 + mix b / 8 % 2)).length ≤ nodeMost d * 3 := Nat.mul_le_mul_left _ (by rw [List.length_range]; omega)
      split
      · show 1 + _ ≤ 1 + _
        omega
      · show 1 + _ ≤ 1 + _
        omega
    · have h := tree_nodes mix d (3 * b + 1)
      unfold unM
      split
      · show 1 + _ ≤ 1 + _
        omega
      split
      · show 1 + _ ≤ 1 + _
        omega
      · show 1 + _ ≤ 1 + _
        omega
/-! the written sign-sets stay within what the law writes -/
theorem runs_more : ∀ (n : Nat) (r : List Nat), r.length ≤ n → runsM (n + 1) r = runsM n r
  | 0, r, h => by
    have : r = [] := List.length_eq_zero_iff.mp (Nat.le_zero.mp h)
    rw [this]
    rfl
  | n + 1, [], _ => rfl
  | n + 1, c :: r, h => by
    have h1 := spanRun_len c r
    have h2 : r.length + 1 ≤ n + 1 := h
    show (c :: (spanRun c r).1) :: runsM (n + 1) (spanRun c r).2 = (c :: (spanRun c r).1) :: runsM n (spanRun c r).2
    rw [runs_more n _ (by omega)]
theorem turn_le {ks : List Nat} (h : ∀ c ∈ ICs, c ∈ ks) (c : Nat) : (turnW ICs c).length ≤ (lturn ks c).length := by
  unfold turnW lturn
  by_cases h1 : c ∈ ICs
  · rw [if_pos h1, if_pos (h c h1)]
    split <;> exact Nat.le_refl _
  · rw [if_neg h1]
    split
    · exact Nat.le_succ _
    split
    · exact Nat.le_succ _
    · exact Nat.le_refl _
theorem turn_le2 (x : List Nat) (c : Nat) : (turnW KEPTs c).length ≤ (lturn (KEPTs ++ x) c).length := by
  unfold turnW lturn
  by_cases h1 : c ∈ KEPTs
  · rw [if_pos h1, if_pos (List.mem_append_left _ h1)]
    split <;> exact Nat.le_refl _
  · rw [if_neg h1]
    split
    · exact Nat.le_succ _
    split
    · exact Nat.le_succ _
    · exact Nat.le_refl _
theorem item_le {ks : List Nat} (h : ∀ c ∈ ICs, c ∈ ks) : ∀ st : List Nat, st ≠ [] → (itemW st).length ≤ (litem ks st).length
  | [], hn => absurd rfl hn
  | [a], _ => by
    have h1 := turn_le h a
    show (turnW ICs a ++ []).length ≤ (lturn ks a).length
    rw [List.append_nil]
    exact h1
  | [a, b], _ => by
    have h1 := turn_le h a
    have h2 := turn_le h b
    show (turnW ICs a ++ (turnW ICs b ++ [])).length ≤ (lturn ks b ++ lturn ks a).length
    rw [List.append_nil, List.length_append, List.length_append]
    omega
  | a :: b :: c :: r, _ => by
    have h1 := turn_le h a
    have h2 := turn_le h ((a :: b :: c :: r).getLastD 0)
    have e : (a :: b :: c :: r).length > 2 := by show 2 < r.length + 1 + 1 + 1; omega
    unfold itemW litem
    rw [if_pos e, if_pos e]
    rw [List.length_append, List.length_append, List.length_append, List.length_append]
    show (turnW ICs a).length + _ + _ ≤ (lturn ks a).length + _ + _
    omega
def lsum (ks s : List Nat) : Nat := ((runsM s.length s).map (litem ks)).flatten.length
theorem items_le' {ks : List Nat} (h : ∀ c ∈ ICs, c ∈ ks) : ∀ l : List (List Nat), (∀ x ∈ l, x ≠ []) → (l.flatMap itemW).length ≤ ((l.map (litem ks)).flatten).length
  | [], _ => Nat.le_refl _
  | a :: r, hn => by
    have h1 := items_le' h r fun x hx => hn x (List.mem_cons_of_mem _ hx)
    have h2 := item_le h a (hn a List.mem_cons_self)
    rw [List.flatMap_cons, List.map_cons, List.flatten_cons, List.length_append, List.length_append]
    omega
theorem runs_ne : ∀ (n : Nat) (s : List Nat), ∀ x ∈ runsM n s, x ≠ []
  | 0, _, x, h => nomatch h
  | n + 1, [], x, h => nomatch h
  | n + 1, c :: r, x, h => by
    rcases List.mem_cons.mp h with rfl | h
    · exact List.cons_ne_nil _ _
    · exact runs_ne n _ x h
theorem items_le {ks : List Nat} (h : ∀ c ∈ ICs, c ∈ ks) (s : List Nat) : (itemsW s).length ≤ lsum ks s := by
  unfold itemsW lsum
  rw [stretch_eq]
  exact items_le' h _ (runs_ne _ _)
theorem lkept_ics (n : Nat) : (∀ c ∈ ICs, c ∈ lkept n) ∧ 94 ∈ lkept n := by
  unfold lkept
  split
  · exact ⟨by decide, by decide⟩
  · exact ⟨by decide, by decide⟩
theorem lrot_sum (n : Nat) (l : List (List Nat)) : l.flatten.length ≤ (lrot n l).flatten.length := by
  unfold lrot
  generalize n / 2 % max 1 l.length = k
  have h : l.flatten.length = (l.take k).flatten.length + (l.drop k).flatten.length := by
    rw [← List.length_append, ← List.flatten_append, List.take_append_drop]
  rw [List.flatten_append, List.flatten_append, List.length_append, List.length_append]
  omega
theorem lclass_ge (s : List Nat) (n : Nat) : lsum (lkept n) s ≤ (lclass s n).length := lrot_sum n _
theorem ix_next {c : Nat} (hc : c ∈ SG) (h : ix c = ix 94 + 1) : c = 95 := by
  have : ∀ c ∈ SG, ix c = ix 94 + 1 → c = 95 := by decide +kernel
  exact this c hc h
/-- the round sign led to the end costs no more than the law's turning of it -/
theorem led_le {ks : List Nat} (h : ∀ c ∈ ICs, c ∈ ks) (h94 : 94 ∈ ks) {r : List Nat} (hr : ∀ c ∈ r, c ∈ SG) : (itemsW r).length + 1 ≤ lsum ks (94 :: r) := by
  have e94 : (lturn ks 94).length = 2 := by
    unfold lturn
    rw [if_neg (by decide), if_pos h94]
    rfl
  have hi := items_le h r
  unfold itemsW at hi ⊢
  unfold lsum
  rw [stretch_eq]
  show (List.flatMap itemW (runsM r.length r)).length + 1 ≤ (litem ks (94 :: (spanRun 94 r).1) ++ ((runsM r.length (spanRun 94 r).2).map (litem ks)).flatten).length
  rw [List.length_append]
  cases r with
  | nil =>
    show 0 + 1 ≤ (lturn ks 94).length + 0
    omega
  | cons c r =>
    by_cases hc : ix c = ix 94 + 1
    · have e95 := ix_next (hr c List.mem_cons_self) hc
      have es : spanRun 94 (c :: r) = (c :: (spanRun c r).1, (spanRun c r).2) := if_pos hc
      rw [es]
      have hl := spanRun_len c r
      show (itemW (c :: (spanRun c r).1) ++ (runsM r.length (spanRun c r).2).flatMap itemW).length + 1 ≤ (litem ks (94 :: c :: (spanRun c r).1)).length + ((runsM (r.length + 1) (spanRun c r).2).map (litem ks)).flatten.length
      rw [runs_more _ _ (by omega), List.length_append]
      have h2 := items_le' h (runsM r.length (spanRun c r).2) (runs_ne _ _)
      have h1 : (itemW (c :: (spanRun c r).1)).length + 1 ≤ (litem ks (94 :: c :: (spanRun c r).1)).length := by
        rw [e95]
        generalize (spanRun 95 r).1 = z
        have e95 : (turnW ICs 95).length = 1 := by decide
        match z with
        | [] =>
          have := turn_le h 95
          show (turnW ICs 95 ++ []).length + 1 ≤ (lturn ks 95 ++ lturn ks 94).length
          rw [List.append_nil, List.length_append]
          omega
        | [d] =>
          have h3 := turn_le h d
          show (turnW ICs 95 ++ (turnW ICs d ++ [])).length + 1 ≤ (lturn ks 94 ++ [45] ++ lturn ks d).length
          rw [List.append_nil, List.length_append, List.length_append, List.length_append]
          show _ ≤ _ + 1 + _
          omega
        | d :: e :: f =>
          have h3 := turn_le h ((d :: e :: f).getLastD 0)
          have g1 : (95 :: d :: e :: f).length > 2 := by show 2 < f.length + 1 + 1 + 1; omega
          have g2 : (94 :: 95 :: d :: e :: f).length > 2 := by show 2 < f.length + 1 + 1 + 1 + 1; omega
          unfold itemW litem
          rw [if_pos g1, if_pos g2]
          rw [List.length_append, List.length_append, List.length_append, List.length_append]
          show (turnW ICs 95).length + 1 + (turnW ICs ((d :: e :: f).getLastD 0)).length + 1 ≤ (lturn ks 94).length + 1 + (lturn ks ((d :: e :: f).getLastD 0)).length
          omega
      omega
    · have es : spanRun 94 (c :: r) = ([], c :: r) := if_neg hc
      rw [es]
      have h2 : (litem ks [94]).length = 2 := e94
      have h3 : ((runsM (c :: r).length (c :: r)).map (litem ks)).flatten.length = lsum ks (c :: r) := rfl
      show _ ≤ (litem ks [94]).length + ((runsM (c :: r).length (c :: r)).map (litem ks)).flatten.length
      rw [h2, h3]
      have h4 : lsum ks (c :: r) = ((runsM (c :: r).length (c :: r)).map (litem ks)).flatten.length := rfl
      rw [stretch_eq] at hi
      omega
theorem one_le_two {s : List Nat} (h : s.length = 1) : (oneW s).length ≤ 2 := by
  unfold oneW
  rw [if_pos h]
  exact turnW_len _ _
theorem oneW_drop : (oneW (SG.drop 1)).length ≤ 1 := by decide +kernel
theorem oneW_le {s : List Nat} (h : inO s = s) (n : Nat) : (oneW s).length ≤ (lone s n).length := by
  have hsg := inO_sub h
  unfold lone
  split
  · rename_i h1
    unfold oneW
    rw [if_pos h1.1]
    exact turn_le2 _ _
  split
  · rename_i h1
    rw [h1.1]
    exact oneW_drop
  split
  · rename_i h1 h2 h3
    rw [List.length_append, List.length_append]
    show _ ≤ 2 + _ + 1
    have hk := lkept_ics (n / 6)
    have g1 := items_le hk.1 (oth s)
    have g2 := lclass_ge (oth s) (n / 6)
    have gr : (roundW s).length ≤ 2 + (lclass (oth s) (n / 6)).length + 1 := by
      unfold roundW
      rw [List.length_append, List.length_append]
      show 2 + _ + 1 ≤ _
      omega
    unfold oneW
    split
    · have := turnW_len KEPTs (s.headD 0)
      omega
    split
    · show 1 ≤ _
      omega
    split
    · exact gr
    · rename_i h4 h5 h6
      have hs : s ≠ [] := fun z => h6 (.inl z)
      have hss : s ≠ SG := fun z => by
        rcases h3 with h3 | h3
        · exact hs h3
        · rw [z] at h3
          exact absurd h3.1 (by decide)
      have : ¬ (roundW s).length < (plainW s).length := fun z => h6 (.inr ⟨hss, z⟩)
      omega
  · rename_i h1 h2 h3
    rw [List.length_append, List.length_append]
    show _ ≤ 1 + _ + 1
    have hs : s ≠ [] := fun z => h3 (.inl z)
    have hk := lkept_ics (n / 6)
    have g1 := items_le hk.1 s
    have g2 := lclass_ge s (n / 6)
    have gp : (plainW s).length ≤ 1 + (lclass s (n / 6)).length + 1 := by
      unfold plainW
      split
      · rename_i h94
        cases s with
        | nil => exact absurd rfl hs
        | cons c r =>
          have ec : c = 94 := by
            have : [c] = [94] := h94
            injection this
          have g := led_le hk.1 hk.2 (r := r) fun z hz => hsg z (List.mem_cons_of_mem _ hz)
          rw [← ec] at g
          rw [List.length_append, List.length_append]
          show 1 + (itemsW r).length + 2 ≤ _
          omega
      · rw [List.length_append, List.length_append]
        show 1 + _ + 1 ≤ _
        omega
    unfold oneW
    split
    · have := turnW_len KEPTs (s.headD 0)
      omega
    split
    · show 1 ≤ _
      omega
    split
    · rename_i h4 h5 h6
      rcases h6 with h6 | h6
      · exact absurd h6 hs
      · omega
    · exact gp
theorem plainW_len (s : List Nat) : (plainW s).length ≤ 2 * s.length + 3 := by
  unfold plainW
  split
  · have := itemsW_len (s.drop 1)
    rw [List.length_drop] at this
    rw [List.length_append, List.length_append]
    show 1 + _ + 2 ≤ _
    omega
  · have := itemsW_len s
    rw [List.length_append, List.length_append]
    show 1 + _ + 1 ≤ _
    omega
theorem oneW_signs (n : Nat) : (oneW (signsM n)).length ≤ 100 := by
  have small : ∀ s : List Nat, s.length ≤ 7 → s ≠ [] → (oneW s).length ≤ 100 := fun s hs hn => by
    have h1 := turnW_len KEPTs (s.headD 0)
    have h2 := plainW_len s
    unfold oneW
    split
    · omega
    split
    · show 1 ≤ 100
      omega
    split
    · rename_i h
      rcases h with h | h
      · exact absurd h hn
      · omega
    · omega
  rcases signs_cases n with ⟨c, hc, e⟩ | e | ⟨q, e⟩ | e | e | ⟨q, e⟩
  · rw [e]
    exact small _ (by show 1 ≤ 7; omega) (List.cons_ne_nil _ _)
  · rw [e]
    exact Nat.le_trans oneW_drop (by decide)
  · rw [e]
    by_cases hn : someM q = []
    · rw [hn]; decide +kernel
    · exact small _ (someM_len q) hn
  · rw [e]; decide +kernel
  · rw [e]; decide +kernel
  · rw [e]
    have hr : (roundW (oth (someM q))).length ≤ 17 := by
      have h1 := itemsW_len (someM q)
      have h2 := someM_len q
      unfold roundW
      rw [oth_oth (someM_inO q), List.length_append, List.length_append]
      show 2 + _ + 1 ≤ 17
      omega
    have h1 := turnW_len KEPTs ((oth (someM q)).headD 0)
    by_cases hS : oth (someM q) = SG
    · rw [hS]; decide +kernel
    unfold oneW
    split
    · omega
    split
    · show 1 ≤ 100
      omega
    split
    · omega
    · rename_i h4 h5 h6
      have : ¬ (roundW (oth (someM q))).length < (plainW (oth (someM q))).length := fun z => h6 (.inr ⟨hS, z⟩)
      omega
/-! all the law writes are signs -/
theorem lturn_sg {ks : List Nat} {c : Nat} (h : c ∈ SG) : ∀ z ∈ lturn ks c, z ∈ SG := by
  unfold lturn
  split
  · decide
  split
  · intro z hz
    rcases List.mem_cons.mp hz with rfl | hz
    · decide
    · rw [List.mem_singleton.mp hz]; exact h
  · intro z hz
    rw [List.mem_singleton.mp hz]; exact h
theorem turnW_sg {ks : List Nat} {c : Nat} (h : c ∈ SG) : ∀ z ∈ turnW ks c, z ∈ SG := by
  unfold turnW
  split
  · intro z hz
    rcases List.mem_cons.mp hz with rfl | hz
    · decide
    · rw [List.mem_singleton.mp hz]; exact h
  · intro z hz
    rw [List.mem_singleton.mp hz]; exact h
theorem lastD_mem {a : Nat} {r : List Nat} : (a :: r).getLastD 0 ∈ a :: r := by
  rw [List.getLastD_cons]
  cases r with
  | nil => exact List.mem_cons_self
  | cons b r =>
    have h : (b :: r).getLastD a = (b :: r).getLast (List.cons_ne_nil _ _) := by
      rw [List.getLastD_eq_getLast?, List.getLast?_eq_getLast (List.cons_ne_nil _ _)]
      rfl
    rw [h]
    exact List.mem_cons_of_mem _ (List.getLast_mem _)
theorem litem_sg {ks : List Nat} : ∀ {st : List Nat}, st ≠ [] → (∀ c ∈ st, c ∈ SG) → ∀ z ∈ litem ks st, z ∈ SG
  | [], h, _ => absurd rfl h
  | a :: r, _, h => by
    have ha := lturn_sg (ks := ks) (h a List.mem_cons_self)
    have hb := lturn_sg (ks := ks) (h _ lastD_mem)
    unfold litem
    split
    · exact app_sg (app_sg ha (by decide)) hb
    split
    · exact app_sg hb ha
    · exact ha
theorem itemW_sg {st : List Nat} (hn : st ≠ []) (h : ∀ c ∈ st, c ∈ SG) : ∀ z ∈ itemW st, z ∈ SG := by
  unfold itemW
  split
  · cases st with
    | nil => exact absurd rfl hn
    | cons a r => exact app_sg (app_sg (turnW_sg (h a List.mem_cons_self)) (by decide)) (turnW_sg (h _ lastD_mem))
  · intro z hz
    obtain ⟨c, hc, hz⟩ := List.mem_flatMap.mp hz
    exact turnW_sg (h c hc) z hz
theorem lclass_sg {s : List Nat} (h : ∀ c ∈ s, c ∈ SG) (n : Nat) : ∀ z ∈ lclass s n, z ∈ SG := by
  intro z hz
  unfold lclass at hz
  obtain ⟨x, hx, hz⟩ := List.mem_flatten.mp hz
  obtain ⟨st, hst, rfl⟩ := List.mem_map.mp ((lrot_mem n _ x).mp hx)
  refine litem_sg (runs_ne _ _ st hst) (fun c hc => h c ?_) z hz
  have := (runs_ok h).2
  rw [← this]
  exact List.mem_flatten.mpr ⟨st, hst, hc⟩
theorem itemsW_sg {s : List Nat} (h : ∀ c ∈ s, c ∈ SG) : ∀ z ∈ itemsW s, z ∈ SG := by
  intro z hz
  unfold itemsW at hz
  rw [stretch_eq] at hz
  obtain ⟨st, hst, hz⟩ := List.mem_flatMap.mp hz
  refine itemW_sg (runs_ne _ _ st hst) (fun c hc => h c ?_) z hz
  have := (runs_ok h).2
  rw [← this]
  exact List.mem_flatten.mpr ⟨st, hst, hc⟩
theorem headD_sg {s : List Nat} (hl : s.length = 1) (h : ∀ c ∈ s, c ∈ SG) : s.headD 0 ∈ SG := by
  cases s with
  | nil => exact nomatch hl
  | cons a r => exact h a List.mem_cons_self
theorem lone_sg {s : List Nat} (h : ∀ c ∈ s, c ∈ SG) (n : Nat) : ∀ z ∈ lone s n, z ∈ SG := by
  unfold lone
  split
  · rename_i h1
    exact lturn_sg (headD_sg h1.1 h)
  split
  · decide
  split
  · exact app_sg (app_sg (by decide) (lclass_sg (oth_sg s) _)) (by decide)
  · exact app_sg (app_sg (by decide) (lclass_sg h _)) (by decide)
theorem oneW_sg {s : List Nat} (h : ∀ c ∈ s, c ∈ SG) : ∀ z ∈ oneW s, z ∈ SG := by
  unfold oneW
  split
  · rename_i h1
    exact turnW_sg (headD_sg h1 h)
  split
  · decide
  split
  · exact app_sg (app_sg (by decide) (itemsW_sg (oth_sg s))) (by decide)
  · unfold plainW
    split
    · exact app_sg (app_sg (by decide) (itemsW_sg fun c hc => h c (List.mem_of_mem_drop hc))) (by decide)
    · exact app_sg (app_sg (by decide) (itemsW_sg h)) (by decide)
/-! the written tree is no longer than the law's telling of it -/
theorem lbr_le {a c c' : Bool} {x y : List Nat} (h : x.length ≤ y.length) (hc : c = true → c' = true) : (lbr (a || c) x).length ≤ (lbr (a || c') y).length := by
  unfold lbr
  cases a with
  | true =>
    rw [Bool.true_or, Bool.true_or, if_pos rfl, if_pos rfl]
    simp
    exact h
  | false =>
    rw [Bool.false_or, Bool.false_or]
    cases c with
    | true =>
      rw [hc rfl, if_pos rfl]
      simp
      exact h
    | false =>
      cases c' with
      | true => simp; omega
      | false => simp; exact h
mutual
theorem gW_le {lf lf' : Nat → List Nat → List Nat} {e1 : Nat → Bool} {e2 : Nat → Nat → Bool} {q : List Nat → Prop} (hl : ∀ b s, q s → (lf' b s).length ≤ (lf b s).length) : ∀ (t : Tr), t.leafP q → ∀ b, (gW lf' (fun _ => false) (fun _ _ => false) b t).length ≤ (gW lf e1 e2 b t).length
  | .one s, h, b => hl b s h
  | .row ts, h, b => (gWs_le hl ts h.2 b true 0).1
  | .or ts, h, b => (gWs_le hl ts h.2 b false 0).2
  | .star t, h, b => by
    have := lbr_le (a := t.isRow || t.isOr) (c := false) (c' := e1 b) (gW_le (e1 := e1) (e2 := e2) (q := q) hl t h (b + 1)) (fun z => nomatch z)
    show (lbr (t.isRow || t.isOr || false) _ ++ [42]).length ≤ (lbr (t.isRow || t.isOr || e1 b) _ ++ [42]).length
    rw [List.length_append, List.length_append]
    exact Nat.add_le_add_right this _
  | .plus t, h, b => by
    have := lbr_le (a := t.isRow || t.isOr) (c := false) (c' := e1 b) (gW_le (e1 := e1) (e2 := e2) (q := q) hl t h (b + 1)) (fun z => nomatch z)
    show (lbr (t.isRow || t.isOr || false) _ ++ [43]).length ≤ (lbr (t.isRow || t.isOr || e1 b) _ ++ [43]).length
    rw [List.length_append, List.length_append]
    exact Nat.add_le_add_right this _
  | .maybe t, h, b => by
    have := lbr_le (a := t.isRow || t.isOr) (c := false) (c' := e1 b) (gW_le (e1 := e1) (e2 := e2) (q := q) hl t h (b + 1)) (fun z => nomatch z)
    show (lbr (t.isRow || t.isOr || false) _ ++ [63]).length ≤ (lbr (t.isRow || t.isOr || e1 b) _ ++ [63]).length
    rw [List.length_append, List.length_append]
    exact Nat.add_le_add_right this _
theorem gWs_le {lf lf' : Nat → List Nat → List Nat} {e1 : Nat → Bool} {e2 : Nat → Nat → Bool} {q : List Nat → Prop} (hl : ∀ b s, q s → (lf' b s).length ≤ (lf b s).length) : ∀ (ts : List Tr), Tr.leafPs q ts → ∀ (b : Nat) (r : Bool) (k : Nat), (gWs lf' (fun _ => false) (fun _ _ => false) b r k ts).flatten.length ≤ (gWs lf e1 e2 b r k ts).flatten.length ∧ (TL.joinL [124] (gWs lf' (fun _ => false) (fun _ _ => false) b r k ts)).length ≤ (TL.joinL [124] (gWs lf e1 e2 b r k ts)).length
  | [], _, _, _, _ => ⟨Nat.le_refl _, Nat.le_refl _⟩
  | [t], h, b, r, k => by
    have h1 := lbr_le (a := t.isOr || (r && t.isRow)) (c := false) (c' := e2 b k) (gW_le (e1 := e1) (e2 := e2) (q := q) hl t h.1 (b + 1 + 5 * k)) (fun z => nomatch z)
    refine ⟨?_, h1⟩
    show (lbr (t.isOr || (r && t.isRow) || false) _ ++ []).length ≤ (lbr (t.isOr || (r && t.isRow) || e2 b k) _ ++ []).length
    rw [List.append_nil, List.append_nil]
    exact h1
  | t :: u :: ts, h, b, r, k => by
    have h1 := lbr_le (a := t.isOr || (r && t.isRow)) (c := false) (c' := e2 b k) (gW_le (e1 := e1) (e2 := e2) (q := q) hl t h.1 (b + 1 + 5 * k)) (fun z => nomatch z)
    obtain ⟨h2, h3⟩ := gWs_le (e1 := e1) (e2 := e2) (q := q) hl (u :: ts) h.2 b r (k + 1)
    constructor
    · show (lbr (t.isOr || (r && t.isRow) || false) _ ++ (gWs lf' (fun _ => false) (fun _ _ => false) b r (k + 1) (u :: ts)).flatten).length ≤ (lbr (t.isOr || (r && t.isRow) || e2 b k) _ ++ (gWs lf e1 e2 b r (k + 1) (u :: ts)).flatten).length
      rw [List.length_append, List.length_append]
      exact Nat.add_le_add h1 h2
    · show (lbr (t.isOr || (r && t.isRow) || false) _ ++ ([124] ++ TL.joinL [124] (gWs lf' (fun _ => false) (fun _ _ => false) b r (k + 1) (u :: ts)))).length ≤ (lbr (t.isOr || (r && t.isRow) || e2 b k) _ ++ ([124] ++ TL.joinL [124] (gWs lf e1 e2 b r (k + 1) (u :: ts)))).length
      rw [List.length_append, List.length_append, List.length_append, List.length_append]
      exact Nat.add_le_add h1 (Nat.add_le_add_left h3 _)
end
end TW

set_option maxHeartbeats 1000000
namespace TW
open PySem PySem.Spec PyProof.Rows L2
/-! ### the law -/
theorem mk_ok {s : List Nat} (h : ∀ c ∈ s, c ∈ SG) : PyData.strOk (mk s) = true := by
  show s.toArray.all (· < 0x110000) = true
  rw [← Array.all_toList]
  refine List.all_eq_true.mpr fun c hc => decide_eq_true ?_
  exact (show ∀ c ∈ SG, c < 0x110000 by decide) c (h c hc)
mutual
theorem data_lay : ∀ t : Tr, t.okS → t.data.canLay0 = true ∧ t.data.depth ≤ 2 * t.dep + 1
  | .one s, h => by
    refine ⟨?_, Nat.le_refl _⟩
    show (PyData.strOk ("one" : String) && (PyData.strOk (mk s) && true)) = true
    rw [mk_ok h.2]
    decide +kernel
  | .row ts, h => by
    obtain ⟨h1, h2⟩ := datas_lay ts h
    constructor
    · show (PyData.strOk ("row" : String) && (PyData.canLayAll0 (Tr.datas ts) && true)) = true
      rw [h1]
      decide +kernel
    · show max 0 (max (PyData.depthAll (Tr.datas ts) + 1) 0) + 1 ≤ 2 * (1 + Tr.deps ts) + 1
      omega
  | .or ts, h => by
    obtain ⟨h1, h2⟩ := datas_lay ts h
    constructor
    · show (PyData.strOk ("or" : String) && (PyData.canLayAll0 (Tr.datas ts) && true)) = true
      rw [h1]
      decide +kernel
    · show max 0 (max (PyData.depthAll (Tr.datas ts) + 1) 0) + 1 ≤ 2 * (1 + Tr.deps ts) + 1
      omega
  | .star t, h => by
    obtain ⟨h1, h2⟩ := data_lay t h
    constructor
    · show (PyData.strOk ("star" : String) && (t.data.canLay0 && true)) = true
      rw [h1]
      decide +kernel
    · show max 0 (max t.data.depth 0) + 1 ≤ 2 * (1 + t.dep) + 1
      omega
  | .plus t, h => by
    obtain ⟨h1, h2⟩ := data_lay t h
    constructor
    · show (PyData.strOk ("plus" : String) && (t.data.canLay0 && true)) = true
      rw [h1]
      decide +kernel
    · show max 0 (max t.data.depth 0) + 1 ≤ 2 * (1 + t.dep) + 1
      omega
  | .maybe t, h => by
    obtain ⟨h1, h2⟩ := data_lay t h
    constructor
    · show (PyData.strOk ("maybe" : String) && (t.data.canLay0 && true)) = true
      rw [h1]
      decide +kernel
    · show max 0 (max t.data.depth 0) + 1 ≤ 2 * (1 + t.dep) + 1
      omega
theorem datas_lay : ∀ ts : List Tr, Tr.okSs ts → PyData.canLayAll0 (Tr.datas ts) = true ∧ PyData.depthAll (Tr.datas ts) ≤ 2 * Tr.deps ts + 1
  | [], _ => ⟨rfl, Nat.zero_le _⟩
  | t :: ts, h => by
    obtain ⟨h1, h2⟩ := data_lay t h.1
    obtain ⟨h3, h4⟩ := datas_lay ts h.2
    constructor
    · show (t.data.canLay0 && PyData.canLayAll0 (Tr.datas ts)) = true
      rw [h1, h3]
      rfl
    · show max t.data.depth (PyData.depthAll (Tr.datas ts)) ≤ 2 * max t.dep (Tr.deps ts) + 1
      omega
end
theorem data_shaped {t : Tr} (h : t.okS) (hd : t.dep ≤ 6) : SeqAt.shaped t.data = true := by
  obtain ⟨h1, h2⟩ := data_lay t h
  unfold SeqAt.shaped
  rw [h1, decide_eq_true (by omega)]
  rfl
theorem data_eqv {t : Tr} (h : t.okS) : PyData.eqv t.data t.data = true := PySem.SeqAt.eqv_refl _ (data_lay t h).1
def spLaw (K : PySem.W.Frag) : Sp := fun vs H Q _ => ∃ (a : Addr) (ns : List Int), vs = [.ref a] ∧ SqL K H a (List.map V.int ns) ∧ ∀ H', Same H H' → Q (.bl true) H'
/-- what is asked of a tree for the rest of the law -/
structure GoodT (mix : Nat → Nat) (t : Tr) : Prop where
  lf : t.leafP fun s => inO s = s
  dp : t.dep ≤ 3
  nd : t.nodes ≤ 40
  wr : t.wr.length ≤ 100
theorem leaf_ok {t : Tr} (h : t.leafP fun s => ∃ n, s = signsM n) : t.leafP fun s => inO s = s := leafP_imp (fun s ⟨n, e⟩ => by rw [e]; exact signs_inO n) t h
theorem wr_told {t : Tr} (h : t.leafP fun s => inO s = s) (mix : Nat → Nat) (b : Nat) : t.wr.length ≤ (told mix b t).length := by
  rw [wr_gW b t, told_gW]
  exact gW_le (q := fun s => inO s = s) (fun b s hs => oneW_le hs (mix b)) t h b
theorem read_told {t : Tr} (h : t.leafP fun s => inO s = s) (hd : t.dep ≤ 3) (mix : Nat → Nat) (b : Nat) : readM (told mix b t) = .ok t [] := by
  rw [told_gW]
  exact read_gW (fun b s hs => lf_lone hs (mix b)) h (by omega) b
theorem read_wr {t : Tr} (h : t.leafP fun s => inO s = s) (hd : t.dep ≤ 3) : readM t.wr = .ok t [] := by
  rw [wr_gW 0 t]
  exact read_gW (fun b s hs => lf_oneW hs) h (by omega) 0
theorem told_sg {t : Tr} (h : t.leafP fun s => inO s = s) (mix : Nat → Nat) (b : Nat) : ∀ z ∈ told mix b t, z ∈ SG := by
  rw [told_gW]
  exact gW_sg (q := fun s => inO s = s) (fun b s hs => lone_sg (inO_sub hs) (mix b)) t h b
theorem wr_sg {t : Tr} (h : t.leafP fun s => inO s = s) : ∀ z ∈ t.wr, z ∈ SG := by
  rw [wr_gW 0 t]
  exact gW_sg (q := fun s => inO s = s) (fun b s hs => oneW_sg (inO_sub hs)) t h 0
section
variable {P : Program} {w : World} {K : PySem.W.Frag} {mg : Str → Option Value} {base : Heap}
theorem fn_of {k : Nat} {f : Addr} {fd : FuncData} {x : Str} {N ps : List Str} {sp : Sp} {st : Stmt} (F : FunD K x x (defArgs st) (defBody st) (defScope st) [] [] f fd) (S : FnScope N ps (defScope st)) (len : ∀ vs H Q E, sp vs H Q E → vs.length = ps.length)
    (hbody : ∀ (cdv : Value) (A : Around) (outer : List Env) (s : Shared) (H : Hp) (vs : List V) (Q : VK) (E : XK), Room k (A.deeper (envOfC x (defScope st) s.heap.objs.size f cdv)) → sp vs H Q E →
      ∃ t, PSs (cxOf CX0 P w K mg base N x (defScope st) f cdv A outer s H E).nox (defBody st) t ∧ t { nx := fun _ H' => Q .non H', rt := Q } (start N vs) H) : FnOk P w K mg base CX0 (k + 1) f fd ps sp := by
  refine F.ok S len fun cdv A outer s H vs Q E hr h => ?_
  obtain ⟨t, h1, h2⟩ := hbody cdv A outer s H vs Q E hr h
  exact ⟨t, PSs.nox h1, h2⟩
theorem ok_law (T : Top w K mg) {fd : FuncData} (F : FunD K "law" "law" (defArgs s_law) (defBody s_law) (defScope s_law) [] [] (He.ga K "law") fd) : FnOk P w K mg base CX0 40 (He.ga K "law") fd ["_law_script"] (spLaw K) := by
  have D_l_tree := tree_all (P := P) (base := base) T 3
  have D_l_told := told_all (P := P) (base := base) T 3
  have D_read := ok_read (P := P) (base := base) T
  have D_l_is_tree := is_tree_all (P := P) (base := base) T 3
  have D_written := written_all (P := P) (base := base) T 3
  have D_l_many := many_all (P := P) (base := base) T 3
  have D_l_tree0 := tree_all (P := P) (base := base) T 0
  refine fn_of F sc_law (fun vs H Q E h => ?_) (fun cdv A outer s H vs Q E hr h => ?_)
  · obtain ⟨a, ns, rfl, _⟩ := h
    rfl
  · obtain ⟨a, ns, rfl, ha, q⟩ := h
    refine ⟨_, (pss_cons (ps_set (i := 1) sc_law.nd rfl (.inl rfl) (pe_callD D_l_tree (hr.mono (by first | decide | omega)) rfl pass0 (pa_cons (pv 0) (pa_cons pe_int (pa_cons pe_int pa_nil)))))
      (pss_cons (ps_set (i := 2) sc_law.nd rfl (.inl rfl) (pe_callD D_l_told (hr.mono (by first | decide | omega)) rfl pass0 (pa_cons (pv 0) (pa_cons pe_int (pa_cons (pv 1) pa_nil)))))
      (C8.pss_cut (ps_if (pt_cmpR op_gt (pe_callB call_len_str rfl T.z_len boot_len (pa_cons (pv 2) pa_nil)) pe_int (nomark _)) (pss_cons (ps_set (i := 1) sc_law.nd rfl (.inl rfl) (pe_callD D_l_tree0 (hr.mono (by first | decide | omega)) rfl pass0 (pa_cons (pv 0) (pa_cons pe_int (pa_cons pe_int pa_nil)))))
      (pss_one (ps_set (i := 2) sc_law.nd rfl (.inl rfl) (pe_callD D_l_told (hr.mono (by first | decide | omega)) rfl pass0 (pa_cons (pv 0) (pa_cons pe_int (pa_cons (pv 1) pa_nil))))))) pss_nil)
      (pss_cons (ps_set (i := 3) sc_law.nd rfl (.inl rfl) (pe_callD D_read (hr.mono (by first | decide | omega)) rfl passL (pa_cons (pv 2) pa_nil)))
      (pss_cons (ps_if (PW.pt (pw_or (pt_not (pt_val (pe_callD D_l_is_tree (hr.mono (by first | decide | omega)) rfl pass0 (pa_cons (pv 3) pa_nil)))) (pw_or1 (pt_cmpR (op_neD (Room.units hr)) (pv 3) (pv 1) (nomark _))))) (pss_one (ps_ret pe_bl)) pss_nil)
      (pss_cons (ps_set (i := 4) sc_law.nd rfl (.inl rfl) (pe_callD D_written (hr.mono (by first | decide | omega)) rfl pass0 (pa_cons (pv 3) pa_nil)))
      (pss_cons (ps_if (PW.pt (pw_or (pt_not (pt_val (pe_callB call_isi rfl T.z_isinstance (by decide +kernel) (pa_cons (pv 4) (pa_cons (pe_bltn (v := .ty "str") rfl T.z_str (by decide +kernel) rfl) pa_nil))))) (pw_or1 (PW.pt (pw_and (pt_cmpR op_lt (pe_callD D_l_many (hr.mono (by first | decide | omega)) rfl pass0 (pa_cons (pv 1) pa_nil)) pe_int (nomark _)) (pw_and1 (pt_cmpR op_gt (pe_callB call_len_str rfl T.z_len boot_len (pa_cons (pv 4) pa_nil)) pe_int (nomark _)))))))) (pss_one (ps_ret pe_bl)) pss_nil)
      (pss_one (ps_ret (pe_or (pe_cmpR op_gt (pe_callB call_len_str rfl T.z_len boot_len (pa_cons (pv 4) pa_nil)) pe_int (nomark _)) (pe_one (pe_cmpR (op_eqD (Room.units hr)) (pe_callD D_read (hr.mono (by first | decide | omega)) rfl passL (pa_cons (pv 4) pa_nil)) (pv 1) (nomark _))))))))))))), ?_⟩
    refine ⟨_, rfl, a, ns, 0, rfl, ha, fun v H1 s1 hv => ?_⟩
    generalize ht : treeM (mixN ns) 3 0 = t at hv
    have hl : t.leafP fun s => inO s = s := by rw [← ht]; exact leaf_ok (tree_leafP _ _ _)
    have hd : t.dep ≤ 3 := by rw [← ht]; exact tree_dep _ _ _
    have hn : t.nodes ≤ 40 := by rw [← ht]; exact tree_nodes _ 3 _
    have ho := leafP_okS t hl
    have hlen := told_len (mixN ns) 1 t ho
    refine ⟨_, rfl, _, rfl, a, ns, 1, v, t, rfl, s1.seq ha, hv, ho, hd, by omega, fun H2 s2 => ?_⟩
    refine ⟨fun σ H' => ∃ v t, σ = [some (.ref a), some v, some (.str (mk (told (mixN ns) 1 t))), none, none] ∧ AtT t v H' ∧ GoodT (mixN ns) t ∧ Same H H', ?_, ?_⟩
    · refine ⟨_, rfl, _, rfl, sz_mk (by omega), _, _, rfl, rfl, _, rfl, if_dec (fun e => ?_) (fun e => ?_)⟩
      · refine ⟨_, rfl, a, ns, 0, rfl, (s1.trans s2).seq ha, fun v3 H3 s3 hv3 => ?_⟩
        generalize ht3 : treeM (mixN ns) 0 0 = t3 at hv3
        have hl3 : t3.leafP fun s => inO s = s := by rw [← ht3]; exact leaf_ok (tree_leafP _ _ _)
        have hd3 : t3.dep ≤ 3 := by rw [← ht3]; exact Nat.zero_le _
        have hn3 : t3.nodes ≤ 40 := by rw [← ht3]; exact (show 1 ≤ 40 by decide)
        have hw3 : t3.wr.length ≤ 100 := by rw [← ht3]; exact oneW_signs _
        refine ⟨_, rfl, _, rfl, a, ns, 1, v3, t3, rfl, ((s1.trans s2).trans s3).seq ha, hv3, leafP_okS t3 hl3, hd3, by omega, fun H4 s4 => ?_⟩
        exact ⟨v3, t3, rfl, hv3.mono (TupK.of s4), ⟨hl3, hd3, hn3, hw3⟩, ((s1.trans s2).trans s3).trans s4⟩
      · have h100 : (told (mixN ns) 1 t).length ≤ 100 := by
          rw [len_mk] at e
          omega
        exact ⟨v, t, rfl, hv.mono (TupK.of s2), ⟨hl, hd, hn, Nat.le_trans (wr_told hl _ _) h100⟩, s1.trans s2⟩
    clear hlen ho hn hd hl ht hv s2 s1
    rintro σ H3 ⟨v, t, rfl, hv, g, s3⟩
    have ho := leafP_okS t g.lf
    have hd := g.dp
    have hn := g.nd
    have hlen := told_len (mixN ns) 1 t ho
    refine ⟨_, rfl, _, rfl, by omega, told_sg g.lf _ _, fun t' r hm v4 H4 s4 hv4 => ?_, fun n' d H' hm => ?_⟩
    rotate_left
    · rw [read_told g.lf g.dp] at hm
      exact nomatch hm
    rw [read_told g.lf g.dp] at hm
    cases hm
    have hv' := hv.mono (TupK.of s4)
    refine ⟨_, rfl, v4, t, rfl, hv4, leafP_two t g.lf, hd, by omega, fun H5 s5 => ⟨true, rfl, ?_⟩⟩
    have hs := data_shaped ho (by omega : t.dep ≤ 6)
    refine iteT (B := True) ⟨_, rfl, _, rfl, _, _, (Dt.dp (hv4.mono (TupK.of s5))), (Dt.dp (hv'.mono (TupK.of s5))), hs, hs, ?_⟩
    rw [data_eqv ho]
    refine ⟨_, rfl, ?_⟩
    show (if false = true then _ else _)
    rw [if_neg (fun z => nomatch z)]
    have s5' := s4.trans s5
    refine ⟨_, rfl, v4, t, rfl, hv4.mono (TupK.of s5), ho, hd, by omega, fun H6 s6 => ?_⟩
    have hw := g.wr
    refine ⟨_, rfl, _, _, _, _, true, rfl, .ty "str", .base (.str _), rfl, true, rfl, ?_⟩
    show (if false = true then _ else _)
    rw [if_neg (fun z => nomatch z)]
    refine ⟨_, rfl, v, t, rfl, hv.mono (TupK.of (s5'.trans s6)), hd, by omega, fun H7 s7 => ?_⟩
    have last : tRet (tOrV (tOp (rI0 fun i j => V.bl (decide (j < i))) (tCB (fun xs H Q => ∃ z, xs = [V.str z] ∧ z.length ≤ sizeLine ∧ Q (V.int z.length) H) (tCons (tVar 4) tNil)) (tC (V.int 100)))
        (tOp (rEqD (cxOf CX0 P w K mg base N_law (Str.ofString "law") (defScope s_law) (He.ga K (Str.ofString "law")) cdv A outer s H E).nox.K) (tCall (spRead (CB K)) [] E0 (tCons (tVar 4) tNil)) (tVar 1)))
        { nx := fun x H' => Q V.non H', rt := Q } [some (.ref a), some v, some (.str (mk (told (mixN ns) 1 t))), some v4, some (.str (mk t.wr))] H7 := by
      refine ⟨_, rfl, _, rfl, sz_mk (by omega), _, _, rfl, rfl, _, rfl, if_dec (fun e => ?_) (fun _ => ?_)⟩
      · rw [len_mk] at e
        exact absurd e (by omega)
      refine ⟨_, rfl, _, rfl, by omega, wr_sg g.lf, fun t' r hm v8 H8 s8 hv8 => ?_, fun n' d H' hm => ?_⟩
      rotate_left
      · rw [read_wr g.lf g.dp] at hm
        exact nomatch hm
      rw [read_wr g.lf g.dp] at hm
      cases hm
      refine ⟨_, rfl, _, _, hv8.dp, (hv.mono (TupK.of (((s5'.trans s6).trans s7).trans s8))).dp, hs, hs, ?_⟩
      rw [data_eqv ho]
      exact q _ ((((s3.trans s5').trans s6).trans s7).trans s8)
    refine ⟨_, _, rfl, rfl, _, rfl, if_dec (fun _ => ?_) (fun _ => ?_)⟩
    · refine ⟨_, rfl, _, rfl, sz_mk (by omega), _, _, rfl, rfl, _, rfl, ?_⟩
      rw [decide_eq_false (by rw [len_mk]; omega)]
      exact last
    · exact last
theorem law_at (T : Top w K mg) : ∃ fd : FuncData, mg "law" = some (.ref (He.ga K "law")) ∧ (∀ (s : Shared) (v : Value), BindsTo s fd ⟨[v], []⟩ [("_law_script", v)]) ∧ ∀ (P : Program) (base : Heap), FnOk P w K mg base CX0 40 (He.ga K "law") fd ["_law_script"] (spLaw K) := by
  obtain ⟨fd, F⟩ := T.f_law
  exact ⟨fd, T.g_law, fun s v => FunD.bindsA F b_law s [v] rfl, fun P base => ok_law T F⟩
end
end TW

set_option maxHeartbeats 0
namespace TW
open PySem PySem.Spec PyProof.Rows L2
/-! ### the top, run -/
abbrev R : PySem.W.OpenRow := PySem.W.OpenLaw.row PySem.Challenge.rw_tokenwright_k01_trees
abbrev hk : PySem.W.Hook := He.hookX 5 fa fn ts [] ex
def ob (s : PySem.W.SharedT) : He.AlX := He.obsX 5 fa fn ts [] ex (HandSHeadRun.getT s)
theorem ob_eq (s : PySem.W.SharedT) : ob s = hk.obs s.abs := He.obsX_eq (HandSHeadRun.getT_eq s)
def loose : List Str := (["TokenError", "BadRule", "SIGNS", "KEPT", "TURNED", "place_of", "between", "in_order", "others", "MOST_DEEP", "REPEATS", "Tape", "read_class_sign", "read_item", "read_class", "read_atom", "read_repeat", "joined", "read_row", "read_choice", "read", "IN_CLASS", "MARKS", "turned", "stretches", "items", "one", "written", "inner", "_law_cell"] : List Str) ++ (["_law_mix", "_law_whole", "_law_wholes", "_law_all", "_law_signs", "_law_tree", "_law_turned", "_law_class", "_law_one", "_law_told", "_law_is_tree", "_law_many"] : List Str)
theorem runF (w : World) : HandSHeadRun.RunEq R (PySem.W.view R.prog [47]) hk ob 3000 loose (w.withFollow "special-get-raises" false) := by
  intro os
  kernel_rfl
theorem runT (w : World) : HandSHeadRun.RunEq R (PySem.W.view R.prog [47]) hk ob 3000 loose (w.withFollow "special-get-raises" true) := by
  intro os
  kernel_rfl
theorem run (w : World) : HandSHeadRun.RunEq R (PySem.W.view R.prog [47]) hk ob 3000 loose w :=
  PySem.W.byRow2 "special-get-raises" (P := fun w => HandSHeadRun.RunEq R (PySem.W.view R.prog [47]) hk ob 3000 loose w) runF runT w
end TW

set_option maxHeartbeats 0
open PySem PySem.W PySem.Calls PyProof.Rows
theorem PySem.Challenge.cw_tokenwright_k01_trees_holds : PySem.Challenge.rw_tokenwright_k01_trees.Holds := by
  w_on
  o_law
  refine HandSHeadRun.head_any (r := OpenLaw.row PySem.Challenge.rw_tokenwright_k01_trees) (q := view (OpenLaw.row PySem.Challenge.rw_tokenwright_k01_trees).prog [47]) (H := TW.hk) (ob := TW.ob) (M := 3000) (loose := TW.loose)
    (d := HandSHeadRun.topDef (OpenLaw.row PySem.Challenge.rw_tokenwright_k01_trees).prog 47) (kwd := []) TW.ob_eq
    (by kernel_rfl) (fun s => by kernel_rfl) TW.run (by kernel_rfl) (by kernel_rfl) (by kernel_rfl) (by rfl) (by first | assumption | decide +kernel) (by decide +kernel) ⟨rfl, rfl, rfl, rfl, rfl, by decide +kernel⟩ ?hw ?hc
  case hw => w_witness2
  case hc =>
    refine L2.walk_ofE (l := PySem.Challenge.rw_tokenwright_k01_trees) (n := 63) (k := 40) (x := "_law_script") (CX := L2.CX0) rfl (by decide) (by kernel_rfl) ⟨rfl, by decide, by decide⟩ ?F (fun _ _ _ _ z => z)
    intro w mg fa h Y G hmg0
    obtain ⟨K, KX, c⟩ := Y
    have T : TW.Top w K mg := ⟨⟨h, KX, G⟩, c.t, c.more⟩
    have hmg : mg ("law" : PySem.Str) = some (.ref fa) := by
      have e : (HandSHeadRun.topDef (OpenLaw.row PySem.Challenge.rw_tokenwright_k01_trees).prog 47).name = ("law" : PySem.Str) := by kernel_rfl
      rw [← e]
      exact hmg0
    obtain ⟨fd, hg, hb, hF⟩ := TW.law_at T
    cases hg.symm.trans hmg
    exact ⟨K, fd, TW.spLaw K, KX, hb, fun H a ns hl _ hS => ⟨a, ns, rfl, hS, fun _ _ => rfl⟩, fun base _ _ => hF _ base⟩

