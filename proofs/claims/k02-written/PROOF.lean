import PyProof.Rows.All
import Wide.All
import OpenK.AllK
import Wide.FinOn
import PySem.Challenge.RW_flowstack_k02_written
import KE.KStateDown
import Lean
import HandS.ForMost
import HandS.Exc
import HandS.ExcOwn
import HandS.ExcInit
import HandS.ExcField
import HandS.TryOnly
import HandS.TryMany
import HandS.WordsExc
import HandS.RevRange
import HandS.Strs
import HandS.Conv
import HandS.More
import HandS.Defaults
import HandS.IsInst
import HandS.Deep
import HandS.SetFor
import HandS.Zip
import HandS.Head0
import HandS.Head1
import HandS.Head2
import HandS.HeadEnd
import HandS.HeadHook1
import HandS.HeadHook2
import HandS.HeadHook3
import HandS.HeadHook4
import HandS.Iter
import PyProof.Rows.SetFrom
import HandS.Set
import HandS.Dict
import PyProof.SetRoads
set_option Elab.async false
set_option linter.all false
set_option maxRecDepth 100000
set_option maxHeartbeats 4000000
/-! the base of our own: promises with their binding, calls by them, steps of readings -/
namespace Flow
open PySem PySem.Spec PyProof.Rows L2

/-- a def that keeps a promise, and how it binds -/
structure DefOk (P : Program) (w : World) (K : PySem.W.Frag) (mg : Str → Option Value) (base : Heap) (k : Nat) (f : Addr) (ps : List Str) (sp : Sp) : Prop where
  ex : ∃ fd, FnOk P w K mg base (L2.CX P w) k f fd ps sp ∧ Binds K fd ps []
  kp : PySem.W.keepIn K (.ref f) = true
structure MethOk (P : Program) (w : World) (K : PySem.W.Frag) (mg : Str → Option Value) (base : Heap) (k : Nat) (C : Addr) (m : Str) (ps : List Str) (sp : Sp) : Prop where
  cls : Cls K C
  ex : ∃ f, Meth K C m f ∧ DefOk P w K mg base k f ps sp
structure MakeOk (P : Program) (w : World) (K : PySem.W.Frag) (mg : Str → Option Value) (base : Heap) (k : Nat) (C : Addr) (ps : List Str) (sp : Sp) : Prop where
  ex : ∃ f, Mk K C f ∧ DefOk P w K mg base k f ps sp
section
variable {P : Program} {w : World} {K : PySem.W.Frag} {mg : Str → Option Value} {base : Heap} {k j : Nat} {f C : Addr} {m : Str} {ps : List Str} {sp sp' : Sp}
theorem DefOk.mono (D : DefOk P w K mg base j f ps sp) (h : j ≤ k) : DefOk P w K mg base k f ps sp := by
  obtain ⟨⟨fd, F, b⟩, kp⟩ := D
  exact ⟨⟨fd, F.mono h, b⟩, kp⟩
theorem DefOk.imp (D : DefOk P w K mg base k f ps sp) (h : ∀ vs H Q E, sp' vs H Q E → sp vs H Q E) : DefOk P w K mg base k f ps sp' := by
  obtain ⟨⟨fd, F, b⟩, kp⟩ := D
  exact ⟨⟨fd, F.imp h, b⟩, kp⟩
theorem MethOk.mono (D : MethOk P w K mg base j C m ps sp) (h : j ≤ k) : MethOk P w K mg base k C m ps sp := by
  obtain ⟨c, f, M, D⟩ := D
  exact ⟨c, f, M, D.mono h⟩
theorem MethOk.imp (D : MethOk P w K mg base k C m ps sp) (h : ∀ vs H Q E, sp' vs H Q E → sp vs H Q E) : MethOk P w K mg base k C m ps sp' := by
  obtain ⟨c, f, M, D⟩ := D
  exact ⟨c, f, M, D.imp h⟩
theorem MakeOk.mono (D : MakeOk P w K mg base j C ps sp) (h : j ≤ k) : MakeOk P w K mg base k C ps sp := by
  obtain ⟨f, M, D⟩ := D
  exact ⟨f, M, D.mono h⟩
theorem MakeOk.imp (D : MakeOk P w K mg base k C ps sp) (h : ∀ vs H Q E, sp' vs H Q E → sp vs H Q E) : MakeOk P w K mg base k C ps sp' := by
  obtain ⟨f, M, D⟩ := D
  exact ⟨f, M, D.imp h⟩
/-- THE RULE for a def of the text -/
theorem def_ok {x qual : Str} {st : Stmt} {N : List Str} (F : ∃ fd, FunD K x qual (defArgs st) (defBody st) (defScope st) [] [] f fd) (S : FnScope N ps (defScope st))
    (hb : ∀ (kV doc pm : Value) (an : Option Addr) (cdv ct : Value) (us : List Value), us.length = ps.length → bindArgs (PySem.W.fnOf x qual (defArgs st) (defBody st) (defScope st) .none kV doc pm an cdv ct) ⟨us, []⟩ = pure (ps.zip us))
    (len : ∀ vs H Q E, sp vs H Q E → vs.length = ps.length)
    (hbody : ∀ (cdv : Value) (A : Around) (outer : List Env) (s : Shared) (H : Hp) (vs : List V) (Q : VK) (E : XK), Room k (A.deeper (envOfC qual (defScope st) s.heap.objs.size f cdv)) → sp vs H Q E →
      ∃ (t : TS) (σ : L2.St), PSs (cxOf (L2.CX P w) P w K mg base N qual (defScope st) f cdv A outer s H E) (defBody st) t ∧ σ = start N vs ∧ t { nx := fun _ H' => Q .non H', rt := Q } σ H) : DefOk P w K mg base (k + 1) f ps sp := by
  obtain ⟨fd, F⟩ := F
  exact ⟨⟨fd, F.ok S len fun cdv A outer s H vs Q E hr h => by
    obtain ⟨t, σ, a, e, b⟩ := hbody cdv A outer s H vs Q E hr h
    subst e
    exact ⟨t, a, b⟩, F.bindsN hb⟩, F.kp⟩
end

/-! ### calls -/
def tFn (sp : Sp) (E : L2.St → XK) (t : TA) : TE := fun σ H Q => t σ H fun vs H1 => sp vs H1 Q (E σ)
def tMm (ok : Addr → Prop) (m : Str) (sp : Addr → Sp) (E : L2.St → XK) (ta : TE) (t : TA) : TE := fun σ H Q => ta σ H fun x H1 => ∃ a C dx fs, x = .ref a ∧ H1 a = some (.ins C dx fs) ∧ ok C ∧ fs.lookup m = none ∧
  t σ H1 fun vs H2 => sp C (x :: vs) H2 Q (E σ)
def tMk (C : Addr) (sp : Sp) (E : L2.St → XK) (t : TA) : TE := fun σ H Q => t σ H fun vs H1 => ∀ x dx, H1 x = none → H1 dx = none → dx ≠ x →
  sp (.ref x :: vs) (upd (upd H1 dx (.own x)) x (.ins C dx [])) (fun v H2 => v = .non ∧ Q (.ref x) H2) (E σ)
section
variable {X : Cx} {k : Nat} {f C : Addr} {fd : FuncData} {ps : List Str} {sp : Sp} {spC : Addr → Sp} {E : L2.St → XK} {x m : Str} {p pos apos : Pos} {e o : Expr} {es : List Expr} {ta : TE} {t : TA} {ok : Addr → Prop}
theorem passE {σ : L2.St} : PassesAt (L2.CX X.prog X.w) X σ E0 := fun _ _ _ _ _ _ h => by
  obtain ⟨_, _, _, _, _, _, _, _, _, _, _, _, z⟩ := h
  exact z.elim
theorem run_d {pins : List (Addr × Obj)} {σ : L2.St} {H : Hp} {s : Shared} {Q : VK} {us : List Value} {vs : List V} (D : DefOk X.prog X.w X.K X.mg X.base k f ps sp) (hr : Room k X.A) (hx : ∀ σ, PassesAt (L2.CX X.prog X.w) X σ (E σ))
    (I : Inv X pins σ H s) (r : Vals vs us) (h : sp vs H Q (E σ)) : wpAny (model X.prog X.w) X.A (call (.ref f) us) (EP X pins σ Q) X.xe s := by
  obtain ⟨⟨fd, F, hb⟩, kp⟩ := D
  exact run_fnS F hr hb (hx σ) I r h
theorem pe_fn (D : DefOk X.prog X.w X.K X.mg X.base k f ps sp) (hm : X.mg x = some (.ref f)) (hr : Room k X.A) (hx : ∀ σ, PassesAt (L2.CX X.prog X.w) X σ (E σ)) (ha : PA X (e :: es) t) (hg : Gl X x := by rfl)
    (hdb : (x == ("__debug__" : Str)) = false := by decide) (he : starEach (e :: es) X.env = (false, eval e X.env) :: starEach es X.env := by rfl) (hpl : (backTo pos (starEach es X.env)).any (·.1) = false := by rfl) :
    PE X (.Call (.Name x p) (e :: es) [] pos) (tFn sp E t) := by
  refine ⟨fun pins s σ H Q I h => ?_⟩
  refine wpAny_Call_Name_kw (ld_glob I hg hm ?_ hdb)
  refine PySem.W.callWith_K (h₀ := X.base) I.ok.mod.kin D.kp (thn (ha.run pos pins s σ H _ I h) fun us s1 ⟨vs, H1, I1, r, q⟩ => ⟨I1.kIn, ?_⟩) he hpl
  exact run_d D hr hx I1 r q
theorem pe_fn0 (D : DefOk X.prog X.w X.K X.mg X.base k f ps sp) (hm : X.mg x = some (.ref f)) (hr : Room k X.A) (hx : ∀ σ, PassesAt (L2.CX X.prog X.w) X σ (E σ)) (hg : Gl X x := by rfl)
    (hdb : (x == ("__debug__" : Str)) = false := by decide) : PE X (.Call (.Name x p) [] [] pos) (tFn sp E tNil) := by
  refine ⟨fun pins s σ H Q I h => ?_⟩
  refine wpAny_Call_Name_kw (ld_glob I hg hm ?_ hdb)
  exact PySem.W.callWith_K0 I.kIn D.kp (run_d (us := []) D hr hx I .nil h)
theorem pe_mm {pl : Sem Bool} (D : ∀ C, ok C → MethOk X.prog X.w X.K X.mg X.base k C m ps (spC C)) (hr : Room k X.A) (hx : ∀ σ, PassesAt (L2.CX X.prog X.w) X σ (E σ)) (he : PE X o ta) (ha : PA X (e :: es) t)
    (hst : starEach (e :: es) X.env = (false, eval e X.env) :: starEach es X.env := by rfl) (hpl : (backTo pos (starEach es X.env)).any (·.1) = false := by rfl)
    (ht : eval (.Call (.Attribute o m apos) (e :: es) [] pos) X.env = (do
      let ov ← eval o X.env
      standAt apos.atName
      let (f, first) ← holding [ov] (getMethod ov m pl)
      callWith pos f first (backTo pos (starEach (e :: es) X.env)) (backToKw pos (keywordEach [] X.env))) := by rfl) :
    PE X (.Call (.Attribute o m apos) (e :: es) [] pos) (tMm ok m spC E ta t) := by
  refine ⟨fun pins s σ H Q I h => ?_⟩
  refine PySem.W.methodCall_KW (pl := pl) (thn (he.run pins s σ H _ I h) fun u s1 ⟨x, H1, I1, rx, a, C, dx, fs, ex, ea, hC, l, q⟩ => ?_) ht
  subst ex
  obtain rfl : u = Value.ref a := rx
  obtain ⟨c, f, hm, D⟩ := D C hC
  refine getmeth_ok I1 ea c hm l ?_
  refine PySem.W.callWith_K (first := [.ref a]) (h₀ := X.base) I.ok.mod.kin hm.kp (thn (ha.run pos pins s1 σ H1 _ I1 q) fun us s2 ⟨vs, H2, I2, r, q2⟩ => ⟨I2.kIn, ?_⟩) hst hpl
  exact run_d (us := .ref a :: us) (vs := .ref a :: vs) D hr hx I2 (.cons rfl r) q2
theorem pe_mm0 {pl : Sem Bool} (D : ∀ C, ok C → MethOk X.prog X.w X.K X.mg X.base k C m ps (spC C)) (hr : Room k X.A) (hx : ∀ σ, PassesAt (L2.CX X.prog X.w) X σ (E σ)) (he : PE X o ta)
    (ht : eval (.Call (.Attribute o m apos) [] [] pos) X.env = (do
      let ov ← eval o X.env
      standAt apos.atName
      let (f, first) ← holding [ov] (getMethod ov m pl)
      callWith pos f first (backTo pos (starEach [] X.env)) (backToKw pos (keywordEach [] X.env))) := by rfl) :
    PE X (.Call (.Attribute o m apos) [] [] pos) (tMm ok m spC E ta tNil) := by
  refine ⟨fun pins s σ H Q I h => ?_⟩
  refine PySem.W.methodCall_KW (pl := pl) (thn (he.run pins s σ H _ I h) fun u s1 ⟨x, H1, I1, rx, a, C, dx, fs, ex, ea, hC, l, q⟩ => ?_) ht
  subst ex
  obtain rfl : u = Value.ref a := rx
  obtain ⟨c, f, hm, D⟩ := D C hC
  refine getmeth_ok I1 ea c hm l ?_
  exact PySem.W.callWith_K0 (first := [.ref a]) I1.kIn hm.kp (run_d (us := [.ref a]) (vs := [.ref a]) D hr hx I1 (.cons rfl .nil) q)
/-- o.m(e, ..), the promise chosen by the reading -/
def tMu (P : Program) (w : World) (K : PySem.W.Frag) (mg : Str → Option Value) (base : Heap) (k : Nat) (m : Str) (ps : List Str) (E : L2.St → XK) (ta : TE) (t : TA) : TE := fun σ H Q => ta σ H fun x H1 => ∃ (a C dx : Addr) (fs : List (Str × V)) (sp : Sp), x = .ref a ∧ H1 a = some (.ins C dx fs) ∧
  MethOk P w K mg base k C m ps sp ∧ fs.lookup m = none ∧ t σ H1 fun vs H2 => sp (x :: vs) H2 Q (E σ)
theorem pe_mu {pl : Sem Bool} (k : Nat) (ps : List Str) (hr : Room k X.A) (hx : ∀ σ, PassesAt (L2.CX X.prog X.w) X σ (E σ)) (he : PE X o ta) (ha : PA X (e :: es) t)
    (hst : starEach (e :: es) X.env = (false, eval e X.env) :: starEach es X.env := by rfl) (hpl : (backTo pos (starEach es X.env)).any (·.1) = false := by rfl)
    (ht : eval (.Call (.Attribute o m apos) (e :: es) [] pos) X.env = (do
      let ov ← eval o X.env
      standAt apos.atName
      let (f, first) ← holding [ov] (getMethod ov m pl)
      callWith pos f first (backTo pos (starEach (e :: es) X.env)) (backToKw pos (keywordEach [] X.env))) := by rfl) :
    PE X (.Call (.Attribute o m apos) (e :: es) [] pos) (tMu X.prog X.w X.K X.mg X.base k m ps E ta t) := by
  refine ⟨fun pins s σ H Q I h => ?_⟩
  refine PySem.W.methodCall_KW (pl := pl) (thn (he.run pins s σ H _ I h) fun u s1 ⟨x, H1, I1, rx, a, C, dx, fs, sp, ex, ea, D, l, q⟩ => ?_) ht
  subst ex
  obtain rfl : u = Value.ref a := rx
  obtain ⟨c, f, hm, D⟩ := D
  refine getmeth_ok I1 ea c hm l ?_
  refine PySem.W.callWith_K (first := [.ref a]) (h₀ := X.base) I.ok.mod.kin hm.kp (thn (ha.run pos pins s1 σ H1 _ I1 q) fun us s2 ⟨vs, H2, I2, r, q2⟩ => ⟨I2.kIn, ?_⟩) hst hpl
  exact run_d (us := .ref a :: us) (vs := .ref a :: vs) D hr hx I2 (.cons rfl r) q2
theorem pe_mu0 {pl : Sem Bool} (k : Nat) (ps : List Str) (hr : Room k X.A) (hx : ∀ σ, PassesAt (L2.CX X.prog X.w) X σ (E σ)) (he : PE X o ta)
    (ht : eval (.Call (.Attribute o m apos) [] [] pos) X.env = (do
      let ov ← eval o X.env
      standAt apos.atName
      let (f, first) ← holding [ov] (getMethod ov m pl)
      callWith pos f first (backTo pos (starEach [] X.env)) (backToKw pos (keywordEach [] X.env))) := by rfl) :
    PE X (.Call (.Attribute o m apos) [] [] pos) (tMu X.prog X.w X.K X.mg X.base k m ps E ta tNil) := by
  refine ⟨fun pins s σ H Q I h => ?_⟩
  refine PySem.W.methodCall_KW (pl := pl) (thn (he.run pins s σ H _ I h) fun u s1 ⟨x, H1, I1, rx, a, C, dx, fs, sp, ex, ea, D, l, q⟩ => ?_) ht
  subst ex
  obtain rfl : u = Value.ref a := rx
  obtain ⟨c, f, hm, D⟩ := D
  refine getmeth_ok I1 ea c hm l ?_
  exact PySem.W.callWith_K0 (first := [.ref a]) I1.kIn hm.kp (run_d (us := [.ref a]) (vs := [.ref a]) D hr hx I1 (.cons rfl .nil) q)
theorem run_mk {pins : List (Addr × Obj)} {σ : L2.St} {H : Hp} {s : Shared} {Q : VK} {us : List Value} {vs : List V} (M : Mk X.K C f) (D : DefOk X.prog X.w X.K X.mg X.base k f ps sp) (hr : Room (k + 1) X.A)
    (hx : ∀ (pins : List (Addr × Obj)) (σ : L2.St) (H : Hp) (s : Shared) (e : Value) (s' : Shared), Inv X pins σ H s → L2.CX X.prog X.w X.stack H s (E σ) e s' → X.xe e s') (I : Inv X pins σ H s) (r : Vals vs us)
    (h : ∀ x dx, H x = none → H dx = none → dx ≠ x → sp (.ref x :: vs) (upd (upd H dx (.own x)) x (.ins C dx [])) (fun v H2 => v = .non ∧ Q (.ref x) H2) (E σ)) :
    wpAny (model X.prog X.w) X.A (call (.ref C) us) (EP X pins σ Q) X.xe s := by
  obtain ⟨⟨fd, F, hb⟩, kp⟩ := D
  have hq := h (s.heap.objs.size + 1) s.heap.objs.size (I.hok.fresh (Nat.le_succ _)) (I.hok.fresh (Nat.le_refl _)) (Nat.ne_of_lt (Nat.lt_succ_self _))
  have I2 := Inv.made (C := C) I
  have r2 : Vals (V.ref (s.heap.objs.size + 1) :: vs) (Value.ref (s.heap.objs.size + 1) :: us) := .cons rfl r
  have hl : (Value.ref (s.heap.objs.size + 1) :: us ++ []).length = ps.length := by
    have e := r2.length
    rw [F.len _ _ _ _ hq] at e
    rw [List.append_nil]
    exact e.symm
  have hb2 := hb ⟨(s.heap.push PySem.W.emptyDict).push (PySem.W.instObj C s.heap.objs.size), s.gens, s.drawn, s.toks, s.os⟩ (Value.ref (s.heap.objs.size + 1) :: us) I2.kIn hl
  rw [List.append_nil] at hb2
  refine wpAny_call (make_map (f := f) I.kIn M.makes M.init (beq_iff_eq.mp M.fn) (codeAny_mono (F.run _ X.stack _ _ ⟨Value.ref (s.heap.objs.size + 1) :: us, []⟩ (Value.ref (s.heap.objs.size + 1) :: us) _ _ (E σ) (hr.make C us [])
    (I2.env0.make C us []) hb2 r2 hq) fun r s' hq' => ?_))
  cases r with
  | error e => exact hx pins σ _ _ e s' I2 hq'
  | ok fl =>
    cases fl with
    | ret u =>
      obtain ⟨v, H', I3, rv, ev, q3⟩ := I2.after hq'
      subst ev
      exact ⟨rv, ⟨V.ref (s.heap.objs.size + 1), H', I3, rfl, q3⟩⟩
    | next => exact False.elim hq'
    | brk => exact False.elim hq'
    | cont => exact False.elim hq'
theorem pe_mk (D : MakeOk X.prog X.w X.K X.mg X.base k C ps sp) (hm : X.mg x = some (.ref C)) (hr : Room (k + 1) X.A) (hx : ∀ σ, PassesAt (L2.CX X.prog X.w) X σ (E σ)) (ha : PA X (e :: es) t) (hg : Gl X x := by rfl)
    (hdb : (x == ("__debug__" : Str)) = false := by decide) (he : starEach (e :: es) X.env = (false, eval e X.env) :: starEach es X.env := by rfl) (hpl : (backTo pos (starEach es X.env)).any (·.1) = false := by rfl) :
    PE X (.Call (.Name x p) (e :: es) [] pos) (tMk C sp E t) := by
  obtain ⟨f, M, D⟩ := D
  refine ⟨fun pins s σ H Q I h => ?_⟩
  refine wpAny_Call_Name_kw (ld_glob I hg hm ?_ hdb)
  refine PySem.W.callWith_K (h₀ := X.base) I.ok.mod.kin M.kp (thn (ha.run pos pins s σ H _ I h) fun us s1 ⟨vs, H1, I1, r, q⟩ => ⟨I1.kIn, ?_⟩) he hpl
  exact run_mk M D hr (fun pins σ H s e s' I c => hx σ pins H s e s' I c) I1 r q
theorem pe_mk0 (D : MakeOk X.prog X.w X.K X.mg X.base k C ps sp) (hm : X.mg x = some (.ref C)) (hr : Room (k + 1) X.A) (hx : ∀ σ, PassesAt (L2.CX X.prog X.w) X σ (E σ)) (hg : Gl X x := by rfl)
    (hdb : (x == ("__debug__" : Str)) = false := by decide) : PE X (.Call (.Name x p) [] [] pos) (tMk C sp E tNil) := by
  obtain ⟨f, M, D⟩ := D
  refine ⟨fun pins s σ H Q I h => ?_⟩
  refine wpAny_Call_Name_kw (ld_glob I hg hm ?_ hdb)
  exact PySem.W.callWith_K0 I.kIn M.kp (run_mk (us := []) M D hr (fun pins σ H s e s' I c => hx σ pins H s e s' I c) I .nil h)
end
end Flow

/-! errors of our own with fields, except clauses with and without names, index in a tuple of ints -/
namespace Flow
open PySem PySem.Spec PyProof.Rows L2
def oexB (K : PySem.W.Frag) (C : Addr) : Bool := (match K.lookup C with
  | some ⟨.type "type", _, .cls cd, sl⟩ => (match cd.mro, sl.toList with
    | .ref C' :: bm, [_, _, _, _, some (.builtin n), _] => C' == C && n == "ValueError.__new__" && !cd.hasDel && cd.hasDict && PySem.HandSPX.refsVE bm
    | _, _ => false)
  | _ => false) && decide (PySem.W.findIn K (.ref C) "__setattr__" = some (some (.builtin "object.__setattr__"))) && decide (PySem.W.subIn K (.ref C) (.type "BaseException") = some true) && decide (PySem.W.typeIn K (.ref C) = some (.type "type")) && PySem.W.keepIn K (.ref C)
theorem oexB_ok {K : PySem.W.Frag} {C : Addr} (h : oexB K C = true) : OexC K C := by
  unfold oexB at h
  simp only [Bool.and_eq_true, decide_eq_true_eq] at h
  obtain ⟨⟨⟨⟨q, h2⟩, h3⟩, h4⟩, h5⟩ := h
  refine ⟨?_, h2, h3, h4, h5⟩
  split at q
  · rename_i dd cd sl ho
    split at q
    · rename_i C' bm k0 k1 k2 k3 n k5 hm hs
      simp only [Bool.and_eq_true, beq_iff_eq, Bool.not_eq_true'] at q
      obtain ⟨⟨⟨⟨rfl, rfl⟩, hdel⟩, hdi⟩, ht⟩ := q
      obtain ⟨nm, bs, mro, ns, qn, hd, sn, sub, ab, col, del⟩ := cd
      dsimp only at hm hdel hdi ht
      subst hm hdel hdi
      have hsl : sl = #[k0, k1, k2, k3, some (.builtin "ValueError.__new__"), k5] := by
        obtain ⟨l⟩ := sl
        simp only at hs
        rw [hs]
      subst hsl
      exact ⟨nm, qn, ns, bs, bm, sn, sub, ab, col, dd, k0, k1, k2, k3, k5, ho, ht⟩
    · cases q
  · cases q

/-! ### several except clauses, with and without a name -/
inductive Clause where
  | bare (c : Value) (ts : Addr → Value → Option Addr → TS)
  | named (i : Nat) (c : Value) (ts : Addr → Value → Option Addr → TS)
def wEach (K : PySem.W.Frag) (Wout : WX) (D : Ends) : List Clause → WX
  | [] => Wout
  | .bare c ts :: r => fun cls d σ H => ∃ b, PySem.W.exmOne K cls c = some b ∧ (b = true → ∀ a, H a = none → ts a cls d D σ H) ∧ (b = false → wEach K Wout D r cls d σ H)
  | .named i c ts :: r => fun cls d σ H => ∃ b, PySem.W.exmOne K cls c = some b ∧
      (b = true → ∀ a, H a = none → ts a cls d { nx := fun σ' H' => D.nx (σ'.set i none) H', rt := D.rt, bk := fun σ' H' => D.bk (σ'.set i none) H', ct := fun σ' H' => D.ct (σ'.set i none) H' } (σ.set i (some (.ref a))) H) ∧
      (b = false → wEach K Wout D r cls d σ H)
inductive Clauses (X : Cx) : List ExceptHandler → List Clause → Prop
  | nil : Clauses X [] []
  | bare {x : Str} {c : Value} {ts : Addr → Value → Option Addr → TS} {b₀ : Stmt} {suite : List Stmt} {np pos' : Pos} {hds : List ExceptHandler} {l : List Clause} (hc : Names X x c)
      (hsu : ∀ (a : Addr) (oe : Obj) (cls : Value) (d : Option Addr) (pn : List (Addr × Obj)), Zc cls d oe → (∃ vs, oe.data = .fields vs) → PSs (X.suite a ((a, oe) :: pn)) (b₀ :: suite) (ts a cls d)) (r : Clauses X hds l) :
      Clauses X (.ExceptHandler (some (.Name x np)) none (b₀ :: suite) pos' :: hds) (.bare c ts :: l)
  | named {x n : Str} {i : Nat} {c : Value} {ts : Addr → Value → Option Addr → TS} {b₀ : Stmt} {suite : List Stmt} {np pos' : Pos} {hds : List ExceptHandler} {l : List Clause} (hN : X.N.Nodup) (hi : X.N[i]? = some n) (hln : X.env.kindOf n = some .local) (hc : Names X x c)
      (hsu : ∀ (a : Addr) (oe : Obj) (cls : Value) (d : Option Addr) (pn : List (Addr × Obj)), Zc cls d oe → (∃ vs, oe.data = .fields vs) → PSs (X.suite a ((a, oe) :: pn)) (b₀ :: suite) (ts a cls d)) (r : Clauses X hds l) :
      Clauses X (.ExceptHandler (some (.Name x np)) (some n) (b₀ :: suite) pos' :: hds) (.named i c ts :: l)
section
variable {X : Cx} {body : List Stmt} {h₀ : ExceptHandler} {hds : List ExceptHandler} {l : List Clause} {pos : Pos} {tb : WX → TS} {Wout : WX}
theorem ps_try_each (hs : X.stack = X.env :: X.outer) (hf : X.env.frame = some X.env.locals) (tk : Takes X Wout)
    (hb : ∀ (W : WX) (pn : List (Addr × Obj)) (xe : Value → Shared → Prop), Takes (X.tr pn xe) W → PassesOwn (model X.prog X.w) X.A X.env xe → PSs (X.tr pn xe) body (tb W))
    (hh : Clauses X (h₀ :: hds) l) : PS X (.Try body (h₀ :: hds) [] [] pos) (fun D σ H => tb (wEach X.K Wout D l) D σ H) := by
  refine ⟨fun pins s σ H D I h => ?_⟩
  have ok := I.ok
  have hfr : X.A.frames = some (X.env :: X.outer) := by rw [ok.frames, hs]
  refine wpAny_Try_except ?_
  refine wpAny_mono ((hb (wEach X.K Wout D l) (X.pn ++ pins) (fun e s₁ => wpAny (model X.prog X.w) X.A (noteFrame e X.env) (fun _ s₂ => wpAny (model X.prog X.w) X.A (setFlight e none) (fun _ s₃ =>
    wpAny (model X.prog X.w) X.A (handleBy e X.env (h₀ :: hds)) (SP X pins D) X.xe s₃) X.xe s₂) X.xe s₁) (fun u s' xx => ?_) PassesOwn.looking).run [] s σ H D (I.toTry _) h) (fun f s1 hsp => ?_) (fun e s1 he => he)
  · -- the catch
    obtain ⟨a, B, sI, pins', σ', H', cls, d, rfl, J', nb, up, sky, na, os, ag, w⟩ := xx
    have J : Inv X pins σ' H' sI := J'.ofTry ok
    have sky' : Sky B (X.env :: X.outer) a (Zc cls d) X.env.locals s'.heap := by rw [← hs]; exact sky
    show wpAny (model X.prog X.w) X.A (noteFrame (.ref a) X.env) _ _ _
    refine Sky.land Zc.steady hfr hf sky' fun h3 fl3 up3 => ?_
    have J3 : Inv X pins σ' H' { s' with heap := h3 } := J.landed nb fl3.1 (up.trans up3) os ag
    obtain ⟨oe3, vs3, he3, hz3, hd3⟩ := fl3.there
    have notFr : ∀ {h : Heap} {o : Obj} {vs : Array Value}, h.FunFrames B (X.env :: X.outer) → h.get? a = some o → o.data = .fields vs → a ∉ frs (X.env :: X.outer) := fun {h o vs} ff e dd hm => by
      obtain ⟨_, o', e', hnf⟩ := ff.mem hm
      rw [e] at e'; cases e'
      exact hnf _ dd
    have nfr := notFr fl3.2.2.1 he3 hd3
    have nL : a ≠ X.env.locals := fun z => nfr (List.mem_filterMap.mpr ⟨X.env, List.mem_cons_self, by rw [hf, z]⟩)
    have nF : a ∉ X.fs := fun hm => by
      obtain ⟨e, he, q⟩ := List.mem_filterMap.mp hm
      exact nfr (List.mem_filterMap.mpr ⟨e, List.mem_cons_of_mem _ he, q⟩)
    have S3 := J3.suite he3 hd3 na nL nF
    have go : ∀ {hds' : List ExceptHandler} {l' : List Clause}, Clauses X hds' l' → wEach X.K Wout D l' cls d σ' H' →
        wpAny (model X.prog X.w) X.A (handleBy (.ref a) X.env hds') (SP X pins D) X.xe { s' with heap := h3 } := by
      intro hds' l' hk
      induction hk with
      | nil =>
        intro w
        refine wpAny_handleBy_nil ?_
        obtain ⟨k1, k2, k3, oe, vs, T, oT, ts', he, hz, hd, h1, hr⟩ := id fl3
        unfold PySem.passOn
        refine wpAny_bind (wpAny_field he hd h1 ?_)
        rw [if_neg (show ¬ ((Value.ref T == Value.none) = true) from by simp)]
        have fin : wpAny (model X.prog X.w) X.A (setFlight (.ref a) X.env.frame) (fun _ s4 => wpAny (model X.prog X.w) X.A (throw (.ref a) : Sem Flow) (SP X pins D) X.xe s4) X.xe { s' with heap := h3 } := by
          rw [hf]
          refine HandSPX.setFlight_upZ fl3 fun h4 hh4 up4 => wpAny_throw (tk _ _ ?_)
          exact ⟨a, B, sI, pins, σ', H', cls, d, rfl, J, nb, (up.trans up3).trans up4, .inr (.inr (by rw [hs]; exact hh4)), na, os, ag, w⟩
        first
          | exact wpAny_bind (wpAny_pure (wpAny_bind fin))
          | exact wpAny_bind fin
      | @bare x c ts b₀ suite np pos' hds2 l2 hc hsu r ih =>
        intro w
        obtain ⟨b, hb1, hyes, hno⟩ := w
        refine wpAny_handleBy_cons (codeAny_handlers_test ?_) (by intro q; cases q)
        have LT : PySem.W.Looks (model X.prog X.w) h3 (typeOf (.ref a)) cls := fun A Q E s k q => wpAny_typeOf_ref (k _ _ he3) (by rw [hz3.1]; exact q)
        have LM := PySem.W.exm_one (M := model X.prog X.w) (J3.kIn) LT hb1
        have test : ∀ {Q : Value → Shared → Prop} {E : Value → Shared → Prop}, Q c { s' with heap := h3 } → wpAny (model X.prog X.w) (X.A.mark (some (.ref a))) (eval (.Name x np) X.env) Q E { s' with heap := h3 } := fun {Q E} q => by
          obtain ⟨hg, hdbg, hm | ⟨hm, hv, hnn⟩⟩ := hc
          · exact ld_glob (X := X.suite a ((a, oe3) :: (X.pn ++ pins))) S3 hg hm q hdbg
          · exact ld_blt (X := X.suite a ((a, oe3) :: (X.pn ++ pins))) S3 hg hm hv q hnn hdbg
        refine test (LM.here ?_)
        cases b with
        | true =>
          refine codeAny_handlers_suite ?_
          refine HandSPX.lands_againZ fl3 fun h4 fl4 up4 => ?_
          have J4 : Inv X pins σ' H' { s' with heap := h4 } := J.landed nb fl4.1 ((up.trans up3).trans up4) os ag
          obtain ⟨oe4, vs4, he4, hz4, hd4⟩ := fl4.there
          have S4 := J4.suite he4 hd4 na nL nF
          refine wpAny_mono ((hsu a oe4 cls d (X.pn ++ pins) hz4 ⟨_, hd4⟩).run [] _ _ H' _ S4 (hyes rfl a na)) (fun f s6 hsp => ?_) (fun _ _ z => False.elim z)
          cases f with
          | next =>
            obtain ⟨σ6, H6, S6, q6⟩ := hsp
            exact ⟨_, _, S6.unsuite ok, q6⟩
          | brk =>
            obtain ⟨σ6, H6, S6, q6⟩ := hsp
            exact ⟨_, _, S6.unsuite ok, q6⟩
          | cont =>
            obtain ⟨σ6, H6, S6, q6⟩ := hsp
            exact ⟨_, _, S6.unsuite ok, q6⟩
          | ret u =>
            obtain ⟨v6, σ6, H6, S6, r6, q6⟩ := hsp
            exact ⟨_, _, _, S6.unsuite ok, r6, q6⟩
        | false =>
          show wpAny _ X.A (handleBy (.ref a) X.env hds2) _ _ _
          exact ih (hno rfl)
      | @named x n i c ts b₀ suite np pos' hds2 l2 hN hi hln hc hsu r ih =>
        intro w
        have hloc : Loc X.env.scope n := .inl hln
        obtain ⟨b, hb1, hyes, hno⟩ := w
        refine wpAny_handleBy_cons (codeAny_handlers_test ?_) (by intro q; cases q)
        have LT : PySem.W.Looks (model X.prog X.w) h3 (typeOf (.ref a)) cls := fun A Q E s k q => wpAny_typeOf_ref (k _ _ he3) (by rw [hz3.1]; exact q)
        have LM := PySem.W.exm_one (M := model X.prog X.w) (J3.kIn) LT hb1
        have test : ∀ {Q : Value → Shared → Prop} {E : Value → Shared → Prop}, Q c { s' with heap := h3 } → wpAny (model X.prog X.w) (X.A.mark (some (.ref a))) (eval (.Name x np) X.env) Q E { s' with heap := h3 } := fun {Q E} q => by
          obtain ⟨hg, hdbg, hm | ⟨hm, hv, hnn⟩⟩ := hc
          · exact ld_glob (X := X.suite a ((a, oe3) :: (X.pn ++ pins))) S3 hg hm q hdbg
          · exact ld_blt (X := X.suite a ((a, oe3) :: (X.pn ++ pins))) S3 hg hm hv q hnn hdbg
        refine test (LM.here ?_)
        cases b with
        | true =>
          refine codeAny_handlers_suite_as ?_
          refine HandSPX.lands_againZ fl3 fun h4 fl4 up4 => ?_
          have J4 : Inv X pins σ' H' { s' with heap := h4 } := J.landed nb fl4.1 ((up.trans up3).trans up4) os ag
          obtain ⟨oe4, vs4, he4, hz4, hd4⟩ := fl4.there
          have S4 := J4.suite he4 hd4 na nL nF
          refine store_ok (X := X.suite a ((a, oe4) :: (X.pn ++ pins))) (v := .ref a) S4 hN hi hloc rfl (fun s5 S5 => ?_) (.inr hln)
          refine wpAny_mono ((hsu a oe4 cls d (X.pn ++ pins) hz4 ⟨_, hd4⟩).run [] s5 _ H' _ S5 (hyes rfl a na)) (fun f s6 hsp => ?_) (fun _ _ z => False.elim z)
          have end_ : ∀ {σ6 : L2.St} {H6 : Hp} {Q : Shared → Prop}, Inv (X.suite a ((a, oe4) :: (X.pn ++ pins))) [] σ6 H6 s6 → (∀ s7, Inv X pins (σ6.set i none) H6 s7 → Q s7) →
              wpAny (model X.prog X.w) X.A (do bindName X.env n .none; unbindBehindTheSuite X.env n pos') (fun _ s7 => Q s7) X.xe s6 := fun {σ6 H6 Q} S6 hq => gone_ok (S6.unsuite ok) hN hi hln hq
          cases f with
          | next =>
            obtain ⟨σ6, H6, S6, q6⟩ := hsp
            exact end_ S6 fun s7 J7 => ⟨_, _, J7, q6⟩
          | brk =>
            obtain ⟨σ6, H6, S6, q6⟩ := hsp
            exact end_ S6 fun s7 J7 => ⟨_, _, J7, q6⟩
          | cont =>
            obtain ⟨σ6, H6, S6, q6⟩ := hsp
            exact end_ S6 fun s7 J7 => ⟨_, _, J7, q6⟩
          | ret u =>
            obtain ⟨v6, σ6, H6, S6, r6, q6⟩ := hsp
            exact end_ S6 fun s7 J7 => ⟨_, _, _, J7, r6, q6⟩
        | false =>
          show wpAny _ X.A (handleBy (.ref a) X.env hds2) _ _ _
          exact ih (hno rfl)
    exact go hh w
  · cases f with
    | next =>
      obtain ⟨σ', H', J', q⟩ := hsp
      exact wpAny_execs_nil ⟨σ', H', J'.ofTry ok, q⟩
    | brk =>
      obtain ⟨σ', H', J', q⟩ := hsp
      exact ⟨σ', H', J'.ofTry ok, q⟩
    | cont =>
      obtain ⟨σ', H', J', q⟩ := hsp
      exact ⟨σ', H', J'.ofTry ok, q⟩
    | ret u =>
      obtain ⟨v, σ', H', J', r, q⟩ := hsp
      exact ⟨v, σ', H', J'.ofTry ok, r, q⟩
end

/-! ### t.index(x), t a tuple of ints -/
section
variable {X : Cx}
def rTupIx (K : PySem.W.Frag) : V → List V → Hp → VK → Prop := fun x xs H Q => ∃ p, ∃ ys : List Int, ∃ z j, x = .ref p ∧ xs = [.int z] ∧ SqT K H p (ys.map V.int) ∧ ys[j]? = some z ∧ (∀ m, m < j → ys[m]? ≠ some z) ∧ Q (.int (j : Nat)) H
theorem flat_ints (ys : List Int) : (ys.map V.int).all flatV = true := by
  rw [List.all_map]
  exact List.all_eq_true.mpr fun _ _ => rfl
theorem mt_tupIx : MtR X "tuple.index" (rTupIx X.K) := by
  intro pins s σ H x xs v us Q I rx rs h
  obtain ⟨p, ys, z, j, rfl, rfl, hq, hy, hno, q⟩ := h
  cases rx
  obtain ⟨u, rfl, t, rfl⟩ := vals1 rs
  obtain ⟨its, r, pl, hz⟩ := I.tuple hq
  obtain ⟨⟨cls, dd, dt, sl⟩, ho, hc, n, hd⟩ := pl
  simp only at hc hd
  subst hc
  subst hd
  have hl : its.toArray.size = ys.length := by rw [List.size_toArray, ← r.length, List.length_map]
  have hj : j < its.toArray.size := by rw [hl]; exact (List.getElem?_eq_some_iff.mp hy).1
  have at' : ∀ (m : Nat) (hm : m < its.toArray.size), ∃ y t', ys[m]? = some y ∧ its.toArray[m] = Value.int y t' := fun m hm => by
    have hm' : m < ys.length := by rw [← hl]; exact hm
    obtain ⟨w, hw, t', hw'⟩ := r.get (i := m) (x := .int ys[m]) (by simp [hm'])
    refine ⟨ys[m], t', List.getElem?_eq_getElem hm', ?_⟩
    have e := (List.getElem?_eq_some_iff.mp hw).2
    rw [← hw', ← e]
    simp
  refine call_meets PySem.F.slot_tuple_index ⟨_, ho, rfl⟩ PySem.F.entry_tuple_index (PySem.F.args_tuple_index_2 _ _) (TI.tuple_indexAt p its.toArray n dd sl (.int z t) (eqU (.int z)) j hj ?_ ?_)
    ⟨ho, fun w hw => mem_eqAt (x := .int z) ⟨t, rfl⟩ rfl r (flat_ints ys) w (by simpa using hw), ⟨.int (j : Nat), H, I.tok _, ⟨_, rfl⟩, q⟩⟩
  · obtain ⟨y, t', h1, h2⟩ := at' j hj
    rw [hy] at h1
    cases h1
    rw [h2]
    show (z == z) = true
    exact beq_self_eq_true z
  · intro m hm hmj
    obtain ⟨y, t', h1, h2⟩ := at' m hm
    rw [h2]
    show (y == z) = false
    exact beq_eq_false_iff_ne.mpr fun e => hno m hmj (e ▸ h1)
end
end Flow

/-! steps of readings; a word of one's own, "x", that takes them -/
namespace Flow
open PySem PySem.Spec PyProof.Rows L2
/-! ### built-ins by names of our own -/
def rLen (K : PySem.W.Frag) : List V → Hp → VK → Prop := fun xs H Q => ∃ p ys, xs = [.ref p] ∧ (SqL K H p ys ∨ SqT K H p ys) ∧ Q (.int ys.length) H
def rListOf (K : PySem.W.Frag) : List V → Hp → VK → Prop := fun xs H Q => ∃ p ys, xs = [.ref p] ∧ (SqL K H p ys ∨ SqT K H p ys) ∧ ∀ l, H l = none → Q (.ref l) (upd H l (.lst ys))
def rTupleOf (K : PySem.W.Frag) : List V → Hp → VK → Prop := fun xs H Q => ∃ p ys, xs = [.ref p] ∧ ((SqL K H p ys ∧ ∀ l, H l = none → Q (.ref l) (upd H l (.tup ys))) ∨ (SqT K H p ys ∧ Q (.ref p) H))
def rMax2 : List V → Hp → VK → Prop := fun xs H Q => ∃ i j, xs = [.int i, .int j] ∧ Q (.int (if j > i then j else i)) H
def rMin2 : List V → Hp → VK → Prop := fun xs H Q => ∃ i j, xs = [.int i, .int j] ∧ Q (.int (if j < i then j else i)) H
def rInt1 : List V → Hp → VK → Prop := fun xs H Q => (∃ i, xs = [.int i] ∧ Q (.int i) H) ∨ ∃ k, xs = [.bl k] ∧ Q (.int (if k then 1 else 0)) H
def rInsert : V → List V → Hp → VK → Prop := fun x vs H Q => ∃ (l : Addr) (xs : List V) (i : Int) (y : V), x = .ref l ∧ vs = [.int i, y] ∧ H l = some (.lst xs) ∧ xs.length < sizeLine ∧ 0 ≤ i ∧ i < 2 ^ 63 ∧
    Q .non (upd H l (.lst (xs.take i.toNat ++ [y] ++ xs.drop i.toNat)))
def rIsN : R2 := fun x y H Q => y = .non ∧ Q (.bl (decide (x = .non))) H
def rNotN : R2 := fun x y H Q => y = .non ∧ Q (.bl (!decide (x = .non))) H
section
variable {X : Cx}
theorem call_lenS : CallR X (.builtin "len") (rLen X.K) := call_len_seq
theorem call_listS : CallR X (.type "list") (rListOf X.K) := call_list_of
theorem call_tupleS : CallR X (.type "tuple") (rTupleOf X.K) := call_tuple_of
theorem call_max2S (hc : X.calm = true) : CallR X (.builtin "max") rMax2 := call_max2 hc
theorem call_min2S (hc : X.calm = true) : CallR X (.builtin "min") rMin2 := call_min2 hc
theorem call_intS : CallR X (.type "int") rInt1 := call_int1
theorem mt_insertS : MtR X "list.insert" rInsert := mt_insert
theorem op_isNS : OpR X (compareOp .Is) rIsN := op_isN
theorem op_notNS : OpR X (compareOp .IsNot) rNotN := op_notN
theorem pe_ci {x : Str} {i : Int} {pos : Pos} (hm : ∃ t, X.mg x = some (.int i t)) (hg : Gl X x := by rfl) (hd : (x == ("__debug__" : Str)) = false := by decide) : PE X (.Name x pos) (tC (.int i)) := by
  obtain ⟨t, hm⟩ := hm
  exact pe_glob hg hm ⟨t, rfl⟩ hd
theorem pe_gr {x : Str} {a : Addr} {pos : Pos} (hm : X.mg x = some (.ref a)) (hg : Gl X x := by rfl) (hd : (x == ("__debug__" : Str)) = false := by decide) : PE X (.Name x pos) (tC (.ref a)) := pe_glob hg hm rfl hd
/-- a value's truth -/
def rTru (K : PySem.W.Frag) : V → Hp → (Bool → Hp → Prop) → Prop := fun x H Q => ∃ k, TruV K x H k ∧ Q k H
def tTru (K : PySem.W.Frag) (ta : TE) : TT := fun σ H Q => ta σ H fun x H1 => rTru K x H1 Q
theorem pt_truthS {a : Expr} {ta : TE} (ha : PE X a ta) (he : ∀ whole, isTrue a X.env whole = (do let v ← whole; standAt a.pos; holding [v] (truthy v))) : PT X a (tTru X.K ta) := pt_truth ha he
end

/-! ### pieces of readings by names of our own -/
section
variable {K : PySem.W.Frag} {σ : L2.St} {H : Hp} {ta tb te tv : TE} {t u c : TT} {i j : Nat} {v x y : V} {r : R2} {Q : VK} {B : Bool → Hp → Prop} {D : Ends} {t1 t2 : TS} {f : Str} {a C dx p l : Addr} {fs fs' : List (Str × V)} {vs xs ys : List V} {m n : Int}
def rFld (K : PySem.W.Frag) (f : Str) : V → Hp → VK → Prop := fun x H1 Q => ∃ a C dx fs v, x = .ref a ∧ H1 a = some (.ins C dx fs) ∧ Cls K C ∧ NoAttr K C f ∧ fs.lookup f = some v ∧ Q v H1
def rSFld (K : PySem.W.Frag) (f : Str) (y : V) : V → Hp → (Hp → Prop) → Prop := fun x H2 Q => ∃ a C dx fs, x = .ref a ∧ H2 a = some (.ins C dx fs) ∧ Cls K C ∧ NoAttr K C f ∧ fs.length < 1000 ∧ Q (upd H2 a (.ins C dx (putF f y fs)))
def rBl : V → Hp → (Bool → Hp → Prop) → Prop := fun x H Q => ∃ k, x = .bl k ∧ Q k H
def rBV : V → Hp → (Bool → Hp → Prop) → Prop := fun x H Q => ∃ c, x = .bl c ∧ Q c H
def rLst : List V → Hp → VK → Prop := fun xs H Q => xs.length ≤ sizeLine ∧ ∀ p, H p = none → Q (.ref p) (upd H p (.lst xs))
def rTup : List V → Hp → VK → Prop := fun xs H Q => xs.length ≤ sizeLine ∧ ∀ p, H p = none → Q (.ref p) (upd H p (.tup xs))
def rPart : V → Hp → (Option Int → Hp → Prop) → Prop := fun x H Q => ∃ i, x = .int i ∧ Q (some i) H
theorem x_var (h : σ[i]? = some (some v)) (q : Q v H) : tVar i σ H Q := ⟨v, h, q⟩
theorem x_c (q : Q v H) : tC v σ H Q := q
theorem x_op (q : ta σ H fun x H1 => tb σ H1 fun y H2 => r x y H2 Q) : tOp r ta tb σ H Q := q
theorem x_un {r : V → Hp → VK → Prop} (q : ta σ H fun x H1 => r x H1 Q) : tUn r ta σ H Q := q
theorem x_rI0 {g : Int → Int → V} (q : Q (g m n) H) : rI0 g (.int m) (.int n) H Q := ⟨m, n, rfl, rfl, q⟩
theorem x_rI {C : Int → Int → Prop} {g : Int → Int → V} (hc : C m n) (q : Q (g m n) H) : rI C g (.int m) (.int n) H Q := ⟨m, n, rfl, rfl, hc, q⟩
theorem x_rU {g : Int → V} (q : Q (g m) H) : rU g (.int m) H Q := ⟨m, rfl, q⟩
theorem dec_int (m n : Int) : decide (V.int m = V.int n) = decide (m = n) := by
  by_cases h : m = n
  · rw [h, decide_eq_true rfl, decide_eq_true rfl]
  · rw [decide_eq_false h, decide_eq_false (fun e => h (V.int.inj e))]
theorem dec_str (m n : Str) : decide (V.str m = V.str n) = decide (m = n) := by
  by_cases h : m = n
  · rw [h, decide_eq_true rfl, decide_eq_true rfl]
  · rw [decide_eq_false h, decide_eq_false (fun e => h (V.str.inj e))]
theorem x_eqI (q : Q (.bl (decide (m = n))) H) : rEq (.int m) (.int n) H Q := ⟨rfl, by rw [dec_int]; exact q⟩
theorem x_neI (q : Q (.bl (!decide (m = n))) H) : rNe (.int m) (.int n) H Q := ⟨rfl, by rw [dec_int]; exact q⟩
theorem x_eqS {m n : Str} (q : Q (.bl (decide (m = n))) H) : rEq (.str m) (.str n) H Q := ⟨rfl, by rw [dec_str]; exact q⟩
theorem x_neS {m n : Str} (q : Q (.bl (!decide (m = n))) H) : rNe (.str m) (.str n) H Q := ⟨rfl, by rw [dec_str]; exact q⟩
theorem x_isN (q : Q (.bl (decide (x = .non))) H) : rIsN x .non H Q := ⟨rfl, q⟩
theorem x_notN (q : Q (.bl (!decide (x = .non))) H) : rNotN x .non H Q := ⟨rfl, q⟩
theorem x_fld (q : ta σ H fun x H1 => rFld K f x H1 Q) : tFld K ta f σ H Q := q
theorem x_rFld (h : H a = some (.ins C dx fs)) (c : Cls K C) (n : NoAttr K C f) (l : fs.lookup f = some v) (q : Q v H) : rFld K f (.ref a) H Q := ⟨a, C, dx, fs, v, rfl, h, c, n, l, q⟩
theorem x_sFld (q : tv σ H fun y H1 => ta σ H1 fun x H2 => rSFld K f y x H2 (D.nx σ)) : sFld K ta tv f D σ H := q
theorem x_rSFld {Q : Hp → Prop} (h : H a = some (.ins C dx fs)) (c : Cls K C) (n : NoAttr K C f) (hl : fs.length < 1000) (e : putF f y fs = fs') (q : Q (upd H a (.ins C dx fs'))) : rSFld K f y (.ref a) H Q := by
  subst e
  exact ⟨a, C, dx, fs, rfl, h, c, n, hl, q⟩
theorem x_test (q : te σ H fun x H1 => rBl x H1 B) : tTest te σ H B := q
theorem x_B (q : te σ H fun x H1 => rBV x H1 B) : tB te σ H B := q
theorem x_rBl {b : Bool} (q : B b H) : rBl (.bl b) H B := ⟨b, rfl, q⟩
theorem x_rBV {b : Bool} (q : B b H) : rBV (.bl b) H B := ⟨b, rfl, q⟩
theorem x_tru (q : ta σ H fun x H1 => rTru K x H1 B) : tTru K ta σ H B := q
theorem x_and (q : t σ H fun c H1 => if c = true then u σ H1 B else B false H1) : tAnd t u σ H B := q
theorem x_or (q : t σ H fun c H1 => if c = true then B true H1 else u σ H1 B) : tOr t u σ H B := q
theorem x_not (q : t σ H fun c H1 => B (!c) H1) : tNot t σ H B := q
def rAndV (tb : TE) (σ : L2.St) : V → Hp → VK → Prop := fun x H1 Q => ∃ c, x = .bl c ∧ if c = true then tb σ H1 Q else Q (.bl false) H1
def rOrV (tb : TE) (σ : L2.St) : V → Hp → VK → Prop := fun x H1 Q => ∃ c, x = .bl c ∧ if c = true then Q (.bl true) H1 else tb σ H1 Q
def rNotV : V → Hp → VK → Prop := fun x H1 Q => ∃ c, x = .bl c ∧ Q (.bl (!c)) H1
theorem x_andV (q : ta σ H fun x H1 => rAndV tb σ x H1 Q) : tAndV ta tb σ H Q := q
theorem x_orV (q : ta σ H fun x H1 => rOrV tb σ x H1 Q) : tOrV ta tb σ H Q := q
theorem x_notV (q : ta σ H fun x H1 => rNotV x H1 Q) : tNotV ta σ H Q := q
theorem x_rAndV {b : Bool} (q : if b = true then tb σ H Q else Q (.bl false) H) : rAndV tb σ (.bl b) H Q := ⟨b, rfl, q⟩
theorem x_rOrV {b : Bool} (q : if b = true then Q (.bl true) H else tb σ H Q) : rOrV tb σ (.bl b) H Q := ⟨b, rfl, q⟩
theorem x_rNotV {b : Bool} (q : Q (.bl (!b)) H) : rNotV (.bl b) H Q := ⟨b, rfl, q⟩
theorem x_if (q : t σ H fun c H1 => if c = true then ta σ H1 Q else tb σ H1 Q) : tIf t ta tb σ H Q := q
def rChain (r' : R2) (tc : TE) (σ : L2.St) (y : V) : V → Hp → VK → Prop := fun z H3 Q => ∃ k, z = .bl k ∧ if k = true then tc σ H3 fun w H4 => r' y w H4 Q else Q (.bl false) H3
theorem x_chain {r' : R2} {tc : TE} (q : ta σ H fun x H1 => tb σ H1 fun y H2 => r x y H2 fun z H3 => rChain r' tc σ y z H3 Q) : tChain r r' ta tb tc σ H Q := q
theorem x_rChain {r' : R2} {tc : TE} {b : Bool} (q : if b = true then tc σ H fun w H4 => r' y w H4 Q else Q (.bl false) H) : rChain r' tc σ y (.bl b) H Q := ⟨b, rfl, q⟩
theorem x_nil {Q : List V → Hp → Prop} (q : Q [] H) : tNil σ H Q := q
theorem x_cons {tr : TA} {Q : List V → Hp → Prop} (q : ta σ H fun x H1 => tr σ H1 fun xs H2 => Q (x :: xs) H2) : tCons ta tr σ H Q := q
theorem x_lst {t : TA} (q : t σ H fun xs H1 => rLst xs H1 Q) : tLst t σ H Q := q
theorem x_tup {t : TA} (q : t σ H fun xs H1 => rTup xs H1 Q) : tTup t σ H Q := q
theorem x_rLst (hl : vs.length ≤ sizeLine) (q : ∀ p, H p = none → Q (.ref p) (upd H p (.lst vs))) : rLst vs H Q := ⟨hl, q⟩
theorem x_rTup (hl : vs.length ≤ sizeLine) (q : ∀ p, H p = none → Q (.ref p) (upd H p (.tup vs))) : rTup vs H Q := ⟨hl, q⟩
theorem x_cb {r : List V → Hp → VK → Prop} {t : TA} (q : t σ H fun vs H1 => r vs H1 Q) : tCB r t σ H Q := q
theorem x_len (h : SqL K H p ys ∨ SqT K H p ys) (q : Q (.int ys.length) H) : rLen K [.ref p] H Q := ⟨p, ys, rfl, h, q⟩
theorem x_listOf (h : SqL K H p ys ∨ SqT K H p ys) (q : ∀ l, H l = none → Q (.ref l) (upd H l (.lst ys))) : rListOf K [.ref p] H Q := ⟨p, ys, rfl, h, q⟩
theorem x_max2 (q : Q (.int (if n > m then n else m)) H) : rMax2 [.int m, .int n] H Q := ⟨m, n, rfl, q⟩
theorem x_min2 (q : Q (.int (if n < m then n else m)) H) : rMin2 [.int m, .int n] H Q := ⟨m, n, rfl, q⟩
def rTy (K : PySem.W.Frag) (T : String) (r : V → List V → Hp → VK → Prop) (t : TA) (σ : L2.St) : V → Hp → VK → Prop := fun x H1 Q => tyV K T x H1 ∧ t σ H1 fun xs H2 => r x xs H2 Q
def rTy0 (K : PySem.W.Frag) (T : String) (r : V → List V → Hp → VK → Prop) : V → Hp → VK → Prop := fun x H1 Q => tyV K T x H1 ∧ r x [] H1 Q
theorem x_bm {T : String} {r : V → List V → Hp → VK → Prop} {t : TA} (q : ta σ H fun x H1 => rTy K T r t σ x H1 Q) : tBM K T r ta t σ H Q := q
theorem x_bm0 {T : String} {r : V → List V → Hp → VK → Prop} (q : ta σ H fun x H1 => rTy0 K T r x H1 Q) : tBM0 K T r ta σ H Q := q
theorem x_tyL {r : V → List V → Hp → VK → Prop} {t : TA} (h : H p = some (.lst xs)) (q : t σ H fun ws H2 => r (.ref p) ws H2 Q) : rTy K "list" r t σ (.ref p) H Q := ⟨.inl ⟨rfl, xs, SqL.of h⟩, q⟩
theorem x_tyL' {r : V → List V → Hp → VK → Prop} {t : TA} (h : SqL K H p xs) (q : t σ H fun ws H2 => r (.ref p) ws H2 Q) : rTy K "list" r t σ (.ref p) H Q := ⟨.inl ⟨rfl, xs, h⟩, q⟩
theorem x_tyL0 {r : V → List V → Hp → VK → Prop} (h : H p = some (.lst xs)) (q : r (.ref p) [] H Q) : rTy0 K "list" r (.ref p) H Q := ⟨.inl ⟨rfl, xs, SqL.of h⟩, q⟩
theorem x_append (h : H l = some (.lst xs)) (hl : xs.length < sizeLine) (q : Q .non (upd H l (.lst (xs ++ [y])))) : rAppend (.ref l) [y] H Q := ⟨l, xs, y, rfl, rfl, h, hl, q⟩
theorem x_extend (h : H l = some (.lst xs)) (h2 : H p = some (.lst ys)) (hl : xs.length + ys.length ≤ sizeLine) (q : Q .non (upd H l (.lst (xs ++ ys)))) : rExtend (.ref l) [.ref p] H Q := ⟨l, p, xs, ys, rfl, rfl, h, h2, hl, q⟩
theorem x_cat (h : H l = some (.lst xs)) (h2 : H p = some (.lst ys)) (hl : xs.length + ys.length ≤ sizeLine) (q : ∀ r, H r = none → Q (.ref r) (upd H r (.lst (xs ++ ys)))) : rCat (.ref l) (.ref p) H Q := ⟨l, p, xs, ys, rfl, rfl, h, h2, hl, q⟩
theorem x_ixL (h : SqL K H p xs) (e : atI xs m = some v) (q : Q v H) : rIxL K (.ref p) (.int m) H Q := ⟨p, xs, m, v, rfl, rfl, h, e, q⟩
theorem x_ixT (h : SqT K H p xs) (e : atI xs m = some v) (q : Q v H) : rIxT K (.ref p) (.int m) H Q := ⟨p, xs, m, v, rfl, rfl, h, e, q⟩
theorem x_sl {r : V → Option Int → Option Int → Hp → VK → Prop} {tl th : TO} (q : te σ H fun x H1 => tl σ H1 fun l H2 => th σ H2 fun u H3 => r x l u H3 Q) : tSl r te tl th σ H Q := q
theorem x_noPart {Q : Option Int → Hp → Prop} (q : Q none H) : tNoPart σ H Q := q
theorem x_part {Q : Option Int → Hp → Prop} (q : te σ H fun x H1 => rPart x H1 Q) : tPart te σ H Q := q
theorem x_rPart {Q : Option Int → Hp → Prop} (q : Q (some m) H) : rPart (.int m) H Q := ⟨m, rfl, q⟩
theorem x_slL {lo hi : Option Int} (h : SqL K H p xs) (q : ∀ l, H l = none → Q (.ref l) (upd H l (.lst (cutV xs lo hi)))) : rSlL K (.ref p) lo hi H Q := ⟨p, xs, rfl, h, q⟩
theorem x_in {neg : Bool} (h : SqL K H p xs ∨ SqT K H p xs) (fx : flatV x = true) (fa : xs.all flatV = true) (q : Q (.bl (if neg then !inV x xs else inV x xs)) H) : rIn K neg x (.ref p) H Q := ⟨p, xs, rfl, h, fx, fa, q⟩
/-! statements -/
theorem x_seq (q : t1 { D with nx := t2 D } σ H) : tSeq t1 t2 D σ H := q
theorem x_next (q : D.nx σ H) : tNext D σ H := q
theorem x_brk (q : D.bk σ H) : tBreak D σ H := q
theorem x_ct (q : D.ct σ H) : tCont D σ H := q
theorem x_drop (q : te σ H fun _ H1 => D.nx σ H1) : tDrop te D σ H := q
theorem x_ret (q : te σ H D.rt) : tRet te D σ H := q
theorem x_retN (q : D.rt .non H) : tRetN D σ H := q
theorem x_ifS (q : c σ H fun b H1 => if b = true then t1 D σ H1 else t2 D σ H1) : tIfS c t1 t2 D σ H := q
theorem x_asg {g : TG} (q : te σ H fun x H1 => g x σ H1 D.nx) : tAsg te g D σ H := q
theorem x_gName {Q : L2.St → Hp → Prop} (q : Q (σ.set i (some v)) H) : gName i v σ H Q := q
/-! calls -/
theorem x_fn {sp : Sp} {E : L2.St → XK} {t : TA} (q : t σ H fun vs H1 => sp vs H1 Q (E σ)) : tFn sp E t σ H Q := q
def rMm (ok : Addr → Prop) (m : Str) (sp : Addr → Sp) (E : XK) (t : TA) (σ : L2.St) : V → Hp → VK → Prop := fun x H1 Q => ∃ a C dx fs, x = .ref a ∧ H1 a = some (.ins C dx fs) ∧ ok C ∧ fs.lookup m = none ∧ t σ H1 fun vs H2 => sp C (x :: vs) H2 Q E
theorem x_mm {ok : Addr → Prop} {m : Str} {sp : Addr → Sp} {E : L2.St → XK} {t : TA} (q : ta σ H fun x H1 => rMm ok m sp (E σ) t σ x H1 Q) : tMm ok m sp E ta t σ H Q := q
theorem x_rMm {ok : Addr → Prop} {m : Str} {sp : Addr → Sp} {E : XK} {t : TA} (h : H a = some (.ins C dx fs)) (hc : ok C) (hl : fs.lookup m = none) (q : t σ H fun vs H2 => sp C (.ref a :: vs) H2 Q E) : rMm ok m sp E t σ (.ref a) H Q :=
  ⟨a, C, dx, fs, rfl, h, hc, hl, q⟩
def rMu (P : Program) (w : World) (K : PySem.W.Frag) (mg : Str → Option Value) (base : Heap) (k : Nat) (m : Str) (ps : List Str) (E : XK) (t : TA) (σ : L2.St) : V → Hp → VK → Prop := fun x H1 Q => ∃ (a C dx : Addr) (fs : List (Str × V)) (sp : Sp), x = .ref a ∧ H1 a = some (.ins C dx fs) ∧
  MethOk P w K mg base k C m ps sp ∧ fs.lookup m = none ∧ t σ H1 fun vs H2 => sp (x :: vs) H2 Q E
theorem x_mu {P : Program} {w : World} {mg : Str → Option Value} {base : Heap} {k : Nat} {m : Str} {ps : List Str} {E : L2.St → XK} {t : TA} (q : ta σ H fun x H1 => rMu P w K mg base k m ps (E σ) t σ x H1 Q) : tMu P w K mg base k m ps E ta t σ H Q := q
theorem x_rMu {P : Program} {w : World} {mg : Str → Option Value} {base : Heap} {k : Nat} {m : Str} {ps : List Str} {E : XK} {t : TA} {sp : Sp} (h : H a = some (.ins C dx fs)) (D : MethOk P w K mg base k C m ps sp) (hl : fs.lookup m = none)
    (q : t σ H fun vs H2 => sp (.ref a :: vs) H2 Q E) : rMu P w K mg base k m ps E t σ (.ref a) H Q := ⟨a, C, dx, fs, sp, rfl, h, D, hl, q⟩
theorem x_mk {sp : Sp} {E : L2.St → XK} {t : TA} (q : t σ H fun vs H1 => ∀ x dx, H1 x = none → H1 dx = none → dx ≠ x → sp (.ref x :: vs) (upd (upd H1 dx (.own x)) x (.ins C dx [])) (fun v H2 => v = .non ∧ Q (.ref x) H2) (E σ)) : tMk C sp E t σ H Q := q
end
/-! ### tests -/
theorem ite_d {p A B : Prop} [Decidable p] (h1 : p → A) (h2 : ¬ p → B) : if decide p = true then A else B := by
  by_cases h : p
  · rw [if_pos (decide_eq_true h)]
    exact h1 h
  · rw [if_neg (by rw [decide_eq_false h]; exact Bool.false_ne_true)]
    exact h2 h
theorem ite_nd {p A B : Prop} [Decidable p] (h1 : ¬ p → A) (h2 : p → B) : if (!decide p) = true then A else B := by
  by_cases h : p
  · rw [decide_eq_true h]
    exact iteF (h2 h)
  · rw [decide_eq_false h]
    exact iteT (h1 h)
theorem ite_b {b : Bool} {A B : Prop} (h1 : b = true → A) (h2 : b = false → B) : if b = true then A else B := by
  cases b with
  | true => exact iteT (h1 rfl)
  | false => exact iteF (h2 rfl)
theorem ite_nb {b : Bool} {A B : Prop} (h1 : b = false → A) (h2 : b = true → B) : if (!b) = true then A else B := by
  cases b with
  | true => exact iteF (h2 rfl)
  | false => exact iteT (h1 rfl)
/-! ### heaps -/
theorem upd_none {H : Hp} {a l : Addr} {o : HO} (h : upd H a o l = none) : l ≠ a ∧ H l = none := by
  by_cases e : l = a
  · rw [e, upd_same] at h
    cases h
  · rw [upd_ne e] at h
    exact ⟨e, h⟩
theorem upd_get {H : Hp} {a b : Addr} {o : HO} {u : Option HO} (h : b ≠ a) (q : H b = u) : upd H a o b = u := (upd_ne h).trans q
theorem sz1 {n : Nat} (h : n ≤ 1000) : n ≤ sizeLine := Nat.le_trans h (by decide)
/-- what changed lies among the given places, or is new -/
structure Only' (S : List Addr) (H H' : Hp) : Prop where
  at_ : ∀ b o, H b = some o → b ∉ S → H' b = some o
  more : ∀ b o, H b = some o → ∃ o', H' b = some o'
instance {S : List Addr} {H H' : Hp} : CoeFun (Only' S H H') (fun _ => ∀ b o, H b = some o → b ∉ S → H' b = some o) := ⟨Only'.at_⟩
theorem Only'.refl {S : List Addr} {H : Hp} : Only' S H H := ⟨fun _ _ h _ => h, fun _ o h => ⟨o, h⟩⟩
theorem Only'.trans {S : List Addr} {H H1 H2 : Hp} (a : Only' S H H1) (b : Only' S H1 H2) : Only' S H H2 := ⟨fun c o h n => b c o (a c o h n) n, fun c o h => by
  obtain ⟨o1, h1⟩ := a.more c o h
  exact b.more c o1 h1⟩
theorem upd_more {H : Hp} {p b : Addr} {o u : HO} (h : H b = some u) : ∃ o', upd H p o b = some o' := by
  by_cases e : b = p
  · exact ⟨o, by rw [e, upd_same]⟩
  · exact ⟨u, upd_get e h⟩
theorem Only'.put {S : List Addr} {H H' : Hp} {p : Addr} {o : HO} (e : Only' S H H') (h : p ∈ S) : Only' S H (upd H' p o) := ⟨fun b u hb n => upd_get (fun z => n (z ▸ h)) (e b u hb n), fun b u hb => by
  obtain ⟨o1, h1⟩ := e.more b u hb
  exact upd_more h1⟩
theorem Only'.mono {S S' : List Addr} {H H' : Hp} (e : Only' S H H') (h : ∀ a, a ∈ S → a ∈ S') : Only' S' H H' := ⟨fun b o hb n => e b o hb fun z => n (h b z), e.more⟩
/-- .. a place that was free may change too -/
theorem Only'.put0 {S : List Addr} {H H' : Hp} {p : Addr} {o : HO} (e : Only' S H H') (h : H p = none) : Only' S H (upd H' p o) := ⟨fun b u hb n => upd_get (ne_of_none hb h) (e b u hb n), fun b u hb => by
  obtain ⟨o1, h1⟩ := e.more b u hb
  exact upd_more h1⟩
/-- what is free behind was free ahead -/
theorem Only'.free {S : List Addr} {H H' : Hp} {r : Addr} (e : Only' S H H') (h : H' r = none) : H r = none := by
  cases z : H r with
  | none => rfl
  | some o =>
    obtain ⟨o', q⟩ := e.more r o z
    rw [h] at q
    cases q
theorem Only'.new {S : List Addr} {H H' : Hp} {p : Addr} {o : HO} (e : Only' S H H') (h : H' p = none) : Only' S H (upd H' p o) := e.put0 (e.free h)
end Flow

/-! the mirror: what the program computes, as plain functions over lists of whole numbers -/
namespace Flow
abbrev Row := List Int
def signsT : List Int := [45, 48, 49, 50, 51, 52, 53, 54, 55, 56, 57, 65, 66, 67, 68, 69, 70, 71, 72, 73, 74, 75, 76, 77, 78, 79, 80, 81, 82, 83, 84, 85, 86, 87, 88, 89, 90, 95, 97, 98, 99, 100, 101, 102, 103, 104, 105, 106, 107, 108, 109, 110, 111, 112, 113, 114, 115, 116, 117, 118, 119, 120, 121, 122]
def powersT : List Int := [1, 2, 4, 8, 16, 32, 64, 128]
/-- the item at a place (0 where there is none) -/
def gI (xs : List Int) (i : Int) : Int := xs.getD i.toNat 0
/-- a byte -/
def By (b : Int) : Prop := 0 ≤ b ∧ b < 256
def Bys (xs : Row) : Prop := ∀ b, b ∈ xs → By b
def marksOf (b : Int) : Row := [b % 256, (b + 1) % 256, (b + 2) % 256, (b + 3) % 256]

/-! ### writers -/
inductive WSt where
  | add (key : Row) (at_ : Int)
  | front (row : Row)
  | esc (b : Int)
  | runs (many byte : Int)
  | chunks (size : Int) (held : Row)
  | checks (size many check : Int)
  | signs (many value : Int)
def nextCheck (check b : Int) : Int := (check * 257 + b + 1) % 65521
def checkBytes (check : Int) : Row := [check / 256, check % 256]
def signOf (i : Int) : Int := gI signsT i
def pow2 (m : Int) : Int := gI powersT m
def takeAdd (key : Row) (at_ b : Int) : Row × WSt := ([(b + gI key at_) % 256], .add key ((at_ + 1) % (key.length : Int)))
def moveFront (row : Row) (k : Nat) : Row := row.getD k 0 :: row.eraseIdx k
def takeFront (row : Row) (b : Int) : Row × WSt := ([(row.idxOf b : Int)], .front (moveFront row (row.idxOf b)))
def escOut (e b : Int) : Row := if b = e % 256 then [(e + 1) % 256, (e + 2) % 256] else if b = (e + 1) % 256 then [(e + 1) % 256, (e + 3) % 256] else [b]
def takeRuns (many byte b : Int) : Row × WSt :=
  if many > 0 ∧ b ≠ byte then ([many, byte], .runs 1 b)
  else if many + 1 = 255 then ([255, b], .runs 0 b) else ([], .runs (many + 1) b)
def takeChunks (size : Int) (held : Row) (b : Int) : Row × WSt :=
  if ((held ++ [b]).length : Int) = size then (((held ++ [b]).length : Int) :: (held ++ [b]), .chunks size []) else ([], .chunks size (held ++ [b]))
def takeChecks (size many check b : Int) : Row × WSt :=
  if many + 1 < size then ([b], .checks size (many + 1) (nextCheck check b)) else (b :: checkBytes (nextCheck check b), .checks size 0 (nextCheck check b))
def takeSigns (many value b : Int) : Row × WSt :=
  if many + 2 ≥ 6 then ([signOf ((value * 256 + b) / pow2 (many + 2)), signOf ((value * 256 + b) % pow2 (many + 2) / pow2 (many + 2 - 6))], .signs (many + 2 - 6) ((value * 256 + b) % pow2 (many + 2) % pow2 (many + 2 - 6)))
  else ([signOf ((value * 256 + b) / pow2 (many + 2))], .signs (many + 2) ((value * 256 + b) % pow2 (many + 2)))
def wtake : WSt → Int → Row × WSt
  | .add key at_, b => takeAdd key at_ b
  | .front row, b => takeFront row b
  | .esc e, b => (escOut e b, .esc e)
  | .runs many byte, b => takeRuns many byte b
  | .chunks size held, b => takeChunks size held b
  | .checks size many check, b => takeChecks size many check b
  | .signs many value, b => takeSigns many value b
def wend : WSt → Row
  | .add _ _ => []
  | .front _ => []
  | .esc _ => []
  | .runs many byte => if many = 0 then [] else [many, byte]
  | .chunks _ held => (held.length : Int) :: held
  | .checks _ _ check => checkBytes check
  | .signs many value => if many = 0 then [] else [signOf (value * pow2 (6 - many))]
/-- what a writer is behind its end -/
def wended : WSt → WSt
  | .runs _ byte => .runs 0 byte
  | .chunks size _ => .chunks size []
  | .checks size _ check => .checks size 0 check
  | s => s
def WOk : WSt → Prop
  | .add key at_ => 1 ≤ key.length ∧ key.length ≤ 8 ∧ Bys key ∧ 0 ≤ at_ ∧ at_ < (key.length : Int)
  | .front row => row.length = 256 ∧ ∀ b, By b → b ∈ row
  | .esc e => By e
  | .runs many byte => 0 ≤ many ∧ many < 255 ∧ By byte
  | .chunks size held => 1 ≤ size ∧ size ≤ 255 ∧ (held.length : Int) < size ∧ Bys held
  | .checks size many check => 1 ≤ size ∧ size ≤ 255 ∧ 0 ≤ many ∧ many < size ∧ 0 ≤ check ∧ check < 65521
  | .signs many value => (many = 0 ∨ many = 2 ∨ many = 4) ∧ 0 ≤ value ∧ value < pow2 many
/-- a row through one writer -/
def wfeed : WSt → Row → Row × WSt
  | s, [] => ([], s)
  | s, b :: r => ((wtake s b).1 ++ (wfeed (wtake s b).2 r).1, (wfeed (wtake s b).2 r).2)
/-- a row through writers, one behind the other -/
def wthru : List WSt → Row → Row × List WSt
  | [], r => (r, [])
  | s :: ss, r => ((wthru ss (wfeed s r).1).1, (wfeed s r).2 :: (wthru ss (wfeed s r).1).2)
/-- the ends, from the first on -/
def wendAll : Nat → List WSt → Row
  | 0, _ => []
  | _ + 1, [] => []
  | n + 1, s :: ss => (wthru ss (wend s)).1 ++ wendAll n (wthru ss (wend s)).2
/-- all rows between are of a size that a list may have -/
def WFits : List WSt → Row → Prop
  | [], r => r.length ≤ 16777216
  | s :: ss, r => r.length ≤ 16777216 ∧ WFits ss (wfeed s r).1
def WEndFits : Nat → List WSt → Prop
  | 0, _ => True
  | _ + 1, [] => True
  | n + 1, s :: ss => WFits ss (wend s) ∧ WEndFits n (wthru ss (wend s)).2

/-! ### readers -/
inductive RSt where
  | add (key : Row) (at_ : Int)
  | front (row : Row)
  | esc (b done : Int) (marked : Bool)
  | runs (done many lastN lastB : Int)
  | chunks (size done left : Int) (isLast : Bool)
  | checks (size done check : Int) (held : Row)
  | signs (done many value : Int)
def checkAll : Int → Row → Int
  | c, [] => c
  | c, b :: r => checkAll (nextCheck c b) r
/-- what comes of a byte: a fault at a place, or bytes -/
inductive RTake where
  | wrong (place : Int)
  | ok (row : Row) (s : RSt)
inductive REnd where
  | wrong (place : Int)
  | cut
  | ok (row : Row)
def blockRow (held : Row) : Row := held.take (held.length - 2)
def blockTail (held : Row) : Row := held.drop (held.length - 2)
def rtake : RSt → Int → RTake
  | .add key at_, b => .ok [(b - gI key at_) % 256] (.add key ((at_ + 1) % (key.length : Int)))
  | .front row, b => .ok [gI row b] (.front (moveFront row b.toNat))
  | .esc e done marked, b =>
    if marked = true then
      if b = (e + 2) % 256 then .ok [e % 256] (.esc e (done + 1) false)
      else if b = (e + 3) % 256 then .ok [(e + 1) % 256] (.esc e (done + 1) false)
      else .wrong done
    else if b = e % 256 then .wrong done
    else if b = (e + 1) % 256 then .ok [] (.esc e (done + 1) true)
    else .ok [b] (.esc e (done + 1) false)
  | .runs done many lastN lastB, b =>
    if many = 0 then
      if b = 0 then .wrong done else .ok [] (.runs (done + 1) b lastN lastB)
    else if b = lastB ∧ 0 < lastN ∧ lastN < 255 then .wrong done
    else .ok (List.replicate many.toNat b) (.runs (done + 1) 0 many b)
  | .chunks size done left isLast, b =>
    if left > 0 then .ok [b] (.chunks size (done + 1) (left - 1) isLast)
    else if isLast = true ∨ b > size then .wrong done
    else .ok [] (.chunks size (done + 1) b (decide (b < size)))
  | .checks size done check held, b =>
    if ((held ++ [b]).length : Int) = size + 2 then
      if blockTail (held ++ [b]) = checkBytes (checkAll check (blockRow (held ++ [b]))) then .ok (blockRow (held ++ [b])) (.checks size (done + 1) (checkAll check (blockRow (held ++ [b]))) [])
      else .wrong done
    else .ok [] (.checks size (done + 1) check (held ++ [b]))
  | .signs done many value, b =>
    if b ∈ signsT then
      if many + 6 < 8 then .ok [] (.signs (done + 1) (many + 6) (value * 64 + (signsT.idxOf b : Int)))
      else .ok [(value * 64 + (signsT.idxOf b : Int)) / pow2 (many - 2)] (.signs (done + 1) (many - 2) ((value * 64 + (signsT.idxOf b : Int)) % pow2 (many - 2)))
    else .wrong done
def rend : RSt → REnd
  | .add _ _ => .ok []
  | .front _ => .ok []
  | .esc _ _ marked => if marked = true then .cut else .ok []
  | .runs _ many _ _ => if many > 0 then .cut else .ok []
  | .chunks _ _ left isLast => if left > 0 ∨ ¬ isLast = true then .cut else .ok []
  | .checks _ done check held =>
    if (held.length : Int) < 2 then .cut
    else if blockTail held = checkBytes (checkAll check (blockRow held)) then .ok (blockRow held) else .wrong (done - 1)
  | .signs done many value => if many = 6 then .cut else if value > 0 then .wrong (done - 1) else .ok []
def ROk : RSt → Prop
  | .add key at_ => 1 ≤ key.length ∧ key.length ≤ 8 ∧ Bys key ∧ 0 ≤ at_ ∧ at_ < (key.length : Int)
  | .front row => row.length = 256 ∧ Bys row
  | .esc e _ _ => By e
  | .runs _ many lastN lastB => By many ∧ By lastN ∧ By lastB
  | .chunks size _ left _ => 1 ≤ size ∧ size ≤ 255 ∧ 0 ≤ left ∧ left ≤ 255
  | .checks size _ check held => 1 ≤ size ∧ size ≤ 255 ∧ 0 ≤ check ∧ check < 65521 ∧ (held.length : Int) < size + 2 ∧ Bys held
  | .signs _ many value => (many = 0 ∨ many = 2 ∨ many = 4 ∨ many = 6) ∧ 0 ≤ value ∧ value < pow2 many
inductive Fault where
  | wrong (layer place : Int)
  | cut (layer : Int)
deriving DecidableEq
/-- what is told; the parts behind it (the outermost first); the fault -/
abbrev Told := Row × List RSt × Option Fault
/-- bytes one after the other, by what one of them brings -/
def rseq (f : List RSt → Int → Told) : List RSt → Row → Told
  | ss, [] => ([], ss, none)
  | ss, b :: r =>
    match f ss b with
    | (o, ss', some x) => (o, ss', some x)
    | (o, ss', none) => (o ++ (rseq f ss' r).1, (rseq f ss' r).2)
/-- one byte through the parts: the list's first is the outermost; n: how many there are -/
def rone : Nat → List RSt → Int → Told
  | 0, ss, b => ([b], ss, none)
  | n + 1, [], b => ([b], [], none)
  | n + 1, s :: ss, b =>
    match rtake s b with
    | .wrong place => ([], s :: ss, some (.wrong (n : Int) place))
    | .ok row s' => ((rseq (rone n) ss row).1, s' :: (rseq (rone n) ss row).2.1, (rseq (rone n) ss row).2.2)
/-- bytes through the parts -/
def rrow (ss : List RSt) (r : Row) : Told := rseq (rone ss.length) ss r
/-- the ends, from the outermost on -/
def rendAll : Nat → List RSt → Row × Option Fault
  | 0, _ => ([], none)
  | n + 1, [] => ([], none)
  | n + 1, s :: ss =>
    match rend s with
    | .wrong place => ([], some (.wrong (n : Int) place))
    | .cut => ([], some (.cut (n : Int)))
    | .ok row =>
      match rseq (rone n) ss row with
      | (o, _, some x) => (o, some x)
      | (o, ss', none) => (o ++ (rendAll n ss').1, (rendAll n ss').2)

/-! ### layers -/
inductive Lay where
  | add (key : Row)
  | front
  | esc (b : Int)
  | runs
  | chunks (n : Int)
  | checks (n : Int)
  | signs
def Lay.Ok : Lay → Prop
  | .add key => 1 ≤ key.length ∧ key.length ≤ 8 ∧ Bys key
  | .front => True
  | .esc b => By b
  | .runs => True
  | .chunks n => 1 ≤ n ∧ n ≤ 255
  | .checks n => 1 ≤ n ∧ n ≤ 255
  | .signs => True
def range256 : Row := (List.range 256).map Int.ofNat
def newW : Lay → WSt
  | .add key => .add key 0
  | .front => .front range256
  | .esc b => .esc b
  | .runs => .runs 0 0
  | .chunks n => .chunks n []
  | .checks n => .checks n 0 0
  | .signs => .signs 0 0
def newR : Lay → RSt
  | .add key => .add key 0
  | .front => .front range256
  | .esc b => .esc b 0 false
  | .runs => .runs 0 0 0 0
  | .chunks n => .chunks n 0 0 false
  | .checks n => .checks n 0 0 []
  | .signs => .signs 0 0 0
/-- the whole stream -/
def written (ls : List Lay) (r : Row) : Row := (wthru (ls.map newW) r).1 ++ wendAll ls.length (wthru (ls.map newW) r).2
/-- the bytes of a whole stream, and the fault -/
def readAll (ls : List Lay) (r : Row) : Row × Option Fault :=
  match rrow (ls.reverse.map newR) r with
  | (o, _, some x) => (o, some x)
  | (o, ss, none) => (o ++ (rendAll ss.length ss).1, (rendAll ss.length ss).2)
end Flow

/-! further steps: loops, comprehensions, rows of ints -/
namespace Flow
open PySem PySem.Spec PyProof.Rows L2
def iV (xs : Row) : List V := xs.map V.int
theorem iV_length (xs : Row) : (iV xs).length = xs.length := List.length_map ..
theorem iV_nil : iV [] = [] := rfl
theorem iV_cons (x : Int) (xs : Row) : iV (x :: xs) = V.int x :: iV xs := rfl
theorem iV_append (xs ys : Row) : iV (xs ++ ys) = iV xs ++ iV ys := List.map_append ..
theorem iV_snoc (xs : Row) (x : Int) : iV (xs ++ [x]) = iV xs ++ [V.int x] := by
  rw [iV_append] <;> rfl
theorem iV_get {xs : Row} {i : Nat} {x : V} (h : (iV xs)[i]? = some x) : ∃ z, xs[i]? = some z ∧ x = V.int z := by
  unfold iV at h
  rw [List.getElem?_map] at h
  cases e : xs[i]? with
  | none =>
    rw [e] at h
    cases h
  | some z =>
    rw [e] at h
    exact ⟨z, rfl, (Option.some.inj h).symm⟩
theorem iV_at {xs : Row} {i : Nat} {z : Int} (h : xs[i]? = some z) : (iV xs)[i]? = some (V.int z) := by
  unfold iV
  rw [List.getElem?_map, h] <;> rfl
theorem gI_nat {xs : Row} {j : Nat} {z : Int} (h : xs[j]? = some z) : gI xs (j : Int) = z := by
  unfold gI
  simp [List.getD, h]
theorem gI_at {xs : Row} {i : Int} (h0 : 0 ≤ i) (h : i < (xs.length : Int)) : atI (iV xs) i = some (V.int (gI xs i)) := by
  obtain ⟨j, rfl⟩ : ∃ j : Nat, i = (j : Int) := ⟨i.toNat, by omega⟩
  have hj : j < xs.length := by omega
  have e := List.getElem?_eq_getElem hj
  rw [gI_nat e]
  exact at_of rfl (iV_at e)
theorem flat_iV (xs : Row) : (iV xs).all flatV = true := flat_ints xs
theorem inV_iV (b : Int) (xs : Row) : inV (.int b) (iV xs) = decide (b ∈ xs) := by
  unfold inV iV
  rw [List.any_map]
  induction xs with
  | nil => rfl
  | cons x r ih =>
    rw [List.any_cons, ih]
    have e : eqV (.int x) (.int b) = (x == b) := rfl
    by_cases h : b = x
    · subst h
      simp [Function.comp, eqV]
    · have h' : ¬ x = b := fun z => h z.symm
      simp [Function.comp, eqV, h, h']
theorem take_more {α : Type} : ∀ {l : List α} {i : Nat} {x : α}, l[i]? = some x → l.take (i + 1) = l.take i ++ [x]
  | [], i, x, h => by simp at h
  | a :: l, 0, x, h => by
    have e : a = x := Option.some.inj h
    subst e
    rfl
  | a :: l, i + 1, x, h => by
    have ih := take_more (l := l) (i := i) (x := x) h
    show a :: l.take (i + 1) = a :: l.take i ++ [x]
    rw [ih]
    rfl
theorem drop_more {α : Type} : ∀ {l : List α} {i : Nat} {x : α}, l[i]? = some x → l.drop i = x :: l.drop (i + 1)
  | [], i, x, h => by simp at h
  | a :: l, 0, x, h => by
    have e : a = x := Option.some.inj h
    subst e
    rfl
  | a :: l, i + 1, x, h => by
    have ih := drop_more (l := l) (i := i) (x := x) h
    show l.drop i = x :: l.drop (i + 1)
    exact ih
section
variable {K : PySem.W.Frag} {σ : L2.St} {H : Hp} {ta tb te tv tl : TE} {t u c tt : TT} {i j : Nat} {v x y : V} {Q : VK} {D : Ends} {g : TG} {ts : TS} {a C dx p l : Addr} {vs xs ys : List V} {m n b : Int} {rw_ ks : Row}
/-! rows of ints -/
theorem eraseIdx_iV : ∀ (xs : Row) (j : Nat), (iV xs).eraseIdx j = iV (xs.eraseIdx j)
  | [], _ => rfl
  | _ :: _, 0 => rfl
  | x :: r, j + 1 => by
    show V.int x :: (iV r).eraseIdx j = V.int x :: iV (r.eraseIdx j)
    rw [eraseIdx_iV r j]
theorem x_inI (h : SqL K H p (iV rw_) ∨ SqT K H p (iV rw_)) (q : Q (.bl (decide (b ∈ rw_))) H) : rIn K false (.int b) (.ref p) H Q :=
  ⟨p, _, rfl, h, rfl, flat_iV _, by rw [inV_iV]; exact q⟩
theorem x_ninI (h : SqL K H p (iV rw_) ∨ SqT K H p (iV rw_)) (q : Q (.bl (!decide (b ∈ rw_))) H) : rIn K true (.int b) (.ref p) H Q :=
  ⟨p, _, rfl, h, rfl, flat_iV _, by rw [inV_iV]; exact q⟩
theorem idx_no {xs : Row} {b z : Int} {m : Nat} (h : m < xs.idxOf b) (hz : xs[m]? = some z) : z ≠ b := by
  intro e
  subst e
  obtain ⟨hm, e⟩ := List.getElem?_eq_some_iff.mp hz
  have h2 := List.not_of_lt_findIdx (p := (· == z)) (xs := xs) (i := m) (by unfold List.idxOf at h; exact h)
  rw [e] at h2
  simp at h2
theorem idx_get {xs : Row} {b : Int} (h : b ∈ xs) : xs[xs.idxOf b]? = some b := by
  have hl : xs.idxOf b < xs.length := List.idxOf_lt_length_of_mem h
  rw [List.getElem?_eq_getElem hl, List.getElem_idxOf]
theorem x_index (h : SqL K H p (iV rw_)) (hm : b ∈ rw_) (q : Q (.int (rw_.idxOf b : Int)) H) : rIndex K (.ref p) [.int b] H Q := by
  refine ⟨p, iV rw_, .int b, rw_.idxOf b, .int b, rfl, rfl, h, rfl, flat_iV _, iV_at (idx_get hm), by simp [eqV], fun m z' hlt hz => ?_, q⟩
  obtain ⟨z, e, rfl⟩ := iV_get hz
  have := idx_no hlt e
  simp [eqV, this]
theorem x_tupIx (h : SqT K H p (iV rw_)) (hm : b ∈ rw_) (q : Q (.int (rw_.idxOf b : Int)) H) : rTupIx K (.ref p) [.int b] H Q := by
  refine ⟨p, rw_, b, rw_.idxOf b, rfl, rfl, h, idx_get hm, fun m hlt hz => idx_no hlt hz rfl, q⟩
theorem seqIx {i n : Nat} (h : i < n) : seqIndex? (i : Int) n = some i := by
  unfold seqIndex?
  simp only [show ¬ ((i : Int) < 0) by omega, if_false]
  first
    | (rw [if_pos (by omega)]; simp)
    | simp [h]
theorem x_popAt (h : H l = some (.lst (iV rw_))) (h0 : 0 ≤ m) (h1 : m < (rw_.length : Int)) (hz : (rw_.length : Int) < 1000000000) (q : Q (.int (gI rw_ m)) (upd H l (.lst (iV (rw_.eraseIdx m.toNat))))) : rPopAt (.ref l) [.int m] H Q := by
  obtain ⟨j, rfl⟩ : ∃ j : Nat, m = (j : Int) := ⟨m.toNat, by omega⟩
  have hj : j < rw_.length := by omega
  refine ⟨l, iV rw_, (j : Int), j, .int (gI rw_ (j : Int)), rfl, rfl, h, by omega, by omega, seqIx (by rw [iV_length]; exact hj), ?_, ?_⟩
  · rw [gI_nat (List.getElem?_eq_getElem hj)]
    exact iV_at (List.getElem?_eq_getElem hj)
  · have e : (iV rw_).eraseIdx j = iV (rw_.eraseIdx j) := by
      exact eraseIdx_iV rw_ j
    rw [e]
    exact q
theorem x_insert0 (h : H l = some (.lst xs)) (hz : xs.length < sizeLine) (q : Q .non (upd H l (.lst (y :: xs)))) : rInsert (.ref l) [.int 0, y] H Q :=
  ⟨l, xs, 0, y, rfl, rfl, h, hz, by decide, by decide, q⟩
theorem x_rep1 (h : H l = some (.lst [x])) (h0 : 0 ≤ m) (h1 : m ≤ 100000) (q : ∀ p, H p = none → Q (.ref p) (upd H p (.lst (List.replicate m.toNat x)))) : rRep (.ref l) (.int m) H Q := by
  refine ⟨l, m, [x], rfl, rfl, h, by omega, by omega, ?_, fun p hp => ?_⟩
  · rw [sizeLine_eq]
    simp only [List.length_singleton]
    omega
  · have e : (List.replicate m.toNat [x]).flatten = List.replicate m.toNat x := by
      generalize m.toNat = k
      induction k with
      | zero => rfl
      | succ k ih => rw [List.replicate_succ, List.flatten_cons, ih, List.replicate_succ] <;> rfl
    rw [e]
    exact q p hp
/-! range as a list -/
def rRg (k : Int → Int → Hp → Prop) : V → Hp → Prop := fun x H1 => ∃ n, x = .int n ∧ k 0 n H1
theorem x_lstRg1 (q : ta σ H fun x H1 => rRg (fun a b H1 => RgOk a b ∧ ∀ q, H1 q = none → Q (.ref q) (upd H1 q (.lst (rgV a b)))) x H1) : tLstRg (tRg1 ta) σ H Q := q
theorem x_rRg {k : Int → Int → Hp → Prop} (q : k 0 m H) : rRg k (.int m) H := ⟨m, rfl, q⟩
/-! tests joined -/
theorem x_andJ {a b : Bool} {B : Bool → Hp → Prop} (ht : ∀ B' : Bool → Hp → Prop, B' a H → t σ H B') (hu : a = true → ∀ B' : Bool → Hp → Prop, B' b H → u σ H B') (h1 : a = true → b = true → B true H) (h2 : (a && b) = false → B false H) : tAnd t u σ H B := by
  refine ht _ ?_
  cases a with
  | false => exact iteF (h2 rfl)
  | true =>
    refine iteT (hu rfl _ ?_)
    cases b with
    | true => exact h1 rfl rfl
    | false => exact h2 rfl
theorem x_orJ {a b : Bool} {B : Bool → Hp → Prop} (ht : ∀ B' : Bool → Hp → Prop, B' a H → t σ H B') (hu : a = false → ∀ B' : Bool → Hp → Prop, B' b H → u σ H B') (h1 : (a || b) = true → B true H) (h2 : a = false → b = false → B false H) : tOr t u σ H B := by
  refine ht _ ?_
  cases a with
  | true => exact iteT (h1 rfl)
  | false =>
    refine iteF (hu rfl _ ?_)
    cases b with
    | true => exact h1 rfl
    | false => exact h2 rfl rfl
/-! loops -/
def rForL (K : PySem.W.Frag) (g : TG) (tb : TS) (D : Ends) (σ : L2.St) : V → Hp → Prop := fun x H1 => ∃ a, x = .ref a ∧ (∃ xs, SqL K H1 a xs) ∧ ∃ W : Nat → Nat → L2.St → Hp → Prop, (∃ m, W 0 m σ H1) ∧ ∀ i m σ H, W i m σ H →
  (((Itl K a).stop i H ∧ D.nx σ H) ∨ ((Itl K a).go i H ∧ ∃ N : L2.St → Hp → Prop, (∀ σ' H', N σ' H' → ∃ m', m' < m ∧ W (i + 1) m' σ' H') ∧ ∀ x H', (Itl K a).yld i H x H' → g x σ H' fun σ2 H2 => tb { D with nx := N, ct := N, bk := D.nx } σ2 H2))
theorem x_forL (q : tl σ H fun x H1 => rForL K g ts D σ x H1) : tFor (iList K tl) g ts D σ H := q
theorem x_rForL (h : SqL K H a xs) (Pv : Nat → L2.St → Hp → Prop) (h0 : Pv 0 σ H) (hl : ∀ i σ H, i ≤ xs.length → Pv i σ H → SqL K H a xs)
    (hs : ∀ i x σ H, xs[i]? = some x → Pv i σ H → g x σ H fun σ2 H2 => ts { D with nx := Pv (i + 1), ct := Pv (i + 1), bk := D.nx } σ2 H2) (hd : ∀ σ H, Pv xs.length σ H → D.nx σ H) : rForL K g ts D σ (.ref a) H :=
  ⟨a, rfl, ⟨xs, h⟩, for_list Pv h0 hl hs hd⟩
def rForR1 (g : TG) (tb : TS) (D : Ends) (σ : L2.St) : List V → Hp → Prop := fun vs H1 => ∃ j : Int, vs = [.int j] ∧ -(2 ^ 62) ≤ j ∧ j < 2 ^ 62 ∧ ∃ W : Nat → Nat → L2.St → Hp → Prop, (∃ m, W 0 m σ H1) ∧ ∀ i m σ H, W i m σ H →
  (((Itr 0 j.toNat).stop i H ∧ D.nx σ H) ∨ ((Itr 0 j.toNat).go i H ∧ ∃ N : L2.St → Hp → Prop, (∀ σ' H', N σ' H' → ∃ m', m' < m ∧ W (i + 1) m' σ' H') ∧ ∀ x H', (Itr 0 j.toNat).yld i H x H' → g x σ H' fun σ2 H2 => tb { D with nx := N, ct := N, bk := D.nx } σ2 H2))
theorem x_forR1 {ta : TA} (q : ta σ H fun vs H1 => rForR1 g ts D σ vs H1) : tFor (iRng1 ta) g ts D σ H := q
theorem x_rForR1 {k : Nat} (hn : n = (k : Int)) (hz : k < 2 ^ 62) (Pv : Nat → L2.St → Hp → Prop) (h0 : Pv 0 σ H)
    (hs : ∀ i σ H, i < k → Pv i σ H → g (.int (i : Int)) σ H fun σ2 H2 => ts { D with nx := Pv (i + 1), ct := Pv (i + 1), bk := D.nx } σ2 H2) (hd : ∀ σ H, Pv k σ H → D.nx σ H) : rForR1 g ts D σ [.int n] H := by
  subst hn
  refine ⟨(k : Int), rfl, by omega, by omega, for_range (lo := 0) (n := (k : Int).toNat) Pv h0 (fun i σ H hi p => ?_) fun σ H p => hd σ H (by rw [Int.toNat_natCast] at p; exact p)⟩
  rw [Int.zero_add]
  exact hs i σ H (by rw [Int.toNat_natCast] at hi; exact hi) p
def rForRev (g : TG) (tb : TS) (D : Ends) (σ : L2.St) : V → Hp → Prop := fun x H0 => ∃ n, x = .int n ∧ (-(2 ^ 62) ≤ (0 : Int) ∧ (0 : Int) < 2 ^ 62 ∧ -(2 ^ 62) ≤ n ∧ n < 2 ^ 62 ∧ ∃ W : Nat → Nat → L2.St → Hp → Prop, (∃ m, W 0 m σ H0) ∧ ∀ i m σ H, W i m σ H →
  (((Itc (0 + (((n - 0).toNat : Nat) : Int) - 1) (-1) (n - 0).toNat).stop i H ∧ D.nx σ H) ∨ ((Itc (0 + (((n - 0).toNat : Nat) : Int) - 1) (-1) (n - 0).toNat).go i H ∧ ∃ N : L2.St → Hp → Prop, (∀ σ' H', N σ' H' → ∃ m', m' < m ∧ W (i + 1) m' σ' H') ∧
    ∀ x H', (Itc (0 + (((n - 0).toNat : Nat) : Int) - 1) (-1) (n - 0).toNat).yld i H x H' → g x σ H' fun σ2 H2 => tb { D with nx := N, ct := N, bk := D.nx } σ2 H2)))
theorem x_forRev (q : ta σ H fun x H1 => rForRev g ts D σ x H1) : tFor (iRevR (tRg1 ta)) g ts D σ H := q
theorem x_rForRev {k : Nat} (hn : n = (k : Int)) (hz : k < 2 ^ 60) (Pv : Nat → L2.St → Hp → Prop) (h0 : Pv 0 σ H)
    (hs : ∀ i σ H, i < k → Pv i σ H → g (.int ((k - 1 - i : Nat) : Int)) σ H fun σ2 H2 => ts { D with nx := Pv (i + 1), ct := Pv (i + 1), bk := D.nx } σ2 H2) (hd : ∀ σ H, Pv k σ H → D.nx σ H) : rForRev g ts D σ (.int n) H := by
  subst hn
  have e0 : (((k : Int) - 0).toNat) = k := by omega
  refine ⟨(k : Int), rfl, by omega, by omega, by omega, by omega, ?_⟩
  rw [e0]
  refine for_rangeC (lo := 0 + (k : Int) - 1) (c := -1) (n := k) Pv h0 (fun i σ H hi p => ?_) hd
  have e1 : (0 + (k : Int) - 1 + (i : Nat) * (-1) : Int) = ((k - 1 - i : Nat) : Int) := by omega
  rw [e1]
  exact hs i σ H hi p
theorem x_while {c : TT} {tb : TS} (W : Nat → L2.St → Hp → Prop) (m0 : Nat) (h0 : W m0 σ H) (hs : ∀ m σ H, W m σ H → c σ H fun b H1 => if b = true then ∃ N : L2.St → Hp → Prop, (∀ σ' H', N σ' H' → ∃ m', m' < m ∧ W m' σ' H') ∧ tb { D with nx := N, ct := N, bk := D.nx } σ H1 else D.nx σ H1) :
    tWhile c tb D σ H := ⟨W, ⟨m0, h0⟩, hs⟩
/-! comprehensions whose elements leave all that stands -/
def gvn (n : Nat) (c : Nat → Bool) (f : Nat → V) : List V := ((List.range n).filter c).map f
theorem gvn_yes {n : Nat} {c : Nat → Bool} {f : Nat → V} (h : c n = true) : gvn (n + 1) c f = gvn n c f ++ [f n] := by
  unfold gvn
  rw [List.range_succ, List.filter_append, List.map_append, List.filter_cons, if_pos h] <;> rfl
theorem gvn_no {n : Nat} {c : Nat → Bool} {f : Nat → V} (h : c n = false) : gvn (n + 1) c f = gvn n c f := by
  unfold gvn
  rw [List.range_succ, List.filter_append, List.map_append, List.filter_cons, if_neg (by rw [h]; decide)]
  show _ ++ [] = _
  rw [List.append_nil]
theorem gvn_len (n : Nat) (c : Nat → Bool) (f : Nat → V) : (gvn n c f).length ≤ n := by
  unfold gvn
  rw [List.length_map]
  have h := List.length_filter_le c (List.range n)
  rw [List.length_range] at h
  exact h
theorem gvn_all (n : Nat) (f : Nat → V) : gvn n (fun _ => true) f = (List.range n).map f := by
  unfold gvn
  rw [List.filter_eq_self.mpr fun _ _ => rfl]
abbrev Ext (H H' : Hp) : Prop := Only' [] H H'
theorem lc_turn {H H' : Hp} {cb : Nat → Bool} {f : Nat → V} {Dl : Addr} {i : Nat} {σ2 : L2.St} (p : H Dl = none ∧ Ext H H' ∧ H' Dl = some (.lst (gvn i cb f))) (hz : i < sizeLine)
    (ht : ∀ H1, Ext H H1 → ∀ B : Bool → Hp → Prop, (∀ H2, Ext H1 H2 → B (cb i) H2) → tt σ2 H1 B) (he : cb i = true → ∀ H1, Ext H H1 → ∀ Q' : VK, (∀ H2, Ext H1 H2 → Q' (f i) H2) → te σ2 H1 Q') :
    tt σ2 H' fun b H3 => if b = true then te σ2 H3 fun y H4 => ∃ acc, H4 Dl = some (.lst acc) ∧ acc.length < sizeLine ∧ (H Dl = none ∧ Ext H (upd H4 Dl (.lst (acc ++ [y]))) ∧ (upd H4 Dl (.lst (acc ++ [y]))) Dl = some (.lst (gvn (i + 1) cb f))) else (H Dl = none ∧ Ext H H3 ∧ H3 Dl = some (.lst (gvn (i + 1) cb f))) := by
  obtain ⟨p1, p2, p3⟩ := p
  refine ht H' p2 _ fun H3 e3 => ?_
  cases hf : cb i with
  | true =>
    refine iteT (he hf H3 (p2.trans e3) _ fun H4 e4 => ⟨gvn i cb f, e4 Dl _ (e3 Dl _ p3 (by simp)) (by simp), Nat.lt_of_le_of_lt (gvn_len i cb f) hz, p1, Only'.put0 ((p2.trans e3).trans e4) p1, ?_⟩)
    rw [gvn_yes hf]
    exact upd_same
  | false =>
    refine iteF ⟨p1, p2.trans e3, ?_⟩
    rw [gvn_no hf]
    exact e3 Dl _ p3 (by simp)
def rLcL (K : PySem.W.Frag) (g : TG) (tt : TT) (te : TE) (vs : List Nat) (σ : L2.St) : V → Hp → VK → Prop := fun x H1 Q => ∃ a, x = .ref a ∧ (∃ xs, SqL K H1 a xs) ∧ ∀ D, H1 D = none → ∃ W : Nat → Nat → Hp → Prop, (∃ m, W 0 m (upd H1 D (.lst []))) ∧ ∀ i m H, W i m H →
  ((Itl K a).stop i H ∧ Q (.ref D) H) ∨ ((Itl K a).go i H ∧ ∃ Nx : Hp → Prop, (∀ H', Nx H' → ∃ m', m' < m ∧ W (i + 1) m' H') ∧ ∀ x H', (Itl K a).yld i H x H' → g x (wipe σ vs) H' fun σ2 H2 => wipe σ2 vs = wipe σ vs ∧ tt σ2 H2 fun b H3 =>
    if b = true then te σ2 H3 fun y H4 => ∃ acc, H4 D = some (.lst acc) ∧ acc.length < sizeLine ∧ Nx (upd H4 D (.lst (acc ++ [y]))) else Nx H3)
theorem x_lcL {ws : List Nat} (q : tl σ H fun x H1 => rLcL K g tt te ws σ x H1 Q) : tLc (iList K tl) g tt te ws σ H Q := q
theorem SqL.ext {K : PySem.W.Frag} {H H' : Hp} {a : Addr} {xs : List V} (e : Ext H H') (h : SqL K H a xs) : SqL K H' a xs := by
  rcases h with (h | ⟨o, h⟩) | h
  · exact .inl (.inl (e _ _ h (by simp)))
  · exact .inl (.inr ⟨o, e _ _ h (by simp)⟩)
  · exact .inr h
theorem SqT.ext {K : PySem.W.Frag} {H H' : Hp} {a : Addr} {xs : List V} (e : Ext H H') (h : SqT K H a xs) : SqT K H' a xs := by
  rcases h with (h | ⟨o, h⟩) | h
  · exact .inl (.inl (e _ _ h (by simp)))
  · exact .inl (.inr ⟨o, e _ _ h (by simp)⟩)
  · exact .inr h
theorem x_rLcLT {ws : List Nat} (cb : Nat → Bool) (f : Nat → V) (h : SqL K H a xs) (hz : xs.length ≤ sizeLine) (hw : ∀ x, wipe ((wipe σ ws).set j (some x)) ws = wipe σ ws)
    (ht : ∀ (i : Nat) x H1, xs[i]? = some x → Ext H H1 → ∀ B : Bool → Hp → Prop, (∀ H2, Ext H1 H2 → B (cb i) H2) → tt ((wipe σ ws).set j (some x)) H1 B)
    (he : ∀ (i : Nat) x H1, xs[i]? = some x → cb i = true → Ext H H1 → ∀ Q' : VK, (∀ H2, Ext H1 H2 → Q' (f i) H2) → te ((wipe σ ws).set j (some x)) H1 Q')
    (q : ∀ p H1, H p = none → Ext H H1 → H1 p = some (.lst (gvn xs.length cb f)) → Q (.ref p) H1) : rLcL K (gName j) tt te ws σ (.ref a) H Q := by
  refine ⟨a, rfl, ⟨xs, h⟩, fun Dl hD => lc_list (K := K) (a := a) (xs := xs) (fun i H' => H Dl = none ∧ Ext H H' ∧ H' Dl = some (.lst (gvn i cb f))) ⟨hD, Only'.put0 Only'.refl hD, upd_same⟩
    (fun i H' _ p => SqL.ext p.2.1 h) (fun i x H' hi p => ⟨hw x, lc_turn p (Nat.lt_of_lt_of_le (List.getElem?_eq_some_iff.mp hi).1 hz) (fun H1 e => ht i x H1 hi e) (fun hc H1 e => he i x H1 hi hc e)⟩) (fun H' p => q Dl H' p.1 p.2.1 p.2.2)⟩
theorem x_rLcL {ws : List Nat} (f : Nat → V) (h : SqL K H a xs) (hz : xs.length ≤ sizeLine) (hw : ∀ x, wipe ((wipe σ ws).set j (some x)) ws = wipe σ ws)
    (he : ∀ (i : Nat) x H1, xs[i]? = some x → Ext H H1 → ∀ Q' : VK, (∀ H2, Ext H1 H2 → Q' (f i) H2) → te ((wipe σ ws).set j (some x)) H1 Q')
    (q : ∀ p H1, H p = none → Ext H H1 → H1 p = some (.lst ((List.range xs.length).map f)) → Q (.ref p) H1) : rLcL K (gName j) tYes te ws σ (.ref a) H Q :=
  x_rLcLT (fun _ => true) f h hz hw (fun i x H1 _ _ B k => k H1 Only'.refl) (fun i x H1 hi _ e => he i x H1 hi e) fun p H1 hp e h1 => q p H1 hp e (by rw [← gvn_all]; exact h1)
def rLcT (K : PySem.W.Frag) (g : TG) (tt : TT) (te : TE) (vs : List Nat) (σ : L2.St) : V → Hp → VK → Prop := fun x H1 Q => ∃ a, x = .ref a ∧ (∃ xs, SqT K H1 a xs) ∧ ∀ D, H1 D = none → ∃ W : Nat → Nat → Hp → Prop, (∃ m, W 0 m (upd H1 D (.lst []))) ∧ ∀ i m H, W i m H →
  ((Itt K a).stop i H ∧ Q (.ref D) H) ∨ ((Itt K a).go i H ∧ ∃ Nx : Hp → Prop, (∀ H', Nx H' → ∃ m', m' < m ∧ W (i + 1) m' H') ∧ ∀ x H', (Itt K a).yld i H x H' → g x (wipe σ vs) H' fun σ2 H2 => wipe σ2 vs = wipe σ vs ∧ tt σ2 H2 fun b H3 =>
    if b = true then te σ2 H3 fun y H4 => ∃ acc, H4 D = some (.lst acc) ∧ acc.length < sizeLine ∧ Nx (upd H4 D (.lst (acc ++ [y]))) else Nx H3)
theorem x_lcT {ws : List Nat} (q : tl σ H fun x H1 => rLcT K g tt te ws σ x H1 Q) : tLc (iTup K tl) g tt te ws σ H Q := q
theorem x_rLcT {ws : List Nat} (f : Nat → V) (h : SqT K H a xs) (hz : xs.length ≤ sizeLine) (hw : ∀ x, wipe ((wipe σ ws).set j (some x)) ws = wipe σ ws)
    (he : ∀ (i : Nat) x H1, xs[i]? = some x → Ext H H1 → ∀ Q' : VK, (∀ H2, Ext H1 H2 → Q' (f i) H2) → te ((wipe σ ws).set j (some x)) H1 Q')
    (q : ∀ p H1, H p = none → Ext H H1 → H1 p = some (.lst ((List.range xs.length).map f)) → Q (.ref p) H1) : rLcT K (gName j) tYes te ws σ (.ref a) H Q := by
  refine ⟨a, rfl, ⟨xs, h⟩, fun Dl hD => lc_tup (K := K) (a := a) (xs := xs) (fun i H' => H Dl = none ∧ Ext H H' ∧ H' Dl = some (.lst (gvn i (fun _ => true) f))) ⟨hD, Only'.put0 Only'.refl hD, upd_same⟩
    (fun i H' _ p => SqT.ext p.2.1 h) (fun i x H' hi p => ⟨hw x, lc_turn (tt := tYes) (cb := fun _ => true) p (Nat.lt_of_lt_of_le (List.getElem?_eq_some_iff.mp hi).1 hz) (fun H1 e B k => k H1 Only'.refl) (fun _ H1 e => he i x H1 hi e)⟩) (fun H' p => q Dl H' p.1 p.2.1 (by rw [← gvn_all]; exact p.2.2))⟩
def rLcR (g : TG) (tt : TT) (te : TE) (ws : List Nat) (σ : L2.St) : List V → Hp → VK → Prop := fun vs H1 Q => ∃ j : Int, vs = [.int j] ∧ -(2 ^ 62) ≤ j ∧ j < 2 ^ 62 ∧ ∀ D, H1 D = none → ∃ W : Nat → Nat → Hp → Prop, (∃ m, W 0 m (upd H1 D (.lst []))) ∧ ∀ i m H, W i m H →
  ((Itr 0 j.toNat).stop i H ∧ Q (.ref D) H) ∨ ((Itr 0 j.toNat).go i H ∧ ∃ Nx : Hp → Prop, (∀ H', Nx H' → ∃ m', m' < m ∧ W (i + 1) m' H') ∧ ∀ x H', (Itr 0 j.toNat).yld i H x H' → g x (wipe σ ws) H' fun σ2 H2 => wipe σ2 ws = wipe σ ws ∧ tt σ2 H2 fun b H3 =>
    if b = true then te σ2 H3 fun y H4 => ∃ acc, H4 D = some (.lst acc) ∧ acc.length < sizeLine ∧ Nx (upd H4 D (.lst (acc ++ [y]))) else Nx H3)
theorem x_lcR {ws : List Nat} {ta : TA} (q : ta σ H fun vs H1 => rLcR g tt te ws σ vs H1 Q) : tLc (iRng1 ta) g tt te ws σ H Q := q
theorem x_rLcRT {ws : List Nat} {k : Nat} (cb : Nat → Bool) (f : Nat → V) (hn : n = (k : Int)) (hz : k ≤ 16777216) (hw : ∀ x, wipe ((wipe σ ws).set j (some x)) ws = wipe σ ws)
    (ht : ∀ (i : Nat) H1, i < k → Ext H H1 → ∀ B : Bool → Hp → Prop, (∀ H2, Ext H1 H2 → B (cb i) H2) → tt ((wipe σ ws).set j (some (.int (i : Int)))) H1 B)
    (he : ∀ (i : Nat) H1, i < k → cb i = true → Ext H H1 → ∀ Q' : VK, (∀ H2, Ext H1 H2 → Q' (f i) H2) → te ((wipe σ ws).set j (some (.int (i : Int)))) H1 Q')
    (q : ∀ p H1, H p = none → Ext H H1 → H1 p = some (.lst (gvn k cb f)) → Q (.ref p) H1) : rLcR (gName j) tt te ws σ [.int n] H Q := by
  subst hn
  refine ⟨(k : Int), rfl, by omega, by omega, ?_⟩
  have ek : (k : Int).toNat = k := Int.toNat_natCast k
  rw [ek]
  refine fun Dl hD => lc_range (lo := 0) (n := k) (fun i H' => H Dl = none ∧ Ext H H' ∧ H' Dl = some (.lst (gvn i cb f))) ⟨hD, Only'.put0 Only'.refl hD, upd_same⟩
    (fun i H' hi p => ?_) (fun H' p => q Dl H' p.1 p.2.1 p.2.2)
  rw [Int.zero_add]
  exact ⟨hw _, lc_turn p (by rw [sizeLine_eq]; omega) (fun H1 e => ht i H1 hi e) (fun hc H1 e => he i H1 hi hc e)⟩
theorem x_rLcR {ws : List Nat} {k : Nat} (f : Nat → V) (hn : n = (k : Int)) (hz : k ≤ 16777216) (hw : ∀ x, wipe ((wipe σ ws).set j (some x)) ws = wipe σ ws)
    (he : ∀ (i : Nat) H1, i < k → Ext H H1 → ∀ Q' : VK, (∀ H2, Ext H1 H2 → Q' (f i) H2) → te ((wipe σ ws).set j (some (.int (i : Int)))) H1 Q')
    (q : ∀ p H1, H p = none → Ext H H1 → H1 p = some (.lst ((List.range k).map f)) → Q (.ref p) H1) : rLcR (gName j) tYes te ws σ [.int n] H Q :=
  x_rLcRT (fun _ => true) f hn hz hw (fun i H1 _ _ B k => k H1 Only'.refl) (fun i H1 hi _ e => he i H1 hi e) fun p H1 hp e h1 => q p H1 hp e (by rw [← gvn_all]; exact h1)
end
/-! slices -/
theorem cutV_iV (xs : Row) (lo hi : Option Int) : cutV (iV xs) lo hi = iV ((xs.drop (HT.sIx xs.length 0 lo)).take (HT.sIx xs.length xs.length hi - HT.sIx xs.length 0 lo)) := by
  unfold cutV
  rw [iV_length]
  unfold iV
  rw [← List.map_drop, ← List.map_take]
theorem cut_from {xs : List V} {a : Int} {k : Nat} (h : a = (k : Int)) : cutV xs (some a) none = xs.drop k := by
  subst h
  unfold cutV
  rw [HT.sIx_nat, HT.sIx_none]
  by_cases hk : k ≤ xs.length
  · rw [Nat.min_eq_left hk, List.take_of_length_le (by rw [List.length_drop]; omega)]
  · rw [Nat.min_eq_right (by omega), List.drop_eq_nil_of_le (Nat.le_refl _), List.drop_eq_nil_of_le (by omega)]
    simp
theorem cut_to {xs : List V} {b : Int} {k : Nat} (h : b = (k : Int)) : cutV xs none (some b) = xs.take k := by
  subst h
  unfold cutV
  rw [HT.sIx_nat, HT.sIx_none]
  show xs.take _ = _
  rw [Nat.sub_zero]
  by_cases hk : k ≤ xs.length
  · rw [Nat.min_eq_left hk]
  · rw [Nat.min_eq_right (by omega), List.take_of_length_le (Nat.le_refl _), List.take_of_length_le (by omega)]
theorem cut_both {xs : List V} {a b : Int} {i k : Nat} (h : a = (i : Int)) (h2 : b = (k : Int)) : cutV xs (some a) (some b) = (xs.drop i).take (k - i) := by
  subst h h2
  unfold cutV
  rw [HT.sIx_nat, HT.sIx_nat]
  by_cases hi : i ≤ xs.length
  · rw [Nat.min_eq_left hi]
    by_cases hk : k ≤ xs.length
    · rw [Nat.min_eq_left hk]
    · rw [Nat.min_eq_right (by omega), List.take_of_length_le (by rw [List.length_drop]; omega), List.take_of_length_le (by rw [List.length_drop]; omega)]
  · rw [List.drop_eq_nil_of_le (show xs.length ≤ min i xs.length by omega), List.drop_eq_nil_of_le (show xs.length ≤ i by omega)]
    simp
theorem cut_toN {xs : List V} {k : Nat} (h : 1 ≤ k) : cutV xs none (some (-(k : Int))) = xs.take (xs.length - k) := by
  have e : HT.sIx xs.length xs.length (some (-(k : Int))) = xs.length - k := by
    show (if (-(k : Int)) < 0 then ((-(k : Int)) + (xs.length : Int)).toNat else min (-(k : Int)).toNat xs.length) = _
    rw [if_pos (by omega)]
    omega
  unfold cutV
  rw [e, HT.sIx_none]
  rfl
theorem cut_fromN {xs : List V} {k : Nat} (h : 1 ≤ k) : cutV xs (some (-(k : Int))) none = xs.drop (xs.length - k) := by
  have e : HT.sIx xs.length 0 (some (-(k : Int))) = xs.length - k := by
    show (if (-(k : Int)) < 0 then ((-(k : Int)) + (xs.length : Int)).toNat else min (-(k : Int)).toNat xs.length) = _
    rw [if_pos (by omega)]
    omega
  unfold cutV
  rw [e, HT.sIx_none, List.take_of_length_le (by rw [List.length_drop]; omega)]
/-! texts, tuples -/
section
variable {K : PySem.W.Frag} {H : Hp} {p : Addr} {Q : VK} {xs : List V}
theorem inV_str (b : Str) (ss : List Str) : inV (.str b) (ss.map V.str) = decide (b ∈ ss) := by
  unfold inV
  rw [List.any_map]
  induction ss with
  | nil => rfl
  | cons x r ih =>
    rw [List.any_cons, ih]
    by_cases h : b = x
    · subst h
      simp [Function.comp, eqV]
    · have h' : ¬ x = b := fun z => h z.symm
      simp [Function.comp, eqV, h, h']
theorem x_inS {b : Str} (ss : List Str) (h : SqL K H p (ss.map V.str) ∨ SqT K H p (ss.map V.str)) (q : Q (.bl (decide (b ∈ ss))) H) : rIn K false (.str b) (.ref p) H Q :=
  ⟨p, _, rfl, h, rfl, by rw [List.all_map]; exact List.all_eq_true.mpr fun _ _ => rfl, by rw [inV_str]; exact q⟩
theorem x_slT {lo hi : Option Int} (h : SqT K H p xs) (n : ¬ (HT.sIx xs.length 0 lo = 0 ∧ HT.sIx xs.length xs.length hi = xs.length)) (q : ∀ l, H l = none → Q (.ref l) (upd H l (.tup (cutV xs lo hi)))) : rSlT K (.ref p) lo hi H Q := ⟨p, xs, rfl, h, n, q⟩
theorem x_all {a : Addr} (bs : List Bool) (h : SqL K H a (bs.map V.bl)) (q : Q (.bl (bs.all id)) H) : rAll K [.ref a] H Q := ⟨a, bs, rfl, h, q⟩
end
/-! fields -/
theorem pf_nil {f : Str} {v : V} : putF f v [] = [(f, v)] := rfl
theorem pf_hit {f : Str} {v u : V} {r : List (Str × V)} : putF f v ((f, u) :: r) = (f, v) :: r := by
  show (if f = f then _ else _) = _
  rw [if_pos rfl]
theorem pf_miss {f g : Str} {v u : V} {r r' : List (Str × V)} (h : ¬ g = f) (e : putF f v r = r') : putF f v ((g, u) :: r) = (g, u) :: r' := by
  show (if g = f then _ else (g, u) :: putF f v r) = _
  rw [if_neg h, e]
/-! methods of one class -/
section
variable {P : Program} {w : World} {K : PySem.W.Frag} {mg : Str → Option Value} {base : Heap} {k j : Nat} {f C : Addr} {m : Str} {ps : List Str} {sp : Sp}
theorem meth1 (c : Cls K C) (M : Meth K C m f) (D : DefOk P w K mg base j f ps sp) : ∀ C', C' = C → MethOk P w K mg base j C' m ps ((fun _ => sp) C') := fun C' e => by
  subst e
  exact ⟨c, f, M, D⟩
end
end Flow

/-! the mirror keeps to bytes -/
namespace Flow
theorem bys_nil : Bys [] := fun _ h => nomatch h
theorem bys_cons {b : Int} {r : Row} (h : By b) (hr : Bys r) : Bys (b :: r) := fun x hx => by
  rcases List.mem_cons.mp hx with e | hx
  · rw [e]; exact h
  · exact hr x hx
theorem bys_app {r t : Row} (h : Bys r) (ht : Bys t) : Bys (r ++ t) := fun x hx => by
  rcases List.mem_append.mp hx with hx | hx
  · exact h x hx
  · exact ht x hx
theorem Bys.head {b : Int} {r : Row} (h : Bys (b :: r)) : By b := h b (List.mem_cons_self ..)
theorem Bys.tail {b : Int} {r : Row} (h : Bys (b :: r)) : Bys r := fun x hx => h x (List.mem_cons_of_mem _ hx)
theorem by_mod (a : Int) : By (a % 256) := ⟨Int.emod_nonneg _ (by decide), Int.emod_lt_of_pos _ (by decide)⟩
theorem gI_mem {xs : Row} {i : Int} (h0 : 0 ≤ i) (h : i < (xs.length : Int)) : gI xs i ∈ xs := by
  unfold gI
  have hj : i.toNat < xs.length := by omega
  have e : xs.getD i.toNat 0 = xs[i.toNat] := by simp [List.getD, hj]
  rw [e]
  exact List.getElem_mem hj
theorem signs_by : Bys signsT := by
  intro b hb
  have h : signsT.all (fun b => decide (0 ≤ b) && decide (b < 256)) = true := by decide
  have h2 := List.all_eq_true.mp h b hb
  simp at h2
  exact h2
theorem sign_by {i : Int} (h0 : 0 ≤ i) (h : i < 64) : By (signOf i) := signs_by _ (gI_mem h0 h)
theorem next_in (c b : Int) : 0 ≤ nextCheck c b ∧ nextCheck c b < 65521 := ⟨Int.emod_nonneg _ (by decide), Int.emod_lt_of_pos _ (by decide)⟩
theorem checkBytes_by {c : Int} (h0 : 0 ≤ c) (h : c < 65521) : Bys (checkBytes c) := bys_cons ⟨by omega, by omega⟩ (bys_cons (by_mod c) bys_nil)
theorem pw0 : pow2 0 = 1 := rfl
theorem pw1 : pow2 1 = 2 := rfl
theorem pw2 : pow2 2 = 4 := rfl
theorem pw4 : pow2 4 = 16 := rfl
theorem pw6 : pow2 6 = 64 := rfl
theorem mem_moveFront {row : Row} {k : Nat} (hk : k < row.length) {x : Int} : x ∈ moveFront row k ↔ x ∈ row := by
  unfold moveFront
  have e : row.getD k 0 = row[k] := by simp [List.getD, hk]
  rw [e]
  constructor
  · intro h
    rcases List.mem_cons.mp h with h | h
    · rw [h]; exact List.getElem_mem hk
    · exact List.mem_of_mem_eraseIdx h
  · intro h
    obtain ⟨j, hj, ej⟩ := List.mem_iff_getElem.mp h
    by_cases hjk : j = k
    · subst hjk
      rw [← ej]
      exact List.mem_cons_self ..
    · refine List.mem_cons_of_mem _ ?_
      rw [← ej]
      exact List.mem_eraseIdx_iff_getElem.mpr ⟨j, hj, hjk, rfl⟩
theorem length_moveFront {row : Row} {k : Nat} (hk : k < row.length) : (moveFront row k).length = row.length := by
  unfold moveFront
  rw [List.length_cons, List.length_eraseIdx, if_pos hk]
  omega
theorem wtake_ok {s : WSt} {b : Int} (hs : WOk s) (hb : By b) : WOk (wtake s b).2 ∧ Bys (wtake s b).1 := by
  cases s with
  | add key at_ =>
    obtain ⟨h1, h2, h3, h4, h5⟩ := hs
    refine ⟨⟨h1, h2, h3, Int.emod_nonneg _ (by omega), Int.emod_lt_of_pos _ (by omega)⟩, bys_cons (by_mod _) bys_nil⟩
  | front row =>
    obtain ⟨h1, h2⟩ := hs
    have hlt : row.idxOf b < row.length := List.idxOf_lt_length_of_mem (h2 b hb)
    refine ⟨⟨by rw [length_moveFront hlt]; exact h1, fun x hx => (mem_moveFront hlt).mpr (h2 x hx)⟩, bys_cons ⟨by omega, by omega⟩ bys_nil⟩
  | esc e =>
    refine ⟨hs, ?_⟩
    show Bys (escOut e b)
    unfold escOut
    split
    · exact bys_cons (by_mod _) (bys_cons (by_mod _) bys_nil)
    · split
      · exact bys_cons (by_mod _) (bys_cons (by_mod _) bys_nil)
      · exact bys_cons hb bys_nil
  | runs many byte =>
    obtain ⟨h1, h2, h3⟩ := hs
    show WOk (takeRuns many byte b).2 ∧ Bys (takeRuns many byte b).1
    unfold takeRuns
    split
    · exact ⟨⟨by decide, by decide, hb⟩, bys_cons ⟨h1, by omega⟩ (bys_cons h3 bys_nil)⟩
    · split
      · exact ⟨⟨by decide, by decide, hb⟩, bys_cons ⟨by decide, by decide⟩ (bys_cons hb bys_nil)⟩
      · exact ⟨⟨by omega, by omega, hb⟩, bys_nil⟩
  | chunks size held =>
    obtain ⟨h1, h2, h3, h4⟩ := hs
    show WOk (takeChunks size held b).2 ∧ Bys (takeChunks size held b).1
    unfold takeChunks
    have hl : ((held ++ [b]).length : Int) = held.length + 1 := by simp
    split
    · exact ⟨⟨h1, h2, by simp; omega, bys_nil⟩, bys_cons ⟨by omega, by omega⟩ (bys_app h4 (bys_cons hb bys_nil))⟩
    · exact ⟨⟨h1, h2, by omega, bys_app h4 (bys_cons hb bys_nil)⟩, bys_nil⟩
  | checks size many check =>
    obtain ⟨h1, h2, h3, h4, h5, h6⟩ := hs
    obtain ⟨n1, n2⟩ := next_in check b
    show WOk (takeChecks size many check b).2 ∧ Bys (takeChecks size many check b).1
    unfold takeChecks
    split
    · exact ⟨⟨h1, h2, by omega, by assumption, n1, n2⟩, bys_cons hb bys_nil⟩
    · exact ⟨⟨h1, h2, by omega, by omega, n1, n2⟩, bys_cons hb (checkBytes_by n1 n2)⟩
  | signs many value =>
    obtain ⟨h1, h2, h3⟩ := hs
    obtain ⟨b0, b1⟩ := hb
    show WOk (takeSigns many value b).2 ∧ Bys (takeSigns many value b).1
    unfold takeSigns
    rcases h1 with rfl | rfl | rfl
    · rw [pw0] at h3
      rw [if_neg (by decide)]
      have e : pow2 (0 + 2) = 4 := rfl
      rw [e]
      refine ⟨⟨Or.inr (Or.inl rfl), by omega, by show _ < pow2 2; rw [pw2]; omega⟩, bys_cons (sign_by (by omega) (by omega)) bys_nil⟩
    · rw [pw2] at h3
      rw [if_neg (by decide)]
      have e : pow2 (2 + 2) = 16 := rfl
      rw [e]
      refine ⟨⟨Or.inr (Or.inr rfl), by omega, by show _ < pow2 4; rw [pw4]; omega⟩, bys_cons (sign_by (by omega) (by omega)) bys_nil⟩
    · rw [pw4] at h3
      rw [if_pos (by decide)]
      have e : pow2 (4 + 2) = 64 := rfl
      have e2 : pow2 (4 + 2 - 6) = 1 := rfl
      rw [e, e2]
      refine ⟨⟨Or.inl rfl, by omega, by show _ < pow2 0; rw [pw0]; omega⟩, bys_cons (sign_by (by omega) (by omega)) (bys_cons (sign_by (by omega) (by omega)) bys_nil)⟩
theorem wend_ok {s : WSt} (hs : WOk s) : WOk (wended s) ∧ Bys (wend s) := by
  cases s with
  | add key at_ => exact ⟨hs, bys_nil⟩
  | front row => exact ⟨hs, bys_nil⟩
  | esc e => exact ⟨hs, bys_nil⟩
  | runs many byte =>
    obtain ⟨h1, h2, h3⟩ := hs
    refine ⟨⟨by decide, by decide, h3⟩, ?_⟩
    show Bys (if many = 0 then [] else [many, byte])
    split
    · exact bys_nil
    · exact bys_cons ⟨h1, by omega⟩ (bys_cons h3 bys_nil)
  | chunks size held =>
    obtain ⟨h1, h2, h3, h4⟩ := hs
    exact ⟨⟨h1, h2, by simp; omega, bys_nil⟩, bys_cons ⟨by omega, by omega⟩ h4⟩
  | checks size many check =>
    obtain ⟨h1, h2, h3, h4, h5, h6⟩ := hs
    exact ⟨⟨h1, h2, by omega, by omega, h5, h6⟩, checkBytes_by h5 h6⟩
  | signs many value =>
    obtain ⟨h1, h2, h3⟩ := id hs
    refine ⟨hs, ?_⟩
    show Bys (if many = 0 then [] else _)
    rcases h1 with rfl | rfl | rfl
    · exact bys_nil
    · rw [pw2] at h3
      have e : pow2 (6 - 2) = 16 := rfl
      rw [if_neg (by decide), e]
      exact bys_cons (sign_by (by omega) (by omega)) bys_nil
    · rw [pw4] at h3
      have e : pow2 (6 - 4) = 4 := rfl
      rw [if_neg (by decide), e]
      exact bys_cons (sign_by (by omega) (by omega)) bys_nil
theorem wfeed_ok : ∀ {r : Row} {s : WSt}, WOk s → Bys r → WOk (wfeed s r).2 ∧ Bys (wfeed s r).1
  | [], s, hs, _ => ⟨hs, bys_nil⟩
  | b :: r, s, hs, hr => by
    obtain ⟨h1, h2⟩ := wtake_ok hs hr.head
    obtain ⟨h3, h4⟩ := wfeed_ok (r := r) h1 hr.tail
    exact ⟨h3, bys_app h2 h4⟩
def WOks (ss : List WSt) : Prop := ∀ s, s ∈ ss → WOk s
theorem WOks.head {s : WSt} {ss : List WSt} (h : WOks (s :: ss)) : WOk s := h s (List.mem_cons_self ..)
theorem WOks.tail {s : WSt} {ss : List WSt} (h : WOks (s :: ss)) : WOks ss := fun x hx => h x (List.mem_cons_of_mem _ hx)
theorem woks_cons {s : WSt} {ss : List WSt} (h : WOk s) (h2 : WOks ss) : WOks (s :: ss) := fun x hx => by
  rcases List.mem_cons.mp hx with e | hx
  · rw [e]; exact h
  · exact h2 x hx
theorem wthru_ok : ∀ {ss : List WSt} {r : Row}, WOks ss → Bys r → WOks (wthru ss r).2 ∧ Bys (wthru ss r).1 ∧ (wthru ss r).2.length = ss.length
  | [], r, hs, hr => ⟨hs, hr, rfl⟩
  | s :: ss, r, hs, hr => by
    obtain ⟨h1, h2⟩ := wfeed_ok hs.head hr
    obtain ⟨h3, h4, h5⟩ := wthru_ok (ss := ss) hs.tail h2
    exact ⟨woks_cons h1 h3, h4, congrArg Nat.succ h5⟩
theorem range256_mem {b : Int} (h : By b) : b ∈ range256 := by
  obtain ⟨h0, h1⟩ := h
  unfold range256
  rw [List.mem_map]
  exact ⟨b.toNat, List.mem_range.mpr (by omega), by show ((b.toNat : Nat) : Int) = b; omega⟩
theorem range256_by : Bys range256 := fun b hb => by
  unfold range256 at hb
  obtain ⟨i, hi, rfl⟩ := List.mem_map.mp hb
  have := List.mem_range.mp hi
  show 0 ≤ (i : Int) ∧ (i : Int) < 256
  omega
theorem range256_len : range256.length = 256 := by
  unfold range256
  rw [List.length_map, List.length_range]
theorem newW_ok {l : Lay} (h : l.Ok) : WOk (newW l) := by
  cases l with
  | add key =>
    obtain ⟨h1, h2, h3⟩ := h
    exact ⟨h1, h2, h3, by decide, by omega⟩
  | front => exact ⟨range256_len, fun b hb => range256_mem hb⟩
  | esc b => exact h
  | runs => exact ⟨by decide, by decide, by decide, by decide⟩
  | chunks n => exact ⟨h.1, h.2, by simp; have := h.1; omega, bys_nil⟩
  | checks n => exact ⟨h.1, h.2, by decide, by have := h.1; omega, by decide, by decide⟩
  | signs => exact ⟨Or.inl rfl, by decide, by decide⟩
/-! readers -/
theorem Bys.sub {r t : Row} (h : Bys r) (hs : ∀ x, x ∈ t → x ∈ r) : Bys t := fun x hx => h x (hs x hx)
theorem checkAll_ok : ∀ (c : Int) (r : Row), 0 ≤ c → c < 65521 → 0 ≤ checkAll c r ∧ checkAll c r < 65521
  | _, [], h0, h1 => ⟨h0, h1⟩
  | c, x :: r, _, _ => checkAll_ok (nextCheck c x) r (next_in c x).1 (next_in c x).2
theorem idx_sign {b : Int} (h : b ∈ signsT) : signsT.idxOf b < 64 := List.idxOf_lt_length_of_mem h
theorem rtake_ok {s : RSt} {b : Int} (hs : ROk s) (hb : By b) {row : Row} {s' : RSt} (h : rtake s b = .ok row s') : ROk s' ∧ Bys row := by
  cases s with
  | add key at_ =>
    obtain ⟨h1, h2, h3, h4, h5⟩ := hs
    injection h with e1 e2
    subst e1 e2
    exact ⟨⟨h1, h2, h3, Int.emod_nonneg _ (by omega), Int.emod_lt_of_pos _ (by omega)⟩, bys_cons (by_mod _) bys_nil⟩
  | front r =>
    obtain ⟨h1, h2⟩ := hs
    obtain ⟨b0, b1⟩ := hb
    injection h with e1 e2
    subst e1 e2
    have hk : b.toNat < r.length := by omega
    exact ⟨⟨by rw [length_moveFront hk]; exact h1, fun x hx => h2 x ((mem_moveFront hk).mp hx)⟩, bys_cons (h2 _ (gI_mem b0 (by omega))) bys_nil⟩
  | esc e done marked =>
    simp only [rtake] at h
    split at h
    · split at h
      · injection h with e1 e2
        subst e1 e2
        exact ⟨hs, bys_cons (by_mod _) bys_nil⟩
      · split at h
        · injection h with e1 e2
          subst e1 e2
          exact ⟨hs, bys_cons (by_mod _) bys_nil⟩
        · cases h
    · split at h
      · cases h
      · split at h
        · injection h with e1 e2
          subst e1 e2
          exact ⟨hs, bys_nil⟩
        · injection h with e1 e2
          subst e1 e2
          exact ⟨hs, bys_cons hb bys_nil⟩
  | runs done many lastN lastB =>
    obtain ⟨h1, h2, h3⟩ := hs
    simp only [rtake] at h
    split at h
    · split at h
      · cases h
      · injection h with e1 e2
        subst e1 e2
        exact ⟨⟨hb, h2, h3⟩, bys_nil⟩
    · split at h
      · cases h
      · injection h with e1 e2
        subst e1 e2
        refine ⟨⟨by unfold By; decide, h1, hb⟩, fun x hx => ?_⟩
        rw [List.eq_of_mem_replicate hx]
        exact hb
  | chunks size done left isLast =>
    obtain ⟨h1, h2, h3, h4⟩ := hs
    obtain ⟨b0, b1⟩ := hb
    simp only [rtake] at h
    split at h
    · injection h with e1 e2
      subst e1 e2
      exact ⟨⟨h1, h2, by omega, by omega⟩, bys_cons ⟨b0, b1⟩ bys_nil⟩
    · split at h
      · cases h
      · injection h with e1 e2
        subst e1 e2
        exact ⟨⟨h1, h2, b0, by omega⟩, bys_nil⟩
  | checks size done check held =>
    obtain ⟨h1, h2, h3, h4, h5, h6⟩ := hs
    have hh : Bys (held ++ [b]) := bys_app h6 (bys_cons hb bys_nil)
    simp only [rtake] at h
    have hl : ((held ++ [b]).length : Int) = held.length + 1 := by simp
    split at h
    · split at h
      · injection h with e1 e2
        subst e1 e2
        obtain ⟨c1, c2⟩ := checkAll_ok check (blockRow (held ++ [b])) h3 h4
        exact ⟨⟨h1, h2, c1, c2, by simp; omega, bys_nil⟩, hh.sub fun x hx => List.mem_of_mem_take hx⟩
      · cases h
    · injection h with e1 e2
      subst e1 e2
      exact ⟨⟨h1, h2, h3, h4, by omega, hh⟩, bys_nil⟩
  | signs done many value =>
    obtain ⟨h1, h2, h3⟩ := hs
    simp only [rtake] at h
    split at h
    · rename_i hm
      have hi := idx_sign hm
      split at h
      · rename_i hc
        injection h with e1 e2
        subst e1 e2
        have hm0 : many = 0 := by omega
        subst hm0
        rw [pw0] at h3
        exact ⟨⟨Or.inr (Or.inr (Or.inr rfl)), by omega, by show _ < pow2 6; rw [pw6]; omega⟩, bys_nil⟩
      · rename_i hc
        injection h with e1 e2
        subst e1 e2
        rcases h1 with rfl | rfl | rfl | rfl
        · exact absurd (show (0 : Int) + 6 < 8 by decide) hc
        · rw [pw2] at h3
          rw [show pow2 (2 - 2) = 1 from rfl]
          exact ⟨⟨Or.inl rfl, by omega, by show _ < pow2 0; rw [pw0]; omega⟩, bys_cons ⟨by omega, by omega⟩ bys_nil⟩
        · rw [pw4] at h3
          rw [show pow2 (4 - 2) = 4 from rfl]
          exact ⟨⟨Or.inr (Or.inl rfl), by omega, by show _ < pow2 2; rw [pw2]; omega⟩, bys_cons ⟨by omega, by omega⟩ bys_nil⟩
        · rw [pw6] at h3
          rw [show pow2 (6 - 2) = 16 from rfl]
          exact ⟨⟨Or.inr (Or.inr (Or.inl rfl)), by omega, by show _ < pow2 4; rw [pw4]; omega⟩, bys_cons ⟨by omega, by omega⟩ bys_nil⟩
    · cases h
theorem rend_ok {s : RSt} (hs : ROk s) {row : Row} (h : rend s = .ok row) : Bys row := by
  cases s with
  | add key at_ => injection h with e; subst e; exact bys_nil
  | front r => injection h with e; subst e; exact bys_nil
  | esc e done marked =>
    simp only [rend] at h
    split at h
    · cases h
    · injection h with e; subst e; exact bys_nil
  | runs done many lastN lastB =>
    simp only [rend] at h
    split at h
    · cases h
    · injection h with e; subst e; exact bys_nil
  | chunks size done left isLast =>
    simp only [rend] at h
    split at h
    · cases h
    · injection h with e; subst e; exact bys_nil
  | checks size done check held =>
    obtain ⟨h1, h2, h3, h4, h5, h6⟩ := hs
    simp only [rend] at h
    split at h
    · cases h
    · split at h
      · injection h with e
        subst e
        exact h6.sub fun x hx => List.mem_of_mem_take hx
      · cases h
  | signs done many value =>
    simp only [rend] at h
    split at h
    · cases h
    · split at h
      · cases h
      · injection h with e; subst e; exact bys_nil
theorem newR_ok {l : Lay} (h : l.Ok) : ROk (newR l) := by
  cases l with
  | add key =>
    obtain ⟨h1, h2, h3⟩ := h
    exact ⟨h1, h2, h3, by decide, by omega⟩
  | front => exact ⟨range256_len, range256_by⟩
  | esc b => exact h
  | runs => exact ⟨by unfold By; decide, by unfold By; decide, by unfold By; decide⟩
  | chunks n => exact ⟨h.1, h.2, by decide, by decide⟩
  | checks n => exact ⟨h.1, h.2, by decide, by decide, by simp; have := h.1; omega, bys_nil⟩
  | signs => exact ⟨Or.inl rfl, by decide, by decide⟩
/-- a row of pieces of like bytes -/
def flatR (pcs : List (Nat × Int)) : Row := (pcs.map fun q => List.replicate q.1 q.2).flatten
theorem flatR_snoc (pcs : List (Nat × Int)) (n : Nat) (b : Int) : flatR (pcs ++ [(n, b)]) = flatR pcs ++ List.replicate n b := by
  unfold flatR
  simp
end Flow

/-! parts side by side: objects with what they own, none of them touching another -/
namespace Flow
open PySem PySem.Spec PyProof.Rows L2
def flat : List (Addr × Addr) → List Addr
  | [] => []
  | x :: r => x.1 :: x.2 :: flat r
theorem mem_flat : ∀ {ps : List (Addr × Addr)} {x : Addr}, x ∈ flat ps ↔ ∃ (i : Nat) (p l : Addr), ps[i]? = some (p, l) ∧ (x = p ∨ x = l)
  | [], x => by simp [flat]
  | (p, l) :: r, x => by
    unfold flat
    rw [List.mem_cons, List.mem_cons, mem_flat (ps := r)]
    constructor
    · rintro (h | h | ⟨i, p', l', h, h'⟩)
      · exact ⟨0, p, l, rfl, Or.inl h⟩
      · exact ⟨0, p, l, rfl, Or.inr h⟩
      · exact ⟨i + 1, p', l', h, h'⟩
    · rintro ⟨i, p', l', h, h'⟩
      cases i with
      | zero =>
        have e : (p, l) = (p', l') := Option.some.inj h
        injection e with e1 e2
        subst e1 e2
        rcases h' with h' | h'
        · exact Or.inl h'
        · exact Or.inr (Or.inl h')
      | succ i => exact Or.inr (Or.inr ⟨i, p', l', h, h'⟩)
theorem flat_app : ∀ (a b : List (Addr × Addr)), flat (a ++ b) = flat a ++ flat b
  | [], b => rfl
  | x :: a, b => by
    show x.1 :: x.2 :: flat (a ++ b) = x.1 :: x.2 :: (flat a ++ flat b)
    rw [flat_app a b]
/-- no two places alike -/
theorem nd_set : ∀ {ps : List (Addr × Addr)} {i : Nat} {p l l' : Addr}, (flat ps).Nodup → ps[i]? = some (p, l) → (l' = l ∨ l' ∉ flat ps) → (flat (ps.set i (p, l'))).Nodup
  | [], i, p, l, l', _, h, _ => by simp at h
  | (a, b) :: r, 0, p, l, l', nd, h, hl => by
    have e : (a, b) = (p, l) := Option.some.inj h
    injection e with e1 e2
    subst e1 e2
    show (a :: l' :: flat r).Nodup
    rcases hl with hl | hl
    · rw [hl]; exact nd
    · have nd2 : (a :: b :: flat r).Nodup := nd
      have hl2 : l' ≠ a ∧ l' ≠ b ∧ l' ∉ flat r := by
        have : l' ∉ a :: b :: flat r := hl
        simpa using this
      have h1 := List.nodup_cons.mp nd2
      have h2 := List.nodup_cons.mp h1.2
      refine List.nodup_cons.mpr ⟨?_, List.nodup_cons.mpr ⟨hl2.2.2, h2.2⟩⟩
      intro hm
      rcases List.mem_cons.mp hm with hm | hm
      · exact hl2.1 hm.symm
      · exact h1.1 (List.mem_cons_of_mem _ hm)
  | (a, b) :: r, i + 1, p, l, l', nd, h, hl => by
    have nd2 : (a :: b :: flat r).Nodup := nd
    have h1 := List.nodup_cons.mp nd2
    have h2 := List.nodup_cons.mp h1.2
    have hr : r[i]? = some (p, l) := h
    have hl' : l' = l ∨ l' ∉ flat r := hl.imp id fun z => fun hm => z (List.mem_cons_of_mem _ (List.mem_cons_of_mem _ hm))
    have ih := nd_set h2.2 hr hl'
    have sub : ∀ x, x ∈ flat (r.set i (p, l')) → x ∈ flat r ∨ x = l' := by
      intro x hx
      obtain ⟨j, p2, l2, hj, hx2⟩ := mem_flat.mp hx
      by_cases hji : i = j
      · subst hji
        have hlt : i < r.length := (List.getElem?_eq_some_iff.mp hr).1
        rw [List.getElem?_set_self hlt] at hj
        have e := Option.some.inj hj
        injection e with e1 e2
        subst e1 e2
        rcases hx2 with hx2 | hx2
        · exact Or.inl (mem_flat.mpr ⟨i, _, _, hr, Or.inl hx2⟩)
        · exact Or.inr hx2
      · rw [List.getElem?_set_ne hji] at hj
        exact Or.inl (mem_flat.mpr ⟨j, p2, l2, hj, hx2⟩)
    have lin : l ∈ flat r := mem_flat.mpr ⟨i, p, l, hr, Or.inr rfl⟩
    show (a :: b :: flat (r.set i (p, l'))).Nodup
    have nl : ∀ x, x = a ∨ x = b → x ≠ l' := by
      intro x hx e
      subst e
      rcases hl with hl | hl
      · rw [← hl] at lin
        rcases hx with hx | hx
        · subst hx
          exact h1.1 (List.mem_cons_of_mem _ lin)
        · subst hx
          exact h2.1 lin
      · exact hl (show x ∈ a :: b :: flat r by rcases hx with hx | hx <;> simp [hx])
    refine List.nodup_cons.mpr ⟨fun hm => ?_, List.nodup_cons.mpr ⟨fun hm => ?_, ih⟩⟩
    · rcases List.mem_cons.mp hm with hm | hm
      · exact h1.1 (by rw [hm]; exact List.mem_cons_self ..)
      · rcases sub a hm with hm | hm
        · exact h1.1 (List.mem_cons_of_mem _ hm)
        · exact nl a (Or.inl rfl) hm
    · rcases sub b hm with hm | hm
      · exact h2.1 hm
      · exact nl b (Or.inr rfl) hm
section
variable {S : Type}
structure PartsP (A : Hp → Addr → Addr → S → Prop) : Prop where
  keep : ∀ (H H' : Hp) (p l : Addr) (s : S), A H p l s → (∀ o, H p = some o → H' p = some o) → (∀ o, H l = some o → H' l = some o) → A H' p l s
  trk : ∀ (H : Hp) (p l : Addr) (s : S), A H p l s → (∃ o, H p = some o) ∧ ∃ o, H l = some o
structure Good (A : Hp → Addr → Addr → S → Prop) (H : Hp) (ps : List (Addr × Addr)) (ss : List S) : Prop where
  len : ps.length = ss.length
  at_ : ∀ (i : Nat) (p l : Addr) (s : S), ps[i]? = some (p, l) → ss[i]? = some s → A H p l s
  nd : (flat ps).Nodup
structure Step (A : Hp → Addr → Addr → S → Prop) (X : List Addr) (H : Hp) (ps : List (Addr × Addr)) (ss : List S) (H' : Hp) (ps' : List (Addr × Addr)) (ss' : List S) : Prop where
  good : Good A H' ps' ss'
  fst : ps'.map (·.1) = ps.map (·.1)
  old : ∀ x, x ∈ flat ps' → x ∈ flat ps ∨ H x = none
  only : Only' (X ++ flat ps) H H'
variable {A : Hp → Addr → Addr → S → Prop} {X X' : List Addr} {H H' H1 H2 : Hp} {ps ps1 ps2 : List (Addr × Addr)} {ss ss1 ss2 : List S} {p l l' f : Addr} {s s' : S} {i : Nat} {o : HO}
theorem Good.trk (P : PartsP A) (g : Good A H ps ss) {x : Addr} (hx : x ∈ flat ps) : ∃ o, H x = some o := by
  obtain ⟨i, p, l, h, hx⟩ := mem_flat.mp hx
  have hi : i < ss.length := by rw [← g.len]; exact (List.getElem?_eq_some_iff.mp h).1
  obtain ⟨h1, h2⟩ := P.trk _ _ _ _ (g.at_ i p l _ h (List.getElem?_eq_getElem hi))
  rcases hx with hx | hx
  · rw [hx]; exact h1
  · rw [hx]; exact h2
theorem Good.ext (P : PartsP A) (g : Good A H ps ss) {Z : List Addr} (e : Only' Z H H') (hz : ∀ x, x ∈ flat ps → x ∉ Z) : Good A H' ps ss := by
  refine ⟨g.len, fun i p l s h1 h2 => ?_, g.nd⟩
  exact P.keep H H' p l s (g.at_ i p l s h1 h2) (fun o h => e p o h (hz p (mem_flat.mpr ⟨i, p, l, h1, Or.inl rfl⟩))) (fun o h => e l o h (hz l (mem_flat.mpr ⟨i, p, l, h1, Or.inr rfl⟩)))
theorem Step.refl (g : Good A H ps ss) : Step A X H ps ss H ps ss := ⟨g, rfl, fun x hx => Or.inl hx, Only'.refl⟩
theorem Step.trans (a : Step A X H ps ss H1 ps1 ss1) (b : Step A X H1 ps1 ss1 H2 ps2 ss2) : Step A X H ps ss H2 ps2 ss2 := by
  refine ⟨b.good, b.fst.trans a.fst, fun x hx => ?_, ⟨fun c u hc hn => ?_, fun c u hc => ?_⟩⟩
  · rcases b.old x hx with h | h
    · exact a.old x h
    · exact Or.inr (a.only.free h)
  · have h1 := a.only c u hc hn
    refine b.only c u h1 fun hm => ?_
    rcases List.mem_append.mp hm with hm | hm
    · exact hn (List.mem_append_left _ hm)
    · rcases a.old c hm with h | h
      · exact hn (List.mem_append_right _ h)
      · rw [hc] at h; cases h
  · obtain ⟨u1, h1⟩ := a.only.more c u hc
    exact b.only.more c u1 h1
/-- one part has turned -/
theorem Step.one (P : PartsP A) (g : Good A H ps ss) (hp : ps[i]? = some (p, l)) (hs : ss[i]? = some s) (h : A H' p l' s') (hl : l' = l ∨ H l' = none) (o : Only' [p, l] H H') : Step A X H ps ss H' (ps.set i (p, l')) (ss.set i s') := by
  have hlt : i < ps.length := (List.getElem?_eq_some_iff.mp hp).1
  have hlt2 : i < ss.length := (List.getElem?_eq_some_iff.mp hs).1
  have pin : p ∈ flat ps := mem_flat.mpr ⟨i, p, l, hp, Or.inl rfl⟩
  have lin : l ∈ flat ps := mem_flat.mpr ⟨i, p, l, hp, Or.inr rfl⟩
  have hln : l' = l ∨ l' ∉ flat ps := hl.imp id fun z hm => by
    obtain ⟨u, e⟩ := g.trk P hm
    rw [z] at e
    cases e
  -- two parts do not touch one another
  have apart : ∀ (j : Nat) (q m : Addr), ps[j]? = some (q, m) → j ≠ i → q ∉ [p, l] ∧ m ∉ [p, l] := by
    intro j q m hj hne
    have key : ∀ (ps : List (Addr × Addr)) (i j : Nat), (flat ps).Nodup → ps[i]? = some (p, l) → ps[j]? = some (q, m) → j ≠ i → q ∉ [p, l] ∧ m ∉ [p, l] := by
      intro ps
      induction ps with
      | nil => intro i j _ h; simp at h
      | cons x r ih =>
        intro i j nd hi hj hne
        obtain ⟨a, b⟩ := x
        have nd2 : (a :: b :: flat r).Nodup := nd
        have h1 := List.nodup_cons.mp nd2
        have h2 := List.nodup_cons.mp h1.2
        cases i with
        | zero =>
          cases j with
          | zero => exact absurd rfl hne
          | succ j =>
            have e := Option.some.inj hi
            injection e with e1 e2
            subst e1 e2
            have qin : q ∈ flat r := mem_flat.mpr ⟨j, q, m, hj, Or.inl rfl⟩
            have min : m ∈ flat r := mem_flat.mpr ⟨j, q, m, hj, Or.inr rfl⟩
            have n1 : a ∉ flat r := fun z => h1.1 (List.mem_cons_of_mem _ z)
            refine ⟨?_, ?_⟩
            · intro z
              rcases List.mem_cons.mp z with z | z
              · exact n1 (z ▸ qin)
              · exact h2.1 ((List.mem_singleton.mp z) ▸ qin)
            · intro z
              rcases List.mem_cons.mp z with z | z
              · exact n1 (z ▸ min)
              · exact h2.1 ((List.mem_singleton.mp z) ▸ min)
        | succ i =>
          cases j with
          | zero =>
            have e := Option.some.inj hj
            injection e with e1 e2
            subst e1 e2
            have pin : p ∈ flat r := mem_flat.mpr ⟨i, p, l, hi, Or.inl rfl⟩
            have lin : l ∈ flat r := mem_flat.mpr ⟨i, p, l, hi, Or.inr rfl⟩
            have n1 : a ∉ flat r := fun z => h1.1 (List.mem_cons_of_mem _ z)
            refine ⟨?_, ?_⟩
            · intro z
              rcases List.mem_cons.mp z with z | z
              · exact n1 (z ▸ pin)
              · exact n1 ((List.mem_singleton.mp z) ▸ lin)
            · intro z
              rcases List.mem_cons.mp z with z | z
              · exact h2.1 (z ▸ pin)
              · exact h2.1 ((List.mem_singleton.mp z) ▸ lin)
          | succ j => exact ih i j h2.2 hi hj fun z => hne (congrArg Nat.succ z)
    exact key ps i j g.nd hp hj hne
  refine ⟨⟨?_, fun j q m t h1 h2 => ?_, nd_set g.nd hp hln⟩, ?_, fun x hx => ?_, ?_⟩
  · rw [List.length_set, List.length_set]; exact g.len
  · by_cases hji : i = j
    · subst hji
      rw [List.getElem?_set_self hlt] at h1
      rw [List.getElem?_set_self hlt2] at h2
      have e := Option.some.inj h1
      injection e with e1 e2
      have e3 := Option.some.inj h2
      subst e1 e2 e3
      exact h
    · rw [List.getElem?_set_ne hji] at h1 h2
      obtain ⟨n1, n2⟩ := apart j q m h1 (fun z => hji z.symm)
      exact P.keep H H' q m t (g.at_ j q m t h1 h2) (fun u hu => o q u hu n1) (fun u hu => o m u hu n2)
  · rw [List.map_set]
    refine List.ext_getElem? fun j => ?_
    by_cases hji : i = j
    · subst hji
      rw [List.getElem?_set_self (by rw [List.length_map]; exact hlt), List.getElem?_map, hp]
      rfl
    · rw [List.getElem?_set_ne hji]
  · obtain ⟨j, q, m, hj, hx⟩ := mem_flat.mp hx
    by_cases hji : i = j
    · subst hji
      rw [List.getElem?_set_self hlt] at hj
      have e := Option.some.inj hj
      injection e with e1 e2
      subst e1 e2
      rcases hx with hx | hx
      · rw [hx]; exact Or.inl pin
      · rw [hx]
        rcases hl with z | z
        · rw [z]; exact Or.inl lin
        · exact Or.inr z
    · rw [List.getElem?_set_ne hji] at hj
      exact Or.inl (mem_flat.mpr ⟨j, q, m, hj, hx⟩)
  · refine o.mono fun a ha => List.mem_append_right _ ?_
    rcases List.mem_cons.mp ha with z | z
    · rw [z]; exact pin
    · rw [List.mem_singleton.mp z]; exact lin
/-- one of the X is written -/
theorem Step.put (P : PartsP A) (a : Step A X H ps ss H1 ps1 ss1) (hf : f ∈ X) (n : f ∉ flat ps1) : Step A X H ps ss (upd H1 f o) ps1 ss1 := by
  refine ⟨a.good.ext P (Z := [f]) (Only'.put Only'.refl (List.mem_cons_self ..)) fun x hx hz => n (by rw [← List.mem_singleton.mp hz]; exact hx), a.fst, a.old, a.only.put (List.mem_append_left _ hf)⟩
/-- what stands elsewhere is no part's, behind it either -/
theorem Step.out (a : Step A X H ps ss H1 ps1 ss1) {u : HO} (hf : H f = some u) (n : f ∉ flat ps) : f ∉ flat ps1 := fun hm => by
  rcases a.old f hm with h | h
  · exact n h
  · rw [hf] at h; cases h
/-- something new is laid -/
theorem Step.new (P : PartsP A) (a : Step A X H ps ss H1 ps1 ss1) (hf : H1 f = none) : Step A X H ps ss (upd H1 f o) ps1 ss1 := by
  refine ⟨a.good.ext P (Z := []) (Only'.put0 Only'.refl hf) (fun _ _ h => nomatch h), a.fst, a.old, a.only.put0 (a.only.free hf)⟩
theorem Step.ext (P : PartsP A) (a : Step A X H ps ss H1 ps1 ss1) (e : Only' [] H1 H2) : Step A X H ps ss H2 ps1 ss1 :=
  ⟨a.good.ext P e (fun _ _ h => nomatch h), a.fst, a.old, a.only.trans (e.mono fun _ h => nomatch h)⟩
/-- from an earlier heap on -/
theorem Step.pre (e : Only' X' H H1) (a : Step A X H1 ps ss H2 ps2 ss2) (hx : ∀ x, x ∈ X → x ∈ X' ∨ H x = none) : Step A X' H ps ss H2 ps2 ss2 := by
  refine ⟨a.good, a.fst, fun x hx => (a.old x hx).imp id fun z => e.free z, ⟨fun c u hc hn => ?_, fun c u hc => ?_⟩⟩
  · have h1 := e c u hc fun z => hn (List.mem_append_left _ z)
    refine a.only c u h1 fun hm => ?_
    rcases List.mem_append.mp hm with hm | hm
    · rcases hx c hm with z | z
      · exact hn (List.mem_append_left _ z)
      · rw [hc] at z; cases z
    · exact hn (List.mem_append_right _ hm)
  · obtain ⟨u1, h1⟩ := e.more c u hc
    exact a.only.more c u1 h1
theorem Step.wide (a : Step A X H ps ss H1 ps1 ss1) (hx : ∀ x, x ∈ X → x ∈ X') : Step A X' H ps ss H1 ps1 ss1 := a.pre (X' := X') Only'.refl fun x h => Or.inl (hx x h)
theorem Step.len (a : Step A X H ps ss H1 ps1 ss1) : ps1.length = ps.length := by
  have := congrArg List.length a.fst
  rw [List.length_map, List.length_map] at this
  exact this
end
/-- addresses of parts as values -/
def pV (ps : List (Addr × Addr)) : List V := ps.map fun x => V.ref x.1
theorem pV_fst {ps ps' : List (Addr × Addr)} (h : ps'.map (·.1) = ps.map (·.1)) : pV ps' = pV ps := by
  unfold pV
  have e : ∀ qs : List (Addr × Addr), qs.map (fun x => V.ref x.1) = (qs.map (·.1)).map V.ref := fun qs => by rw [List.map_map] <;> rfl
  rw [e, e, h]
theorem pV_at {ps : List (Addr × Addr)} {i : Nat} {p l : Addr} (h : ps[i]? = some (p, l)) : (pV ps)[i]? = some (V.ref p) := by
  unfold pV
  rw [List.getElem?_map, h] <;> rfl
theorem pV_get {ps : List (Addr × Addr)} {i : Nat} {x : V} (h : (pV ps)[i]? = some x) : ∃ p l, ps[i]? = some (p, l) ∧ x = V.ref p := by
  unfold pV at h
  rw [List.getElem?_map] at h
  cases e : ps[i]? with
  | none => rw [e] at h; cases h
  | some q =>
    rw [e] at h
    exact ⟨q.1, q.2, rfl, (Option.some.inj h).symm⟩
theorem pV_len (ps : List (Addr × Addr)) : (pV ps).length = ps.length := List.length_map ..
end Flow

/-! steps that the laws' own text wants -/
namespace Flow
open PySem PySem.Spec PyProof.Rows L2
/-! rules inside a comprehension, whose reading must not name the block -/
theorem ix_listK {X : Cx} (K : PySem.W.Frag) (h : X.K = K) : IxR X (rIxL K) := h ▸ ix_list
theorem ix_tupK {X : Cx} (K : PySem.W.Frag) (h : X.K = K) : IxR X (rIxT K) := h ▸ ix_tup
theorem op_inK {X : Cx} (K : PySem.W.Frag) (h : X.K = K) : OpR X (compareOp .In) (rIn K false) := h ▸ op_in_seq
theorem op_ninK {X : Cx} (K : PySem.W.Frag) (h : X.K = K) : OpR X (compareOp .NotIn) (rIn K true) := h ▸ op_notIn_seq
theorem sl_listK {X : Cx} (K : PySem.W.Frag) (h : X.K = K) : SlR X (rSlL K) := h ▸ sl_list
theorem sl_tupK {X : Cx} (K : PySem.W.Frag) (h : X.K = K) : SlR X (rSlT K) := h ▸ sl_tup
theorem call_lenK {X : Cx} (K : PySem.W.Frag) (h : X.K = K) : CallR X (.builtin "len") (rLen K) := h ▸ call_lenS
theorem call_isiK2 {X : Cx} (K : PySem.W.Frag) (h : X.K = K) : CallR X (.builtin "isinstance") (rIsi K) := h ▸ call_isi
section
variable {K : PySem.W.Frag} {σ : L2.St} {H : Hp} {ta tb te tv : TE} {t u : TT} {B : Bool → Hp → Prop} {i k : Int} {Q : VK} {p a : Addr} {xs ys vs : List V} {row : Row}
theorem x_tupleOfL (h : SqL K H p ys) (q : ∀ l, H l = none → Q (.ref l) (upd H l (.tup ys))) : rTupleOf K [.ref p] H Q := ⟨p, ys, rfl, Or.inl ⟨h, q⟩⟩
theorem x_truL (h : SqL K H p xs) (q : B (!xs.isEmpty) H) : rTru K (.ref p) H B := ⟨_, Or.inl ⟨xs, h, rfl⟩, q⟩
theorem x_catT (h : SqT K H p xs) (h2 : SqT K H a ys) (hx : xs ≠ []) (hy : ys ≠ []) (hz : xs.length + ys.length ≤ sizeLine) (q : ∀ r, H r = none → Q (.ref r) (upd H r (.tup (xs ++ ys)))) : rCatT K (.ref p) (.ref a) H Q :=
  ⟨p, a, xs, ys, rfl, rfl, h, h2, hx, hz, fun e => absurd e hy, fun _ => q⟩
theorem x_isiI {T : String} {b : Bool} (h : kitB "int" T = some b) (q : Q (.bl b) H) : rIsi K [.int i, .ty T] H Q := ⟨.int i, .ty T, .type "int", .type T, b, rfl, .ty T, .base (.int i), kit_ty h, q⟩
theorem x_isiL {T : String} {b : Bool} (e : H p = some (.lst xs)) (h : kitB "list" T = some b) (q : Q (.bl b) H) : rIsi K [.ref p, .ty T] H Q := ⟨.ref p, .ty T, .type "list", .type T, b, rfl, .ty T, .base (.lst e), kit_ty h, q⟩
theorem x_isiT {T : String} {b : Bool} (e : H p = some (.tup xs)) (h : kitB "tuple" T = some b) (q : Q (.bl b) H) : rIsi K [.ref p, .ty T] H Q := ⟨.ref p, .ty T, .type "tuple", .type T, b, rfl, .ty T, .base (.tup e), kit_ty h, q⟩
theorem x_intB {b : Bool} (q : Q (.int (if b then 1 else 0)) H) : rInt1 [.bl b] H Q := Or.inr ⟨b, rfl, q⟩
theorem x_sum (h : SqL K H a (iV row)) (q : Q (.int row.sum) H) : rSum K [.ref a] H Q := ⟨a, row, rfl, h, q⟩
/-- a list of ints that was just written, at a place -/
theorem x_ixI (row : Row) (h : H p = some (.lst (iV row))) (h0 : 0 ≤ i) (h1 : i < (row.length : Int)) (q : ∀ z, z ∈ row → Q (.int z) H) : rIxL K (.ref p) (.int i) H Q :=
  x_ixL (SqL.of h) (gI_at h0 h1) (q _ (gI_mem h0 h1))
/-- .. of texts -/
theorem x_ixW (ws : List Str) (h : H p = some (.lst (ws.map V.str))) (h0 : 0 ≤ i) (h1 : i < (ws.length : Int)) (q : ∀ z, z ∈ ws → Q (.str z) H) : rIxL K (.ref p) (.int i) H Q := by
  obtain ⟨j, rfl⟩ : ∃ j : Nat, i = (j : Int) := ⟨i.toNat, by omega⟩
  have hj : j < ws.length := by omega
  refine x_ixL (SqL.of h) (at_of rfl (by rw [List.getElem?_map, List.getElem?_eq_getElem hj]; rfl)) (q _ (List.getElem_mem hj))
/-- .. of anything -/
theorem x_ixV (vs : List V) (h : H p = some (.lst vs)) (h0 : 0 ≤ i) (h1 : i < (vs.length : Int)) (q : ∀ z, z ∈ vs → Q z H) : rIxL K (.ref p) (.int i) H Q := by
  obtain ⟨j, rfl⟩ : ∃ j : Nat, i = (j : Int) := ⟨i.toNat, by omega⟩
  have hj : j < vs.length := by omega
  exact x_ixL (SqL.of h) (at_of rfl (List.getElem?_eq_getElem hj)) (q _ (List.getElem_mem hj))
def rRg2 (σ : L2.St) (tb : TE) (k : Int → Int → Hp → Prop) : V → Hp → Prop := fun x H1 => tb σ H1 fun y H2 => ∃ i j, x = .int i ∧ y = .int j ∧ k i j H2
theorem x_lstRg2 (q : ta σ H fun x H1 => tb σ H1 fun y H2 => ∃ i j, x = .int i ∧ y = .int j ∧ RgOk i j ∧ ∀ q, H2 q = none → Q (.ref q) (upd H2 q (.lst (rgV i j)))) : tLstRg (tRg2 ta tb) σ H Q := q
theorem x_forR1b {j : Int} (h : V.int j = V.int i) : j = i := V.int.inj h
theorem by_in {z : Int} {row : Row} (h : Bys row) (hz : z ∈ row) : By z := h z hz
end
end Flow

/-! rows, layers and what is told, as data that may be compared -/
namespace Flow
open PySem PySem.Spec PyProof.Rows L2
theorem keep {H : Hp} {a b : Addr} {o u : HO} (h : H b = some u) (n : H a = none) : upd H a o b = some u := upd_get (ne_of_none h n) h
def rowD (r : Row) : PyData := .list (r.map .int)
theorem lay_ints : ∀ r : Row, PyData.canLayAll0 (r.map .int) = true
  | [] => by simp [PyData.canLayAll0]
  | x :: r => by simp [PyData.canLayAll0, PyData.canLay0, lay_ints r]
theorem depth_ints : ∀ r : Row, PyData.depthAll (r.map .int) = 0
  | [] => by simp [PyData.depthAll]
  | x :: r => by simp [PyData.depthAll, PyData.depth, depth_ints r]
theorem shaped_of {d : PyData} (h : d.canLay0 = true) (h2 : d.depth ≤ 64) : SeqAt.shaped d = true := by
  show (d.canLay0 && decide (d.depth ≤ 64)) = true
  rw [h, decide_eq_true h2]
  rfl
theorem row_shaped (r : Row) : SeqAt.shaped (rowD r) = true := shaped_of (by simp only [rowD, PyData.canLay0]; exact lay_ints r) (by simp only [rowD, PyData.depth]; rw [depth_ints]; decide)
theorem eqv_ints : ∀ a b : Row, PyData.eqvAll (a.map .int) (b.map .int) = decide (a = b)
  | [], [] => by simp [PyData.eqvAll]
  | [], y :: b => by simp [PyData.eqvAll]
  | x :: a, [] => by simp [PyData.eqvAll]
  | x :: a, y :: b => by
    have ih := eqv_ints a b
    have e : PyData.eqvAll ((x :: a).map .int) ((y :: b).map .int) = ((x == y) && PyData.eqvAll (a.map .int) (b.map .int)) := by simp only [List.map_cons, PyData.eqvAll, PyData.eqv]
    rw [e, ih]
    by_cases h : x = y
    · subst h
      simp
    · simp [h]
theorem row_eqv (a b : Row) : PyData.eqv (rowD a) (rowD b) = decide (a = b) := by
  have e : PyData.eqv (rowD a) (rowD b) = PyData.eqvAll (a.map .int) (b.map .int) := by simp only [rowD, PyData.eqv]
  rw [e, eqv_ints]
section
variable {K : PySem.W.Frag} {H : Hp} {a : Addr} {r : Row}
theorem dp_ints : ∀ r : Row, DpAll K H (iV r) (r.map .int)
  | [] => .nil
  | x :: r => .cons (.int x) (dp_ints r)
theorem dp_row (h : SqL K H a (iV r)) : Dp K H (.ref a) (rowD r) := .lst h (dp_ints r)
def layD (ly : Lay) : PyData := .tuple (.str (lk ly) :: (la ly).map .int)
where
  lk : Lay → Str
    | .add _ => "add"
    | .front => "front"
    | .esc _ => "escape"
    | .runs => "runs"
    | .chunks _ => "chunks"
    | .checks _ => "checks"
    | .signs => "signs"
  la : Lay → Row
    | .add key => key
    | .front => []
    | .esc b => [b]
    | .runs => []
    | .chunks n => [n]
    | .checks n => [n]
    | .signs => []
theorem lk_ok (ly : Lay) : PyData.strOk (layD.lk ly) = true := by
  cases ly
  · show PyData.strOk ("add" : Str) = true
    decide +kernel
  · decide +kernel
  · show PyData.strOk ("escape" : Str) = true
    decide +kernel
  · decide +kernel
  · show PyData.strOk ("chunks" : Str) = true
    decide +kernel
  · show PyData.strOk ("checks" : Str) = true
    decide +kernel
  · decide +kernel
theorem layD_lay (ly : Lay) : (layD ly).canLay0 = true := by
  unfold layD
  simp only [PyData.canLay0, PyData.canLayAll0]
  rw [lk_ok, lay_ints]
  rfl
theorem layD_depth (ly : Lay) : (layD ly).depth = 1 := by
  unfold layD
  simp only [PyData.depth, PyData.depthAll]
  rw [depth_ints]
  decide
theorem dp_lay {ly : Lay} (h : SqT K H a (.str (layD.lk ly) :: iV (layD.la ly))) : Dp K H (.ref a) (layD ly) := .tup h (.cons (.str _) (dp_ints _))
def laysD (l : List Lay) : PyData := .list (l.map layD)
theorem laysD_lay : ∀ l : List Lay, PyData.canLayAll0 (l.map layD) = true
  | [] => by simp [PyData.canLayAll0]
  | x :: l => by simp [PyData.canLayAll0, layD_lay x, laysD_lay l]
theorem laysD_depth : ∀ l : List Lay, PyData.depthAll (l.map layD) ≤ 1
  | [] => by simp [PyData.depthAll]
  | x :: l => by
    have h1 := laysD_depth l
    have h2 := layD_depth x
    simp only [List.map_cons, PyData.depthAll]
    omega
theorem lays_shaped (l : List Lay) : SeqAt.shaped (laysD l) = true := by
  refine shaped_of (by simp only [laysD, PyData.canLay0]; exact laysD_lay l) ?_
  have := laysD_depth l
  simp only [laysD, PyData.depth]
  omega
theorem dp_lays : ∀ {ts : List Addr} {l : List Lay}, ts.length = l.length → (∀ (i : Nat) (t : Addr) (ly : Lay), ts[i]? = some t → l[i]? = some ly → SqT K H t (.str (layD.lk ly) :: iV (layD.la ly))) → DpAll K H (ts.map V.ref) (l.map layD)
  | [], [], _, _ => .nil
  | [], _ :: _, h, _ => by simp at h
  | _ :: _, [], h, _ => by simp at h
  | t :: ts, ly :: l, h, g => .cons (dp_lay (g 0 t ly rfl rfl)) (dp_lays (by simpa using h) fun i u x h1 h2 => g (i + 1) u x h1 h2)
/-- a row of layers beside an empty list -/
theorem lays_nil (l : List Lay) : PyData.eqv (laysD l) (.list []) = decide (l = []) := by
  cases l with
  | nil => simp [laysD, PyData.eqv, PyData.eqvAll]
  | cons x r =>
    rw [decide_eq_false (by intro z; cases z)]
    simp [laysD, PyData.eqv, PyData.eqvAll]
theorem nil_shaped : SeqAt.shaped (.list []) = true := row_shaped []
theorem dp_nil (h : SqL K H a []) : Dp K H (.ref a) (.list []) := .lst h .nil
theorem x_eqD {x y : V} {d e : PyData} {Q : VK} (h1 : Dp K H x d) (h2 : Dp K H y e) (s1 : SeqAt.shaped d = true) (s2 : SeqAt.shaped e = true) (q : Q (.bl (PyData.eqv d e)) H) : rEqD K x y H Q := ⟨d, e, h1, h2, s1, s2, q⟩
theorem x_neD {x y : V} {d e : PyData} {Q : VK} (h1 : Dp K H x d) (h2 : Dp K H y e) (s1 : SeqAt.shaped d = true) (s2 : SeqAt.shaped e = true) (q : Q (.bl (!PyData.eqv d e)) H) : rNeD K x y H Q := ⟨d, e, h1, h2, s1, s2, q⟩
end
end Flow

/-! the end: the law's own def; a try as one reading -/
namespace Flow
open PySem PySem.Spec PyProof.Rows L2
def tTryE (K : PySem.W.Frag) (l : List Clause) (tb : WX → TS) : TS := fun D σ H => tb (wEach K (fun _ _ _ _ => False) D l) D σ H
theorem ps_try0 {X : Cx} {body : List Stmt} {h₀ : ExceptHandler} {hds : List ExceptHandler} {l : List Clause} {pos : Pos} {tb : WX → TS} (hs : X.stack = X.env :: X.outer) (hf : X.env.frame = some X.env.locals) (tk : Takes X (fun _ _ _ _ => False))
    (hh : Clauses X (h₀ :: hds) l) (hb : ∀ (W : WX) (pn : List (Addr × Obj)) (xe : Value → Shared → Prop), Takes (X.tr pn xe) W → PassesOwn (model X.prog X.w) X.A X.env xe → PSs (X.tr pn xe) body (tb W)) :
    PS X (.Try body (h₀ :: hds) [] [] pos) (tTryE X.K l tb) := ps_try_each hs hf tk hb hh
/-! a body with a try, piece by piece -/
section
variable {X : Cx} {s : Stmt} {ss : List Stmt} {R : TS → Prop} {t1 u : TS}
theorem drv_go {D : Ends} {σ0 : L2.St} {H : Hp} (h : ∃ t, PSs X ss t ∧ (fun t : TS => t D σ0 H) t) : ∃ (t : TS) (σ : L2.St), PSs X ss t ∧ σ = σ0 ∧ t D σ H := by
  obtain ⟨t, a, b⟩ := h
  exact ⟨t, σ0, a, rfl, b⟩
theorem drv_cons (h1 : PS X s t1) (h : ∃ u, PSs X ss u ∧ (fun u => R (tSeq t1 u)) u) : ∃ t, PSs X (s :: ss) t ∧ R t := by
  obtain ⟨u, a, b⟩ := h
  exact ⟨_, pss_cons h1 a, b⟩
theorem drv_end (h : PSs X ss u) (r : R u) : ∃ t, PSs X ss t ∧ R t := ⟨u, h, r⟩
end
/-- a tuple of the text's top that bears no dict -/
def tupNB (K : PySem.W.Frag) (x : Str) : Bool := match K.lookup (He.ga K x) with
  | some ⟨.type c, none, _, _⟩ => decide (c = "tuple")
  | _ => false
theorem tupNB_ok {K : PySem.W.Frag} {x : Str} (h : tupNB K x = true) : ∃ o, K.lookup (He.ga K x) = some o ∧ o.cls = .type "tuple" ∧ o.dict = none := by
  unfold tupNB at h
  split at h
  · rename_i c _ _ e
    exact ⟨_, e, congrArg Value.type (of_decide_eq_true h), rfl⟩
  · cases h
section
variable {P : Program} {w : World} {K : PySem.W.Frag} {mg : Str → Option Value} {base : Heap} {k : Nat} {f : Addr} {ps : List Str} {sp : Sp} {fd : FuncData}
/-- the law's def, its function object at hand -/
theorem law_ok {x qual : Str} {st : Stmt} {N : List Str} (F : FunD K x qual (defArgs st) (defBody st) (defScope st) [] [] f fd) (S : FnScope N ps (defScope st))
    (len : ∀ vs H Q E, sp vs H Q E → vs.length = ps.length)
    (go : ∀ (cdv : Value) (A : Around) (outer : List Env) (s : Shared) (H : Hp) (vs : List V) (Q : VK) (E : XK), Room k (A.deeper (envOfC qual (defScope st) s.heap.objs.size f cdv)) → sp vs H Q E →
      ∃ (t : TS) (σ : L2.St), PSs (cxOf (L2.CX P w) P w K mg base N qual (defScope st) f cdv A outer s H E) (defBody st) t ∧ σ = start N vs ∧ t { nx := fun _ H' => Q .non H', rt := Q } σ H) : FnOk P w K mg base (L2.CX P w) (k + 1) f fd ps sp :=
  F.ok S len fun cdv A outer s H vs Q E hr h => by
    obtain ⟨t, σ, a, e, b⟩ := go cdv A outer s H vs Q E hr h
    subst e
    exact ⟨t, a, b⟩
/-- a promise that lets nothing through -/
theorem nox (F : FnOk P w K mg base (L2.CX P w) k f fd ps sp) : FnOk P w K mg base CX0 k f fd ps (fun vs H Q _ => sp vs H Q E0) := by
  refine ⟨fun vs H Q _ h => F.len vs H Q E0 h, fun A outer s H args us vs Q E hr he hb hv h => ?_⟩
  refine codeAny_mono (F.run A outer s H args us vs Q E0 hr he hb hv h) fun r s' c => ?_
  cases r with
  | error e =>
    obtain ⟨_, _, _, _, _, _, _, _, _, _, _, _, z⟩ := c
    exact z.elim
  | ok fl => cases fl <;> exact c
end
end Flow

/-! plain: a stream is one layer's over the stream of the layers ahead; sizes -/
namespace Flow
def wfin (s : WSt) (r : Row) : Row := (wfeed s r).1 ++ wend (wfeed s r).2
theorem wfeed_app : ∀ (s : WSt) (x y : Row), wfeed s (x ++ y) = ((wfeed s x).1 ++ (wfeed (wfeed s x).2 y).1, (wfeed (wfeed s x).2 y).2)
  | s, [], y => rfl
  | s, b :: x, y => by
    show ((wtake s b).1 ++ (wfeed (wtake s b).2 (x ++ y)).1, (wfeed (wtake s b).2 (x ++ y)).2) = _
    rw [wfeed_app (wtake s b).2 x y]
    show (_ ++ (_ ++ _), _) = ((_ ++ _) ++ _, _)
    rw [List.append_assoc]
    rfl
theorem wthru_snoc : ∀ (ss : List WSt) (s : WSt) (r : Row), wthru (ss ++ [s]) r = ((wfeed s (wthru ss r).1).1, (wthru ss r).2 ++ [(wfeed s (wthru ss r).1).2])
  | [], s, r => rfl
  | t :: ss, s, r => by
    show ((wthru (ss ++ [s]) (wfeed t r).1).1, (wfeed t r).2 :: (wthru (ss ++ [s]) (wfeed t r).1).2) = _
    rw [wthru_snoc ss s (wfeed t r).1]
    rfl
theorem wthru_len : ∀ (ss : List WSt) (r : Row), (wthru ss r).2.length = ss.length
  | [], _ => rfl
  | s :: ss, r => congrArg Nat.succ (wthru_len ss (wfeed s r).1)
theorem wfin_app (s : WSt) (x y : Row) : wfin s (x ++ y) = (wfeed s x).1 ++ wfin (wfeed s x).2 y := by
  unfold wfin
  rw [wfeed_app, List.append_assoc]
theorem wendAll_snoc : ∀ (n : Nat) (ss : List WSt) (s : WSt), ss.length = n → wendAll (n + 1) (ss ++ [s]) = wfin s (wendAll n ss)
  | 0, [], s, _ => by
    show wend s ++ [] = [] ++ wend s
    simp
  | n + 1, t :: ss, s, h => by
    have hl : ss.length = n := by simpa using h
    show (wthru (ss ++ [s]) (wend t)).1 ++ wendAll (n + 1) (wthru (ss ++ [s]) (wend t)).2 = wfin s ((wthru ss (wend t)).1 ++ wendAll n (wthru ss (wend t)).2)
    rw [wthru_snoc, wfin_app, wendAll_snoc n (wthru ss (wend t)).2 _ (by rw [wthru_len, hl])]
theorem written_snoc (lays : List Lay) (ly : Lay) (row : Row) : written (lays ++ [ly]) row = wfin (newW ly) (written lays row) := by
  unfold written
  rw [List.map_append, List.length_append]
  show (wthru (lays.map newW ++ [newW ly]) row).1 ++ wendAll (lays.length + 1) (wthru (lays.map newW ++ [newW ly]) row).2 = _
  rw [wthru_snoc, wfin_app, wendAll_snoc lays.length (wthru (lays.map newW) row).2 _ (by rw [wthru_len, List.length_map])]
theorem written_nil (row : Row) : written [] row = row := List.append_nil row
/-! sizes -/
def pot : WSt → Nat
  | .chunks _ held => held.length
  | _ => 0
theorem wtake_len (s : WSt) (b : Int) : (wtake s b).1.length + pot (wtake s b).2 ≤ pot s + 3 := by
  cases s with
  | add key at_ => simp [wtake, takeAdd, pot]
  | front row => simp [wtake, takeFront, pot]
  | esc e =>
    simp only [wtake, escOut, pot]
    split
    · simp
    · split <;> simp
  | runs many byte =>
    simp only [wtake, takeRuns]
    split
    · simp [pot]
    · split <;> simp [pot]
  | chunks size held =>
    simp only [wtake, takeChunks]
    split
    · simp [pot]
    · simp [pot] <;> omega
  | checks size many check =>
    simp only [wtake, takeChecks]
    split <;> simp [pot, checkBytes]
  | signs many value =>
    simp only [wtake, takeSigns]
    split <;> simp [pot]
theorem wfeed_len : ∀ (s : WSt) (r : Row), (wfeed s r).1.length + pot (wfeed s r).2 ≤ pot s + 3 * r.length
  | s, [] => by simp [wfeed]
  | s, b :: r => by
    have h1 := wtake_len s b
    have h2 := wfeed_len (wtake s b).2 r
    show ((wtake s b).1 ++ (wfeed (wtake s b).2 r).1).length + pot (wfeed (wtake s b).2 r).2 ≤ _
    rw [List.length_append, List.length_cons]
    omega
theorem wend_len (s : WSt) : (wend s).length ≤ pot s + 2 := by
  cases s <;> simp only [wend, pot] <;> try simp
  · split <;> simp
  · simp [checkBytes]
  · split <;> simp
theorem pot_ok {s : WSt} (h : WOk s) : pot s ≤ 254 := by
  cases s <;> simp only [pot] <;> try omega
  obtain ⟨h1, h2, h3, h4⟩ := h
  omega
def bnd : Nat → Nat → Nat
  | 0, n => n
  | k + 1, n => bnd k (3 * n + 255)
theorem bnd_mono : ∀ (k : Nat) {a b : Nat}, a ≤ b → bnd k a ≤ bnd k b
  | 0, _, _, h => h
  | k + 1, _, _, h => bnd_mono k (by omega)
theorem bnd_le : ∀ (k n : Nat), n ≤ bnd k n
  | 0, n => Nat.le_refl n
  | k + 1, n => Nat.le_trans (by omega) (bnd_le k (3 * n + 255))
theorem bnd_more : ∀ {k k' : Nat} (n : Nat), k ≤ k' → bnd k n ≤ bnd k' n
  | 0, k', n, _ => bnd_le k' n
  | k + 1, 0, n, h => by omega
  | k + 1, k' + 1, n, h => bnd_more (k := k) (k' := k') (3 * n + 255) (by omega)
theorem wthru_fits : ∀ (ss : List WSt) (r : Row), WOks ss → Bys r → bnd ss.length r.length ≤ 16777216 → WFits ss r ∧ (wthru ss r).1.length ≤ bnd ss.length r.length
  | [], r, _, _, h => ⟨h, Nat.le_refl _⟩
  | s :: ss, r, hk, hb, h => by
    have h1 := wfeed_len s r
    have h2 := pot_ok hk.head
    have ⟨k1, b1⟩ := wfeed_ok hk.head hb
    have hm : bnd ss.length (wfeed s r).1.length ≤ bnd (ss.length + 1) r.length := bnd_mono ss.length (by omega)
    have hh : bnd (ss.length + 1) r.length ≤ 16777216 := h
    have ih := wthru_fits ss (wfeed s r).1 hk.tail b1 (by omega)
    have h0 := bnd_le (ss.length + 1) r.length
    exact ⟨⟨by omega, ih.1⟩, Nat.le_trans ih.2 hm⟩
theorem wend_fits : ∀ (n : Nat) (ss : List WSt), WOks ss → ss.length = n → n ≤ 8 → WEndFits n ss ∧ (wendAll n ss).length ≤ n * 840774
  | 0, _, _, _, _ => ⟨trivial, Nat.zero_le _⟩
  | n + 1, [], _, h, _ => by simp at h
  | n + 1, s :: ss, hk, h, h8 => by
    have hl : ss.length = n := by simpa using h
    have h1 := wend_len s
    have h2 := pot_ok hk.head
    have ⟨k1, b1⟩ := wend_ok hk.head
    have hb : bnd ss.length (wend s).length ≤ 840774 := by
      refine Nat.le_trans (bnd_mono _ (show (wend s).length ≤ 257 by omega)) ?_
      refine Nat.le_trans (bnd_more 257 (show ss.length ≤ 7 by omega)) ?_
      decide
    have ⟨f1, f2⟩ := wthru_fits ss (wend s) hk.tail b1 (by omega)
    have ⟨k2, b2, _⟩ := wthru_ok (ss := ss) (r := wend s) hk.tail b1
    have ih := wend_fits n (wthru ss (wend s)).2 k2 (by rw [wthru_len, hl]) (by omega)
    refine ⟨⟨f1, ih.1⟩, ?_⟩
    show ((wthru ss (wend s)).1 ++ wendAll n (wthru ss (wend s)).2).length ≤ _
    rw [List.length_append]
    have := ih.2
    omega
/-- .. closer -/
def ebd : Nat → Nat
  | 0 => 0
  | n + 1 => bnd n 257 + ebd n
theorem ebd_mono : ∀ {a b : Nat}, a ≤ b → ebd a ≤ ebd b
  | a, 0, h => by
    have e : a = 0 := by omega
    subst e
    exact Nat.le_refl _
  | a, b + 1, h => by
    by_cases e : a = b + 1
    · subst e
      exact Nat.le_refl _
    · exact Nat.le_trans (ebd_mono (a := a) (b := b) (by omega)) (Nat.le_add_left _ _)
theorem wend_short : ∀ (n : Nat) (ss : List WSt), WOks ss → ss.length = n → n ≤ 8 → (wendAll n ss).length ≤ ebd n
  | 0, _, _, _, _ => Nat.le_refl _
  | n + 1, [], _, h, _ => by simp at h
  | n + 1, s :: ss, hk, h, h8 => by
    have hl : ss.length = n := by simpa using h
    have h1 := wend_len s
    have h2 := pot_ok hk.head
    have ⟨k1, b1⟩ := wend_ok hk.head
    have hb : bnd ss.length (wend s).length ≤ bnd n 257 := by
      rw [hl]
      exact bnd_mono n (by omega)
    have hb2 : bnd n 257 ≤ 840774 := by
      refine Nat.le_trans (bnd_more 257 (show n ≤ 7 by omega)) ?_
      decide
    have ⟨f1, f2⟩ := wthru_fits ss (wend s) hk.tail b1 (by omega)
    have ⟨k2, b2, _⟩ := wthru_ok (ss := ss) (r := wend s) hk.tail b1
    have ih := wend_short n (wthru ss (wend s)).2 k2 (by rw [wthru_len, hl]) (by omega)
    show ((wthru ss (wend s)).1 ++ wendAll n (wthru ss (wend s)).2).length ≤ bnd n 257 + ebd n
    rw [List.length_append]
    omega
theorem newW_oks {lays : List Lay} (h : ∀ ly, ly ∈ lays → ly.Ok) : WOks (lays.map newW) := fun s hs => by
  obtain ⟨ly, hly, rfl⟩ := List.mem_map.mp hs
  exact newW_ok (h ly hly)
theorem written_fits {lays : List Lay} {row : Row} (h : ∀ ly, ly ∈ lays → ly.Ok) (h8 : lays.length ≤ 8) (hb : Bys row) (hr : row.length ≤ 400) :
    WFits (lays.map newW) row ∧ WEndFits lays.length (wthru (lays.map newW) row).2 ∧ (written lays row).length ≤ 16777216 := by
  have hk := newW_oks h
  have hbd : bnd (lays.map newW).length row.length ≤ 4000000 := by
    rw [List.length_map]
    refine Nat.le_trans (bnd_mono _ hr) (Nat.le_trans (bnd_more 400 h8) ?_)
    decide
  have ⟨f1, f2⟩ := wthru_fits _ row hk hb (by omega)
  have ⟨k2, b2, _⟩ := wthru_ok (ss := lays.map newW) (r := row) hk hb
  have ⟨g1, g2⟩ := wend_fits lays.length (wthru (lays.map newW) row).2 k2 (by rw [wthru_len, List.length_map]) h8
  refine ⟨f1, g1, ?_⟩
  unfold written
  rw [List.length_append]
  omega
theorem written_short {lays : List Lay} {row : Row} (h : ∀ ly, ly ∈ lays → ly.Ok) (h8 : lays.length ≤ 8) (hb : Bys row) (hr : bnd lays.length row.length ≤ 4000000) : (written lays row).length ≤ bnd lays.length row.length + ebd lays.length := by
  have hk := newW_oks h
  have ⟨f1, f2⟩ := wthru_fits (lays.map newW) row hk hb (by rw [List.length_map]; omega)
  have ⟨k2, b2, _⟩ := wthru_ok (ss := lays.map newW) (r := row) hk hb
  have g2 := wend_short lays.length (wthru (lays.map newW) row).2 k2 (by rw [wthru_len, List.length_map]) h8
  rw [List.length_map] at f2
  unfold written
  rw [List.length_append]
  omega
theorem wendAll_by : ∀ (n : Nat) (ss : List WSt), WOks ss → Bys (wendAll n ss)
  | 0, _, _ => bys_nil
  | n + 1, [], _ => bys_nil
  | n + 1, s :: ss, hk => by
    have ⟨k1, b1⟩ := wend_ok hk.head
    have ⟨k2, b2, _⟩ := wthru_ok (ss := ss) (r := wend s) hk.tail b1
    exact bys_app b2 (wendAll_by n _ k2)
theorem written_by {lays : List Lay} {row : Row} (h : ∀ ly, ly ∈ lays → ly.Ok) (hb : Bys row) : Bys (written lays row) := by
  have ⟨k2, b2, _⟩ := wthru_ok (ss := lays.map newW) (r := row) (newW_oks h) hb
  exact bys_app b2 (wendAll_by _ _ k2)
end Flow

/-! plain: what comes of each byte, and at the end, as the laws' own writing tells it -/
namespace Flow
def outs0 : WSt → Row → List Row
  | _, [] => []
  | s, b :: r => (wtake s b).1 :: outs0 (wtake s b).2 r
def outs (s : WSt) (r : Row) : List Row := outs0 s r ++ [wend (wfeed s r).2]
theorem outs0_flat : ∀ (s : WSt) (r : Row), (outs0 s r).flatten = (wfeed s r).1
  | s, [] => rfl
  | s, b :: r => by
    show (wtake s b).1 ++ (outs0 (wtake s b).2 r).flatten = (wtake s b).1 ++ (wfeed (wtake s b).2 r).1
    rw [outs0_flat]
theorem outs_flat (s : WSt) (r : Row) : (outs s r).flatten = wfin s r := by
  unfold outs wfin
  rw [List.flatten_append, outs0_flat]
  show _ ++ (wend _ ++ []) = _
  rw [List.append_nil]
theorem outs0_len : ∀ (s : WSt) (r : Row), (outs0 s r).length = r.length
  | _, [] => rfl
  | s, b :: r => congrArg Nat.succ (outs0_len (wtake s b).2 r)
def stAt (s : WSt) (r : Row) (i : Nat) : WSt := (wfeed s (r.take i)).2
def outAt (s : WSt) (r : Row) (i : Nat) : Row := (wtake (stAt s r i) (gI r (i : Int))).1
theorem gI_cons (b : Int) (r : Row) (i : Nat) : gI (b :: r) ((i + 1 : Nat) : Int) = gI r (i : Int) := by
  unfold gI
  rw [Int.toNat_natCast, Int.toNat_natCast]
  rfl
theorem outs0_at : ∀ (s : WSt) (r : Row), outs0 s r = (List.range r.length).map (outAt s r)
  | _, [] => rfl
  | s, b :: r => by
    show (wtake s b).1 :: outs0 (wtake s b).2 r = _
    rw [List.length_cons, List.range_succ_eq_map, List.map_cons, List.map_map, outs0_at (wtake s b).2 r]
    refine congrArg (List.cons _) (List.map_congr_left fun i _ => ?_)
    show (wtake (stAt (wtake s b).2 r i) (gI r (i : Int))).1 = (wtake (stAt (wtake s b).2 r i) (gI (b :: r) ((i + 1 : Nat) : Int))).1
    rw [gI_cons]
theorem stAt_zero (s : WSt) (r : Row) : stAt s r 0 = s := rfl
theorem stAt_all (s : WSt) (r : Row) : stAt s r r.length = (wfeed s r).2 := by
  unfold stAt
  rw [List.take_length]
theorem take_snoc {r : Row} {i : Nat} (h : i < r.length) : r.take (i + 1) = r.take i ++ [gI r (i : Int)] := by
  rw [List.take_succ_eq_append_getElem h]
  unfold gI
  rw [Int.toNat_natCast, List.getD_eq_getElem?_getD, List.getElem?_eq_getElem h]
  rfl
theorem stAt_succ {s : WSt} {r : Row} {i : Nat} (h : i < r.length) : stAt s r (i + 1) = (wtake (stAt s r i) (gI r (i : Int))).2 := by
  unfold stAt
  rw [take_snoc h, wfeed_app]
  rfl
theorem outs_at (s : WSt) (r : Row) : outs s r = (List.range r.length).map (outAt s r) ++ [wend (stAt s r r.length)] := by
  unfold outs
  rw [outs0_at, stAt_all]
theorem div_step (i n : Nat) (h : 0 < n) : (i % n + 1 = n ∧ (i + 1) % n = 0 ∧ (i + 1) / n = i / n + 1) ∨ (i % n + 1 < n ∧ (i + 1) % n = i % n + 1 ∧ (i + 1) / n = i / n) := by
  have e := Nat.div_add_mod i n
  have l := Nat.mod_lt i h
  by_cases c : i % n + 1 = n
  · have e2 : i + 1 = n * (i / n + 1) := by
      rw [Nat.mul_add, Nat.mul_one]
      omega
    refine Or.inl ⟨c, ?_, ?_⟩
    · rw [e2, Nat.mul_mod_right]
    · rw [e2, Nat.mul_div_cancel_left _ h]
  · have e2 : i + 1 = n * (i / n) + (i % n + 1) := by omega
    refine Or.inr ⟨by omega, ?_, ?_⟩
    · conv => lhs; rw [e2]
      rw [Nat.mul_add_mod, Nat.mod_eq_of_lt (by omega)]
    · conv => lhs; rw [e2]
      have e3 : (i % n + 1) / n = 0 := Nat.div_eq_of_lt (by omega)
      rw [Nat.mul_add_div h, e3, Nat.add_zero]
/-! add, escape -/
theorem add_st (key : Row) (hk : 1 ≤ key.length) (r : Row) : ∀ i : Nat, i ≤ r.length → stAt (.add key 0) r i = .add key ((i % key.length : Nat) : Int)
  | 0, _ => by
    rw [stAt_zero, Nat.zero_mod]
    rfl
  | i + 1, h => by
    rw [stAt_succ (by omega), add_st key hk r i (by omega)]
    show WSt.add key _ = _
    congr 1
    rw [← Int.natCast_one, ← Int.natCast_add, ← Int.natCast_emod]
    rcases div_step i key.length hk with ⟨a, b, _⟩ | ⟨a, b, _⟩
    · rw [a, b, Nat.mod_self]
    · rw [b, Nat.mod_eq_of_lt a]
theorem add_out (key : Row) (hk : 1 ≤ key.length) (r : Row) {i : Nat} (h : i < r.length) : outAt (.add key 0) r i = [(gI r (i : Int) + gI key ((i % key.length : Nat) : Int)) % 256] := by
  unfold outAt
  rw [add_st key hk r i (by omega)]
  rfl
theorem add_end (key : Row) (hk : 1 ≤ key.length) (r : Row) : wend (stAt (.add key 0) r r.length) = [] := by
  rw [add_st key hk r _ (Nat.le_refl _)]
  rfl
theorem esc_st (e : Int) (r : Row) : ∀ i : Nat, i ≤ r.length → stAt (.esc e) r i = .esc e
  | 0, _ => rfl
  | i + 1, h => by
    rw [stAt_succ (by omega), esc_st e r i (by omega)]
    rfl
theorem esc_out (e : Int) (r : Row) {i : Nat} (h : i < r.length) : outAt (.esc e) r i = escOut e (gI r (i : Int)) := by
  unfold outAt
  rw [esc_st e r i (by omega)]
  rfl
theorem esc_end (e : Int) (r : Row) : wend (stAt (.esc e) r r.length) = [] := by
  rw [esc_st e r _ (Nat.le_refl _)]
  rfl
/-! runs -/
theorem runs_st (r : Row) : ∀ i : Nat, i ≤ r.length → ∃ many byte, stAt (.runs 0 0) r i = .runs many byte ∧ 0 ≤ many ∧ many < 255 ∧ (0 < i → byte = gI r ((i - 1 : Nat) : Int)) ∧ (i = 0 → many = 0)
  | 0, _ => ⟨0, 0, rfl, by decide, by decide, fun h => absurd h (by decide), fun _ => rfl⟩
  | i + 1, h => by
    obtain ⟨many, byte, e, h0, h1, h2, h3⟩ := runs_st r i (by omega)
    rw [stAt_succ (by omega), e]
    show ∃ m b, (takeRuns many byte (gI r (i : Int))).2 = _ ∧ _
    unfold takeRuns
    by_cases c : many > 0 ∧ gI r (i : Int) ≠ byte
    · rw [if_pos c]
      exact ⟨1, _, rfl, by decide, by decide, fun _ => rfl, fun z => absurd z (by omega)⟩
    · rw [if_neg c]
      by_cases c2 : many + 1 = 255
      · rw [if_pos c2]
        exact ⟨0, _, rfl, by decide, by decide, fun _ => rfl, fun z => absurd z (by omega)⟩
      · rw [if_neg c2]
        exact ⟨many + 1, _, rfl, by omega, by omega, fun _ => rfl, fun z => absurd z (by omega)⟩
/-! chunks, checks -/
theorem chunks_st (n : Nat) (hn : 1 ≤ n) (r : Row) : ∀ i : Nat, i ≤ r.length → stAt (.chunks (n : Int) []) r i = .chunks (n : Int) ((r.take i).drop (i / n * n))
  | 0, _ => by
    rw [stAt_zero]
    simp
  | i + 1, h => by
    rw [stAt_succ (by omega), chunks_st n hn r i (by omega)]
    show (takeChunks _ _ _).2 = _
    have e := Nat.div_add_mod i n
    rw [Nat.mul_comm] at e
    have hlen : ((r.take i).drop (i / n * n)).length = i % n := by
      rw [List.length_drop, List.length_take, Nat.min_eq_left (by omega)]
      omega
    have hlen2 : ((r.take i).drop (i / n * n) ++ [gI r (i : Int)]).length = i % n + 1 := by rw [List.length_append, hlen]; rfl
    have hs : (r.take i).drop (i / n * n) ++ [gI r (i : Int)] = (r.take (i + 1)).drop (i / n * n) := by
      rw [take_snoc (by omega), List.drop_append_of_le_length (by rw [List.length_take, Nat.min_eq_left (by omega)]; omega)]
    unfold takeChunks
    rw [hlen2]
    rcases div_step i n hn with ⟨a, _, c⟩ | ⟨a, _, c⟩
    · rw [if_pos (by omega), c]
      have e2 : (i / n + 1) * n = i + 1 := by
        rw [Nat.add_mul, Nat.one_mul]
        omega
      have e3 : (r.take (i + 1)).drop (i + 1) = [] := List.drop_eq_nil_of_le (by rw [List.length_take]; omega)
      rw [e2, e3]
    · rw [if_neg (by omega), c, hs]
theorem chunks_out (n : Nat) (hn : 1 ≤ n) (r : Row) {i : Nat} (h : i < r.length) :
    outAt (.chunks (n : Int) []) r i = if (i + 1) % n = 0 then (n : Int) :: (r.take (i + 1)).drop (i + 1 - n) else [] := by
  unfold outAt
  rw [chunks_st n hn r i (by omega)]
  show (takeChunks _ _ _).1 = _
  have e := Nat.div_add_mod i n
  rw [Nat.mul_comm] at e
  have hlen : ((r.take i).drop (i / n * n)).length = i % n := by
    rw [List.length_drop, List.length_take, Nat.min_eq_left (by omega)]
    omega
  have hlen2 : ((r.take i).drop (i / n * n) ++ [gI r (i : Int)]).length = i % n + 1 := by rw [List.length_append, hlen]; rfl
  have hs : (r.take i).drop (i / n * n) ++ [gI r (i : Int)] = (r.take (i + 1)).drop (i / n * n) := by
    rw [take_snoc (by omega), List.drop_append_of_le_length (by rw [List.length_take, Nat.min_eq_left (by omega)]; omega)]
  unfold takeChunks
  rw [hlen2, hs]
  rcases div_step i n hn with ⟨a, b, c⟩ | ⟨a, b, c⟩
  · rw [if_pos (by omega), if_pos b, a]
    have e2 : i / n * n = i + 1 - n := by omega
    rw [e2]
  · rw [if_neg (by omega), if_neg (by omega)]
theorem chunks_end (n : Nat) (hn : 1 ≤ n) (r : Row) : wend (stAt (.chunks (n : Int) []) r r.length) = ((r.length % n : Nat) : Int) :: r.drop (r.length - r.length % n) := by
  rw [chunks_st n hn r _ (Nat.le_refl _), List.take_length]
  have e := Nat.div_add_mod r.length n
  rw [Nat.mul_comm] at e
  have e2 : r.length / n * n = r.length - r.length % n := by omega
  have e3 : r.length - (r.length - r.length % n) = r.length % n := by omega
  show ((r.drop _).length : Int) :: _ = _
  rw [List.length_drop, e2, e3]
theorem checkAll_snoc : ∀ (c : Int) (r : Row) (b : Int), checkAll c (r ++ [b]) = nextCheck (checkAll c r) b
  | _, [], _ => rfl
  | c, x :: r, b => checkAll_snoc (nextCheck c x) r b
theorem checks_st (n : Nat) (hn : 1 ≤ n) (r : Row) : ∀ i : Nat, i ≤ r.length → stAt (.checks (n : Int) 0 0) r i = .checks (n : Int) ((i % n : Nat) : Int) (checkAll 0 (r.take i))
  | 0, _ => by
    rw [stAt_zero, Nat.zero_mod]
    rfl
  | i + 1, h => by
    rw [stAt_succ (by omega), checks_st n hn r i (by omega), take_snoc (by omega), checkAll_snoc]
    show (takeChecks _ _ _ _).2 = _
    unfold takeChecks
    rcases div_step i n hn with ⟨a, b, _⟩ | ⟨a, b, _⟩
    · rw [if_neg (by omega), b]
      rfl
    · rw [if_pos (by omega), b]
      rfl
theorem checks_out (n : Nat) (hn : 1 ≤ n) (r : Row) {i : Nat} (h : i < r.length) :
    outAt (.checks (n : Int) 0 0) r i = gI r (i : Int) :: (if (i + 1) % n = 0 then checkBytes (checkAll 0 (r.take (i + 1))) else []) := by
  unfold outAt
  rw [checks_st n hn r i (by omega), take_snoc (by omega), checkAll_snoc]
  show (takeChecks _ _ _ _).1 = _
  unfold takeChecks
  rcases div_step i n hn with ⟨a, b, _⟩ | ⟨a, b, _⟩
  · rw [if_neg (by omega), if_pos b]
  · rw [if_pos (by omega), if_neg (by omega)]
theorem checks_end (n : Nat) (hn : 1 ≤ n) (r : Row) : wend (stAt (.checks (n : Int) 0 0) r r.length) = checkBytes (checkAll 0 r) := by
  rw [checks_st n hn r _ (Nat.le_refl _), List.take_length]
  rfl
end Flow

/-! plain: move to front, by sets -/
namespace Flow
open PyProof.Rows
/-- how many are different -/
def nd (xs : Row) : Nat := (firstMet (fun i => xs.getD i 0) xs.length).length
theorem nodup_len : ∀ {D E : Row}, D.Nodup → (∀ x, x ∈ D → x ∈ E) → D.length ≤ E.length
  | [], _, _, _ => Nat.zero_le _
  | x :: D, E, h, hs => by
    have hx : x ∈ E := hs x (List.mem_cons_self ..)
    have ⟨h1, h2⟩ := List.nodup_cons.mp h
    have ih := nodup_len (D := D) (E := E.erase x) h2 fun y hy => (List.mem_erase_of_ne (fun z : y = x => h1 (by rw [← z]; exact hy))).mpr (hs y (List.mem_cons_of_mem _ hy))
    rw [List.length_erase_of_mem hx] at ih
    have hp : 0 < E.length := List.length_pos_of_mem hx
    show D.length + 1 ≤ E.length
    omega
theorem met_nodup (val : Nat → Int) : ∀ i, (firstMet val i).Nodup
  | 0 => by
    rw [firstMet_zero]
    exact List.nodup_nil
  | i + 1 => by
    rw [firstMet_succ]
    unfold step_dedup
    split
    · exact met_nodup val i
    · rename_i h
      refine List.nodup_append.mpr ⟨met_nodup val i, by simp, fun a ha b hb => ?_⟩
      rw [List.mem_singleton.mp hb]
      intro e
      subst e
      exact h (List.any_eq_true.mpr ⟨_, ha, by simp⟩)
theorem met_mem (xs : Row) (x : Int) : x ∈ firstMet (fun i => xs.getD i 0) xs.length ↔ x ∈ xs := by
  have h := firstMet_any (fun i => xs.getD i 0) xs.length x
  have e : (List.range xs.length).map (fun i => xs.getD i 0) = xs := by
    refine List.ext_getElem? fun i => ?_
    rw [List.getElem?_map]
    by_cases hi : i < xs.length
    · rw [List.getElem?_range hi, List.getElem?_eq_getElem hi]
      simp [hi]
    · rw [List.getElem?_eq_none (by rw [List.length_range]; omega), List.getElem?_eq_none (by omega)]
      rfl
  rw [e] at h
  have t : ∀ l : Row, l.any (· == x) = true ↔ x ∈ l := fun l => by simp [List.any_eq_true]
  rw [← t, ← t, h]
theorem nd_eq {D xs : Row} (h : D.Nodup) (hm : ∀ x, x ∈ D ↔ x ∈ xs) : D.length = nd xs := by
  unfold nd
  refine Nat.le_antisymm (nodup_len h fun x hx => (met_mem xs x).mpr ((hm x).mp hx)) (nodup_len (met_nodup _ _) fun x hx => (hm x).mpr ((met_mem xs x).mp hx))
theorem move_eq {L : Row} {b : Int} (h : L.Nodup) (hb : b ∈ L) : moveFront L (L.idxOf b) = b :: L.filter (fun x => x != b) := by
  unfold moveFront
  rw [← List.erase_eq_eraseIdx_of_idxOf rfl, h.erase_eq_filter]
  have hl : L.idxOf b < L.length := List.idxOf_lt_length_of_mem hb
  rw [List.getD_eq_getElem?_getD, List.getElem?_eq_getElem hl, List.getElem_idxOf]
  rfl
theorem front_from {S : WSt} {r L : Row} {j : Nat} (hL : L.Nodup) (hj : stAt S r j = .front L) (hm : ∀ b, b ∈ r → b ∈ L) : ∀ d : Nat, j + d ≤ r.length →
    ∃ D : Row, stAt S r (j + d) = .front (D ++ L.filter (fun x => decide (x ∉ (r.take (j + d)).drop j))) ∧ D.Nodup ∧ (∀ x, x ∈ D ↔ x ∈ (r.take (j + d)).drop j)
  | 0, h => by
    have e : (r.take (j + 0)).drop j = [] := List.drop_eq_nil_of_le (by rw [List.length_take]; omega)
    rw [e]
    refine ⟨[], ?_, List.nodup_nil, fun x => Iff.rfl⟩
    rw [Nat.add_zero, hj, List.filter_eq_self.mpr (by simp)]
    rfl
  | d + 1, h => by
    obtain ⟨D, e, hD, hmD⟩ := front_from hL hj hm d (by omega)
    have hb : gI r ((j + d : Nat) : Int) ∈ r := gI_mem (by omega) (by omega)
    have hs : (r.take (j + (d + 1))).drop j = (r.take (j + d)).drop j ++ [gI r ((j + d : Nat) : Int)] := by
      rw [← Nat.add_assoc, take_snoc (by omega), List.drop_append_of_le_length (by rw [List.length_take, Nat.min_eq_left (by omega)]; omega)]
    rw [hs, ← Nat.add_assoc, stAt_succ (by omega), e]
    generalize gI r ((j + d : Nat) : Int) = b at *
    generalize (r.take (j + d)).drop j = s at *
    have hR : (D ++ L.filter (fun x => decide (x ∉ s))).Nodup := by
      refine List.nodup_append.mpr ⟨hD, hL.filter _, fun x hx y hy z => ?_⟩
      subst z
      have h2 := (List.mem_filter.mp hy).2
      exact of_decide_eq_true h2 ((hmD x).mp hx)
    have hbR : b ∈ D ++ L.filter (fun x => decide (x ∉ s)) := by
      refine List.mem_append.mpr ?_
      by_cases c : b ∈ s
      · exact Or.inl ((hmD b).mpr c)
      · exact Or.inr (List.mem_filter.mpr ⟨hm b hb, decide_eq_true c⟩)
    refine ⟨b :: D.filter (fun x => x != b), ?_, ?_, fun x => ?_⟩
    · show WSt.front (moveFront _ _) = _
      rw [move_eq hR hbR, List.filter_append, List.filter_filter]
      show WSt.front (b :: (_ ++ _)) = WSt.front (b :: (_ ++ _))
      congr 3
      refine List.filter_congr fun x _ => ?_
      by_cases h1 : x = b <;> by_cases h2 : x ∈ s <;> simp [h1, h2]
    · refine List.nodup_cons.mpr ⟨fun z => ?_, hD.filter _⟩
      have := (List.mem_filter.mp z).2
      simp at this
    · rw [List.mem_cons, List.mem_filter, List.mem_append, List.mem_singleton, hmD x]
      by_cases h1 : x = b <;> simp [h1]
theorem r256_nodup : range256.Nodup := by
  have h : (List.range 256).Nodup := List.nodup_range
  unfold range256
  refine List.Pairwise.map _ (fun a b z e => z ?_) h
  exact Int.ofNat.inj e
theorem mem_r256 {r : Row} (h : Bys r) : ∀ b, b ∈ r → b ∈ range256 := fun b hb => range256_mem (h b hb)
/-- a byte that was there before: how many different ones since -/
theorem front_old {r : Row} (hr : Bys r) {i last : Nat} (h : i < r.length) (hl : last < i) (he : gI r (last : Int) = gI r (i : Int)) (hn : gI r (i : Int) ∉ (r.take i).drop (last + 1)) :
    outAt (.front range256) r i = [(nd ((r.take i).drop (last + 1)) : Int)] := by
  obtain ⟨D0, e0, hD0, hm0⟩ := front_from (S := .front range256) (r := r) (j := 0) r256_nodup rfl (mem_r256 hr) last (by omega)
  rw [Nat.zero_add] at e0 hm0
  have hb : gI r (i : Int) ∈ r := gI_mem (by omega) (by omega)
  have hR : (D0 ++ range256.filter (fun x => decide (x ∉ (r.take last).drop 0))).Nodup := by
    refine List.nodup_append.mpr ⟨hD0, r256_nodup.filter _, fun x hx y hy z => ?_⟩
    subst z
    have h2 := (List.mem_filter.mp hy).2
    exact of_decide_eq_true h2 ((hm0 x).mp hx)
  have hall : ∀ b, b ∈ r → b ∈ D0 ++ range256.filter (fun x => decide (x ∉ (r.take last).drop 0)) := fun b hb => by
    refine List.mem_append.mpr ?_
    by_cases c : b ∈ (r.take last).drop 0
    · exact Or.inl ((hm0 b).mpr c)
    · exact Or.inr (List.mem_filter.mpr ⟨range256_mem (hr b hb), decide_eq_true c⟩)
  generalize D0 ++ range256.filter (fun x => decide (x ∉ (r.take last).drop 0)) = R at *
  have e1 : stAt (.front range256) r (last + 1) = .front (gI r (i : Int) :: R.filter (fun x => x != gI r (i : Int))) := by
    rw [stAt_succ (by omega), e0, he]
    show WSt.front (moveFront _ _) = _
    rw [move_eq hR (hall _ hb)]
  generalize hbb : gI r (i : Int) = b at *
  have hnd : (b :: R.filter (fun x => x != b)).Nodup := by
    refine List.nodup_cons.mpr ⟨fun z => ?_, hR.filter _⟩
    have := (List.mem_filter.mp z).2
    simp at this
  obtain ⟨D, e2, hD, hmD⟩ := front_from (S := .front range256) (r := r) (j := last + 1) hnd e1 (fun x hx => by
    by_cases c : x = b
    · rw [c]; exact List.mem_cons_self ..
    · exact List.mem_cons_of_mem _ (List.mem_filter.mpr ⟨hall x hx, by simp [c]⟩)) (i - (last + 1)) (by omega)
  have ei : last + 1 + (i - (last + 1)) = i := by omega
  rw [ei] at e2 hmD
  unfold outAt
  rw [e2, hbb]
  show [((D ++ _).idxOf b : Int)] = _
  have hbD : b ∉ D := fun z => hn ((hmD b).mp z)
  rw [List.idxOf_append, if_neg hbD, List.filter_cons, if_pos (decide_eq_true hn), List.idxOf_cons_self, Nat.zero_add, nd_eq hD hmD]
theorem filter_two : ∀ (A : Row) (p : Int → Bool), (A.filter p).length + (A.filter fun x => !p x).length = A.length
  | [], _ => rfl
  | a :: A, p => by
    have ih := filter_two A p
    rw [List.filter_cons, List.filter_cons]
    cases p a <;> simp <;> omega
theorem idx_filter {A B : Row} {b : Int} {p : Int → Bool} (hA : b ∉ A) (hp : p b = true) : ((A ++ b :: B).filter p).idxOf b = (A.filter p).length := by
  rw [List.filter_append, List.filter_cons, if_pos hp, List.idxOf_append, if_neg (fun z => hA (List.mem_filter.mp z).1), List.idxOf_cons_self, Nat.zero_add]
theorem r256_split {b : Int} (h : By b) : ∃ A B : Row, range256 = A ++ b :: B ∧ A.Nodup ∧ (A.length : Int) = b ∧ ∀ x, x ∈ A ↔ (0 ≤ x ∧ x < b) := by
  obtain ⟨n, rfl⟩ : ∃ n : Nat, b = (n : Int) := ⟨b.toNat, by have := h.1; omega⟩
  have hn : n < 256 := by have := h.2; omega
  obtain ⟨m, hm⟩ : ∃ m, 256 = n + (m + 1) := ⟨255 - n, by omega⟩
  refine ⟨(List.range n).map Int.ofNat, ((List.range m).map (fun k => n + (k + 1))).map Int.ofNat, ?_, ?_, ?_, fun x => ?_⟩
  · unfold range256
    rw [hm, List.range_add, List.map_append, List.range_succ_eq_map]
    rw [List.map_cons, List.map_map, List.map_cons]
    refine congrArg (fun z => List.map Int.ofNat (List.range n) ++ (n : Int) :: z) ?_
    simp only [List.map_map]
    rfl
  · have h : (List.range n).Nodup := List.nodup_range
    exact List.Pairwise.map _ (fun a b z e => z (Int.ofNat.inj e)) h
  · rw [List.length_map, List.length_range]
  · rw [List.mem_map]
    constructor
    · rintro ⟨k, hk, rfl⟩
      have := List.mem_range.mp hk
      exact ⟨Int.natCast_nonneg k, Int.ofNat_lt.mpr this⟩
    · rintro ⟨h1, h2⟩
      exact ⟨x.toNat, List.mem_range.mpr (by omega), by show ((x.toNat : Nat) : Int) = x; omega⟩
/-- a byte that was not there before -/
theorem front_new {r : Row} (hr : Bys r) {i : Nat} (h : i < r.length) (hn : gI r (i : Int) ∉ r.take i) :
    outAt (.front range256) r i = [(nd (r.take i) : Int) + (gI r (i : Int) - (nd ((r.take i).filter fun x => decide (x < gI r (i : Int))) : Int))] := by
  obtain ⟨D, e, hD, hm⟩ := front_from (S := .front range256) (r := r) (j := 0) r256_nodup rfl (mem_r256 hr) i (by omega)
  rw [Nat.zero_add] at e hm
  rw [List.drop_zero] at e hm
  have hb : By (gI r (i : Int)) := hr _ (gI_mem (by omega) (by omega))
  unfold outAt
  rw [e]
  generalize gI r (i : Int) = b at *
  obtain ⟨A, B, e2, hA, hAl, hAm⟩ := r256_split hb
  have hbA : b ∉ A := fun z => by
    have := ((hAm b).mp z).2
    omega
  show [((D ++ _).idxOf b : Int)] = _
  have hbD : b ∉ D := fun z => hn ((hm b).mp z)
  have hf := filter_two A fun x => decide (x ∉ r.take i)
  have hk : (A.filter fun x => !decide (x ∉ r.take i)).length = nd ((r.take i).filter fun x => decide (x < b)) := by
    refine nd_eq (hA.filter _) fun x => ?_
    rw [List.mem_filter, List.mem_filter, hAm]
    constructor
    · rintro ⟨h1, h2⟩
      refine ⟨?_, decide_eq_true h1.2⟩
      by_cases c : x ∈ r.take i
      · exact c
      · simp [c] at h2
    · rintro ⟨h1, h2⟩
      exact ⟨⟨(hr x (List.mem_of_mem_take h1)).1, of_decide_eq_true h2⟩, by simp [h1]⟩
  rw [List.idxOf_append, if_neg hbD, e2, idx_filter hbA (decide_eq_true hn), nd_eq hD hm]
  congr 1
  omega
theorem front_end {r : Row} (hr : Bys r) : wend (stAt (.front range256) r r.length) = [] := by
  obtain ⟨D, e, _⟩ := front_from (S := .front range256) (r := r) (j := 0) r256_nodup rfl (mem_r256 hr) r.length (by omega)
  rw [Nat.zero_add] at e
  rw [e]
  rfl
end Flow

/-! plain: bits and groups; signs -/
namespace Flow
def bits1 (n : Nat) (x : Int) : Row := (List.range n).map fun k : Nat => x / gI powersT ((n : Int) - 1 - (k : Int)) % 2
def bitsOf (n : Nat) (r : Row) : Row := (r.map (bits1 n)).flatten
def grpOf (n : Nat) (g : Row) : Int := ((List.range n).map fun j : Nat => gI g (j : Int) * gI powersT ((n : Int) - 1 - (j : Int))).sum
def groupsOf (n : Nat) (bs : Row) : Row := (List.range (bs.length / n)).map fun k : Nat => grpOf n ((bs.drop (n * k)).take n)
theorem bits1_len (n : Nat) (x : Int) : (bits1 n x).length = n := by
  unfold bits1
  rw [List.length_map, List.length_range]
theorem bitsOf_len (n : Nat) : ∀ r : Row, (bitsOf n r).length = n * r.length
  | [] => rfl
  | x :: r => by
    have ih := bitsOf_len n r
    unfold bitsOf at *
    rw [List.map_cons, List.flatten_cons, List.length_append, bits1_len, ih, List.length_cons, Nat.mul_add]
    omega
theorem bitsOf_cons (n : Nat) (x : Int) (r : Row) : bitsOf n (x :: r) = bits1 n x ++ bitsOf n r := rfl
theorem bitsOf_app (n : Nat) (x y : Row) : bitsOf n (x ++ y) = bitsOf n x ++ bitsOf n y := by
  unfold bitsOf
  rw [List.map_append, List.flatten_append]
theorem groups_cons {n : Nat} (hn : 1 ≤ n) (A X : Row) (hA : A.length = n) : groupsOf n (A ++ X) = grpOf n A :: groupsOf n X := by
  unfold groupsOf
  have e : (A ++ X).length / n = X.length / n + 1 := by
    rw [List.length_append, hA, Nat.add_comm, Nat.add_div_right _ hn]
  rw [e, List.range_succ_eq_map, List.map_cons, List.map_map]
  congr 1
  · rw [Nat.mul_zero, List.drop_zero, List.take_append_of_le_length (by omega), List.take_of_length_le (by omega)]
  · refine List.map_congr_left fun k _ => ?_
    show grpOf n (((A ++ X).drop (n * (k + 1))).take n) = _
    have e2 : n * (k + 1) = A.length + n * k := by rw [hA, Nat.mul_add]; omega
    rw [e2, List.drop_append]
    have e3 : A.drop (A.length + n * k) = [] := List.drop_eq_nil_of_le (by omega)
    rw [e3, List.nil_append]
    congr 3
    omega
theorem groups_nil (n : Nat) : groupsOf n [] = [] := by
  unfold groupsOf
  simp
theorem bits8 (x : Int) : bits1 8 x = [x / 128 % 2, x / 64 % 2, x / 32 % 2, x / 16 % 2, x / 8 % 2, x / 4 % 2, x / 2 % 2, x / 1 % 2] := rfl
theorem grp6 (a b c d e f : Int) : grpOf 6 [a, b, c, d, e, f] = a * 32 + b * 16 + c * 8 + d * 4 + e * 2 + f := by
  show a * 32 + (b * 16 + (c * 8 + (d * 4 + (e * 2 + (f * 1 + 0))))) = _
  omega
/-- the signs of all bytes -/
def padOf (r : Row) : Nat := (6 - 8 * r.length % 6) % 6
def lawSigns (r : Row) : Row := (groupsOf 6 (bitsOf 8 r ++ List.replicate (padOf r) 0)).map signOf
def sCut (S : Row) (k : Nat) : Row := (S.drop (8 * k / 6)).take (8 * (k + 1) / 6 - 8 * k / 6)
theorem six (a b c d e f : Int) (X : Row) : groupsOf 6 (a :: b :: c :: d :: e :: f :: X) = grpOf 6 [a, b, c, d, e, f] :: groupsOf 6 X := groups_cons (by decide) [a, b, c, d, e, f] X rfl
theorem signs3 {a b c : Int} (ha : By a) (hb : By b) (hc : By c) (r : Row) : lawSigns (a :: b :: c :: r) = signOf (a / 4) :: signOf (a % 4 * 16 + b / 16) :: signOf (b % 16 * 4 + c / 64) :: signOf (c % 64) :: lawSigns r := by
  obtain ⟨a0, a1⟩ := ha
  obtain ⟨b0, b1⟩ := hb
  obtain ⟨c0, c1⟩ := hc
  unfold lawSigns
  have hp : padOf (a :: b :: c :: r) = padOf r := by
    unfold padOf
    simp only [List.length_cons]
    omega
  rw [hp, bitsOf_cons, bitsOf_cons, bitsOf_cons, bits8, bits8, bits8]
  simp only [List.cons_append, List.nil_append]
  rw [six, six, six, six, grp6, grp6, grp6, grp6]
  simp only [List.map_cons]
  congr 1
  · congr 1
    omega
  congr 1
  · congr 1
    omega
  congr 1
  · congr 1
    omega
  congr 1
  congr 1
  omega
theorem signs1 {a : Int} (ha : By a) : lawSigns [a] = [signOf (a / 4), signOf (a % 4 * 16)] := by
  obtain ⟨a0, a1⟩ := ha
  unfold lawSigns
  have hp : padOf [a] = 4 := by
    unfold padOf
    simp only [List.length_cons, List.length_nil]
  rw [hp, bitsOf_cons, bits8]
  show (groupsOf 6 (a / 128 % 2 :: a / 64 % 2 :: a / 32 % 2 :: a / 16 % 2 :: a / 8 % 2 :: a / 4 % 2 :: a / 2 % 2 :: a / 1 % 2 :: 0 :: 0 :: 0 :: 0 :: [])).map signOf = _
  rw [six, six, grp6, grp6, groups_nil]
  simp only [List.map_cons, List.map_nil]
  congr 1
  · congr 1
    omega
  congr 1
  congr 1
  omega
theorem signs2' {a b : Int} (ha : By a) (hb : By b) : lawSigns [a, b] = [signOf (a / 4), signOf (a % 4 * 16 + b / 16), signOf (b % 16 * 4)] := by
  obtain ⟨a0, a1⟩ := ha
  obtain ⟨b0, b1⟩ := hb
  unfold lawSigns
  have hp : padOf [a, b] = 2 := by
    unfold padOf
    simp only [List.length_cons, List.length_nil]
  rw [hp, bitsOf_cons, bitsOf_cons, bits8, bits8]
  show (groupsOf 6 (a / 128 % 2 :: a / 64 % 2 :: a / 32 % 2 :: a / 16 % 2 :: a / 8 % 2 :: a / 4 % 2 :: a / 2 % 2 :: a / 1 % 2 :: b / 128 % 2 :: b / 64 % 2 :: b / 32 % 2 :: b / 16 % 2 :: b / 8 % 2 :: b / 4 % 2 :: b / 2 % 2 :: b / 1 % 2 :: 0 :: 0 :: [])).map signOf = _
  rw [six, six, six, grp6, grp6, grp6, groups_nil]
  simp only [List.map_cons, List.map_nil]
  congr 1
  · congr 1
    omega
  congr 1
  · congr 1
    omega
  congr 1
  congr 1
  omega
theorem ts0 {a : Int} (ha : By a) : wtake (.signs 0 0) a = ([signOf (a / 4)], .signs 2 (a % 4)) := by
  show takeSigns 0 0 a = _
  unfold takeSigns
  rw [if_neg (by decide)]
  show ([signOf ((0 * 256 + a) / 4)], WSt.signs 2 ((0 * 256 + a) % 4)) = _
  have e : 0 * 256 + a = a := by omega
  rw [e]
theorem ts2 (v a : Int) : wtake (.signs 2 v) a = ([signOf ((v * 256 + a) / 16)], .signs 4 ((v * 256 + a) % 16)) := by
  show takeSigns 2 v a = _
  unfold takeSigns
  rw [if_neg (by decide)]
  rfl
theorem ts4 (v a : Int) : wtake (.signs 4 v) a = ([signOf ((v * 256 + a) / 64), signOf ((v * 256 + a) % 64)], .signs 0 0) := by
  show takeSigns 4 v a = _
  unfold takeSigns
  rw [if_pos (by decide)]
  show ([signOf ((v * 256 + a) / 64), signOf ((v * 256 + a) % 64 / 1)], WSt.signs 0 ((v * 256 + a) % 64 % 1)) = _
  rw [Int.ediv_one, Int.emod_one]
theorem cut1 (x y : Int) {a : Int} : (List.range [a].length).map (sCut [x, y]) ++ [[x, y].drop (8 * [a].length / 6)] = [[x], [y]] := by
  show [([x, y].drop (8 * 0 / 6)).take (8 * (0 + 1) / 6 - 8 * 0 / 6)] ++ [[x, y].drop (8 * 1 / 6)] = _
  rfl
theorem cut2 (x y z : Int) {a b : Int} : (List.range [a, b].length).map (sCut [x, y, z]) ++ [[x, y, z].drop (8 * [a, b].length / 6)] = [[x], [y], [z]] := by
  show [([x, y, z].drop (8 * 0 / 6)).take (8 * (0 + 1) / 6 - 8 * 0 / 6), ([x, y, z].drop (8 * 1 / 6)).take (8 * (1 + 1) / 6 - 8 * 1 / 6)] ++ [[x, y, z].drop (8 * 2 / 6)] = _
  rfl
theorem signs_rows : ∀ r : Row, Bys r → outs (.signs 0 0) r = (List.range r.length).map (sCut (lawSigns r)) ++ [(lawSigns r).drop (8 * r.length / 6)]
  | [], _ => rfl
  | [a], h => by
    rw [signs1 h.head]
    show (wtake (.signs 0 0) a).1 :: [wend (wtake (.signs 0 0) a).2] = _
    rw [ts0 h.head]
    exact (cut1 _ _).symm
  | [a, b], h => by
    rw [signs2' h.head h.tail.head]
    show (wtake (.signs 0 0) a).1 :: (wtake (wtake (.signs 0 0) a).2 b).1 :: [wend (wtake (wtake (.signs 0 0) a).2 b).2] = _
    rw [ts0 h.head]
    dsimp only
    rw [ts2]
    have hb := h.tail.head
    obtain ⟨b0, b1⟩ := hb
    have e1 : (a % 4 * 256 + b) / 16 = a % 4 * 16 + b / 16 := by omega
    have e2 : (a % 4 * 256 + b) % 16 = b % 16 := by omega
    rw [e1, e2]
    exact (cut2 _ _ _).symm
  | a :: b :: c :: r, h => by
    have ih := signs_rows r h.tail.tail.tail
    rw [signs3 h.head h.tail.head h.tail.tail.head]
    show (wtake (.signs 0 0) a).1 :: (wtake (wtake (.signs 0 0) a).2 b).1 :: (wtake (wtake (wtake (.signs 0 0) a).2 b).2 c).1 :: outs (wtake (wtake (wtake (.signs 0 0) a).2 b).2 c).2 r = _
    rw [ts0 h.head]
    dsimp only
    rw [ts2]
    dsimp only
    rw [ts4]
    dsimp only
    obtain ⟨b0, b1⟩ := h.tail.head
    obtain ⟨c0, c1⟩ := h.tail.tail.head
    have e1 : (a % 4 * 256 + b) / 16 = a % 4 * 16 + b / 16 := by omega
    have e2 : (a % 4 * 256 + b) % 16 = b % 16 := by omega
    rw [e1, e2]
    have e3 : (b % 16 * 256 + c) / 64 = b % 16 * 4 + c / 64 := by omega
    have e4 : (b % 16 * 256 + c) % 64 = c % 64 := by omega
    rw [e3, e4, ih]
    generalize signOf (a / 4) = s0
    generalize signOf (a % 4 * 16 + b / 16) = s1
    generalize signOf (b % 16 * 4 + c / 64) = s2
    generalize signOf (c % 64) = s3
    generalize lawSigns r = S
    have hl : (a :: b :: c :: r).length = r.length + 3 := rfl
    rw [hl, List.range_succ_eq_map, List.map_cons, List.map_map, List.range_succ_eq_map, List.map_cons, List.map_map, List.range_succ_eq_map, List.map_cons, List.map_map]
    have e5 : 8 * (r.length + 3) / 6 = 8 * r.length / 6 + 4 := by omega
    rw [e5]
    show _ = [s0] :: [s1] :: [s2, s3] :: (_ ++ [S.drop _])
    congr 4
    refine List.map_congr_left fun k _ => ?_
    show (S.drop (8 * k / 6)).take (8 * (k + 1) / 6 - 8 * k / 6) = ((s0 :: s1 :: s2 :: s3 :: S).drop (8 * (k + 3) / 6)).take (8 * (k + 3 + 1) / 6 - 8 * (k + 3) / 6)
    have e6 : 8 * (k + 3) / 6 = 8 * k / 6 + 4 := by omega
    have e7 : 8 * (k + 3 + 1) / 6 - (8 * k / 6 + 4) = 8 * (k + 1) / 6 - 8 * k / 6 := by omega
    rw [e6, e7]
    rfl
theorem lawSigns_len (r : Row) : (lawSigns r).length = (8 * r.length + padOf r) / 6 := by
  unfold lawSigns groupsOf
  rw [List.length_map, List.length_map, List.length_range, List.length_append, bitsOf_len, List.length_replicate]
end Flow

/-! steps that the laws' own writing and reading want: how many are different, dicts, rows of rows -/
namespace Flow
open PySem PySem.Spec PyProof.Rows L2
theorem units2 {k : Nat} {A : Around} (r : Room k A) : A.units + 1 < cLine := by
  have := r.units
  omega
/-! len(set(row)) -/
def rLenSet (K : PySem.W.Frag) : V → Hp → VK → Prop := fun x H Q => ∃ (l : Addr) (ns : Row), x = .ref l ∧ SqL K H l (iV ns) ∧ ns.length ≤ 4000 ∧ Q (.int (nd ns : Nat)) H
def tLenSetG (K : PySem.W.Frag) (ta : TE) : TE := fun σ H Q => ta σ H fun x H1 => rLenSet K x H1 Q
theorem pe_lenSetG {X : Cx} {a : Expr} {ta : TE} {p p2 q pos : Pos} (hc : X.calm = true) (hg : Gl X "len") (hm : X.mg "len" = none) (hg2 : Gl X "set") (hm2 : X.mg "set" = none) (ha : PE X a ta)
    (na : starEach [a] X.env = (false, eval a X.env) :: starEach [] X.env := by rfl) : PE X (.Call (.Name "len" p) [.Call (.Name "set" p2) [a] [] q] [] pos) (tLenSetG X.K ta) := by
  refine ⟨fun pins s σ H Q I h => ?_⟩
  refine Call_ (ld_blt I hg hm PySem.boot_len ?_)
  refine PyProof.Rows.callWith_builtin1 (PyProof.Rows.args_cons ?_ rfl) rfl rfl
  refine Call_ (ld_blt I hg2 hm2 PyProof.Rows.boot_set ?_)
  refine PyProof.Rows.callWith_type1 (PyProof.Rows.args_cons (thn (ha.run pins s σ H _ I h) fun v s1 ⟨x, H1, I1, r1, q1⟩ => PyProof.Rows.args_nil ?_) na) na rfl
  obtain ⟨l, ns, rfl, hq, h1, q1⟩ := q1
  cases r1
  obtain ⟨its, r, pl, hz⟩ := I1.list hq
  have hl : its.toArray.size = ns.length := by rw [List.size_toArray, ← r.length, iV_length]
  refine call_set_list (I1.ok.hd hc) pl.isList (ns := ns) (by simpa using r.ints) (by unfold scanBound; omega) fun h' tk hS hk => ?_
  rw [hl] at hS
  refine PyProof.Rows.args_nil ?_
  obtain ⟨o, es, ep, t, ho, hex, hd, _, _, _, hf, hn⟩ := hS
  have I2 : Inv X pins σ H1 { s1 with heap := h', toks := tk } := I1.kept fun b o e => hk b o (Heap.lt_size e) e
  have hle := firstMet_length_le (fun i => ns.getD i 0) ns.length
  refine call_len_set ho hex hd hf (by rw [hn] <;> omega) ⟨.int (nd ns : Nat), H1, I2.tok _, ⟨_, by rw [hn] <;> rfl⟩, q1⟩
section
variable {K : PySem.W.Frag} {σ : L2.St} {H : Hp} {ta td ty tx te tl : TE} {Q : VK} {a p : Addr} {i n : Int} {j : Nat} {xs : List V} {row : Row}
theorem x_lenSet (q : ta σ H fun x H1 => rLenSet K x H1 Q) : tLenSetG K ta σ H Q := q
theorem x_rLenSet (h : SqL K H a (iV row)) (hz : row.length ≤ 4000) (q : Q (.int (nd row : Nat)) H) : rLenSet K (.ref a) H Q := ⟨a, row, rfl, h, hz, q⟩
theorem x_max (h : SqL K H a (iV row)) (h0 : 0 < row.length) (q : ∀ m, m ∈ row → (∀ y, y ∈ row → y ≤ m) → Q (.int m) H) : rMax K [.ref a] H Q := ⟨a, row, rfl, h, h0, q⟩
/-! dicts of two -/
def rDisp (trs : List (TE × TE)) : L2.St → Hp → VK → Prop := fun σ H Q => ∀ p, H p = none → tPairs trs σ (upd H p (.dK [])) fun ps H2 => H2 p = some (.dK []) ∧ ∃ kvs : List (Key × V), ps = kvs.map (fun kv => (kV kv.1, kv.2)) ∧ kvs.length ≤ 15 ∧ Q (.ref p) (upd H2 p (.dK (mergeK [] kvs)))
theorem x_disp {trs : List (TE × TE)} (q : rDisp trs σ H Q) : tDisp trs σ H Q := q
theorem x_pnil {R : List (V × V) → Hp → Prop} (q : R [] H) : tPairs [] σ H R := q
theorem x_pcons {tk tv : TE} {r : List (TE × TE)} {R : List (V × V) → Hp → Prop} (q : tk σ H fun x H1 => tv σ H1 fun y H2 => tPairs r σ H2 fun ps H3 => R ((x, y) :: ps) H3) : tPairs ((tk, tv) :: r) σ H R := q
def rDGet2 (ty tx : TE) (σ : L2.St) : V → Hp → VK → Prop := fun x H1 Q => ∃ a, x = .ref a ∧ IsD H1 a ∧ ty σ H1 fun y H2 => tx σ H2 fun z H3 => ∃ o, DGet H3 a y o ∧ Q (o.getD z) H3
theorem x_dget2 (q : td σ H fun x H1 => rDGet2 ty tx σ x H1 Q) : tDGet2 td ty tx σ H Q := q
theorem x_rDGet2 {kvs : List (Key × V)} (h : H a = some (.dK kvs)) (q : ty σ H fun y H2 => tx σ H2 fun z H3 => ∃ o, DGet H3 a y o ∧ Q (o.getD z) H3) : rDGet2 ty tx σ (.ref a) H Q := ⟨a, rfl, .inl ⟨kvs, .inl h⟩, q⟩
theorem two_val (m0 m1 k : Int) (x y : V) : valV (mergeK [] [((Sum.inl m0 : Key), x), ((Sum.inl m1 : Key), y)]) (Sum.inl k : Key) = if k = m1 then some y else if k = m0 then some x else none := by
  show valV (putK (putK [] (Sum.inl m0 : Key) x) (Sum.inl m1 : Key) y) (Sum.inl k : Key) = _
  rw [valV_put, valV_put, valV_nil]
  have e : ∀ a b : Int, ((Sum.inl a : Key) = Sum.inl b) = (a = b) := fun a b => propext ⟨fun z => Sum.inl.inj z, fun z => congrArg _ z⟩
  simp only [e]
end
/-! rows of rows -/
structure RowsIn (H : Hp) (ts : List Addr) (rows : List Row) : Prop where
  len : ts.length = rows.length
  at_ : ∀ (i : Nat) (t : Addr) (r : Row), ts[i]? = some t → rows[i]? = some r → H t = some (.lst (iV r))
theorem RowsIn.nil {H : Hp} : RowsIn H [] [] := ⟨rfl, fun i t r h => by simp at h⟩
theorem RowsIn.keep {H H' : Hp} {ts : List Addr} {rows : List Row} (m : RowsIn H ts rows) (e : ∀ t o, t ∈ ts → H t = some o → H' t = some o) : RowsIn H' ts rows :=
  ⟨m.len, fun i t p h1 h2 => e t _ (List.mem_of_getElem? h1) (m.at_ i t p h1 h2)⟩
theorem RowsIn.ext {H H' : Hp} {ts : List Addr} {rows : List Row} (m : RowsIn H ts rows) (e : Ext H H') : RowsIn H' ts rows := m.keep fun t o _ h => e t o h (by simp)
theorem RowsIn.put {H : Hp} {ts : List Addr} {rows : List Row} {f : Addr} {o : HO} (m : RowsIn H ts rows) (hf : ∀ t, t ∈ ts → t ≠ f) : RowsIn (upd H f o) ts rows := m.keep fun t o ht h => upd_get (hf t ht) h
theorem RowsIn.snoc {H : Hp} {ts : List Addr} {rows : List Row} {t : Addr} {r : Row} (m : RowsIn H ts rows) (h : H t = some (.lst (iV r))) : RowsIn H (ts ++ [t]) (rows ++ [r]) := by
  refine ⟨by rw [List.length_append, List.length_append, m.len]; rfl, fun i u l h1 h2 => ?_⟩
  by_cases hi : i < ts.length
  · rw [List.getElem?_append_left hi] at h1
    rw [List.getElem?_append_left (by rw [← m.len]; exact hi)] at h2
    exact m.at_ i u l h1 h2
  · rw [List.getElem?_append_right (by omega)] at h1
    rw [List.getElem?_append_right (by rw [← m.len]; omega), ← m.len] at h2
    cases hd : i - ts.length with
    | zero =>
      rw [hd] at h1 h2
      have e1 : t = u := Option.some.inj h1
      have e2 : r = l := Option.some.inj h2
      subst e1 e2
      exact h
    | succ j =>
      rw [hd] at h1
      cases h1
theorem RowsIn.get {H : Hp} {ts : List Addr} {rows : List Row} (m : RowsIn H ts rows) {i : Nat} {r : Row} (h : rows[i]? = some r) : ∃ t, ts[i]? = some t ∧ H t = some (.lst (iV r)) := by
  have hi : i < ts.length := by
    rw [m.len]
    exact (List.getElem?_eq_some_iff.mp h).1
  exact ⟨_, List.getElem?_eq_getElem hi, m.at_ i _ _ (List.getElem?_eq_getElem hi) h⟩
theorem all_snoc {Nw : Addr → Prop} {ts : List Addr} {t : Addr} (h : ∀ u, u ∈ ts → Nw u) (ht : Nw t) : ∀ u, u ∈ ts ++ [t] → Nw u := fun u hu => by
  rcases List.mem_append.mp hu with z | z
  · exact h u z
  · rw [List.mem_singleton.mp z]
    exact ht
theorem ne_snoc {ts : List Addr} {t f : Addr} (h : ∀ u, u ∈ ts → u ≠ f) (ht : t ≠ f) : ∀ u, u ∈ ts ++ [t] → u ≠ f := fun u hu => by
  rcases List.mem_append.mp hu with z | z
  · exact h u z
  · rw [List.mem_singleton.mp z]
    exact ht
section
variable {K : PySem.W.Frag} {σ : L2.St} {H : Hp} {te : TE} {Q : VK} {a : Addr} {n : Int} {j : Nat} {xs : List V}
def RAcc (Nw : Addr → Prop) (H : Hp) (Dl : Addr) (f : Nat → Row) (i : Nat) (H' : Hp) : Prop := ∃ ts : List Addr, Ext H H' ∧ H' Dl = some (.lst (ts.map V.ref)) ∧ RowsIn H' ts ((List.range i).map f) ∧ (∀ t, t ∈ ts → t ≠ Dl) ∧ ∀ t, t ∈ ts → Nw t
theorem rows_turn {Nw : Addr → Prop} {H H' : Hp} {f : Nat → Row} {Dl : Addr} {i : Nat} {σ2 : L2.St} (hD : H Dl = none) (p : RAcc Nw H Dl f i H') (hz : i < 16777216)
    (he : (∀ t, H' t = none → t ≠ Dl) → ∀ Q' : VK, (∀ t H2, Ext H' H2 → H2 t = some (.lst (iV (f i))) → t ≠ Dl → Nw t → Q' (.ref t) H2) → te σ2 H' Q') :
    tYes σ2 H' fun b H3 => if b = true then te σ2 H3 fun y H4 => ∃ acc, H4 Dl = some (.lst acc) ∧ acc.length < sizeLine ∧ RAcc Nw H Dl f (i + 1) (upd H4 Dl (.lst (acc ++ [y]))) else RAcc Nw H Dl f (i + 1) H3 := by
  obtain ⟨ts, p1, p2, p3, p4, p5⟩ := p
  unfold tYes
  dsimp only
  rw [if_pos rfl]
  refine he (fun t ht => Ne.symm (ne_of_none p2 ht)) _ fun t H2 e2 h2 ht hw => ⟨ts.map V.ref, e2 Dl _ p2 (by simp), by rw [List.length_map, p3.len, List.length_map, List.length_range, sizeLine_eq]; omega, ts ++ [t], ?_, ?_, ?_, ne_snoc p4 ht, all_snoc p5 hw⟩
  · exact (p1.trans e2).put0 hD
  · rw [upd_same, List.map_append]
    rfl
  · rw [List.range_succ, List.map_append]
    exact ((p3.ext e2).snoc h2).put (ne_snoc p4 ht)
/-- a comprehension of rows, over a range -/
theorem x_rLcRN {ws : List Nat} {k : Nat} (Nw : Addr → Prop) (f : Nat → Row) (hn : n = (k : Int)) (hz : k ≤ 16777216) (hw : ∀ x, wipe ((wipe σ ws).set j (some x)) ws = wipe σ ws)
    (he : ∀ (i : Nat) H1 (Dl : Addr), i < k → Ext H H1 → H Dl = none → (∀ t, H1 t = none → t ≠ Dl) → ∀ Q' : VK, (∀ t H2, Ext H1 H2 → H2 t = some (.lst (iV (f i))) → t ≠ Dl → Nw t → Q' (.ref t) H2) → te ((wipe σ ws).set j (some (.int (i : Int)))) H1 Q')
    (q : ∀ p ts H1, H p = none → Ext H H1 → H1 p = some (.lst (ts.map V.ref)) → RowsIn H1 ts ((List.range k).map f) → (∀ t, t ∈ ts → t ≠ p) → (∀ t, t ∈ ts → Nw t) → Q (.ref p) H1) : rLcR (gName j) tYes te ws σ [.int n] H Q := by
  subst hn
  refine ⟨(k : Int), rfl, by omega, by omega, ?_⟩
  have ek : (k : Int).toNat = k := Int.toNat_natCast k
  rw [ek]
  refine fun Dl hD => lc_range (lo := 0) (n := k) (RAcc Nw H Dl f) ⟨[], Only'.put0 Only'.refl hD, upd_same, RowsIn.nil, (fun _ h => nomatch h), (fun _ h => nomatch h)⟩ (fun i H' hi p => ?_) (fun H' ⟨ts, p1, p2, p3, p4, p5⟩ => q Dl ts H' hD p1 p2 p3 p4 p5)
  rw [Int.zero_add]
  exact ⟨hw _, rows_turn hD p (by omega) fun hne Q' k => he i H' Dl hi p.choose_spec.1 hD hne Q' k⟩
/-- .. over a list -/
theorem x_rLcLN {ws : List Nat} (Nw : Addr → Prop) (f : Nat → Row) (h : SqL K H a xs) (hz : xs.length ≤ 16777216) (hw : ∀ x, wipe ((wipe σ ws).set j (some x)) ws = wipe σ ws)
    (he : ∀ (i : Nat) x H1 (Dl : Addr), xs[i]? = some x → Ext H H1 → H Dl = none → (∀ t, H1 t = none → t ≠ Dl) → ∀ Q' : VK, (∀ t H2, Ext H1 H2 → H2 t = some (.lst (iV (f i))) → t ≠ Dl → Nw t → Q' (.ref t) H2) → te ((wipe σ ws).set j (some x)) H1 Q')
    (q : ∀ p ts H1, H p = none → Ext H H1 → H1 p = some (.lst (ts.map V.ref)) → RowsIn H1 ts ((List.range xs.length).map f) → (∀ t, t ∈ ts → t ≠ p) → (∀ t, t ∈ ts → Nw t) → Q (.ref p) H1) : rLcL K (gName j) tYes te ws σ (.ref a) H Q := by
  refine ⟨a, rfl, ⟨xs, h⟩, fun Dl hD => lc_list (K := K) (a := a) (xs := xs) (RAcc Nw H Dl f) ⟨[], Only'.put0 Only'.refl hD, upd_same, RowsIn.nil, (fun _ h => nomatch h), (fun _ h => nomatch h)⟩ (fun i H' _ ⟨ts, p1, _⟩ => SqL.ext p1 h) (fun i x H' hi p => ?_) (fun H' ⟨ts, p1, p2, p3, p4, p5⟩ => q Dl ts H' hD p1 p2 p3 p4 p5)⟩
  have hil : i < xs.length := (List.getElem?_eq_some_iff.mp hi).1
  exact ⟨hw x, rows_turn hD p (by omega) fun hne Q' k => he i x H' Dl hi p.choose_spec.1 hD hne Q' k⟩
end
end Flow

namespace Flow
open PySem PySem.Spec PyProof.Rows L2
def top (i : Nat) : Stmt := PySem.Challenge.pw_flowstack_k02_written.main.body.getD i (.Pass ⟨0, 0, 0, 0⟩)
abbrev s_checked : Stmt := top 7
abbrev s_check_bytes : Stmt := top 8
abbrev s_look_layer : Stmt := top 23
abbrev s_look_layers : Stmt := top 24
abbrev s_writer_of : Stmt := top 25
abbrev s_through : Stmt := top 26
abbrev s_written : Stmt := top 28
abbrev s_law_cell : Stmt := top 30
abbrev s_law_mix : Stmt := top 31
abbrev s_law_whole : Stmt := top 32
abbrev s_law_layer : Stmt := top 33
abbrev s_law_layers : Stmt := top 34
abbrev s_law_row : Stmt := top 35
abbrev s_law_cuts : Stmt := top 36
abbrev s_law_bits : Stmt := top 37
abbrev s_law_groups : Stmt := top 38
abbrev s_law_signs : Stmt := top 39
abbrev s_law_checks : Stmt := top 40
abbrev s_law_write_runs : Stmt := top 41
abbrev s_law_write_front : Stmt := top 42
abbrev s_law_write_pieces : Stmt := top 43
abbrev s_law_write : Stmt := top 44
abbrev s_law_written : Stmt := top 45
abbrev s_law_is_row : Stmt := top 46
abbrev s_law_is_told : Stmt := top 47
abbrev s_law : Stmt := top 48
abbrev s_ChunksWriter_init : Stmt := inClass (top 6) 0
abbrev s_ChunksWriter_take : Stmt := inClass (top 6) 1
abbrev s_ChunksWriter_end : Stmt := inClass (top 6) 2
abbrev s_ChecksWriter_init : Stmt := inClass (top 9) 0
abbrev s_ChecksWriter_take : Stmt := inClass (top 9) 1
abbrev s_ChecksWriter_end : Stmt := inClass (top 9) 2
abbrev s_EscapeWriter_init : Stmt := inClass (top 12) 0
abbrev s_EscapeWriter_take : Stmt := inClass (top 12) 1
abbrev s_EscapeWriter_end : Stmt := inClass (top 12) 2
abbrev s_RunsWriter_init : Stmt := inClass (top 13) 0
abbrev s_RunsWriter_take : Stmt := inClass (top 13) 1
abbrev s_RunsWriter_end : Stmt := inClass (top 13) 2
abbrev s_SignsWriter_init : Stmt := inClass (top 17) 0
abbrev s_SignsWriter_take : Stmt := inClass (top 17) 1
abbrev s_SignsWriter_end : Stmt := inClass (top 17) 2
abbrev s_AddWriter_init : Stmt := inClass (top 19) 0
abbrev s_AddWriter_turned : Stmt := inClass (top 19) 1
abbrev s_AddWriter_take : Stmt := inClass (top 19) 2
abbrev s_AddWriter_end : Stmt := inClass (top 19) 3
abbrev s_FrontWriter_init : Stmt := inClass (top 20) 0
abbrev s_FrontWriter_to_front : Stmt := inClass (top 20) 1
abbrev s_FrontWriter_take : Stmt := inClass (top 20) 2
abbrev s_FrontWriter_end : Stmt := inClass (top 20) 3
abbrev s_Writer_init : Stmt := inClass (top 27) 0
abbrev s_Writer_take : Stmt := inClass (top 27) 1
abbrev s_Writer_end : Stmt := inClass (top 27) 2
abbrev n_checked : List Str := ["check", "row", "byte"]
theorem sc_checked : FnScope n_checked ["check", "row"] (defScope s_checked) := ⟨rfl, rfl, rfl, by decide +kernel, rfl, by decide +kernel, by decide +kernel⟩
abbrev n_check_bytes : List Str := ["check"]
theorem sc_check_bytes : FnScope n_check_bytes ["check"] (defScope s_check_bytes) := ⟨rfl, rfl, rfl, by decide +kernel, rfl, by decide +kernel, by decide +kernel⟩
abbrev n_look_layer : List Str := ["layer", "kind", "good", "byte"]
theorem sc_look_layer : FnScope n_look_layer ["layer"] (defScope s_look_layer) := ⟨rfl, rfl, rfl, by decide +kernel, rfl, by decide +kernel, by decide +kernel⟩
abbrev n_look_layers : List Str := ["layers", "layer"]
theorem sc_look_layers : FnScope n_look_layers ["layers"] (defScope s_look_layers) := ⟨rfl, rfl, rfl, by decide +kernel, rfl, by decide +kernel, by decide +kernel⟩
abbrev n_writer_of : List Str := ["layer"]
theorem sc_writer_of : FnScope n_writer_of ["layer"] (defScope s_writer_of) := ⟨rfl, rfl, rfl, by decide +kernel, rfl, by decide +kernel, by decide +kernel⟩
abbrev n_through : List Str := ["parts", "at", "row", "part", "found", "byte"]
theorem sc_through : FnScope n_through ["parts", "at", "row"] (defScope s_through) := ⟨rfl, rfl, rfl, by decide +kernel, rfl, by decide +kernel, by decide +kernel⟩
abbrev n_written : List Str := ["layers", "row", "writer"]
theorem sc_written : FnScope n_written ["layers", "row"] (defScope s_written) := ⟨rfl, rfl, rfl, by decide +kernel, rfl, by decide +kernel, by decide +kernel⟩
abbrev n_law_cell : List Str := ["_law_script", "_law_k"]
theorem sc_law_cell : FnScope n_law_cell ["_law_script", "_law_k"] (defScope s_law_cell) := ⟨rfl, rfl, rfl, by decide +kernel, rfl, by decide +kernel, by decide +kernel⟩
abbrev n_law_mix : List Str := ["_law_script", "_law_k", "_law_number"]
theorem sc_law_mix : FnScope n_law_mix ["_law_script", "_law_k"] (defScope s_law_mix) := ⟨rfl, rfl, rfl, by decide +kernel, rfl, by decide +kernel, by decide +kernel⟩
abbrev n_law_whole : List Str := ["_law_found"]
theorem sc_law_whole : FnScope n_law_whole ["_law_found"] (defScope s_law_whole) := ⟨rfl, rfl, rfl, by decide +kernel, rfl, by decide +kernel, by decide +kernel⟩
abbrev n_law_layer : List Str := ["_law_script", "_law_k", "_law_number", "_law_word", "_law_j"]
theorem sc_law_layer : FnScope n_law_layer ["_law_script", "_law_k"] (defScope s_law_layer) := ⟨rfl, rfl, rfl, by decide +kernel, rfl, by decide +kernel, by decide +kernel⟩
abbrev n_law_layers : List Str := ["_law_script", "_law_k", "_law_most", "_law_j"]
theorem sc_law_layers : FnScope n_law_layers ["_law_script", "_law_k", "_law_most"] (defScope s_law_layers) := ⟨rfl, rfl, rfl, by decide +kernel, rfl, by decide +kernel, by decide +kernel⟩
abbrev n_law_row : List Str := ["_law_script", "_law_k", "_law_pieces", "_law_long", "_law_found", "_law_j", "_law_number", "_law_byte", "_law_many"]
theorem sc_law_row : FnScope n_law_row ["_law_script", "_law_k", "_law_pieces", "_law_long"] (defScope s_law_row) := ⟨rfl, rfl, rfl, by decide +kernel, rfl, by decide +kernel, by decide +kernel⟩
abbrev n_law_cuts : List Str := ["_law_script", "_law_k", "_law_row_here", "_law_found", "_law_at", "_law_many"]
theorem sc_law_cuts : FnScope n_law_cuts ["_law_script", "_law_k", "_law_row_here"] (defScope s_law_cuts) := ⟨rfl, rfl, rfl, by decide +kernel, rfl, by decide +kernel, by decide +kernel⟩
abbrev n_law_bits : List Str := ["_law_row_here", "_law_size", "_law_found", "_law_number", "_law_k"]
theorem sc_law_bits : FnScope n_law_bits ["_law_row_here", "_law_size"] (defScope s_law_bits) := ⟨rfl, rfl, rfl, by decide +kernel, rfl, by decide +kernel, by decide +kernel⟩
abbrev n_law_groups : List Str := ["_law_bits_here", "_law_size", "_law_found", "_law_k", "_law_group", "_law_j"]
theorem sc_law_groups : FnScope n_law_groups ["_law_bits_here", "_law_size"] (defScope s_law_groups) := ⟨rfl, rfl, rfl, by decide +kernel, rfl, by decide +kernel, by decide +kernel⟩
abbrev n_law_signs : List Str := []
theorem sc_law_signs : FnScope n_law_signs [] (defScope s_law_signs) := ⟨rfl, rfl, rfl, by decide +kernel, rfl, by decide +kernel, by decide +kernel⟩
abbrev n_law_checks : List Str := ["_law_row_here", "_law_checks_here", "_law_byte", "_law_check"]
theorem sc_law_checks : FnScope n_law_checks ["_law_row_here"] (defScope s_law_checks) := ⟨rfl, rfl, rfl, by decide +kernel, rfl, by decide +kernel, by decide +kernel⟩
abbrev n_law_write_runs : List Str := ["_law_row_here", "_law_found", "_law_many", "_law_k", "_law_told"]
theorem sc_law_write_runs : FnScope n_law_write_runs ["_law_row_here"] (defScope s_law_write_runs) := ⟨rfl, rfl, rfl, by decide +kernel, rfl, by decide +kernel, by decide +kernel⟩
abbrev n_law_write_front : List Str := ["_law_row_here", "_law_found", "_law_k", "_law_before", "_law_since", "_law_higher", "_law_last", "_law_j", "_law_byte"]
theorem sc_law_write_front : FnScope n_law_write_front ["_law_row_here"] (defScope s_law_write_front) := ⟨rfl, rfl, rfl, by decide +kernel, rfl, by decide +kernel, by decide +kernel⟩
abbrev n_law_write_pieces : List Str := ["_law_word", "_law_size", "_law_row_here", "_law_found", "_law_checks_here", "_law_k", "_law_full", "_law_left"]
theorem sc_law_write_pieces : FnScope n_law_write_pieces ["_law_word", "_law_size", "_law_row_here"] (defScope s_law_write_pieces) := ⟨rfl, rfl, rfl, by decide +kernel, rfl, by decide +kernel, by decide +kernel⟩
abbrev n_law_write : List Str := ["_law_layer_here", "_law_row_here", "_law_key", "_law_marks", "_law_two", "_law_bits_here", "_law_signs_here", "_law_told", "_law_group", "_law_k", "_law_byte"]
theorem sc_law_write : FnScope n_law_write ["_law_layer_here", "_law_row_here"] (defScope s_law_write) := ⟨rfl, rfl, rfl, by decide +kernel, rfl, by decide +kernel, by decide +kernel⟩
abbrev n_law_written : List Str := ["_law_layers_here", "_law_row_here", "_law_layer_here", "_law_told", "_law_one"]
theorem sc_law_written : FnScope n_law_written ["_law_layers_here", "_law_row_here"] (defScope s_law_written) := ⟨rfl, rfl, rfl, by decide +kernel, rfl, by decide +kernel, by decide +kernel⟩
abbrev n_law_is_row : List Str := ["_law_found", "_law_byte"]
theorem sc_law_is_row : FnScope n_law_is_row ["_law_found"] (defScope s_law_is_row) := ⟨rfl, rfl, rfl, by decide +kernel, rfl, by decide +kernel, by decide +kernel⟩
abbrev n_law_is_told : List Str := ["_law_found", "_law_one"]
theorem sc_law_is_told : FnScope n_law_is_told ["_law_found"] (defScope s_law_is_told) := ⟨rfl, rfl, rfl, by decide +kernel, rfl, by decide +kernel, by decide +kernel⟩
abbrev n_law : List Str := ["_law_script", "_law_layers_here", "_law_row_here", "_law_handed", "_law_found"]
theorem sc_law : FnScope n_law ["_law_script"] (defScope s_law) := ⟨rfl, rfl, rfl, by decide +kernel, rfl, by decide +kernel, by decide +kernel⟩
abbrev n_ChunksWriter_init : List Str := ["self", "size"]
theorem sc_ChunksWriter_init : FnScope n_ChunksWriter_init ["self", "size"] (defScope s_ChunksWriter_init) := ⟨rfl, rfl, rfl, by decide +kernel, rfl, by decide +kernel, by decide +kernel⟩
abbrev n_ChunksWriter_take : List Str := ["self", "byte"]
theorem sc_ChunksWriter_take : FnScope n_ChunksWriter_take ["self", "byte"] (defScope s_ChunksWriter_take) := ⟨rfl, rfl, rfl, by decide +kernel, rfl, by decide +kernel, by decide +kernel⟩
abbrev n_ChunksWriter_end : List Str := ["self", "found"]
theorem sc_ChunksWriter_end : FnScope n_ChunksWriter_end ["self"] (defScope s_ChunksWriter_end) := ⟨rfl, rfl, rfl, by decide +kernel, rfl, by decide +kernel, by decide +kernel⟩
abbrev n_ChecksWriter_init : List Str := ["self", "size"]
theorem sc_ChecksWriter_init : FnScope n_ChecksWriter_init ["self", "size"] (defScope s_ChecksWriter_init) := ⟨rfl, rfl, rfl, by decide +kernel, rfl, by decide +kernel, by decide +kernel⟩
abbrev n_ChecksWriter_take : List Str := ["self", "byte"]
theorem sc_ChecksWriter_take : FnScope n_ChecksWriter_take ["self", "byte"] (defScope s_ChecksWriter_take) := ⟨rfl, rfl, rfl, by decide +kernel, rfl, by decide +kernel, by decide +kernel⟩
abbrev n_ChecksWriter_end : List Str := ["self"]
theorem sc_ChecksWriter_end : FnScope n_ChecksWriter_end ["self"] (defScope s_ChecksWriter_end) := ⟨rfl, rfl, rfl, by decide +kernel, rfl, by decide +kernel, by decide +kernel⟩
abbrev n_EscapeWriter_init : List Str := ["self", "byte", "k"]
theorem sc_EscapeWriter_init : FnScope n_EscapeWriter_init ["self", "byte"] (defScope s_EscapeWriter_init) := ⟨rfl, rfl, rfl, by decide +kernel, rfl, by decide +kernel, by decide +kernel⟩
abbrev n_EscapeWriter_take : List Str := ["self", "byte"]
theorem sc_EscapeWriter_take : FnScope n_EscapeWriter_take ["self", "byte"] (defScope s_EscapeWriter_take) := ⟨rfl, rfl, rfl, by decide +kernel, rfl, by decide +kernel, by decide +kernel⟩
abbrev n_EscapeWriter_end : List Str := ["self"]
theorem sc_EscapeWriter_end : FnScope n_EscapeWriter_end ["self"] (defScope s_EscapeWriter_end) := ⟨rfl, rfl, rfl, by decide +kernel, rfl, by decide +kernel, by decide +kernel⟩
abbrev n_RunsWriter_init : List Str := ["self"]
theorem sc_RunsWriter_init : FnScope n_RunsWriter_init ["self"] (defScope s_RunsWriter_init) := ⟨rfl, rfl, rfl, by decide +kernel, rfl, by decide +kernel, by decide +kernel⟩
abbrev n_RunsWriter_take : List Str := ["self", "byte", "found"]
theorem sc_RunsWriter_take : FnScope n_RunsWriter_take ["self", "byte"] (defScope s_RunsWriter_take) := ⟨rfl, rfl, rfl, by decide +kernel, rfl, by decide +kernel, by decide +kernel⟩
abbrev n_RunsWriter_end : List Str := ["self", "many"]
theorem sc_RunsWriter_end : FnScope n_RunsWriter_end ["self"] (defScope s_RunsWriter_end) := ⟨rfl, rfl, rfl, by decide +kernel, rfl, by decide +kernel, by decide +kernel⟩
abbrev n_SignsWriter_init : List Str := ["self"]
theorem sc_SignsWriter_init : FnScope n_SignsWriter_init ["self"] (defScope s_SignsWriter_init) := ⟨rfl, rfl, rfl, by decide +kernel, rfl, by decide +kernel, by decide +kernel⟩
abbrev n_SignsWriter_take : List Str := ["self", "byte", "found"]
theorem sc_SignsWriter_take : FnScope n_SignsWriter_take ["self", "byte"] (defScope s_SignsWriter_take) := ⟨rfl, rfl, rfl, by decide +kernel, rfl, by decide +kernel, by decide +kernel⟩
abbrev n_SignsWriter_end : List Str := ["self"]
theorem sc_SignsWriter_end : FnScope n_SignsWriter_end ["self"] (defScope s_SignsWriter_end) := ⟨rfl, rfl, rfl, by decide +kernel, rfl, by decide +kernel, by decide +kernel⟩
abbrev n_AddWriter_init : List Str := ["self", "key"]
theorem sc_AddWriter_init : FnScope n_AddWriter_init ["self", "key"] (defScope s_AddWriter_init) := ⟨rfl, rfl, rfl, by decide +kernel, rfl, by decide +kernel, by decide +kernel⟩
abbrev n_AddWriter_turned : List Str := ["self", "byte"]
theorem sc_AddWriter_turned : FnScope n_AddWriter_turned ["self", "byte"] (defScope s_AddWriter_turned) := ⟨rfl, rfl, rfl, by decide +kernel, rfl, by decide +kernel, by decide +kernel⟩
abbrev n_AddWriter_take : List Str := ["self", "byte", "found"]
theorem sc_AddWriter_take : FnScope n_AddWriter_take ["self", "byte"] (defScope s_AddWriter_take) := ⟨rfl, rfl, rfl, by decide +kernel, rfl, by decide +kernel, by decide +kernel⟩
abbrev n_AddWriter_end : List Str := ["self"]
theorem sc_AddWriter_end : FnScope n_AddWriter_end ["self"] (defScope s_AddWriter_end) := ⟨rfl, rfl, rfl, by decide +kernel, rfl, by decide +kernel, by decide +kernel⟩
abbrev n_FrontWriter_init : List Str := ["self"]
theorem sc_FrontWriter_init : FnScope n_FrontWriter_init ["self"] (defScope s_FrontWriter_init) := ⟨rfl, rfl, rfl, by decide +kernel, rfl, by decide +kernel, by decide +kernel⟩
abbrev n_FrontWriter_to_front : List Str := ["self", "place", "byte"]
theorem sc_FrontWriter_to_front : FnScope n_FrontWriter_to_front ["self", "place"] (defScope s_FrontWriter_to_front) := ⟨rfl, rfl, rfl, by decide +kernel, rfl, by decide +kernel, by decide +kernel⟩
abbrev n_FrontWriter_take : List Str := ["self", "byte", "place"]
theorem sc_FrontWriter_take : FnScope n_FrontWriter_take ["self", "byte"] (defScope s_FrontWriter_take) := ⟨rfl, rfl, rfl, by decide +kernel, rfl, by decide +kernel, by decide +kernel⟩
abbrev n_FrontWriter_end : List Str := ["self"]
theorem sc_FrontWriter_end : FnScope n_FrontWriter_end ["self"] (defScope s_FrontWriter_end) := ⟨rfl, rfl, rfl, by decide +kernel, rfl, by decide +kernel, by decide +kernel⟩
abbrev n_Writer_init : List Str := ["self", "layers", "layer"]
theorem sc_Writer_init : FnScope n_Writer_init ["self", "layers"] (defScope s_Writer_init) := ⟨rfl, rfl, rfl, by decide +kernel, rfl, by decide +kernel, by decide +kernel⟩
abbrev n_Writer_take : List Str := ["self", "row"]
theorem sc_Writer_take : FnScope n_Writer_take ["self", "row"] (defScope s_Writer_take) := ⟨rfl, rfl, rfl, by decide +kernel, rfl, by decide +kernel, by decide +kernel⟩
abbrev n_Writer_end : List Str := ["self", "found", "k"]
theorem sc_Writer_end : FnScope n_Writer_end ["self"] (defScope s_Writer_end) := ⟨rfl, rfl, rfl, by decide +kernel, rfl, by decide +kernel, by decide +kernel⟩
def fa : List He.Fa := [.glo "checked",
  .glo "check_bytes",
  .glo "look_layer",
  .glo "look_layers",
  .glo "writer_of",
  .glo "through",
  .glo "written",
  .glo "_law_cell",
  .glo "_law_mix",
  .glo "_law_whole",
  .glo "_law_layer",
  .glo "_law_layers",
  .glo "_law_row",
  .glo "_law_cuts",
  .glo "_law_bits",
  .glo "_law_groups",
  .glo "_law_signs",
  .glo "_law_checks",
  .glo "_law_write_runs",
  .glo "_law_write_front",
  .glo "_law_write_pieces",
  .glo "_law_write",
  .glo "_law_written",
  .glo "_law_is_row",
  .glo "_law_is_told",
  .glo "law",
  .free "len",
  .free "range",
  .free "list",
  .free "tuple",
  .free "set",
  .free "all",
  .free "sum",
  .free "max",
  .free "isinstance",
  .free "int",
  .free "bool",
  .free "ValueError",
  .glo "ChunksWriter",
  .cls "ChunksWriter",
  .mkr "ChunksWriter",
  .noat "ChunksWriter" "size",
  .noat "ChunksWriter" "held",
  .meth "ChunksWriter" "__init__",
  .meth "ChunksWriter" "take",
  .meth "ChunksWriter" "end",
  .glo "ChecksWriter",
  .cls "ChecksWriter",
  .mkr "ChecksWriter",
  .noat "ChecksWriter" "size",
  .noat "ChecksWriter" "many",
  .noat "ChecksWriter" "check",
  .meth "ChecksWriter" "__init__",
  .meth "ChecksWriter" "take",
  .meth "ChecksWriter" "end",
  .glo "EscapeWriter",
  .cls "EscapeWriter",
  .mkr "EscapeWriter",
  .noat "EscapeWriter" "marks",
  .meth "EscapeWriter" "__init__",
  .meth "EscapeWriter" "take",
  .meth "EscapeWriter" "end",
  .glo "RunsWriter",
  .cls "RunsWriter",
  .mkr "RunsWriter",
  .noat "RunsWriter" "many",
  .noat "RunsWriter" "byte",
  .meth "RunsWriter" "__init__",
  .meth "RunsWriter" "take",
  .meth "RunsWriter" "end",
  .glo "SignsWriter",
  .cls "SignsWriter",
  .mkr "SignsWriter",
  .noat "SignsWriter" "many",
  .noat "SignsWriter" "value",
  .meth "SignsWriter" "__init__",
  .meth "SignsWriter" "take",
  .meth "SignsWriter" "end",
  .glo "AddWriter",
  .cls "AddWriter",
  .mkr "AddWriter",
  .noat "AddWriter" "key",
  .noat "AddWriter" "at",
  .meth "AddWriter" "__init__",
  .meth "AddWriter" "turned",
  .meth "AddWriter" "take",
  .meth "AddWriter" "end",
  .glo "FrontWriter",
  .cls "FrontWriter",
  .mkr "FrontWriter",
  .noat "FrontWriter" "row",
  .meth "FrontWriter" "__init__",
  .meth "FrontWriter" "to_front",
  .meth "FrontWriter" "take",
  .meth "FrontWriter" "end",
  .glo "Writer",
  .cls "Writer",
  .mkr "Writer",
  .noat "Writer" "parts",
  .meth "Writer" "__init__",
  .meth "Writer" "take",
  .meth "Writer" "end",
  .glo "FlowError",
  .glo "BadLayer",
  .exc "BadLayer",
  .exm "BadLayer" "FlowError" true,
  .int "PRIME" 65521,
  .int "FACTOR" 257,
  .int "LONGEST" 255,
  .glo "POWERS",
  .glo "SIGNS",
  .int "MOST" 8]
def d0 : He.DefD := ⟨("checked", none), "checked", "checked", defArgs s_checked, defBody s_checked, defScope s_checked, [], []⟩
def d1 : He.DefD := ⟨("check_bytes", none), "check_bytes", "check_bytes", defArgs s_check_bytes, defBody s_check_bytes, defScope s_check_bytes, [], []⟩
def d2 : He.DefD := ⟨("look_layer", none), "look_layer", "look_layer", defArgs s_look_layer, defBody s_look_layer, defScope s_look_layer, [], []⟩
def d3 : He.DefD := ⟨("look_layers", none), "look_layers", "look_layers", defArgs s_look_layers, defBody s_look_layers, defScope s_look_layers, [], []⟩
def d4 : He.DefD := ⟨("writer_of", none), "writer_of", "writer_of", defArgs s_writer_of, defBody s_writer_of, defScope s_writer_of, [], []⟩
def d5 : He.DefD := ⟨("through", none), "through", "through", defArgs s_through, defBody s_through, defScope s_through, [], []⟩
def d6 : He.DefD := ⟨("written", none), "written", "written", defArgs s_written, defBody s_written, defScope s_written, [], []⟩
def d7 : He.DefD := ⟨("_law_cell", none), "_law_cell", "_law_cell", defArgs s_law_cell, defBody s_law_cell, defScope s_law_cell, [], []⟩
def d8 : He.DefD := ⟨("_law_mix", none), "_law_mix", "_law_mix", defArgs s_law_mix, defBody s_law_mix, defScope s_law_mix, [], []⟩
def d9 : He.DefD := ⟨("_law_whole", none), "_law_whole", "_law_whole", defArgs s_law_whole, defBody s_law_whole, defScope s_law_whole, [], []⟩
def d10 : He.DefD := ⟨("_law_layer", none), "_law_layer", "_law_layer", defArgs s_law_layer, defBody s_law_layer, defScope s_law_layer, [], []⟩
def d11 : He.DefD := ⟨("_law_layers", none), "_law_layers", "_law_layers", defArgs s_law_layers, defBody s_law_layers, defScope s_law_layers, [], []⟩
def d12 : He.DefD := ⟨("_law_row", none), "_law_row", "_law_row", defArgs s_law_row, defBody s_law_row, defScope s_law_row, [], []⟩
def d13 : He.DefD := ⟨("_law_cuts", none), "_law_cuts", "_law_cuts", defArgs s_law_cuts, defBody s_law_cuts, defScope s_law_cuts, [], []⟩
def d14 : He.DefD := ⟨("_law_bits", none), "_law_bits", "_law_bits", defArgs s_law_bits, defBody s_law_bits, defScope s_law_bits, [], []⟩
def d15 : He.DefD := ⟨("_law_groups", none), "_law_groups", "_law_groups", defArgs s_law_groups, defBody s_law_groups, defScope s_law_groups, [], []⟩
def d16 : He.DefD := ⟨("_law_signs", none), "_law_signs", "_law_signs", defArgs s_law_signs, defBody s_law_signs, defScope s_law_signs, [], []⟩
def d17 : He.DefD := ⟨("_law_checks", none), "_law_checks", "_law_checks", defArgs s_law_checks, defBody s_law_checks, defScope s_law_checks, [], []⟩
def d18 : He.DefD := ⟨("_law_write_runs", none), "_law_write_runs", "_law_write_runs", defArgs s_law_write_runs, defBody s_law_write_runs, defScope s_law_write_runs, [], []⟩
def d19 : He.DefD := ⟨("_law_write_front", none), "_law_write_front", "_law_write_front", defArgs s_law_write_front, defBody s_law_write_front, defScope s_law_write_front, [], []⟩
def d20 : He.DefD := ⟨("_law_write_pieces", none), "_law_write_pieces", "_law_write_pieces", defArgs s_law_write_pieces, defBody s_law_write_pieces, defScope s_law_write_pieces, [], []⟩
def d21 : He.DefD := ⟨("_law_write", none), "_law_write", "_law_write", defArgs s_law_write, defBody s_law_write, defScope s_law_write, [], []⟩
def d22 : He.DefD := ⟨("_law_written", none), "_law_written", "_law_written", defArgs s_law_written, defBody s_law_written, defScope s_law_written, [], []⟩
def d23 : He.DefD := ⟨("_law_is_row", none), "_law_is_row", "_law_is_row", defArgs s_law_is_row, defBody s_law_is_row, defScope s_law_is_row, [], []⟩
def d24 : He.DefD := ⟨("_law_is_told", none), "_law_is_told", "_law_is_told", defArgs s_law_is_told, defBody s_law_is_told, defScope s_law_is_told, [], []⟩
def d25 : He.DefD := ⟨("law", none), "law", "law", defArgs s_law, defBody s_law, defScope s_law, [], []⟩
def d26 : He.DefD := ⟨("ChunksWriter", some "__init__"), "__init__", "ChunksWriter.__init__", defArgs s_ChunksWriter_init, defBody s_ChunksWriter_init, defScope s_ChunksWriter_init, [], []⟩
def d27 : He.DefD := ⟨("ChunksWriter", some "take"), "take", "ChunksWriter.take", defArgs s_ChunksWriter_take, defBody s_ChunksWriter_take, defScope s_ChunksWriter_take, [], []⟩
def d28 : He.DefD := ⟨("ChunksWriter", some "end"), "end", "ChunksWriter.end", defArgs s_ChunksWriter_end, defBody s_ChunksWriter_end, defScope s_ChunksWriter_end, [], []⟩
def d29 : He.DefD := ⟨("ChecksWriter", some "__init__"), "__init__", "ChecksWriter.__init__", defArgs s_ChecksWriter_init, defBody s_ChecksWriter_init, defScope s_ChecksWriter_init, [], []⟩
def d30 : He.DefD := ⟨("ChecksWriter", some "take"), "take", "ChecksWriter.take", defArgs s_ChecksWriter_take, defBody s_ChecksWriter_take, defScope s_ChecksWriter_take, [], []⟩
def d31 : He.DefD := ⟨("ChecksWriter", some "end"), "end", "ChecksWriter.end", defArgs s_ChecksWriter_end, defBody s_ChecksWriter_end, defScope s_ChecksWriter_end, [], []⟩
def d32 : He.DefD := ⟨("EscapeWriter", some "__init__"), "__init__", "EscapeWriter.__init__", defArgs s_EscapeWriter_init, defBody s_EscapeWriter_init, defScope s_EscapeWriter_init, [], []⟩
def d33 : He.DefD := ⟨("EscapeWriter", some "take"), "take", "EscapeWriter.take", defArgs s_EscapeWriter_take, defBody s_EscapeWriter_take, defScope s_EscapeWriter_take, [], []⟩
def d34 : He.DefD := ⟨("EscapeWriter", some "end"), "end", "EscapeWriter.end", defArgs s_EscapeWriter_end, defBody s_EscapeWriter_end, defScope s_EscapeWriter_end, [], []⟩
def d35 : He.DefD := ⟨("RunsWriter", some "__init__"), "__init__", "RunsWriter.__init__", defArgs s_RunsWriter_init, defBody s_RunsWriter_init, defScope s_RunsWriter_init, [], []⟩
def d36 : He.DefD := ⟨("RunsWriter", some "take"), "take", "RunsWriter.take", defArgs s_RunsWriter_take, defBody s_RunsWriter_take, defScope s_RunsWriter_take, [], []⟩
def d37 : He.DefD := ⟨("RunsWriter", some "end"), "end", "RunsWriter.end", defArgs s_RunsWriter_end, defBody s_RunsWriter_end, defScope s_RunsWriter_end, [], []⟩
def d38 : He.DefD := ⟨("SignsWriter", some "__init__"), "__init__", "SignsWriter.__init__", defArgs s_SignsWriter_init, defBody s_SignsWriter_init, defScope s_SignsWriter_init, [], []⟩
def d39 : He.DefD := ⟨("SignsWriter", some "take"), "take", "SignsWriter.take", defArgs s_SignsWriter_take, defBody s_SignsWriter_take, defScope s_SignsWriter_take, [], []⟩
def d40 : He.DefD := ⟨("SignsWriter", some "end"), "end", "SignsWriter.end", defArgs s_SignsWriter_end, defBody s_SignsWriter_end, defScope s_SignsWriter_end, [], []⟩
def d41 : He.DefD := ⟨("AddWriter", some "__init__"), "__init__", "AddWriter.__init__", defArgs s_AddWriter_init, defBody s_AddWriter_init, defScope s_AddWriter_init, [], []⟩
def d42 : He.DefD := ⟨("AddWriter", some "turned"), "turned", "AddWriter.turned", defArgs s_AddWriter_turned, defBody s_AddWriter_turned, defScope s_AddWriter_turned, [], []⟩
def d43 : He.DefD := ⟨("AddWriter", some "take"), "take", "AddWriter.take", defArgs s_AddWriter_take, defBody s_AddWriter_take, defScope s_AddWriter_take, [], []⟩
def d44 : He.DefD := ⟨("AddWriter", some "end"), "end", "AddWriter.end", defArgs s_AddWriter_end, defBody s_AddWriter_end, defScope s_AddWriter_end, [], []⟩
def d45 : He.DefD := ⟨("FrontWriter", some "__init__"), "__init__", "FrontWriter.__init__", defArgs s_FrontWriter_init, defBody s_FrontWriter_init, defScope s_FrontWriter_init, [], []⟩
def d46 : He.DefD := ⟨("FrontWriter", some "to_front"), "to_front", "FrontWriter.to_front", defArgs s_FrontWriter_to_front, defBody s_FrontWriter_to_front, defScope s_FrontWriter_to_front, [], []⟩
def d47 : He.DefD := ⟨("FrontWriter", some "take"), "take", "FrontWriter.take", defArgs s_FrontWriter_take, defBody s_FrontWriter_take, defScope s_FrontWriter_take, [], []⟩
def d48 : He.DefD := ⟨("FrontWriter", some "end"), "end", "FrontWriter.end", defArgs s_FrontWriter_end, defBody s_FrontWriter_end, defScope s_FrontWriter_end, [], []⟩
def d49 : He.DefD := ⟨("Writer", some "__init__"), "__init__", "Writer.__init__", defArgs s_Writer_init, defBody s_Writer_init, defScope s_Writer_init, [], []⟩
def d50 : He.DefD := ⟨("Writer", some "take"), "take", "Writer.take", defArgs s_Writer_take, defBody s_Writer_take, defScope s_Writer_take, [], []⟩
def d51 : He.DefD := ⟨("Writer", some "end"), "end", "Writer.end", defArgs s_Writer_end, defBody s_Writer_end, defScope s_Writer_end, [], []⟩
def fn : List He.DefD := [d0, d1, d2, d3, d4, d5, d6, d7, d8, d9, d10, d11, d12, d13, d14, d15, d16, d17, d18, d19, d20, d21, d22, d23, d24, d25, d26, d27, d28, d29, d30, d31, d32, d33, d34, d35, d36, d37, d38, d39, d40, d41, d42, d43, d44, d45, d46, d47, d48, d49, d50, d51]
def exB (K : PySem.W.Frag) : Bool := (He.tupB K "POWERS" (powersT.map He.Dv.int) && He.tupB K "SIGNS" (signsT.map He.Dv.int))
/-- what the head tells -/
structure Tx (K : PySem.W.Frag) (mg : Str → Option Value) : Prop where
  says : He.SaysD fa fn K
  more : exB K = true
  at_ : ∃ h, K.In h ∧ h.Ns mainGlobals mg
section
variable {K : PySem.W.Frag} {mg : Str → Option Value}
theorem dvInts (l : List Int) : ((l.map He.Dv.int).map (He.Dv.v K)) = l.map V.int := by rw [List.map_map]; rfl
theorem Tx.glo (T : Tx K mg) {x : Str} (c : (He.Fa.glo x).ok K = true) : mg x = some (.ref (He.ga K x)) := by
  obtain ⟨h, X, G⟩ := T.at_
  exact He.glo_ok X G c
theorem Tx.free (T : Tx K mg) {x : Str} (c : (He.Fa.free x).ok K = true) : mg x = none := by
  obtain ⟨h, X, G⟩ := T.at_
  exact He.free_ok X G c
theorem Tx.int (T : Tx K mg) {x : Str} {i : Int} (c : (He.Fa.int x i).ok K = true) : ∃ t, mg x = some (.int i t) := by
  obtain ⟨h, X, G⟩ := T.at_
  exact He.int_ok X G c
theorem fnT {C f : Addr} {m : Str} (M : Meth K C m f) : PySem.W.typeIn K (.ref f) = some (.type "function") := beq_iff_eq.mp M.fn
theorem g_checked (T : Tx K mg) : mg "checked" = some (.ref (He.ga K "checked")) := T.glo (T.says.fact 0 (f := .glo "checked") rfl)
theorem fn_checked (T : Tx K mg) : ∃ fd, FunD K "checked" "checked" (defArgs s_checked) (defBody s_checked) (defScope s_checked) [] [] (He.ga K "checked") fd := T.says.def_ 0 (d := d0) rfl
theorem g_check_bytes (T : Tx K mg) : mg "check_bytes" = some (.ref (He.ga K "check_bytes")) := T.glo (T.says.fact 1 (f := .glo "check_bytes") rfl)
theorem fn_check_bytes (T : Tx K mg) : ∃ fd, FunD K "check_bytes" "check_bytes" (defArgs s_check_bytes) (defBody s_check_bytes) (defScope s_check_bytes) [] [] (He.ga K "check_bytes") fd := T.says.def_ 1 (d := d1) rfl
theorem g_look_layer (T : Tx K mg) : mg "look_layer" = some (.ref (He.ga K "look_layer")) := T.glo (T.says.fact 2 (f := .glo "look_layer") rfl)
theorem fn_look_layer (T : Tx K mg) : ∃ fd, FunD K "look_layer" "look_layer" (defArgs s_look_layer) (defBody s_look_layer) (defScope s_look_layer) [] [] (He.ga K "look_layer") fd := T.says.def_ 2 (d := d2) rfl
theorem g_look_layers (T : Tx K mg) : mg "look_layers" = some (.ref (He.ga K "look_layers")) := T.glo (T.says.fact 3 (f := .glo "look_layers") rfl)
theorem fn_look_layers (T : Tx K mg) : ∃ fd, FunD K "look_layers" "look_layers" (defArgs s_look_layers) (defBody s_look_layers) (defScope s_look_layers) [] [] (He.ga K "look_layers") fd := T.says.def_ 3 (d := d3) rfl
theorem g_writer_of (T : Tx K mg) : mg "writer_of" = some (.ref (He.ga K "writer_of")) := T.glo (T.says.fact 4 (f := .glo "writer_of") rfl)
theorem fn_writer_of (T : Tx K mg) : ∃ fd, FunD K "writer_of" "writer_of" (defArgs s_writer_of) (defBody s_writer_of) (defScope s_writer_of) [] [] (He.ga K "writer_of") fd := T.says.def_ 4 (d := d4) rfl
theorem g_through (T : Tx K mg) : mg "through" = some (.ref (He.ga K "through")) := T.glo (T.says.fact 5 (f := .glo "through") rfl)
theorem fn_through (T : Tx K mg) : ∃ fd, FunD K "through" "through" (defArgs s_through) (defBody s_through) (defScope s_through) [] [] (He.ga K "through") fd := T.says.def_ 5 (d := d5) rfl
theorem g_written (T : Tx K mg) : mg "written" = some (.ref (He.ga K "written")) := T.glo (T.says.fact 6 (f := .glo "written") rfl)
theorem fn_written (T : Tx K mg) : ∃ fd, FunD K "written" "written" (defArgs s_written) (defBody s_written) (defScope s_written) [] [] (He.ga K "written") fd := T.says.def_ 6 (d := d6) rfl
theorem g_law_cell (T : Tx K mg) : mg "_law_cell" = some (.ref (He.ga K "_law_cell")) := T.glo (T.says.fact 7 (f := .glo "_law_cell") rfl)
theorem fn_law_cell (T : Tx K mg) : ∃ fd, FunD K "_law_cell" "_law_cell" (defArgs s_law_cell) (defBody s_law_cell) (defScope s_law_cell) [] [] (He.ga K "_law_cell") fd := T.says.def_ 7 (d := d7) rfl
theorem g_law_mix (T : Tx K mg) : mg "_law_mix" = some (.ref (He.ga K "_law_mix")) := T.glo (T.says.fact 8 (f := .glo "_law_mix") rfl)
theorem fn_law_mix (T : Tx K mg) : ∃ fd, FunD K "_law_mix" "_law_mix" (defArgs s_law_mix) (defBody s_law_mix) (defScope s_law_mix) [] [] (He.ga K "_law_mix") fd := T.says.def_ 8 (d := d8) rfl
theorem g_law_whole (T : Tx K mg) : mg "_law_whole" = some (.ref (He.ga K "_law_whole")) := T.glo (T.says.fact 9 (f := .glo "_law_whole") rfl)
theorem fn_law_whole (T : Tx K mg) : ∃ fd, FunD K "_law_whole" "_law_whole" (defArgs s_law_whole) (defBody s_law_whole) (defScope s_law_whole) [] [] (He.ga K "_law_whole") fd := T.says.def_ 9 (d := d9) rfl
theorem g_law_layer (T : Tx K mg) : mg "_law_layer" = some (.ref (He.ga K "_law_layer")) := T.glo (T.says.fact 10 (f := .glo "_law_layer") rfl)
theorem fn_law_layer (T : Tx K mg) : ∃ fd, FunD K "_law_layer" "_law_layer" (defArgs s_law_layer) (defBody s_law_layer) (defScope s_law_layer) [] [] (He.ga K "_law_layer") fd := T.says.def_ 10 (d := d10) rfl
theorem g_law_layers (T : Tx K mg) : mg "_law_layers" = some (.ref (He.ga K "_law_layers")) := T.glo (T.says.fact 11 (f := .glo "_law_layers") rfl)
theorem fn_law_layers (T : Tx K mg) : ∃ fd, FunD K "_law_layers" "_law_layers" (defArgs s_law_layers) (defBody s_law_layers) (defScope s_law_layers) [] [] (He.ga K "_law_layers") fd := T.says.def_ 11 (d := d11) rfl
theorem g_law_row (T : Tx K mg) : mg "_law_row" = some (.ref (He.ga K "_law_row")) := T.glo (T.says.fact 12 (f := .glo "_law_row") rfl)
theorem fn_law_row (T : Tx K mg) : ∃ fd, FunD K "_law_row" "_law_row" (defArgs s_law_row) (defBody s_law_row) (defScope s_law_row) [] [] (He.ga K "_law_row") fd := T.says.def_ 12 (d := d12) rfl
theorem g_law_cuts (T : Tx K mg) : mg "_law_cuts" = some (.ref (He.ga K "_law_cuts")) := T.glo (T.says.fact 13 (f := .glo "_law_cuts") rfl)
theorem fn_law_cuts (T : Tx K mg) : ∃ fd, FunD K "_law_cuts" "_law_cuts" (defArgs s_law_cuts) (defBody s_law_cuts) (defScope s_law_cuts) [] [] (He.ga K "_law_cuts") fd := T.says.def_ 13 (d := d13) rfl
theorem g_law_bits (T : Tx K mg) : mg "_law_bits" = some (.ref (He.ga K "_law_bits")) := T.glo (T.says.fact 14 (f := .glo "_law_bits") rfl)
theorem fn_law_bits (T : Tx K mg) : ∃ fd, FunD K "_law_bits" "_law_bits" (defArgs s_law_bits) (defBody s_law_bits) (defScope s_law_bits) [] [] (He.ga K "_law_bits") fd := T.says.def_ 14 (d := d14) rfl
theorem g_law_groups (T : Tx K mg) : mg "_law_groups" = some (.ref (He.ga K "_law_groups")) := T.glo (T.says.fact 15 (f := .glo "_law_groups") rfl)
theorem fn_law_groups (T : Tx K mg) : ∃ fd, FunD K "_law_groups" "_law_groups" (defArgs s_law_groups) (defBody s_law_groups) (defScope s_law_groups) [] [] (He.ga K "_law_groups") fd := T.says.def_ 15 (d := d15) rfl
theorem g_law_signs (T : Tx K mg) : mg "_law_signs" = some (.ref (He.ga K "_law_signs")) := T.glo (T.says.fact 16 (f := .glo "_law_signs") rfl)
theorem fn_law_signs (T : Tx K mg) : ∃ fd, FunD K "_law_signs" "_law_signs" (defArgs s_law_signs) (defBody s_law_signs) (defScope s_law_signs) [] [] (He.ga K "_law_signs") fd := T.says.def_ 16 (d := d16) rfl
theorem g_law_checks (T : Tx K mg) : mg "_law_checks" = some (.ref (He.ga K "_law_checks")) := T.glo (T.says.fact 17 (f := .glo "_law_checks") rfl)
theorem fn_law_checks (T : Tx K mg) : ∃ fd, FunD K "_law_checks" "_law_checks" (defArgs s_law_checks) (defBody s_law_checks) (defScope s_law_checks) [] [] (He.ga K "_law_checks") fd := T.says.def_ 17 (d := d17) rfl
theorem g_law_write_runs (T : Tx K mg) : mg "_law_write_runs" = some (.ref (He.ga K "_law_write_runs")) := T.glo (T.says.fact 18 (f := .glo "_law_write_runs") rfl)
theorem fn_law_write_runs (T : Tx K mg) : ∃ fd, FunD K "_law_write_runs" "_law_write_runs" (defArgs s_law_write_runs) (defBody s_law_write_runs) (defScope s_law_write_runs) [] [] (He.ga K "_law_write_runs") fd := T.says.def_ 18 (d := d18) rfl
theorem g_law_write_front (T : Tx K mg) : mg "_law_write_front" = some (.ref (He.ga K "_law_write_front")) := T.glo (T.says.fact 19 (f := .glo "_law_write_front") rfl)
theorem fn_law_write_front (T : Tx K mg) : ∃ fd, FunD K "_law_write_front" "_law_write_front" (defArgs s_law_write_front) (defBody s_law_write_front) (defScope s_law_write_front) [] [] (He.ga K "_law_write_front") fd := T.says.def_ 19 (d := d19) rfl
theorem g_law_write_pieces (T : Tx K mg) : mg "_law_write_pieces" = some (.ref (He.ga K "_law_write_pieces")) := T.glo (T.says.fact 20 (f := .glo "_law_write_pieces") rfl)
theorem fn_law_write_pieces (T : Tx K mg) : ∃ fd, FunD K "_law_write_pieces" "_law_write_pieces" (defArgs s_law_write_pieces) (defBody s_law_write_pieces) (defScope s_law_write_pieces) [] [] (He.ga K "_law_write_pieces") fd := T.says.def_ 20 (d := d20) rfl
theorem g_law_write (T : Tx K mg) : mg "_law_write" = some (.ref (He.ga K "_law_write")) := T.glo (T.says.fact 21 (f := .glo "_law_write") rfl)
theorem fn_law_write (T : Tx K mg) : ∃ fd, FunD K "_law_write" "_law_write" (defArgs s_law_write) (defBody s_law_write) (defScope s_law_write) [] [] (He.ga K "_law_write") fd := T.says.def_ 21 (d := d21) rfl
theorem g_law_written (T : Tx K mg) : mg "_law_written" = some (.ref (He.ga K "_law_written")) := T.glo (T.says.fact 22 (f := .glo "_law_written") rfl)
theorem fn_law_written (T : Tx K mg) : ∃ fd, FunD K "_law_written" "_law_written" (defArgs s_law_written) (defBody s_law_written) (defScope s_law_written) [] [] (He.ga K "_law_written") fd := T.says.def_ 22 (d := d22) rfl
theorem g_law_is_row (T : Tx K mg) : mg "_law_is_row" = some (.ref (He.ga K "_law_is_row")) := T.glo (T.says.fact 23 (f := .glo "_law_is_row") rfl)
theorem fn_law_is_row (T : Tx K mg) : ∃ fd, FunD K "_law_is_row" "_law_is_row" (defArgs s_law_is_row) (defBody s_law_is_row) (defScope s_law_is_row) [] [] (He.ga K "_law_is_row") fd := T.says.def_ 23 (d := d23) rfl
theorem g_law_is_told (T : Tx K mg) : mg "_law_is_told" = some (.ref (He.ga K "_law_is_told")) := T.glo (T.says.fact 24 (f := .glo "_law_is_told") rfl)
theorem fn_law_is_told (T : Tx K mg) : ∃ fd, FunD K "_law_is_told" "_law_is_told" (defArgs s_law_is_told) (defBody s_law_is_told) (defScope s_law_is_told) [] [] (He.ga K "_law_is_told") fd := T.says.def_ 24 (d := d24) rfl
theorem g_law (T : Tx K mg) : mg "law" = some (.ref (He.ga K "law")) := T.glo (T.says.fact 25 (f := .glo "law") rfl)
theorem fn_law (T : Tx K mg) : ∃ fd, FunD K "law" "law" (defArgs s_law) (defBody s_law) (defScope s_law) [] [] (He.ga K "law") fd := T.says.def_ 25 (d := d25) rfl
theorem f_len (T : Tx K mg) : mg "len" = none := T.free (T.says.fact 26 (f := .free "len") rfl)
theorem f_range (T : Tx K mg) : mg "range" = none := T.free (T.says.fact 27 (f := .free "range") rfl)
theorem f_list (T : Tx K mg) : mg "list" = none := T.free (T.says.fact 28 (f := .free "list") rfl)
theorem f_tuple (T : Tx K mg) : mg "tuple" = none := T.free (T.says.fact 29 (f := .free "tuple") rfl)
theorem f_set (T : Tx K mg) : mg "set" = none := T.free (T.says.fact 30 (f := .free "set") rfl)
theorem f_all (T : Tx K mg) : mg "all" = none := T.free (T.says.fact 31 (f := .free "all") rfl)
theorem f_sum (T : Tx K mg) : mg "sum" = none := T.free (T.says.fact 32 (f := .free "sum") rfl)
theorem f_max (T : Tx K mg) : mg "max" = none := T.free (T.says.fact 33 (f := .free "max") rfl)
theorem f_isinstance (T : Tx K mg) : mg "isinstance" = none := T.free (T.says.fact 34 (f := .free "isinstance") rfl)
theorem f_int (T : Tx K mg) : mg "int" = none := T.free (T.says.fact 35 (f := .free "int") rfl)
theorem f_bool (T : Tx K mg) : mg "bool" = none := T.free (T.says.fact 36 (f := .free "bool") rfl)
theorem f_ValueError (T : Tx K mg) : mg "ValueError" = none := T.free (T.says.fact 37 (f := .free "ValueError") rfl)
theorem g_ChunksWriter (T : Tx K mg) : mg "ChunksWriter" = some (.ref (He.ga K "ChunksWriter")) := T.glo (T.says.fact 38 (f := .glo "ChunksWriter") rfl)
theorem cl_ChunksWriter (T : Tx K mg) : Cls K (He.ga K "ChunksWriter") := He.cls_ok (T.says.fact 39 (f := .cls "ChunksWriter") rfl)
theorem mk_ChunksWriter (T : Tx K mg) : Mk K (He.ga K "ChunksWriter") (He.ma K (He.ga K "ChunksWriter") "__init__") := He.mkr_ok (T.says.fact 40 (f := .mkr "ChunksWriter") rfl)
theorem no_ChunksWriter_size (T : Tx K mg) : NoAttr K (He.ga K "ChunksWriter") "size" := He.noat_ok (T.says.fact 41 (f := .noat "ChunksWriter" "size") rfl)
theorem no_ChunksWriter_held (T : Tx K mg) : NoAttr K (He.ga K "ChunksWriter") "held" := He.noat_ok (T.says.fact 42 (f := .noat "ChunksWriter" "held") rfl)
theorem me_ChunksWriter_init (T : Tx K mg) : Meth K (He.ga K "ChunksWriter") "__init__" (He.ma K (He.ga K "ChunksWriter") "__init__") := He.meth_ok (T.says.fact 43 (f := .meth "ChunksWriter" "__init__") rfl)
theorem fn_ChunksWriter_init (T : Tx K mg) : ∃ fd, FunD K "__init__" "ChunksWriter.__init__" (defArgs s_ChunksWriter_init) (defBody s_ChunksWriter_init) (defScope s_ChunksWriter_init) [] [] (He.ma K (He.ga K "ChunksWriter") "__init__") fd := T.says.def_ 26 (d := d26) rfl
theorem me_ChunksWriter_take (T : Tx K mg) : Meth K (He.ga K "ChunksWriter") "take" (He.ma K (He.ga K "ChunksWriter") "take") := He.meth_ok (T.says.fact 44 (f := .meth "ChunksWriter" "take") rfl)
theorem fn_ChunksWriter_take (T : Tx K mg) : ∃ fd, FunD K "take" "ChunksWriter.take" (defArgs s_ChunksWriter_take) (defBody s_ChunksWriter_take) (defScope s_ChunksWriter_take) [] [] (He.ma K (He.ga K "ChunksWriter") "take") fd := T.says.def_ 27 (d := d27) rfl
theorem me_ChunksWriter_end (T : Tx K mg) : Meth K (He.ga K "ChunksWriter") "end" (He.ma K (He.ga K "ChunksWriter") "end") := He.meth_ok (T.says.fact 45 (f := .meth "ChunksWriter" "end") rfl)
theorem fn_ChunksWriter_end (T : Tx K mg) : ∃ fd, FunD K "end" "ChunksWriter.end" (defArgs s_ChunksWriter_end) (defBody s_ChunksWriter_end) (defScope s_ChunksWriter_end) [] [] (He.ma K (He.ga K "ChunksWriter") "end") fd := T.says.def_ 28 (d := d28) rfl
theorem g_ChecksWriter (T : Tx K mg) : mg "ChecksWriter" = some (.ref (He.ga K "ChecksWriter")) := T.glo (T.says.fact 46 (f := .glo "ChecksWriter") rfl)
theorem cl_ChecksWriter (T : Tx K mg) : Cls K (He.ga K "ChecksWriter") := He.cls_ok (T.says.fact 47 (f := .cls "ChecksWriter") rfl)
theorem mk_ChecksWriter (T : Tx K mg) : Mk K (He.ga K "ChecksWriter") (He.ma K (He.ga K "ChecksWriter") "__init__") := He.mkr_ok (T.says.fact 48 (f := .mkr "ChecksWriter") rfl)
theorem no_ChecksWriter_size (T : Tx K mg) : NoAttr K (He.ga K "ChecksWriter") "size" := He.noat_ok (T.says.fact 49 (f := .noat "ChecksWriter" "size") rfl)
theorem no_ChecksWriter_many (T : Tx K mg) : NoAttr K (He.ga K "ChecksWriter") "many" := He.noat_ok (T.says.fact 50 (f := .noat "ChecksWriter" "many") rfl)
theorem no_ChecksWriter_check (T : Tx K mg) : NoAttr K (He.ga K "ChecksWriter") "check" := He.noat_ok (T.says.fact 51 (f := .noat "ChecksWriter" "check") rfl)
theorem me_ChecksWriter_init (T : Tx K mg) : Meth K (He.ga K "ChecksWriter") "__init__" (He.ma K (He.ga K "ChecksWriter") "__init__") := He.meth_ok (T.says.fact 52 (f := .meth "ChecksWriter" "__init__") rfl)
theorem fn_ChecksWriter_init (T : Tx K mg) : ∃ fd, FunD K "__init__" "ChecksWriter.__init__" (defArgs s_ChecksWriter_init) (defBody s_ChecksWriter_init) (defScope s_ChecksWriter_init) [] [] (He.ma K (He.ga K "ChecksWriter") "__init__") fd := T.says.def_ 29 (d := d29) rfl
theorem me_ChecksWriter_take (T : Tx K mg) : Meth K (He.ga K "ChecksWriter") "take" (He.ma K (He.ga K "ChecksWriter") "take") := He.meth_ok (T.says.fact 53 (f := .meth "ChecksWriter" "take") rfl)
theorem fn_ChecksWriter_take (T : Tx K mg) : ∃ fd, FunD K "take" "ChecksWriter.take" (defArgs s_ChecksWriter_take) (defBody s_ChecksWriter_take) (defScope s_ChecksWriter_take) [] [] (He.ma K (He.ga K "ChecksWriter") "take") fd := T.says.def_ 30 (d := d30) rfl
theorem me_ChecksWriter_end (T : Tx K mg) : Meth K (He.ga K "ChecksWriter") "end" (He.ma K (He.ga K "ChecksWriter") "end") := He.meth_ok (T.says.fact 54 (f := .meth "ChecksWriter" "end") rfl)
theorem fn_ChecksWriter_end (T : Tx K mg) : ∃ fd, FunD K "end" "ChecksWriter.end" (defArgs s_ChecksWriter_end) (defBody s_ChecksWriter_end) (defScope s_ChecksWriter_end) [] [] (He.ma K (He.ga K "ChecksWriter") "end") fd := T.says.def_ 31 (d := d31) rfl
theorem g_EscapeWriter (T : Tx K mg) : mg "EscapeWriter" = some (.ref (He.ga K "EscapeWriter")) := T.glo (T.says.fact 55 (f := .glo "EscapeWriter") rfl)
theorem cl_EscapeWriter (T : Tx K mg) : Cls K (He.ga K "EscapeWriter") := He.cls_ok (T.says.fact 56 (f := .cls "EscapeWriter") rfl)
theorem mk_EscapeWriter (T : Tx K mg) : Mk K (He.ga K "EscapeWriter") (He.ma K (He.ga K "EscapeWriter") "__init__") := He.mkr_ok (T.says.fact 57 (f := .mkr "EscapeWriter") rfl)
theorem no_EscapeWriter_marks (T : Tx K mg) : NoAttr K (He.ga K "EscapeWriter") "marks" := He.noat_ok (T.says.fact 58 (f := .noat "EscapeWriter" "marks") rfl)
theorem me_EscapeWriter_init (T : Tx K mg) : Meth K (He.ga K "EscapeWriter") "__init__" (He.ma K (He.ga K "EscapeWriter") "__init__") := He.meth_ok (T.says.fact 59 (f := .meth "EscapeWriter" "__init__") rfl)
theorem fn_EscapeWriter_init (T : Tx K mg) : ∃ fd, FunD K "__init__" "EscapeWriter.__init__" (defArgs s_EscapeWriter_init) (defBody s_EscapeWriter_init) (defScope s_EscapeWriter_init) [] [] (He.ma K (He.ga K "EscapeWriter") "__init__") fd := T.says.def_ 32 (d := d32) rfl
theorem me_EscapeWriter_take (T : Tx K mg) : Meth K (He.ga K "EscapeWriter") "take" (He.ma K (He.ga K "EscapeWriter") "take") := He.meth_ok (T.says.fact 60 (f := .meth "EscapeWriter" "take") rfl)
theorem fn_EscapeWriter_take (T : Tx K mg) : ∃ fd, FunD K "take" "EscapeWriter.take" (defArgs s_EscapeWriter_take) (defBody s_EscapeWriter_take) (defScope s_EscapeWriter_take) [] [] (He.ma K (He.ga K "EscapeWriter") "take") fd := T.says.def_ 33 (d := d33) rfl
theorem me_EscapeWriter_end (T : Tx K mg) : Meth K (He.ga K "EscapeWriter") "end" (He.ma K (He.ga K "EscapeWriter") "end") := He.meth_ok (T.says.fact 61 (f := .meth "EscapeWriter" "end") rfl)
theorem fn_EscapeWriter_end (T : Tx K mg) : ∃ fd, FunD K "end" "EscapeWriter.end" (defArgs s_EscapeWriter_end) (defBody s_EscapeWriter_end) (defScope s_EscapeWriter_end) [] [] (He.ma K (He.ga K "EscapeWriter") "end") fd := T.says.def_ 34 (d := d34) rfl
theorem g_RunsWriter (T : Tx K mg) : mg "RunsWriter" = some (.ref (He.ga K "RunsWriter")) := T.glo (T.says.fact 62 (f := .glo "RunsWriter") rfl)
theorem cl_RunsWriter (T : Tx K mg) : Cls K (He.ga K "RunsWriter") := He.cls_ok (T.says.fact 63 (f := .cls "RunsWriter") rfl)
theorem mk_RunsWriter (T : Tx K mg) : Mk K (He.ga K "RunsWriter") (He.ma K (He.ga K "RunsWriter") "__init__") := He.mkr_ok (T.says.fact 64 (f := .mkr "RunsWriter") rfl)
theorem no_RunsWriter_many (T : Tx K mg) : NoAttr K (He.ga K "RunsWriter") "many" := He.noat_ok (T.says.fact 65 (f := .noat "RunsWriter" "many") rfl)
theorem no_RunsWriter_byte (T : Tx K mg) : NoAttr K (He.ga K "RunsWriter") "byte" := He.noat_ok (T.says.fact 66 (f := .noat "RunsWriter" "byte") rfl)
theorem me_RunsWriter_init (T : Tx K mg) : Meth K (He.ga K "RunsWriter") "__init__" (He.ma K (He.ga K "RunsWriter") "__init__") := He.meth_ok (T.says.fact 67 (f := .meth "RunsWriter" "__init__") rfl)
theorem fn_RunsWriter_init (T : Tx K mg) : ∃ fd, FunD K "__init__" "RunsWriter.__init__" (defArgs s_RunsWriter_init) (defBody s_RunsWriter_init) (defScope s_RunsWriter_init) [] [] (He.ma K (He.ga K "RunsWriter") "__init__") fd := T.says.def_ 35 (d := d35) rfl
theorem me_RunsWriter_take (T : Tx K mg) : Meth K (He.ga K "RunsWriter") "take" (He.ma K (He.ga K "RunsWriter") "take") := He.meth_ok (T.says.fact 68 (f := .meth "RunsWriter" "take") rfl)
theorem fn_RunsWriter_take (T : Tx K mg) : ∃ fd, FunD K "take" "RunsWriter.take" (defArgs s_RunsWriter_take) (defBody s_RunsWriter_take) (defScope s_RunsWriter_take) [] [] (He.ma K (He.ga K "RunsWriter") "take") fd := T.says.def_ 36 (d := d36) rfl
theorem me_RunsWriter_end (T : Tx K mg) : Meth K (He.ga K "RunsWriter") "end" (He.ma K (He.ga K "RunsWriter") "end") := He.meth_ok (T.says.fact 69 (f := .meth "RunsWriter" "end") rfl)
theorem fn_RunsWriter_end (T : Tx K mg) : ∃ fd, FunD K "end" "RunsWriter.end" (defArgs s_RunsWriter_end) (defBody s_RunsWriter_end) (defScope s_RunsWriter_end) [] [] (He.ma K (He.ga K "RunsWriter") "end") fd := T.says.def_ 37 (d := d37) rfl
theorem g_SignsWriter (T : Tx K mg) : mg "SignsWriter" = some (.ref (He.ga K "SignsWriter")) := T.glo (T.says.fact 70 (f := .glo "SignsWriter") rfl)
theorem cl_SignsWriter (T : Tx K mg) : Cls K (He.ga K "SignsWriter") := He.cls_ok (T.says.fact 71 (f := .cls "SignsWriter") rfl)
theorem mk_SignsWriter (T : Tx K mg) : Mk K (He.ga K "SignsWriter") (He.ma K (He.ga K "SignsWriter") "__init__") := He.mkr_ok (T.says.fact 72 (f := .mkr "SignsWriter") rfl)
theorem no_SignsWriter_many (T : Tx K mg) : NoAttr K (He.ga K "SignsWriter") "many" := He.noat_ok (T.says.fact 73 (f := .noat "SignsWriter" "many") rfl)
theorem no_SignsWriter_value (T : Tx K mg) : NoAttr K (He.ga K "SignsWriter") "value" := He.noat_ok (T.says.fact 74 (f := .noat "SignsWriter" "value") rfl)
theorem me_SignsWriter_init (T : Tx K mg) : Meth K (He.ga K "SignsWriter") "__init__" (He.ma K (He.ga K "SignsWriter") "__init__") := He.meth_ok (T.says.fact 75 (f := .meth "SignsWriter" "__init__") rfl)
theorem fn_SignsWriter_init (T : Tx K mg) : ∃ fd, FunD K "__init__" "SignsWriter.__init__" (defArgs s_SignsWriter_init) (defBody s_SignsWriter_init) (defScope s_SignsWriter_init) [] [] (He.ma K (He.ga K "SignsWriter") "__init__") fd := T.says.def_ 38 (d := d38) rfl
theorem me_SignsWriter_take (T : Tx K mg) : Meth K (He.ga K "SignsWriter") "take" (He.ma K (He.ga K "SignsWriter") "take") := He.meth_ok (T.says.fact 76 (f := .meth "SignsWriter" "take") rfl)
theorem fn_SignsWriter_take (T : Tx K mg) : ∃ fd, FunD K "take" "SignsWriter.take" (defArgs s_SignsWriter_take) (defBody s_SignsWriter_take) (defScope s_SignsWriter_take) [] [] (He.ma K (He.ga K "SignsWriter") "take") fd := T.says.def_ 39 (d := d39) rfl
theorem me_SignsWriter_end (T : Tx K mg) : Meth K (He.ga K "SignsWriter") "end" (He.ma K (He.ga K "SignsWriter") "end") := He.meth_ok (T.says.fact 77 (f := .meth "SignsWriter" "end") rfl)
theorem fn_SignsWriter_end (T : Tx K mg) : ∃ fd, FunD K "end" "SignsWriter.end" (defArgs s_SignsWriter_end) (defBody s_SignsWriter_end) (defScope s_SignsWriter_end) [] [] (He.ma K (He.ga K "SignsWriter") "end") fd := T.says.def_ 40 (d := d40) rfl
theorem g_AddWriter (T : Tx K mg) : mg "AddWriter" = some (.ref (He.ga K "AddWriter")) := T.glo (T.says.fact 78 (f := .glo "AddWriter") rfl)
theorem cl_AddWriter (T : Tx K mg) : Cls K (He.ga K "AddWriter") := He.cls_ok (T.says.fact 79 (f := .cls "AddWriter") rfl)
theorem mk_AddWriter (T : Tx K mg) : Mk K (He.ga K "AddWriter") (He.ma K (He.ga K "AddWriter") "__init__") := He.mkr_ok (T.says.fact 80 (f := .mkr "AddWriter") rfl)
theorem no_AddWriter_key (T : Tx K mg) : NoAttr K (He.ga K "AddWriter") "key" := He.noat_ok (T.says.fact 81 (f := .noat "AddWriter" "key") rfl)
theorem no_AddWriter_at (T : Tx K mg) : NoAttr K (He.ga K "AddWriter") "at" := He.noat_ok (T.says.fact 82 (f := .noat "AddWriter" "at") rfl)
theorem me_AddWriter_init (T : Tx K mg) : Meth K (He.ga K "AddWriter") "__init__" (He.ma K (He.ga K "AddWriter") "__init__") := He.meth_ok (T.says.fact 83 (f := .meth "AddWriter" "__init__") rfl)
theorem fn_AddWriter_init (T : Tx K mg) : ∃ fd, FunD K "__init__" "AddWriter.__init__" (defArgs s_AddWriter_init) (defBody s_AddWriter_init) (defScope s_AddWriter_init) [] [] (He.ma K (He.ga K "AddWriter") "__init__") fd := T.says.def_ 41 (d := d41) rfl
theorem me_AddWriter_turned (T : Tx K mg) : Meth K (He.ga K "AddWriter") "turned" (He.ma K (He.ga K "AddWriter") "turned") := He.meth_ok (T.says.fact 84 (f := .meth "AddWriter" "turned") rfl)
theorem fn_AddWriter_turned (T : Tx K mg) : ∃ fd, FunD K "turned" "AddWriter.turned" (defArgs s_AddWriter_turned) (defBody s_AddWriter_turned) (defScope s_AddWriter_turned) [] [] (He.ma K (He.ga K "AddWriter") "turned") fd := T.says.def_ 42 (d := d42) rfl
theorem me_AddWriter_take (T : Tx K mg) : Meth K (He.ga K "AddWriter") "take" (He.ma K (He.ga K "AddWriter") "take") := He.meth_ok (T.says.fact 85 (f := .meth "AddWriter" "take") rfl)
theorem fn_AddWriter_take (T : Tx K mg) : ∃ fd, FunD K "take" "AddWriter.take" (defArgs s_AddWriter_take) (defBody s_AddWriter_take) (defScope s_AddWriter_take) [] [] (He.ma K (He.ga K "AddWriter") "take") fd := T.says.def_ 43 (d := d43) rfl
theorem me_AddWriter_end (T : Tx K mg) : Meth K (He.ga K "AddWriter") "end" (He.ma K (He.ga K "AddWriter") "end") := He.meth_ok (T.says.fact 86 (f := .meth "AddWriter" "end") rfl)
theorem fn_AddWriter_end (T : Tx K mg) : ∃ fd, FunD K "end" "AddWriter.end" (defArgs s_AddWriter_end) (defBody s_AddWriter_end) (defScope s_AddWriter_end) [] [] (He.ma K (He.ga K "AddWriter") "end") fd := T.says.def_ 44 (d := d44) rfl
theorem g_FrontWriter (T : Tx K mg) : mg "FrontWriter" = some (.ref (He.ga K "FrontWriter")) := T.glo (T.says.fact 87 (f := .glo "FrontWriter") rfl)
theorem cl_FrontWriter (T : Tx K mg) : Cls K (He.ga K "FrontWriter") := He.cls_ok (T.says.fact 88 (f := .cls "FrontWriter") rfl)
theorem mk_FrontWriter (T : Tx K mg) : Mk K (He.ga K "FrontWriter") (He.ma K (He.ga K "FrontWriter") "__init__") := He.mkr_ok (T.says.fact 89 (f := .mkr "FrontWriter") rfl)
theorem no_FrontWriter_row (T : Tx K mg) : NoAttr K (He.ga K "FrontWriter") "row" := He.noat_ok (T.says.fact 90 (f := .noat "FrontWriter" "row") rfl)
theorem me_FrontWriter_init (T : Tx K mg) : Meth K (He.ga K "FrontWriter") "__init__" (He.ma K (He.ga K "FrontWriter") "__init__") := He.meth_ok (T.says.fact 91 (f := .meth "FrontWriter" "__init__") rfl)
theorem fn_FrontWriter_init (T : Tx K mg) : ∃ fd, FunD K "__init__" "FrontWriter.__init__" (defArgs s_FrontWriter_init) (defBody s_FrontWriter_init) (defScope s_FrontWriter_init) [] [] (He.ma K (He.ga K "FrontWriter") "__init__") fd := T.says.def_ 45 (d := d45) rfl
theorem me_FrontWriter_to_front (T : Tx K mg) : Meth K (He.ga K "FrontWriter") "to_front" (He.ma K (He.ga K "FrontWriter") "to_front") := He.meth_ok (T.says.fact 92 (f := .meth "FrontWriter" "to_front") rfl)
theorem fn_FrontWriter_to_front (T : Tx K mg) : ∃ fd, FunD K "to_front" "FrontWriter.to_front" (defArgs s_FrontWriter_to_front) (defBody s_FrontWriter_to_front) (defScope s_FrontWriter_to_front) [] [] (He.ma K (He.ga K "FrontWriter") "to_front") fd := T.says.def_ 46 (d := d46) rfl
theorem me_FrontWriter_take (T : Tx K mg) : Meth K (He.ga K "FrontWriter") "take" (He.ma K (He.ga K "FrontWriter") "take") := He.meth_ok (T.says.fact 93 (f := .meth "FrontWriter" "take") rfl)
theorem fn_FrontWriter_take (T : Tx K mg) : ∃ fd, FunD K "take" "FrontWriter.take" (defArgs s_FrontWriter_take) (defBody s_FrontWriter_take) (defScope s_FrontWriter_take) [] [] (He.ma K (He.ga K "FrontWriter") "take") fd := T.says.def_ 47 (d := d47) rfl
theorem me_FrontWriter_end (T : Tx K mg) : Meth K (He.ga K "FrontWriter") "end" (He.ma K (He.ga K "FrontWriter") "end") := He.meth_ok (T.says.fact 94 (f := .meth "FrontWriter" "end") rfl)
theorem fn_FrontWriter_end (T : Tx K mg) : ∃ fd, FunD K "end" "FrontWriter.end" (defArgs s_FrontWriter_end) (defBody s_FrontWriter_end) (defScope s_FrontWriter_end) [] [] (He.ma K (He.ga K "FrontWriter") "end") fd := T.says.def_ 48 (d := d48) rfl
theorem g_Writer (T : Tx K mg) : mg "Writer" = some (.ref (He.ga K "Writer")) := T.glo (T.says.fact 95 (f := .glo "Writer") rfl)
theorem cl_Writer (T : Tx K mg) : Cls K (He.ga K "Writer") := He.cls_ok (T.says.fact 96 (f := .cls "Writer") rfl)
theorem mk_Writer (T : Tx K mg) : Mk K (He.ga K "Writer") (He.ma K (He.ga K "Writer") "__init__") := He.mkr_ok (T.says.fact 97 (f := .mkr "Writer") rfl)
theorem no_Writer_parts (T : Tx K mg) : NoAttr K (He.ga K "Writer") "parts" := He.noat_ok (T.says.fact 98 (f := .noat "Writer" "parts") rfl)
theorem me_Writer_init (T : Tx K mg) : Meth K (He.ga K "Writer") "__init__" (He.ma K (He.ga K "Writer") "__init__") := He.meth_ok (T.says.fact 99 (f := .meth "Writer" "__init__") rfl)
theorem fn_Writer_init (T : Tx K mg) : ∃ fd, FunD K "__init__" "Writer.__init__" (defArgs s_Writer_init) (defBody s_Writer_init) (defScope s_Writer_init) [] [] (He.ma K (He.ga K "Writer") "__init__") fd := T.says.def_ 49 (d := d49) rfl
theorem me_Writer_take (T : Tx K mg) : Meth K (He.ga K "Writer") "take" (He.ma K (He.ga K "Writer") "take") := He.meth_ok (T.says.fact 100 (f := .meth "Writer" "take") rfl)
theorem fn_Writer_take (T : Tx K mg) : ∃ fd, FunD K "take" "Writer.take" (defArgs s_Writer_take) (defBody s_Writer_take) (defScope s_Writer_take) [] [] (He.ma K (He.ga K "Writer") "take") fd := T.says.def_ 50 (d := d50) rfl
theorem me_Writer_end (T : Tx K mg) : Meth K (He.ga K "Writer") "end" (He.ma K (He.ga K "Writer") "end") := He.meth_ok (T.says.fact 101 (f := .meth "Writer" "end") rfl)
theorem fn_Writer_end (T : Tx K mg) : ∃ fd, FunD K "end" "Writer.end" (defArgs s_Writer_end) (defBody s_Writer_end) (defScope s_Writer_end) [] [] (He.ma K (He.ga K "Writer") "end") fd := T.says.def_ 51 (d := d51) rfl
theorem g_FlowError (T : Tx K mg) : mg "FlowError" = some (.ref (He.ga K "FlowError")) := T.glo (T.says.fact 102 (f := .glo "FlowError") rfl)
theorem g_BadLayer (T : Tx K mg) : mg "BadLayer" = some (.ref (He.ga K "BadLayer")) := T.glo (T.says.fact 103 (f := .glo "BadLayer") rfl)
theorem xc_BadLayer (T : Tx K mg) : PySem.W.excIn K (He.ga K "BadLayer") He.veBase "ValueError.__new__" = true ∧ PySem.W.keepIn K (.ref (He.ga K "BadLayer")) = true ∧ PySem.W.subIn K (.ref (He.ga K "BadLayer")) (.type "BaseException") = some true ∧ PySem.W.typeIn K (.ref (He.ga K "BadLayer")) = some (.type "type") := He.exc_ok (T.says.fact 104 (f := .exc "BadLayer") rfl)
theorem xm_BadLayer_FlowError (T : Tx K mg) : PySem.W.exmOne K (.ref (He.ga K "BadLayer")) (.ref (He.ga K "FlowError")) = some true := He.exm_ok (T.says.fact 105 (f := .exm "BadLayer" "FlowError" true) rfl)
theorem c_PRIME (T : Tx K mg) : ∃ t, mg "PRIME" = some (.int 65521 t) := T.int (T.says.fact 106 (f := .int "PRIME" 65521) rfl)
theorem c_FACTOR (T : Tx K mg) : ∃ t, mg "FACTOR" = some (.int 257 t) := T.int (T.says.fact 107 (f := .int "FACTOR" 257) rfl)
theorem c_LONGEST (T : Tx K mg) : ∃ t, mg "LONGEST" = some (.int 255 t) := T.int (T.says.fact 108 (f := .int "LONGEST" 255) rfl)
theorem g_POWERS (T : Tx K mg) : mg "POWERS" = some (.ref (He.ga K "POWERS")) := T.glo (T.says.fact 109 (f := .glo "POWERS") rfl)
theorem g_SIGNS (T : Tx K mg) : mg "SIGNS" = some (.ref (He.ga K "SIGNS")) := T.glo (T.says.fact 110 (f := .glo "SIGNS") rfl)
theorem c_MOST (T : Tx K mg) : ∃ t, mg "MOST" = some (.int 8 t) := T.int (T.says.fact 111 (f := .int "MOST" 8) rfl)
theorem t_POWERS (T : Tx K mg) : ∀ H : Hp, SqT K H (He.ga K "POWERS") (powersT.map V.int) := fun H => dvInts powersT ▸ He.tupB_ok (He.ba T.more).1 H
theorem t_SIGNS (T : Tx K mg) : ∀ H : Hp, SqT K H (He.ga K "SIGNS") (signsT.map V.int) := fun H => dvInts signsT ▸ He.tupB_ok (He.ba T.more).2 H
end
end Flow
namespace Flow
open PySem PySem.Spec PyProof.Rows L2
abbrev R : PySem.W.OpenRow := PySem.W.OpenLaw.row PySem.Challenge.rw_flowstack_k02_written
abbrev hk : PySem.W.Hook := He.hookX 5 fa fn [] [] exB
def ob (s : PySem.W.SharedT) : He.AlX := He.obsX 5 fa fn [] [] exB (HandSHeadRun.getT s)
theorem ob_eq (s : PySem.W.SharedT) : ob s = hk.obs s.abs := He.obsX_eq (HandSHeadRun.getT_eq s)
def loose0 : List PySem.Str := ["FlowError", "BadLayer", "ChunksWriter", "checked", "check_bytes", "ChecksWriter", "EscapeWriter", "RunsWriter", "SignsWriter", "AddWriter", "FrontWriter", "look_layer", "look_layers", "writer_of", "through", "Writer", "written", "_law_cell", "_law_mix", "_law_whole", "_law_layer", "_law_layers", "_law_row", "_law_cuts", "_law_bits", "_law_groups", "_law_signs", "_law_checks", "_law_write_runs", "_law_write_front"]
def loose1 : List PySem.Str := ["_law_write_pieces", "_law_write", "_law_written", "_law_is_row", "_law_is_told", "PRIME", "FACTOR", "LONGEST", "POWERS", "SIGNS", "MOST"]
def loose : List PySem.Str := loose0 ++ (loose1)
theorem run (w : World) : HandSHeadRun.RunEq R (PySem.W.view R.prog [48]) hk ob 20000 loose w := by
  intro os
  kernel_rfl
end Flow
local macro_rules | `(tactic| wtm_at "ne") => `(tactic| first
  | assumption
  | exact Ne.symm (by assumption)
  | exact L2.ne_of_none (by assumption) (by assumption)
  | exact Ne.symm (L2.ne_of_none (by assumption) (by assumption))
  | exact L2.ne_of (by assumption) (by assumption) (by with_unfolding_all (intro z; cases z)))
local macro_rules | `(tactic| wtm_at "pf") => `(tactic| first
  | (with_reducible exact Flow.pf_nil)
  | (with_reducible exact Flow.pf_hit)
  | (with_reducible exact Flow.pf_miss (by with_unfolding_all decide +kernel) (by wtm_at "pf")))
local macro_rules | `(tactic| wtm_at "h") => `(tactic| first
  | assumption
  | (with_reducible exact L2.upd_same)
  | (with_reducible refine Flow.upd_get ?_ ?_; (wtm_at "ne"); (wtm_at "h")))
local macro_rules | `(tactic| wtm_at "l") => `(tactic| first
  | exact L2.SqL.of (by wtm_at "h")
  | assumption)
local macro_rules | `(tactic| wtm_at "s") => `(tactic| first
  | exact Or.inl (by wtm_at "l")
  | exact Or.inr (by first | assumption | exact L2.SqT.of (by wtm_at "h")))
local macro_rules | `(tactic| wtm_at "sz") => `(tactic| first
  | (exact Flow.sz1 (by first | decide | (simp; omega) | simp))
  | omega)
local macro_rules | `(tactic| wtm_at "x1") => `(tactic| first
  | (with_reducible refine Flow.x_seq ?_; dsimp only)
  | (with_reducible refine Flow.x_asg ?_)
  | (with_reducible refine Flow.x_gName ?_; try dsimp only [List.set])
  | (with_reducible show L2.tVar _ _ _ _; with_reducible refine Flow.x_var (by with_unfolding_all rfl) ?_)
  | (with_reducible refine Flow.x_c ?_)
  | (with_reducible refine Flow.x_fld ?_)
  | (with_reducible show Flow.rFld _ _ _ _ _; with_reducible refine Flow.x_rFld (by wtm_at "h") (by wtm_at "cls") (by wtm_at "noat") (by with_unfolding_all rfl) ?_)
  | (with_reducible refine Flow.x_sFld ?_; try dsimp only)
  | (with_reducible show Flow.rSFld _ _ _ _ _ _; with_reducible refine Flow.x_rSFld (by wtm_at "h") (by wtm_at "cls") (by wtm_at "noat") (by first | decide | (simp; omega) | simp) (by wtm_at "pf") ?_)
  | (with_reducible refine Flow.x_op ?_)
  | (with_reducible refine Flow.x_un ?_)
  | (with_reducible refine Flow.x_rI0 ?_)
  | (with_reducible refine Flow.x_rU ?_)
  | (with_reducible show L2.rI _ _ _ _ _ _; with_reducible refine Flow.x_rI (by wtm_at "dv") ?_)
  | (with_reducible refine Flow.x_eqI ?_)
  | (with_reducible refine Flow.x_neI ?_)
  | (with_reducible refine Flow.x_eqS ?_)
  | (with_reducible refine Flow.x_neS ?_)
  | (with_reducible refine Flow.x_isN ?_)
  | (with_reducible refine Flow.x_notN ?_)
  | (with_reducible refine Flow.x_test ?_)
  | (with_reducible refine Flow.x_B ?_)
  | (with_reducible refine Flow.x_rBl ?_)
  | (with_reducible refine Flow.x_rBV ?_)
  | (with_reducible refine Flow.x_tru ?_)
  | (with_reducible refine Flow.x_not ?_)
  | (with_reducible refine Flow.x_andV ?_)
  | (with_reducible refine Flow.x_orV ?_)
  | (with_reducible refine Flow.x_notV ?_)
  | (with_reducible refine Flow.x_rAndV ?_)
  | (with_reducible refine Flow.x_rOrV ?_)
  | (with_reducible refine Flow.x_rNotV ?_)
  | (with_reducible refine Flow.x_if ?_)
  | (with_reducible refine Flow.x_chain ?_)
  | (with_reducible refine Flow.x_rChain ?_)
  | (with_reducible refine Flow.x_nil ?_)
  | (with_reducible refine Flow.x_cons ?_)
  | (with_reducible refine Flow.x_lst ?_)
  | (with_reducible refine Flow.x_tup ?_)
  | (with_reducible show Flow.rLst _ _ _; with_reducible refine Flow.x_rLst (by wtm_at "sz") ?_)
  | (with_reducible show Flow.rTup _ _ _; with_reducible refine Flow.x_rTup (by wtm_at "sz") ?_)
  | (with_reducible refine Flow.x_cb ?_)
  | (with_reducible show Flow.rLen _ _ _ _; with_reducible refine Flow.x_len (by wtm_at "s") ?_)
  | (with_reducible show Flow.rListOf _ _ _ _; with_reducible refine Flow.x_listOf (by wtm_at "s") ?_)
  | (with_reducible refine Flow.x_max2 ?_)
  | (with_reducible refine Flow.x_min2 ?_)
  | (with_reducible refine Flow.x_bm ?_)
  | (with_reducible refine Flow.x_bm0 ?_)
  | (with_reducible show Flow.rTy _ _ _ _ _ _ _ _; with_reducible refine Flow.x_tyL (by wtm_at "h") ?_)
  | (with_reducible show Flow.rTy0 _ _ _ _ _ _; with_reducible refine Flow.x_tyL0 (by wtm_at "h") ?_)
  | (with_reducible show L2.rAppend _ _ _ _; with_reducible refine Flow.x_append (by wtm_at "h") (by wtm_at "szl") ?_)
  | (with_reducible show L2.rExtend _ _ _ _; with_reducible refine Flow.x_extend (by wtm_at "h") (by wtm_at "h") (by wtm_at "szl") ?_)
  | (with_reducible show L2.rCat _ _ _ _; with_reducible refine Flow.x_cat (by wtm_at "h") (by wtm_at "h") (by wtm_at "szl") ?_)
  | (with_reducible refine Flow.x_sl ?_)
  | (with_reducible refine Flow.x_noPart ?_)
  | (with_reducible refine Flow.x_part ?_)
  | (with_reducible refine Flow.x_rPart ?_)
  | (with_reducible show L2.rSlL _ _ _ _ _ _; with_reducible refine Flow.x_slL (by wtm_at "l") ?_)
  | (with_reducible refine Flow.x_next ?_; try dsimp only)
  | (with_reducible refine Flow.x_drop ?_; try dsimp only)
  | (with_reducible refine Flow.x_ret ?_; try dsimp only)
  | (with_reducible refine Flow.x_retN ?_; try dsimp only)
  | (with_reducible refine Flow.x_ifS ?_)
  | (with_reducible refine Flow.x_fn ?_)
  | (with_reducible refine Flow.x_mm ?_)
  | (with_reducible refine Flow.x_mk ?_)
  | (with_reducible refine Flow.x_mu ?_)
  | (with_reducible refine L2.iteF ?_)
  | (with_reducible refine L2.iteT ?_)
  | (with_reducible refine Flow.x_forL ?_)
  | (with_reducible refine Flow.x_forR1 ?_)
  | (with_reducible refine Flow.x_forRev ?_)
  | (with_reducible refine Flow.x_lcL ?_)
  | (with_reducible refine Flow.x_lcR ?_)
  | (with_reducible refine Flow.x_lcT ?_)
  | (with_reducible refine Flow.x_lstRg1 ?_)
  | (with_reducible refine Flow.x_rRg ?_)
  | (with_reducible show Flow.rMm _ _ _ _ _ _ _ _ _; with_reducible refine Flow.x_rMm (by wtm_at "h") (by first | rfl | assumption) (by with_unfolding_all rfl) ?_))
local macro_rules | `(tactic| wtm_at "only") => `(tactic| repeat first
  | (with_reducible exact Flow.Only'.refl)
  | assumption
  | (with_reducible refine Flow.Only'.put0 ?_ (by assumption))
  | (with_reducible refine Flow.Only'.put ?_ (by simp)))
local macro_rules | `(tactic| wtm_at "nw") => `(tactic| repeat (first
  | (obtain ⟨_, hl⟩ := Flow.upd_none hl)))
local macro_rules | `(tactic| wtm_at "x") => `(tactic| repeat wtm_at "x1")
local macro_rules | `(tactic| wtm_at "if") => `(tactic| first
  | refine Flow.ite_d (fun hc => ?_) (fun hc => ?_)
  | refine Flow.ite_nd (fun hc => ?_) (fun hc => ?_)
  | refine Flow.ite_nb (fun hc => ?_) (fun hc => ?_)
  | refine Flow.ite_b (fun hc => ?_) (fun hc => ?_))
local macro_rules | `(tactic| wtm_at "dv") => `(tactic| with_unfolding_all (first
  | assumption
  | (show (0 : Int) < _; decide)
  | (show (0 : Int) < _; omega)
  | exact ⟨by decide, by decide⟩
  | (show _ ≠ (0 : Int); (try simp only [Flow.iV_length]); omega)
  | exact ⟨by omega, by omega⟩
  | (exact Or.inr ⟨by decide, by decide⟩)
  | (exact Or.inl ⟨by decide, by decide⟩)
  | (exact Or.inl ⟨by omega, by omega⟩)
  | (exact Or.inr ⟨by omega, by omega⟩)))
local macro_rules | `(tactic| wtm_at "szl") => `(tactic| first
  | assumption
  | (simp only [L2.sizeLine_eq] at *; omega)
  | (simp only [PySem.sizeLine_eq] at *; omega))
local macro_rules | `(tactic| wtm_at "cls") => `(tactic| first
  | (with_reducible exact Flow.cl_ChunksWriter (by assumption))
  | (with_reducible exact Flow.cl_ChecksWriter (by assumption))
  | (with_reducible exact Flow.cl_EscapeWriter (by assumption))
  | (with_reducible exact Flow.cl_RunsWriter (by assumption))
  | (with_reducible exact Flow.cl_SignsWriter (by assumption))
  | (with_reducible exact Flow.cl_AddWriter (by assumption))
  | (with_reducible exact Flow.cl_FrontWriter (by assumption))
  | (with_reducible exact Flow.cl_Writer (by assumption)))
local macro_rules | `(tactic| wtm_at "noat") => `(tactic| first
  | (with_reducible exact Flow.no_ChunksWriter_size (by assumption))
  | (with_reducible exact Flow.no_ChunksWriter_held (by assumption))
  | (with_reducible exact Flow.no_ChecksWriter_size (by assumption))
  | (with_reducible exact Flow.no_ChecksWriter_many (by assumption))
  | (with_reducible exact Flow.no_ChecksWriter_check (by assumption))
  | (with_reducible exact Flow.no_EscapeWriter_marks (by assumption))
  | (with_reducible exact Flow.no_RunsWriter_many (by assumption))
  | (with_reducible exact Flow.no_RunsWriter_byte (by assumption))
  | (with_reducible exact Flow.no_SignsWriter_many (by assumption))
  | (with_reducible exact Flow.no_SignsWriter_value (by assumption))
  | (with_reducible exact Flow.no_AddWriter_key (by assumption))
  | (with_reducible exact Flow.no_AddWriter_at (by assumption))
  | (with_reducible exact Flow.no_FrontWriter_row (by assumption))
  | (with_reducible exact Flow.no_Writer_parts (by assumption)))

namespace Flow
open PySem PySem.Spec PyProof.Rows L2
/-! ### writers as objects -/
/-- a writer's object at p, with what it owns at l -/
def WAt (K : PySem.W.Frag) (H : Hp) (p l : Addr) : WSt → Prop
  | .add key at_ => ∃ dx, H p = some (.ins (He.ga K "AddWriter") dx [("key", .ref l), ("at", .int at_)]) ∧ H l = some (.lst (iV key))
  | .front row => ∃ dx, H p = some (.ins (He.ga K "FrontWriter") dx [("row", .ref l)]) ∧ H l = some (.lst (iV row))
  | .esc e => ∃ dx, H p = some (.ins (He.ga K "EscapeWriter") dx [("marks", .ref l)]) ∧ H l = some (.lst (iV (marksOf e)))
  | .runs many byte => H p = some (.ins (He.ga K "RunsWriter") l [("many", .int many), ("byte", .int byte)]) ∧ H l = some (.own p)
  | .chunks size held => ∃ dx, H p = some (.ins (He.ga K "ChunksWriter") dx [("size", .int size), ("held", .ref l)]) ∧ H l = some (.lst (iV held))
  | .checks size many check => H p = some (.ins (He.ga K "ChecksWriter") l [("size", .int size), ("many", .int many), ("check", .int check)]) ∧ H l = some (.own p)
  | .signs many value => H p = some (.ins (He.ga K "SignsWriter") l [("many", .int many), ("value", .int value)]) ∧ H l = some (.own p)
def WName : WSt → Str
  | .add _ _ => "AddWriter"
  | .front _ => "FrontWriter"
  | .esc _ => "EscapeWriter"
  | .runs _ _ => "RunsWriter"
  | .chunks _ _ => "ChunksWriter"
  | .checks _ _ _ => "ChecksWriter"
  | .signs _ _ => "SignsWriter"
/-- the promise of a writer's take, of those whose state is of some kind -/
def spWTake (K : PySem.W.Frag) (is : WSt → Prop) : Sp := fun vs H Q _ => ∃ (p l : Addr) (st : WSt) (b : Int), vs = [.ref p, .int b] ∧ is st ∧ WAt K H p l st ∧ WOk st ∧ By b ∧
  ∀ (H' : Hp) (l' r : Addr), WAt K H' p l' (wtake st b).2 → (l' = l ∨ H l' = none) → H r = none → H' r = some (.lst (iV (wtake st b).1)) → Only' [p, l] H H' → Q (.ref r) H'
def spWEnd (K : PySem.W.Frag) (is : WSt → Prop) : Sp := fun vs H Q _ => ∃ (p l : Addr) (st : WSt), vs = [.ref p] ∧ is st ∧ WAt K H p l st ∧ WOk st ∧
  ∀ (H' : Hp) (l' r : Addr), WAt K H' p l' (wended st) → (l' = l ∨ H l' = none) → H r = none → H' r = some (.lst (iV (wend st))) → Only' [p, l] H H' → Q (.ref r) H'
/-- .. whatever the state -/
def spWEndG (K : PySem.W.Frag) (is : WSt → Prop) : Sp := fun vs H Q _ => ∃ (p l : Addr) (st : WSt), vs = [.ref p] ∧ is st ∧ WAt K H p l st ∧
  ∀ (H' : Hp) (l' r : Addr), WAt K H' p l' (wended st) → (l' = l ∨ H l' = none) → H r = none → H' r = some (.lst (iV (wend st))) → Only' [p, l] H H' → Q (.ref r) H'
theorem spWEndG.to {K : PySem.W.Frag} {is : WSt → Prop} (vs : List V) (H : Hp) (Q : VK) (E : XK) (h : spWEnd K is vs H Q E) : spWEndG K is vs H Q E := by
  obtain ⟨p, l, st, e, hs, hw, _, q⟩ := h
  exact ⟨p, l, st, e, hs, hw, q⟩
/-- C(a, ..) makes a writer -/
def spWInit (K : PySem.W.Frag) (C : Addr) (ok : List V → Hp → WSt → Prop) : Sp := fun vs H Q _ => ∃ (p dx : Addr) (a : List V) (st : WSt), vs = .ref p :: a ∧ H p = some (.ins C dx []) ∧ H dx = some (.own p) ∧ ok a H st ∧
  ∀ (H' : Hp) (l : Addr), WAt K H' p l st → (l = dx ∨ H l = none) → Only' [p] H H' → Q .non H'
def isAdd : WSt → Prop | .add _ _ => True | _ => False
def isFront : WSt → Prop | .front _ => True | _ => False
def isEsc : WSt → Prop | .esc _ => True | _ => False
def isRuns : WSt → Prop | .runs _ _ => True | _ => False
def isChunks : WSt → Prop | .chunks _ _ => True | _ => False
def isChecks : WSt → Prop | .checks _ _ _ => True | _ => False
def isSigns : WSt → Prop | .signs _ _ => True | _ => False
theorem rgV256 : rgV 0 256 = iV range256 := by
  unfold rgV iV range256
  rw [List.map_map]
  have e : (256 - 0 : Int).toNat = 256 := by decide
  rw [e]
  refine List.map_congr_left fun i _ => ?_
  show V.int (0 + (i : Int)) = V.int (Int.ofNat i)
  rw [Int.zero_add]
  rfl
theorem fmod_pos {a n : Int} (h : 0 ≤ n) : a.fmod n = a % n := Int.fmod_eq_emod_of_nonneg a h
theorem fdiv_pos {a n : Int} (h : 0 ≤ n) : a.fdiv n = a / n := Int.fdiv_eq_ediv_of_nonneg a h
section
variable {P : Program} {w : World} {K : PySem.W.Frag} {mg : Str → Option Value} {base : Heap}
/-! ### AddWriter -/
def spTurned (K : PySem.W.Frag) (C : Addr) (f : Int → Int → Int) : Sp := fun vs H Q _ => ∃ (p l dx : Addr) (key : Row) (at_ b : Int), vs = [.ref p, .int b] ∧ H p = some (.ins C dx [("key", .ref l), ("at", .int at_)]) ∧ H l = some (.lst (iV key)) ∧
  0 ≤ at_ ∧ at_ < (key.length : Int) ∧ Q (.int (f b (gI key at_))) H
theorem ok_AddWriter_turned (T : Tx K mg) : DefOk P w K mg base 1 (He.ma K (He.ga K "AddWriter") "turned") ["self", "byte"] (spTurned K (He.ga K "AddWriter") fun b k => (b + k) % 256) := by
  refine def_ok (N := n_AddWriter_turned) (fn_AddWriter_turned T) sc_AddWriter_turned (fun _ _ _ _ _ _ us hl => match us, hl with | [_, _], _ => rfl) (fun vs H Q E h => ?_) (fun cdv A outer s H vs Q E hr h => ?_)
  · obtain ⟨p, l, dx, key, at_, b, rfl, _⟩ := h
    rfl
  · obtain ⟨p, l, dx, key, at_, b, rfl, hp, hl, h0, h1, q⟩ := h
    refine ⟨_, [_, _], (pss_one (ps_ret (pe_op op_mod (pe_op op_add (pv 1) (pe_ix ix_list (pe_fld (pv 0) rfl) (pe_fld (pv 0) rfl) (fun _ _ => rfl))) pe_int))), rfl, ?_⟩
    try dsimp only [cxOf]
    wtm_at "x"
    refine x_ixL (SqL.of hl) (gI_at h0 h1) ?_
    wtm_at "x"
    exact q
theorem ok_AddWriter_init (T : Tx K mg) : DefOk P w K mg base 1 (He.ma K (He.ga K "AddWriter") "__init__") ["self", "key"] (spWInit K (He.ga K "AddWriter") fun a H st => ∃ t key, a = [.ref t] ∧ st = .add key 0 ∧ SqT K H t (iV key)) := by
  refine def_ok (N := n_AddWriter_init) (fn_AddWriter_init T) sc_AddWriter_init (fun _ _ _ _ _ _ us hl => match us, hl with | [_, _], _ => rfl) (fun vs H Q E h => ?_) (fun cdv A outer s H vs Q E hr h => ?_)
  · obtain ⟨p, dx, a, st, rfl, _, _, ⟨t, key, rfl, _⟩, _⟩ := h
    rfl
  · obtain ⟨p, dx, a, st, rfl, hp, hd, ⟨t, key, rfl, rfl, ht⟩, q⟩ := h
    refine ⟨_, [_, _], (pss_cons (ps_fld (pv 0) (pe_callTy call_listS rfl (f_list T) (by decide +kernel) (pa_cons (pv 1) pa_nil)) rfl)
      (pss_one (ps_fld (pv 0) pe_int rfl))), rfl, ?_⟩
    try dsimp only [cxOf]
    wtm_at "x"
    intro l hl
    wtm_at "x"
    exact q _ l ⟨dx, by wtm_at "h", by wtm_at "h"⟩ (Or.inr hl) (by wtm_at "only")
theorem ok_AddWriter_take (T : Tx K mg) : DefOk P w K mg base 2 (He.ma K (He.ga K "AddWriter") "take") ["self", "byte"] (spWTake K isAdd) := by
  have M_AddWriter_turned := meth1 (cl_AddWriter T) (me_AddWriter_turned T) (ok_AddWriter_turned (P := P) (w := w) (base := base) T)
  refine def_ok (N := n_AddWriter_take) (fn_AddWriter_take T) sc_AddWriter_take (fun _ _ _ _ _ _ us hl => match us, hl with | [_, _], _ => rfl) (fun vs H Q E h => ?_) (fun cdv A outer s H vs Q E hr h => ?_)
  · obtain ⟨p, l, st, b, rfl, _⟩ := h
    rfl
  · obtain ⟨p, l, st, b, rfl, hst, hw, hk, hb, q⟩ := h
    cases st <;> simp only [isAdd] at hst
    rename_i key at_
    obtain ⟨dx, hp, hl⟩ := hw
    obtain ⟨k1, k2, k3, k4, k5⟩ := hk
    refine ⟨_, [_, _, _], (pss_cons (ps_set (i := 2) sc_AddWriter_take.nd rfl (Or.inl rfl) (pe_mm M_AddWriter_turned (hr.mono (by first | decide | omega)) (fun _ => passE) (pv 0) (pa_cons (pv 1) pa_nil)))
      (pss_cons (ps_fld (pv 0) (pe_op op_modN (pe_op op_add (pe_fld (pv 0) rfl) pe_int) (pe_callB call_lenS rfl (f_len T) (by decide +kernel) (pa_cons (pe_fld (pv 0) rfl) pa_nil))) rfl)
      (pss_one (ps_ret (pe_lst (pa_cons (pv 2) pa_nil)))))), rfl, ?_⟩
    try dsimp only [cxOf]
    wtm_at "x"
    refine ⟨p, l, dx, key, at_, b, rfl, hp, hl, k4, k5, ?_⟩
    wtm_at "x"
    intro r hr
    obtain ⟨r1, hr⟩ := upd_none hr
    refine q _ l r ⟨dx, ?_, by wtm_at "h"⟩ (Or.inl rfl) hr upd_same (by wtm_at "only")
    have e : (at_ + 1).fmod ((iV key).length : Int) = (at_ + 1) % (key.length : Int) := by rw [iV_length, fmod_pos (by omega)]
    rw [← e]
    wtm_at "h"
theorem ok_AddWriter_end (T : Tx K mg) : DefOk P w K mg base 1 (He.ma K (He.ga K "AddWriter") "end") ["self"] (spWEnd K isAdd) := by
  refine def_ok (N := n_AddWriter_end) (fn_AddWriter_end T) sc_AddWriter_end (fun _ _ _ _ _ _ us hl => match us, hl with | [_], _ => rfl) (fun vs H Q E h => ?_) (fun cdv A outer s H vs Q E hr h => ?_)
  · obtain ⟨p, l, st, rfl, _⟩ := h
    rfl
  · obtain ⟨p, l, st, rfl, hst, hw, hk, q⟩ := h
    cases st <;> simp only [isAdd] at hst
    obtain ⟨dx, hp, hl⟩ := hw
    refine ⟨_, [_], (pss_one (ps_ret (pe_lst pa_nil))), rfl, ?_⟩
    try dsimp only [cxOf]
    wtm_at "x"
    intro r hr
    exact q _ l r ⟨dx, by wtm_at "h", by wtm_at "h"⟩ (Or.inl rfl) hr upd_same (by wtm_at "only")
/-! ### FrontWriter -/
theorem ok_FrontWriter_init (T : Tx K mg) : DefOk P w K mg base 1 (He.ma K (He.ga K "FrontWriter") "__init__") ["self"] (spWInit K (He.ga K "FrontWriter") fun a H st => a = [] ∧ st = .front range256) := by
  refine def_ok (N := n_FrontWriter_init) (fn_FrontWriter_init T) sc_FrontWriter_init (fun _ _ _ _ _ _ us hl => match us, hl with | [_], _ => rfl) (fun vs H Q E h => ?_) (fun cdv A outer s H vs Q E hr h => ?_)
  · obtain ⟨p, dx, a, st, rfl, _, _, ⟨rfl, _⟩, _⟩ := h
    rfl
  · obtain ⟨p, dx, a, st, rfl, hp, hd, ⟨rfl, rfl⟩, q⟩ := h
    refine ⟨_, [_], (pss_one (ps_fld (pv 0) (pe_listRg rfl rfl (f_list T) (prg_1 rfl (f_range T) pe_int)) rfl)), rfl, ?_⟩
    try dsimp only [cxOf]
    wtm_at "x"
    refine ⟨RgOk.of_le (by decide) (by decide) (by decide) (by decide), fun l hl => ?_⟩
    rw [rgV256]
    wtm_at "x"
    exact q _ l ⟨dx, by wtm_at "h", by wtm_at "h"⟩ (Or.inr hl) (by wtm_at "only")
def spToFront (K : PySem.W.Frag) (C : Addr) : Sp := fun vs H Q _ => ∃ (p l dx : Addr) (row : Row) (i : Int), vs = [.ref p, .int i] ∧ H p = some (.ins C dx [("row", .ref l)]) ∧ H l = some (.lst (iV row)) ∧
  0 ≤ i ∧ i < (row.length : Int) ∧ row.length = 256 ∧ ∀ H', H' l = some (.lst (iV (moveFront row i.toNat))) → Only' [l] H H' → Q (.int (gI row i)) H'
theorem ok_FrontWriter_to_front (T : Tx K mg) : DefOk P w K mg base 1 (He.ma K (He.ga K "FrontWriter") "to_front") ["self", "place"] (spToFront K (He.ga K "FrontWriter")) := by
  refine def_ok (N := n_FrontWriter_to_front) (fn_FrontWriter_to_front T) sc_FrontWriter_to_front (fun _ _ _ _ _ _ us hl => match us, hl with | [_, _], _ => rfl) (fun vs H Q E h => ?_) (fun cdv A outer s H vs Q E hr h => ?_)
  · obtain ⟨p, l, dx, row, i, rfl, _⟩ := h
    rfl
  · obtain ⟨p, l, dx, row, i, rfl, hp, hl, h0, h1, h2, q⟩ := h
    have hpl : p ≠ l := ne_of hp hl (by intro z; cases z)
    refine ⟨_, [_, _, _], (pss_cons (ps_set (i := 2) sc_FrontWriter_to_front.nd rfl (Or.inl rfl) (pe_bm PySem.F.plainAttrs_list PySem.F.slot_list_pop PySem.F.type_list_pop mt_popAt (pe_fld (pv 0) rfl) (pa_cons (pv 1) pa_nil)))
      (pss_cons (ps_expr (pe_bm PySem.F.plainAttrs_list PySem.F.slot_list_insert PySem.F.type_list_insert mt_insertS (pe_fld (pv 0) rfl) (pa_cons pe_int (pa_cons (pv 2) pa_nil))))
      (pss_one (ps_ret (pv 2))))), rfl, ?_⟩
    try dsimp only [cxOf]
    wtm_at "x"
    refine x_popAt hl h0 h1 (by omega) ?_
    wtm_at "x"
    refine x_insert0 upd_same (by rw [iV_length, List.length_eraseIdx, sizeLine_eq]; split <;> omega) ?_
    wtm_at "x"
    refine q _ ?_ (by wtm_at "only")
    rw [upd_same]
    rfl
theorem ok_FrontWriter_take (T : Tx K mg) : DefOk P w K mg base 2 (He.ma K (He.ga K "FrontWriter") "take") ["self", "byte"] (spWTake K isFront) := by
  have M_FrontWriter_to_front := meth1 (cl_FrontWriter T) (me_FrontWriter_to_front T) (ok_FrontWriter_to_front (P := P) (w := w) (base := base) T)
  refine def_ok (N := n_FrontWriter_take) (fn_FrontWriter_take T) sc_FrontWriter_take (fun _ _ _ _ _ _ us hl => match us, hl with | [_, _], _ => rfl) (fun vs H Q E h => ?_) (fun cdv A outer s H vs Q E hr h => ?_)
  · obtain ⟨p, l, st, b, rfl, _⟩ := h
    rfl
  · obtain ⟨p, l, st, b, rfl, hst, hw, hk, hb, q⟩ := h
    cases st <;> simp only [isFront] at hst
    rename_i row
    obtain ⟨dx, hp, hl⟩ := hw
    obtain ⟨k1, k2⟩ := hk
    have hm := k2 b hb
    have hlt : row.idxOf b < row.length := List.idxOf_lt_length_of_mem hm
    have hpl : p ≠ l := ne_of hp hl (by intro z; cases z)
    refine ⟨_, [_, _, _], (pss_cons (ps_set (i := 2) sc_FrontWriter_take.nd rfl (Or.inl rfl) (pe_bm PySem.F.plainAttrs_list PySem.F.slot_list_index PySem.F.type_list_index mt_index (pe_fld (pv 0) rfl) (pa_cons (pv 1) pa_nil)))
      (pss_cons (ps_expr (pe_mm M_FrontWriter_to_front (hr.mono (by first | decide | omega)) (fun _ => passE) (pv 0) (pa_cons (pv 2) pa_nil)))
      (pss_one (ps_ret (pe_lst (pa_cons (pv 2) pa_nil)))))), rfl, ?_⟩
    try dsimp only [cxOf]
    wtm_at "x"
    refine x_index (SqL.of hl) hm ?_
    wtm_at "x"
    refine ⟨p, l, dx, row, _, rfl, hp, hl, by omega, by omega, k1, fun H' h' o' => ?_⟩
    wtm_at "x"
    intro r hr
    have hp' := o' p _ hp (by simpa using hpl)
    have e : ((row.idxOf b : Int)).toNat = row.idxOf b := Int.toNat_natCast _
    rw [e] at h'
    have hr0 : H r = none := o'.free hr
    refine q _ l r ⟨dx, by wtm_at "h", by wtm_at "h"⟩ (Or.inl rfl) hr0 upd_same ?_
    exact Only'.put0 (o'.mono (by simp)) hr0
theorem ok_FrontWriter_end (T : Tx K mg) : DefOk P w K mg base 1 (He.ma K (He.ga K "FrontWriter") "end") ["self"] (spWEnd K isFront) := by
  refine def_ok (N := n_FrontWriter_end) (fn_FrontWriter_end T) sc_FrontWriter_end (fun _ _ _ _ _ _ us hl => match us, hl with | [_], _ => rfl) (fun vs H Q E h => ?_) (fun cdv A outer s H vs Q E hr h => ?_)
  · obtain ⟨p, l, st, rfl, _⟩ := h
    rfl
  · obtain ⟨p, l, st, rfl, hst, hw, hk, q⟩ := h
    cases st <;> simp only [isFront] at hst
    obtain ⟨dx, hp, hl⟩ := hw
    refine ⟨_, [_], (pss_one (ps_ret (pe_lst pa_nil))), rfl, ?_⟩
    try dsimp only [cxOf]
    wtm_at "x"
    intro r hr
    exact q _ l r ⟨dx, by wtm_at "h", by wtm_at "h"⟩ (Or.inl rfl) hr upd_same (by wtm_at "only")
end
end Flow

namespace Flow
open PySem PySem.Spec PyProof.Rows L2
theorem marks_eq (b : Int) : (List.range 4).map (fun (i : Nat) => V.int ((b + (i : Int)) % 256)) = iV (marksOf b) := by
  show [V.int ((b + ((0 : Nat) : Int)) % 256), V.int ((b + ((1 : Nat) : Int)) % 256), V.int ((b + ((2 : Nat) : Int)) % 256), V.int ((b + ((3 : Nat) : Int)) % 256)] = iV (marksOf b)
  have e : b + ((0 : Nat) : Int) = b := by omega
  rw [e]
  rfl
theorem marks_len (b : Int) : (marksOf b).length = 4 := rfl
section
variable {P : Program} {w : World} {K : PySem.W.Frag} {mg : Str → Option Value} {base : Heap}
/-! ### EscapeWriter -/
theorem ok_EscapeWriter_init (T : Tx K mg) : DefOk P w K mg base 1 (He.ma K (He.ga K "EscapeWriter") "__init__") ["self", "byte"] (spWInit K (He.ga K "EscapeWriter") fun a H st => ∃ e, a = [.int e] ∧ st = .esc e) := by
  refine def_ok (N := n_EscapeWriter_init) (fn_EscapeWriter_init T) sc_EscapeWriter_init (fun _ _ _ _ _ _ us hl => match us, hl with | [_, _], _ => rfl) (fun vs H Q E h => ?_) (fun cdv A outer s H vs Q E hr h => ?_)
  · obtain ⟨p, dx, a, st, rfl, _, _, ⟨e, rfl, _⟩, _⟩ := h
    rfl
  · obtain ⟨p, dx, a, st, rfl, hp, hd, ⟨e, rfl, rfl⟩, q⟩ := h
    refine ⟨_, [_, _, _], (pss_one (ps_fld (pv 0) (pe_lc (own := [("k", 2)]) (g := gName 2) (tt := tYes) rfl sc_EscapeWriter_init.nd (pi_range1 rfl (f_range T) (pa_cons pe_int pa_nil)) (blkOk_by (own := [("k", 2)]) (N := n_EscapeWriter_init) (sc := defScope s_EscapeWriter_init) (by decide +kernel)) (fun _ _ _ _ _ => pg_name (i := 2) sc_EscapeWriter_init.nd rfl (Or.inl rfl)) (fun _ _ _ _ _ => pts_nil) (fun _ _ _ _ _ => (pe_op op_mod (pe_op op_add (pv 1) (pv 2)) pe_int))) rfl)), rfl, ?_⟩
    try dsimp only [cxOf]
    wtm_at "x"
    refine x_rLcR (k := 4) (fun i => V.int ((e + (i : Int)) % 256)) rfl (by decide) (fun _ => rfl) (fun i H1 hi e1 Q' k => ?_) fun l H1 hl e1 h1 => ?_
    · wtm_at "x"
      exact k _ Only'.refl
    · rw [marks_eq] at h1
      wtm_at "x"
      have hp1 := e1 p _ hp (by simp)
      have hpl : p ≠ l := ne_of_none hp hl
      wtm_at "x"
      exact q _ l ⟨dx, by wtm_at "h", by wtm_at "h"⟩ (Or.inr hl) ((e1.mono (by simp)).put (by simp))
theorem ok_EscapeWriter_take (T : Tx K mg) : DefOk P w K mg base 2 (He.ma K (He.ga K "EscapeWriter") "take") ["self", "byte"] (spWTake K isEsc) := by
  refine def_ok (N := n_EscapeWriter_take) (fn_EscapeWriter_take T) sc_EscapeWriter_take (fun _ _ _ _ _ _ us hl => match us, hl with | [_, _], _ => rfl) (fun vs H Q E h => ?_) (fun cdv A outer s H vs Q E hr h => ?_)
  · obtain ⟨p, l, st, b, rfl, _⟩ := h
    rfl
  · obtain ⟨p, l, st, b, rfl, hst, hw, hk, hb, q⟩ := h
    cases st <;> simp only [isEsc] at hst
    rename_i e
    obtain ⟨dx, hp, hl⟩ := hw
    obtain ⟨he0, he1⟩ := id hk
    obtain ⟨hb0, hb1⟩ := hb
    have hpl : p ≠ l := ne_of hp hl (by intro z; cases z)
    refine ⟨_, [_, _], (pss_cons (ps_if (pt_cmpR op_in_seq (pv 1) (pe_slice sl_list (pe_fld (pv 0) rfl) po_none (po_some pe_int)) (by rfl)) (pss_one (ps_ret (pe_lst (pa_cons (pe_ix ix_list (pe_fld (pv 0) rfl) pe_int (fun _ _ => rfl)) (pa_cons (pe_ix ix_list (pe_fld (pv 0) rfl) (pe_op op_add pe_int (pe_bm PySem.F.plainAttrs_list PySem.F.slot_list_index PySem.F.type_list_index mt_index (pe_fld (pv 0) rfl) (pa_cons (pv 1) pa_nil))) (fun _ _ => rfl)) pa_nil))))) pss_nil)
      (pss_one (ps_ret (pe_lst (pa_cons (pv 1) pa_nil))))), rfl, ?_⟩
    try dsimp only [cxOf]
    wtm_at "x"
    intro s1 hs1
    have e1 : cutV (iV (marksOf e)) none (some 2) = iV ((marksOf e).take 2) := rfl
    rw [e1]
    refine x_inI (Or.inl (SqL.of upd_same)) ?_
    wtm_at "x"
    refine ite_d (fun hc => ?_) fun hc => ?_
    · have hc2 : b = e % 256 ∨ b = (e + 1) % 256 := by simpa [marksOf] using hc
      have hm : b ∈ marksOf e := List.mem_of_mem_take hc
      wtm_at "x"
      refine x_ixL (SqL.of (by wtm_at "h")) (gI_at (by decide) (by rw [marks_len]; decide)) ?_
      wtm_at "x"
      refine x_index (SqL.of (by wtm_at "h")) hm ?_
      wtm_at "x"
      have hx : (2 : Int) + ((marksOf e).idxOf b : Int) < 4 := by
        rcases hc2 with hc2 | hc2
        · have : (marksOf e).idxOf b = 0 := by rw [hc2]; simp [marksOf]
          omega
        · have : (marksOf e).idxOf b ≤ 1 := by
            rw [hc2]
            unfold marksOf
            rw [List.idxOf_cons]
            cases (e % 256 == (e + 1) % 256) <;> simp
          omega
      refine x_ixL (SqL.of (by wtm_at "h")) (gI_at (by omega) (by rw [marks_len]; omega)) ?_
      wtm_at "x"
      intro r hr
      obtain ⟨r1, hr0⟩ := upd_none hr
      refine q _ l r ⟨dx, by wtm_at "h", by wtm_at "h"⟩ (Or.inl rfl) hr0 ?_ (by wtm_at "only")
      rw [upd_same]
      have hout : (wtake (.esc e) b).1 = [gI (marksOf e) 1, gI (marksOf e) (2 + ((marksOf e).idxOf b : Int))] := by
        show escOut e b = _
        unfold escOut
        rcases hc2 with hc2 | hc2
        · have i0 : (marksOf e).idxOf b = 0 := by rw [hc2]; simp [marksOf]
          rw [if_pos hc2, i0]
          rfl
        · have ne : ¬ b = e % 256 := by omega
          have i1 : (marksOf e).idxOf b = 1 := by
            rw [hc2]
            unfold marksOf
            rw [List.idxOf_cons]
            have : (e % 256 == (e + 1) % 256) = false := by
              rw [beq_eq_false_iff_ne]
              omega
            rw [this]
            simp
          rw [if_neg ne, if_pos hc2, i1]
          rfl
      rw [hout]
      rfl
    · have hc2 : ¬ (b = e % 256 ∨ b = (e + 1) % 256) := by simpa [marksOf] using hc
      wtm_at "x"
      intro r hr
      obtain ⟨r1, hr0⟩ := upd_none hr
      refine q _ l r ⟨dx, by wtm_at "h", by wtm_at "h"⟩ (Or.inl rfl) hr0 ?_ (by wtm_at "only")
      rw [upd_same]
      have hout : (wtake (.esc e) b).1 = [b] := by
        show escOut e b = _
        unfold escOut
        rw [if_neg fun z => hc2 (Or.inl z), if_neg fun z => hc2 (Or.inr z)]
      rw [hout]
      rfl
theorem ok_EscapeWriter_end (T : Tx K mg) : DefOk P w K mg base 1 (He.ma K (He.ga K "EscapeWriter") "end") ["self"] (spWEnd K isEsc) := by
  refine def_ok (N := n_EscapeWriter_end) (fn_EscapeWriter_end T) sc_EscapeWriter_end (fun _ _ _ _ _ _ us hl => match us, hl with | [_], _ => rfl) (fun vs H Q E h => ?_) (fun cdv A outer s H vs Q E hr h => ?_)
  · obtain ⟨p, l, st, rfl, _⟩ := h
    rfl
  · obtain ⟨p, l, st, rfl, hst, hw, hk, q⟩ := h
    cases st <;> simp only [isEsc] at hst
    obtain ⟨dx, hp, hl⟩ := hw
    refine ⟨_, [_], (pss_one (ps_ret (pe_lst pa_nil))), rfl, ?_⟩
    try dsimp only [cxOf]
    wtm_at "x"
    intro r hr
    exact q _ l r ⟨dx, by wtm_at "h", by wtm_at "h"⟩ (Or.inl rfl) hr upd_same (by wtm_at "only")
/-! ### RunsWriter -/
theorem ok_RunsWriter_init (T : Tx K mg) : DefOk P w K mg base 1 (He.ma K (He.ga K "RunsWriter") "__init__") ["self"] (spWInit K (He.ga K "RunsWriter") fun a H st => a = [] ∧ st = .runs 0 0) := by
  refine def_ok (N := n_RunsWriter_init) (fn_RunsWriter_init T) sc_RunsWriter_init (fun _ _ _ _ _ _ us hl => match us, hl with | [_], _ => rfl) (fun vs H Q E h => ?_) (fun cdv A outer s H vs Q E hr h => ?_)
  · obtain ⟨p, dx, a, st, rfl, _, _, ⟨rfl, _⟩, _⟩ := h
    rfl
  · obtain ⟨p, dx, a, st, rfl, hp, hd, ⟨rfl, rfl⟩, q⟩ := h
    have hpd : dx ≠ p := ne_of hd hp (by intro z; cases z)
    refine ⟨_, [_], (pss_cons (ps_fld (pv 0) pe_int rfl)
      (pss_one (ps_fld (pv 0) pe_int rfl))), rfl, ?_⟩
    try dsimp only [cxOf]
    wtm_at "x"
    exact q _ dx ⟨by wtm_at "h", by wtm_at "h"⟩ (Or.inl rfl) (by wtm_at "only")
theorem ok_RunsWriter_end (T : Tx K mg) : DefOk P w K mg base 1 (He.ma K (He.ga K "RunsWriter") "end") ["self"] (spWEndG K isRuns) := by
  refine def_ok (N := n_RunsWriter_end) (fn_RunsWriter_end T) sc_RunsWriter_end (fun _ _ _ _ _ _ us hl => match us, hl with | [_], _ => rfl) (fun vs H Q E h => ?_) (fun cdv A outer s H vs Q E hr h => ?_)
  · obtain ⟨p, l, st, rfl, _⟩ := h
    rfl
  · obtain ⟨p, l, st, rfl, hst, hw, q⟩ := h
    cases st <;> simp only [isRuns] at hst
    rename_i many byte
    obtain ⟨hp, hl⟩ := hw
    have hpl : l ≠ p := ne_of hl hp (by intro z; cases z)
    refine ⟨_, [_, _], (pss_cons (ps_set (i := 1) sc_RunsWriter_end.nd rfl (Or.inl rfl) (pe_fld (pv 0) rfl))
      (pss_cons (ps_fld (pv 0) pe_int rfl)
      (pss_cons (ps_if (pt_cmpR op_eq (pv 1) pe_int (nomark _)) (pss_one (ps_ret (pe_lst pa_nil))) pss_nil)
      (pss_one (ps_ret (pe_lst (pa_cons (pv 1) (pa_cons (pe_fld (pv 0) rfl) pa_nil)))))))), rfl, ?_⟩
    try dsimp only [cxOf]
    wtm_at "x"
    refine ite_d (fun hc => ?_) fun hc => ?_
    · wtm_at "x"
      intro r hr
      obtain ⟨r1, hr0⟩ := upd_none hr
      refine q _ l r ⟨by wtm_at "h", by wtm_at "h"⟩ (Or.inl rfl) hr0 ?_ (by wtm_at "only")
      rw [upd_same]
      show _ = some (HO.lst (iV (if many = 0 then [] else [many, byte])))
      rw [if_pos hc]
      rfl
    · wtm_at "x"
      intro r hr
      obtain ⟨r1, hr0⟩ := upd_none hr
      refine q _ l r ⟨by wtm_at "h", by wtm_at "h"⟩ (Or.inl rfl) hr0 ?_ (by wtm_at "only")
      rw [upd_same]
      show _ = some (HO.lst (iV (if many = 0 then [] else [many, byte])))
      rw [if_neg hc]
      rfl
theorem runs_a {many byte b : Int} (h : many > 0 ∧ b ≠ byte) : takeRuns many byte b = ([many, byte], .runs 1 b) := if_pos h
theorem runs_b {many byte b : Int} (h : ¬ (many > 0 ∧ b ≠ byte)) (h2 : many + 1 = 255) : takeRuns many byte b = ([255, b], .runs 0 b) := by
  unfold takeRuns
  rw [if_neg h, if_pos h2]
theorem runs_c {many byte b : Int} (h : ¬ (many > 0 ∧ b ≠ byte)) (h2 : ¬ many + 1 = 255) : takeRuns many byte b = ([], .runs (many + 1) b) := by
  unfold takeRuns
  rw [if_neg h, if_neg h2]
theorem ok_RunsWriter_take (T : Tx K mg) : DefOk P w K mg base 2 (He.ma K (He.ga K "RunsWriter") "take") ["self", "byte"] (spWTake K isRuns) := by
  have M_RunsWriter_end := meth1 (cl_RunsWriter T) (me_RunsWriter_end T) (ok_RunsWriter_end (P := P) (w := w) (base := base) T)
  refine def_ok (N := n_RunsWriter_take) (fn_RunsWriter_take T) sc_RunsWriter_take (fun _ _ _ _ _ _ us hl => match us, hl with | [_, _], _ => rfl) (fun vs H Q E h => ?_) (fun cdv A outer s H vs Q E hr h => ?_)
  · obtain ⟨p, l, st, b, rfl, _⟩ := h
    rfl
  · obtain ⟨p, l, st, b, rfl, hst, hw, hk, hb, q⟩ := h
    cases st <;> simp only [isRuns] at hst
    rename_i many byte
    obtain ⟨hp, hl⟩ := hw
    obtain ⟨m0, m1, hby⟩ := hk
    have hpl : l ≠ p := ne_of hl hp (by intro z; cases z)
    -- the rest behind the first test, nothing being told so far
    refine ⟨_, [_, _, _], (pss_cons (ps_set (i := 2) sc_RunsWriter_take.nd rfl (Or.inl rfl) (pe_lst pa_nil))
      (pss_cons (ps_if (PW.pt (pw_and (pt_cmpR op_gt (pe_fld (pv 0) rfl) pe_int (nomark _)) (pw_and1 (pt_cmpR op_ne (pv 1) (pe_fld (pv 0) rfl) (nomark _))))) (pss_one (ps_set (i := 2) sc_RunsWriter_take.nd rfl (Or.inl rfl) (pe_mm0 M_RunsWriter_end (hr.mono (by first | decide | omega)) (fun _ => passE) (pv 0)))) pss_nil)
      (pss_cons (ps_fld (pv 0) (pv 1) rfl)
      (pss_cons (ps_fld (pv 0) (pe_op op_add (pe_fld (pv 0) rfl) pe_int) rfl)
      (pss_cons (ps_if (pt_cmpR op_eq (pe_fld (pv 0) rfl) (pe_ci (c_LONGEST T)) (nomark _)) (pss_one (ps_set (i := 2) sc_RunsWriter_take.nd rfl (Or.inl rfl) (pe_op op_cat (pv 2) (pe_mm0 M_RunsWriter_end (hr.mono (by first | decide | omega)) (fun _ => passE) (pv 0))))) pss_nil)
      (pss_one (ps_ret (pv 2)))))))), rfl, ?_⟩
    try dsimp only [cxOf]
    wtm_at "x"
    intro f1 hf1
    have nf : f1 ≠ p := (ne_of_none hp hf1).symm
    have nl : f1 ≠ l := (ne_of_none hl hf1).symm
    wtm_at "x"
    refine x_andJ (a := decide (0 < many)) (b := !decide (b = byte)) (fun B' k => ?_) (fun _ B' k => ?_) (fun h1 h2 => ?_) (fun h12 => ?_)
    · wtm_at "x"
      exact k
    · wtm_at "x"
      exact k
    · have hcc : many > 0 ∧ b ≠ byte := ⟨of_decide_eq_true h1, by simpa using h2⟩
      refine iteT ?_
      wtm_at "x"
      refine ⟨p, l, .runs many byte, rfl, trivial, ⟨by wtm_at "h", by wtm_at "h"⟩, fun H' l' r hw' hl' hr hr' ho => ?_⟩
      obtain ⟨hp', hl2⟩ := hw'
      obtain ⟨_, hr0⟩ := upd_none hr
      have hpr : p ≠ r := ne_of_none hp hr0
      wtm_at "x"
      refine ite_d (fun hc3 => absurd hc3 (by decide)) fun hc3 => ?_
      wtm_at "x"
      have hl0 : l' = l ∨ H l' = none := by
        rcases hl' with z | z
        · exact Or.inl z
        · exact Or.inr (upd_none z).2
      have hpl' : l' ≠ p := ne_of hl2 hp' (by intro z; cases z)
      refine q _ l' r ?_ hl0 hr0 ?_ ?_
      · show WAt K _ p l' (takeRuns many byte b).2
        rw [runs_a hcc]
        exact ⟨upd_same, by wtm_at "h"⟩
      · show _ = some (HO.lst (iV (takeRuns many byte b).1))
        rw [runs_a hcc]
        have e : wend (.runs many byte) = [many, byte] := if_neg (by omega)
        rw [e] at hr'
        wtm_at "h"
      · have o1 : Only' [p, l] H H' := (Only'.put0 Only'.refl hf1).trans ho
        exact (o1.put (by simp)).put (by simp)
    · have hcc : ¬ (many > 0 ∧ b ≠ byte) := by
        rintro ⟨h1, h2⟩
        simp [h1, h2] at h12
      refine iteF ?_
      wtm_at "x"
      refine ite_d (fun hc3 => ?_) fun hc3 => ?_
      · wtm_at "x"
        refine ⟨p, l, .runs (many + 1) b, rfl, trivial, ⟨by wtm_at "h", by wtm_at "h"⟩, fun H' l' r hw' hl' hr hr' ho => ?_⟩
        obtain ⟨hp', hl2⟩ := hw'
        obtain ⟨_, hr⟩ := upd_none hr
        obtain ⟨_, hr⟩ := upd_none hr
        obtain ⟨rf, hr0⟩ := upd_none hr
        have ef : H' f1 = some (.lst []) := ho f1 _ (by wtm_at "h") (by simp [nf, nl])
        refine x_cat ef hr' (by simp [wend]; rw [if_neg (by omega)]; simp [sizeLine_eq, iV]) fun r2 hr2 => ?_
        wtm_at "x"
        have hl0 : l' = l ∨ H l' = none := by
          rcases hl' with z | z
          · exact Or.inl z
          · exact Or.inr (upd_none (upd_none (upd_none z).2).2).2
        have o1 : Only' [p, l] H H' := (((Only'.put0 Only'.refl hf1).put (by simp)).put (by simp)).trans ho
        have hr20 : H r2 = none := o1.free hr2
        have e1 : wend (.runs (many + 1) b) = [many + 1, b] := if_neg (by omega)
        refine q _ l' r2 ?_ hl0 hr20 ?_ (o1.put0 hr20)
        · show WAt K _ p l' (takeRuns many byte b).2
          rw [runs_b hcc hc3]
          exact ⟨by wtm_at "h", by wtm_at "h"⟩
        · rw [upd_same, e1]
          show _ = some (HO.lst (iV (takeRuns many byte b).1))
          rw [runs_b hcc hc3, hc3]
          rfl
      · wtm_at "x"
        refine q _ l f1 ?_ (Or.inl rfl) hf1 ?_ (by wtm_at "only")
        · show WAt K _ p l (takeRuns many byte b).2
          rw [runs_c hcc hc3]
          exact ⟨by wtm_at "h", by wtm_at "h"⟩
        · show _ = some (HO.lst (iV (takeRuns many byte b).1))
          rw [runs_c hcc hc3]
          dsimp only [iV, List.map]
          wtm_at "h"
end
end Flow

namespace Flow
open PySem PySem.Spec PyProof.Rows L2
/-- the end of chunks, be the held row full -/
def spWEndC (K : PySem.W.Frag) : Sp := fun vs H Q _ => ∃ (p l : Addr) (n : Int) (held : Row), vs = [.ref p] ∧ WAt K H p l (.chunks n held) ∧ held.length ≤ 255 ∧
  ∀ (H' : Hp) (l' r : Addr), WAt K H' p l' (.chunks n []) → (l' = l ∨ H l' = none) → H r = none → H' r = some (.lst (iV ((held.length : Int) :: held))) → Only' [p, l] H H' → Q (.ref r) H'
section
variable {P : Program} {w : World} {K : PySem.W.Frag} {mg : Str → Option Value} {base : Heap}
/-! ### ChunksWriter -/
theorem ok_ChunksWriter_init (T : Tx K mg) : DefOk P w K mg base 1 (He.ma K (He.ga K "ChunksWriter") "__init__") ["self", "size"] (spWInit K (He.ga K "ChunksWriter") fun a H st => ∃ n, a = [.int n] ∧ st = .chunks n []) := by
  refine def_ok (N := n_ChunksWriter_init) (fn_ChunksWriter_init T) sc_ChunksWriter_init (fun _ _ _ _ _ _ us hl => match us, hl with | [_, _], _ => rfl) (fun vs H Q E h => ?_) (fun cdv A outer s H vs Q E hr h => ?_)
  · obtain ⟨p, dx, a, st, rfl, _, _, ⟨n, rfl, _⟩, _⟩ := h
    rfl
  · obtain ⟨p, dx, a, st, rfl, hp, hd, ⟨n, rfl, rfl⟩, q⟩ := h
    refine ⟨_, [_, _], (pss_cons (ps_fld (pv 0) (pv 1) rfl)
      (pss_one (ps_fld (pv 0) (pe_lst pa_nil) rfl))), rfl, ?_⟩
    try dsimp only [cxOf]
    wtm_at "x"
    intro l hl
    obtain ⟨lp, hl0⟩ := upd_none hl
    wtm_at "x"
    exact q _ l ⟨dx, by wtm_at "h", (show _ = some (HO.lst []) by wtm_at "h")⟩ (Or.inr hl0) (by wtm_at "only")
theorem ok_ChunksWriter_end (T : Tx K mg) : DefOk P w K mg base 1 (He.ma K (He.ga K "ChunksWriter") "end") ["self"] (spWEndC K) := by
  refine def_ok (N := n_ChunksWriter_end) (fn_ChunksWriter_end T) sc_ChunksWriter_end (fun _ _ _ _ _ _ us hl => match us, hl with | [_], _ => rfl) (fun vs H Q E h => ?_) (fun cdv A outer s H vs Q E hr h => ?_)
  · obtain ⟨p, l, n, held, rfl, _⟩ := h
    rfl
  · obtain ⟨p, l, n, held, rfl, hw, hk, q⟩ := h
    obtain ⟨dx, hp, hl⟩ := hw
    have hpl : p ≠ l := ne_of hp hl (by intro z; cases z)
    refine ⟨_, [_, _], (pss_cons (ps_set (i := 1) sc_ChunksWriter_end.nd rfl (Or.inl rfl) (pe_op op_cat (pe_lst (pa_cons (pe_callB call_lenS rfl (f_len T) (by decide +kernel) (pa_cons (pe_fld (pv 0) rfl) pa_nil)) pa_nil)) (pe_fld (pv 0) rfl)))
      (pss_cons (ps_fld (pv 0) (pe_lst pa_nil) rfl)
      (pss_one (ps_ret (pv 1))))), rfl, ?_⟩
    try dsimp only [cxOf]
    wtm_at "x"
    intro t1 ht1
    have n1 : t1 ≠ p := (ne_of_none hp ht1).symm
    have n2 : t1 ≠ l := (ne_of_none hl ht1).symm
    wtm_at "x"
    refine x_cat upd_same (by wtm_at "h") (by rw [iV_length, sizeLine_eq]; simp; omega) fun r hr => ?_
    obtain ⟨n3, hr0⟩ := upd_none hr
    have n4 : r ≠ p := (ne_of_none hp hr0).symm
    wtm_at "x"
    intro l2 hl2
    obtain ⟨n5, hl2⟩ := upd_none hl2
    obtain ⟨n6, hl2⟩ := upd_none hl2
    have n7 : l2 ≠ p := (ne_of_none hp hl2).symm
    wtm_at "x"
    refine q _ l2 r ⟨dx, by wtm_at "h", (show _ = some (HO.lst []) by wtm_at "h")⟩ (Or.inr hl2) hr0 ?_ (by wtm_at "only")
    show _ = some (HO.lst (iV ((held.length : Int) :: held)))
    have e : iV ((held.length : Int) :: held) = [V.int ((iV held).length : Int)] ++ iV held := by rw [iV_length]; rfl
    rw [e]
    wtm_at "h"
theorem ok_ChunksWriter_take (T : Tx K mg) : DefOk P w K mg base 2 (He.ma K (He.ga K "ChunksWriter") "take") ["self", "byte"] (spWTake K isChunks) := by
  have M_ChunksWriter_end := meth1 (cl_ChunksWriter T) (me_ChunksWriter_end T) (ok_ChunksWriter_end (P := P) (w := w) (base := base) T)
  refine def_ok (N := n_ChunksWriter_take) (fn_ChunksWriter_take T) sc_ChunksWriter_take (fun _ _ _ _ _ _ us hl => match us, hl with | [_, _], _ => rfl) (fun vs H Q E h => ?_) (fun cdv A outer s H vs Q E hr h => ?_)
  · obtain ⟨p, l, st, b, rfl, _⟩ := h
    rfl
  · obtain ⟨p, l, st, b, rfl, hst, hw, hk, hb, q⟩ := h
    cases st <;> simp only [isChunks] at hst
    rename_i n held
    obtain ⟨dx, hp, hl⟩ := hw
    obtain ⟨k1, k2, k3, k4⟩ := hk
    have hpl : p ≠ l := ne_of hp hl (by intro z; cases z)
    have hln : (iV held).length < sizeLine := by rw [iV_length, sizeLine_eq]; omega
    refine ⟨_, [_, _], (pss_cons (ps_expr (pe_bm PySem.F.plainAttrs_list PySem.F.slot_list_append PySem.F.type_list_append mt_append (pe_fld (pv 0) rfl) (pa_cons (pv 1) pa_nil)))
      (pss_cons (ps_if (pt_cmpR op_eq (pe_callB call_lenS rfl (f_len T) (by decide +kernel) (pa_cons (pe_fld (pv 0) rfl) pa_nil)) (pe_fld (pv 0) rfl) (nomark _)) (pss_one (ps_ret (pe_mm0 M_ChunksWriter_end (hr.mono (by first | decide | omega)) (fun _ => passE) (pv 0)))) pss_nil)
      (pss_one (ps_ret (pe_lst pa_nil))))), rfl, ?_⟩
    try dsimp only [cxOf]
    wtm_at "x"
    have ea : iV held ++ [V.int b] = iV (held ++ [b]) := by rw [iV_append]; rfl
    rw [ea]
    rw [iV_length]
    refine ite_d (fun hc => ?_) fun hc => ?_
    · wtm_at "x"
      refine ⟨p, l, n, held ++ [b], rfl, ⟨dx, by wtm_at "h", by wtm_at "h"⟩, by simp; omega, fun H' l' r hw' hl' hr hr' ho => ?_⟩
      have hl0 : l' = l ∨ H l' = none := by
        rcases hl' with z | z
        · exact Or.inl z
        · exact Or.inr (upd_none z).2
      have e : wtake (.chunks n held) b = (((held ++ [b]).length : Int) :: (held ++ [b]), .chunks n []) := if_pos hc
      refine q H' l' r ?_ hl0 (upd_none hr).2 ?_ ((Only'.refl.put (by simp)).trans ho)
      · rw [e]
        exact hw'
      · rw [e]
        exact hr'
    · wtm_at "x"
      intro r hr
      obtain ⟨_, hr0⟩ := upd_none hr
      have n1 : r ≠ l := (ne_of_none hl hr0).symm
      have e : wtake (.chunks n held) b = ([], .chunks n (held ++ [b])) := if_neg hc
      refine q _ l r ?_ (Or.inl rfl) hr0 ?_ (by wtm_at "only")
      · rw [e]
        exact ⟨dx, by wtm_at "h", by wtm_at "h"⟩
      · rw [e]
        exact upd_same
/-! ### ChecksWriter -/
def spChecked (K : PySem.W.Frag) : Sp := fun vs H Q _ => ∃ (a : Addr) (c : Int) (r : Row), vs = [.int c, .ref a] ∧ SqL K H a (iV r) ∧ 0 ≤ c ∧ c < 65521 ∧ Q (.int (checkAll c r)) H
theorem checkAll_more : ∀ (c : Int) (r : Row) (b : Int), checkAll c (r ++ [b]) = nextCheck (checkAll c r) b
  | _, [], _ => rfl
  | c, x :: r, b => checkAll_more (nextCheck c x) r b
theorem checkAll_in : ∀ (c : Int) (r : Row), 0 ≤ c → c < 65521 → 0 ≤ checkAll c r ∧ checkAll c r < 65521
  | _, [], h0, h1 => ⟨h0, h1⟩
  | c, x :: r, _, _ => checkAll_in (nextCheck c x) r (Int.emod_nonneg _ (by decide)) (Int.emod_lt_of_pos _ (by decide))
theorem ok_checked (T : Tx K mg) : DefOk P w K mg base 1 (He.ga K "checked") ["check", "row"] (spChecked K) := by
  refine def_ok (N := n_checked) (fn_checked T) sc_checked (fun _ _ _ _ _ _ us hl => match us, hl with | [_, _], _ => rfl) (fun vs H Q E h => ?_) (fun cdv A outer s H vs Q E hr h => ?_)
  · obtain ⟨a, c, r, rfl, _⟩ := h
    rfl
  · obtain ⟨a, c, r, rfl, hr, c0, c1, q⟩ := h
    refine ⟨_, [_, _, _], (pss_cons (ps_for (passes_of rfl) rfl (pi_list (pv 1)) (pg_name (i := 2) sc_checked.nd rfl (Or.inl rfl)) (pss_one (ps_set (i := 0) sc_checked.nd rfl (Or.inl rfl) (pe_op op_mod (pe_op op_add (pe_op op_add (pe_op op_mul (pv 0) (pe_ci (c_FACTOR T))) (pv 2)) pe_int) (pe_ci (c_PRIME T))))))
      (pss_one (ps_ret (pv 0)))), rfl, ?_⟩
    try dsimp only [cxOf]
    wtm_at "x"
    refine x_rForL hr (fun i σ H' => ∃ v, σ = [some (.int (checkAll c (r.take i))), some (.ref a), v] ∧ H' = H) ⟨_, rfl, rfl⟩ (fun i σ H' _ ⟨_, _, e⟩ => e ▸ hr) ?_ ?_
    · rintro i x σ H' hi ⟨v, rfl, rfl⟩
      obtain ⟨z, hz, rfl⟩ := iV_get hi
      obtain ⟨hc0, hc1⟩ := checkAll_in c (r.take i) c0 c1
      wtm_at "x"
      refine ⟨some (.int z), ?_, rfl⟩
      rw [take_more hz, checkAll_more]
      rfl
    · rintro σ H' ⟨v, rfl, rfl⟩
      wtm_at "x"
      rw [iV_length, List.take_length]
      exact q
def spCheckBytes : Sp := fun vs H Q _ => ∃ c : Int, vs = [.int c] ∧ ∀ r, H r = none → Q (.ref r) (upd H r (.lst (iV (checkBytes c))))
theorem ok_check_bytes (T : Tx K mg) : DefOk P w K mg base 1 (He.ga K "check_bytes") ["check"] spCheckBytes := by
  refine def_ok (N := n_check_bytes) (fn_check_bytes T) sc_check_bytes (fun _ _ _ _ _ _ us hl => match us, hl with | [_], _ => rfl) (fun vs H Q E h => ?_) (fun cdv A outer s H vs Q E hr h => ?_)
  · obtain ⟨c, rfl, _⟩ := h
    rfl
  · obtain ⟨c, rfl, q⟩ := h
    refine ⟨_, [_], (pss_one (ps_ret (pe_lst (pa_cons (pe_op op_fdiv (pv 0) pe_int) (pa_cons (pe_op op_mod (pv 0) pe_int) pa_nil))))), rfl, ?_⟩
    try dsimp only [cxOf]
    wtm_at "x"
    intro r hr
    exact q r hr
theorem ok_ChecksWriter_init (T : Tx K mg) : DefOk P w K mg base 1 (He.ma K (He.ga K "ChecksWriter") "__init__") ["self", "size"] (spWInit K (He.ga K "ChecksWriter") fun a H st => ∃ n, a = [.int n] ∧ st = .checks n 0 0) := by
  refine def_ok (N := n_ChecksWriter_init) (fn_ChecksWriter_init T) sc_ChecksWriter_init (fun _ _ _ _ _ _ us hl => match us, hl with | [_, _], _ => rfl) (fun vs H Q E h => ?_) (fun cdv A outer s H vs Q E hr h => ?_)
  · obtain ⟨p, dx, a, st, rfl, _, _, ⟨n, rfl, _⟩, _⟩ := h
    rfl
  · obtain ⟨p, dx, a, st, rfl, hp, hd, ⟨n, rfl, rfl⟩, q⟩ := h
    have hpd : dx ≠ p := ne_of hd hp (by intro z; cases z)
    refine ⟨_, [_, _], (pss_cons (ps_fld (pv 0) (pv 1) rfl)
      (pss_cons (ps_fld (pv 0) pe_int rfl)
      (pss_one (ps_fld (pv 0) pe_int rfl)))), rfl, ?_⟩
    try dsimp only [cxOf]
    wtm_at "x"
    exact q _ dx ⟨by wtm_at "h", by wtm_at "h"⟩ (Or.inl rfl) (by wtm_at "only")
theorem ok_ChecksWriter_end (T : Tx K mg) : DefOk P w K mg base 2 (He.ma K (He.ga K "ChecksWriter") "end") ["self"] (spWEndG K isChecks) := by
  have D_check_bytes := ok_check_bytes (P := P) (w := w) (base := base) T
  refine def_ok (N := n_ChecksWriter_end) (fn_ChecksWriter_end T) sc_ChecksWriter_end (fun _ _ _ _ _ _ us hl => match us, hl with | [_], _ => rfl) (fun vs H Q E h => ?_) (fun cdv A outer s H vs Q E hr h => ?_)
  · obtain ⟨p, l, st, rfl, _⟩ := h
    rfl
  · obtain ⟨p, l, st, rfl, hst, hw, q⟩ := h
    cases st <;> simp only [isChecks] at hst
    rename_i n many check
    obtain ⟨hp, hl⟩ := hw
    have hpl : l ≠ p := ne_of hl hp (by intro z; cases z)
    refine ⟨_, [_], (pss_cons (ps_fld (pv 0) pe_int rfl)
      (pss_one (ps_ret (pe_fn D_check_bytes (g_check_bytes T) (hr.mono (by first | decide | omega)) (fun _ => passE) (pa_cons (pe_fld (pv 0) rfl) pa_nil))))), rfl, ?_⟩
    try dsimp only [cxOf]
    wtm_at "x"
    refine ⟨check, rfl, fun r hr => ?_⟩
    obtain ⟨_, hr0⟩ := upd_none hr
    exact q _ l r ⟨by wtm_at "h", by wtm_at "h"⟩ (Or.inl rfl) hr0 upd_same (by wtm_at "only")
theorem ok_ChecksWriter_take (T : Tx K mg) : DefOk P w K mg base 3 (He.ma K (He.ga K "ChecksWriter") "take") ["self", "byte"] (spWTake K isChecks) := by
  have D_checked := ok_checked (P := P) (w := w) (base := base) T
  have M_ChecksWriter_end := meth1 (cl_ChecksWriter T) (me_ChecksWriter_end T) (ok_ChecksWriter_end (P := P) (w := w) (base := base) T)
  refine def_ok (N := n_ChecksWriter_take) (fn_ChecksWriter_take T) sc_ChecksWriter_take (fun _ _ _ _ _ _ us hl => match us, hl with | [_, _], _ => rfl) (fun vs H Q E h => ?_) (fun cdv A outer s H vs Q E hr h => ?_)
  · obtain ⟨p, l, st, b, rfl, _⟩ := h
    rfl
  · obtain ⟨p, l, st, b, rfl, hst, hw, hk, hb, q⟩ := h
    cases st <;> simp only [isChecks] at hst
    rename_i n many check
    obtain ⟨hp, hl⟩ := hw
    obtain ⟨k1, k2, k3, k4, k5, k6⟩ := hk
    have hpl : l ≠ p := ne_of hl hp (by intro z; cases z)
    refine ⟨_, [_, _], (pss_cons (ps_fld (pv 0) (pe_fn D_checked (g_checked T) (hr.mono (by first | decide | omega)) (fun _ => passE) (pa_cons (pe_fld (pv 0) rfl) (pa_cons (pe_lst (pa_cons (pv 1) pa_nil)) pa_nil))) rfl)
      (pss_cons (ps_fld (pv 0) (pe_op op_add (pe_fld (pv 0) rfl) pe_int) rfl)
      (pss_cons (ps_if (pt_cmpR op_lt (pe_fld (pv 0) rfl) (pe_fld (pv 0) rfl) (nomark _)) (pss_one (ps_ret (pe_lst (pa_cons (pv 1) pa_nil)))) pss_nil)
      (pss_one (ps_ret (pe_op op_cat (pe_lst (pa_cons (pv 1) pa_nil)) (pe_mm0 M_ChecksWriter_end (hr.mono (by first | decide | omega)) (fun _ => passE) (pv 0)))))))), rfl, ?_⟩
    try dsimp only [cxOf]
    wtm_at "x"
    intro t1 ht1
    have n1 : t1 ≠ p := (ne_of_none hp ht1).symm
    have n2 : t1 ≠ l := (ne_of_none hl ht1).symm
    wtm_at "x"
    refine ⟨t1, check, [b], rfl, SqL.of upd_same, k5, k6, ?_⟩
    have ec : checkAll check [b] = nextCheck check b := rfl
    rw [ec]
    wtm_at "x"
    refine ite_d (fun hc => ?_) fun hc => ?_
    · wtm_at "x"
      intro r hr
      obtain ⟨_, hr⟩ := upd_none hr
      obtain ⟨_, hr⟩ := upd_none hr
      obtain ⟨n3, hr0⟩ := upd_none hr
      have e : wtake (.checks n many check) b = ([b], .checks n (many + 1) (nextCheck check b)) := if_pos hc
      refine q _ l r ?_ (Or.inl rfl) hr0 ?_ (by wtm_at "only")
      · rw [e]
        exact ⟨by wtm_at "h", by wtm_at "h"⟩
      · rw [e]
        exact upd_same
    · wtm_at "x"
      intro t2 ht2
      obtain ⟨_, ht2⟩ := upd_none ht2
      obtain ⟨_, ht2⟩ := upd_none ht2
      obtain ⟨n3, ht20⟩ := upd_none ht2
      have n4 : t2 ≠ p := (ne_of_none hp ht20).symm
      have n5 : t2 ≠ l := (ne_of_none hl ht20).symm
      wtm_at "x"
      refine ⟨p, l, .checks n (many + 1) (nextCheck check b), rfl, trivial, ⟨by wtm_at "h", by wtm_at "h"⟩, fun H' l' r hw' hl' hr hr' ho => ?_⟩
      have o1 : Only' [p, l] H H' := Only'.trans (by wtm_at "only") ho
      have h2 : H' t2 = some (.lst [V.int b]) := ho t2 _ upd_same (by simp [n4, n5])
      have hl0 : l' = l ∨ H l' = none := by
        rcases hl' with z | z
        · exact Or.inl z
        · exact Or.inr (upd_none (upd_none (upd_none (upd_none z).2).2).2).2
      refine x_cat h2 hr' (by rw [iV_length, sizeLine_eq]; show 1 + 2 ≤ 16777216; decide) fun r2 hr2 => ?_
      wtm_at "x"
      have hr20 : H r2 = none := o1.free hr2
      have e : wtake (.checks n many check) b = (b :: checkBytes (nextCheck check b), .checks n 0 (nextCheck check b)) := if_neg hc
      obtain ⟨hp', hl2⟩ := hw'
      refine q _ l' r2 ?_ hl0 hr20 ?_ (o1.put0 hr20)
      · rw [e]
        exact ⟨upd_get (ne_of_none hp' hr2) hp', upd_get (ne_of_none hl2 hr2) hl2⟩
      · rw [e]
        exact upd_same
end
end Flow

namespace Flow
open PySem PySem.Spec PyProof.Rows L2
section
variable {P : Program} {w : World} {K : PySem.W.Frag} {mg : Str → Option Value} {base : Heap}
/-! ### SignsWriter -/
theorem ok_SignsWriter_init (T : Tx K mg) : DefOk P w K mg base 1 (He.ma K (He.ga K "SignsWriter") "__init__") ["self"] (spWInit K (He.ga K "SignsWriter") fun a H st => a = [] ∧ st = .signs 0 0) := by
  refine def_ok (N := n_SignsWriter_init) (fn_SignsWriter_init T) sc_SignsWriter_init (fun _ _ _ _ _ _ us hl => match us, hl with | [_], _ => rfl) (fun vs H Q E h => ?_) (fun cdv A outer s H vs Q E hr h => ?_)
  · obtain ⟨p, dx, a, st, rfl, _, _, ⟨rfl, _⟩, _⟩ := h
    rfl
  · obtain ⟨p, dx, a, st, rfl, hp, hd, ⟨rfl, rfl⟩, q⟩ := h
    have hpd : dx ≠ p := ne_of hd hp (by intro z; cases z)
    refine ⟨_, [_], (pss_cons (ps_fld (pv 0) pe_int rfl)
      (pss_one (ps_fld (pv 0) pe_int rfl))), rfl, ?_⟩
    try dsimp only [cxOf]
    wtm_at "x"
    exact q _ dx ⟨by wtm_at "h", by wtm_at "h"⟩ (Or.inl rfl) (by wtm_at "only")
theorem pow2_0 : pow2 0 = 1 := rfl
theorem pow2_2 : pow2 2 = 4 := rfl
theorem pow2_4 : pow2 4 = 16 := rfl
theorem pow2_6 : pow2 6 = 64 := rfl
theorem sg_a {many value b : Int} (hm : many = 0 ∨ many = 2 ∨ many = 4) (h0 : 0 ≤ value) (h1 : value < pow2 many) (hb : By b) :
    0 ≤ (value * 256 + b) / pow2 (many + 2) ∧ (value * 256 + b) / pow2 (many + 2) < 64 ∧ 0 ≤ (value * 256 + b) % pow2 (many + 2) ∧ (value * 256 + b) % pow2 (many + 2) < pow2 (many + 2) ∧ 0 < pow2 (many + 2) ∧ pow2 (many + 2) ≤ 64 := by
  obtain ⟨b0, b1⟩ := hb
  rcases hm with rfl | rfl | rfl
  · rw [pow2_0] at h1
    rw [show pow2 (0 + 2) = 4 from rfl]
    omega
  · rw [pow2_2] at h1
    rw [show pow2 (2 + 2) = 16 from rfl]
    omega
  · rw [pow2_4] at h1
    rw [show pow2 (4 + 2) = 64 from rfl]
    omega
theorem ok_SignsWriter_take (T : Tx K mg) : DefOk P w K mg base 2 (He.ma K (He.ga K "SignsWriter") "take") ["self", "byte"] (spWTake K isSigns) := by
  refine def_ok (N := n_SignsWriter_take) (fn_SignsWriter_take T) sc_SignsWriter_take (fun _ _ _ _ _ _ us hl => match us, hl with | [_, _], _ => rfl) (fun vs H Q E h => ?_) (fun cdv A outer s H vs Q E hr h => ?_)
  · obtain ⟨p, l, st, b, rfl, _⟩ := h
    rfl
  · obtain ⟨p, l, st, b, rfl, hst, hw, hk, hb, q⟩ := h
    cases st <;> simp only [isSigns] at hst
    rename_i many value
    obtain ⟨hp, hl⟩ := hw
    obtain ⟨k1, k2, k3⟩ := hk
    have hv : value < 64 := by
      rcases k1 with rfl | rfl | rfl
      · rw [pow2_0] at k3; omega
      · rw [pow2_2] at k3; omega
      · rw [pow2_4] at k3; omega
    obtain ⟨g1, g2, g3, g4, g5, g6⟩ := sg_a k1 k2 k3 hb
    have hpl : l ≠ p := ne_of hl hp (by intro z; cases z)
    have hpow := t_POWERS T
    have hsig := t_SIGNS T
    refine ⟨_, [_, _, _], (pss_cons (ps_fld (pv 0) (pe_op op_add (pe_op op_mul (pe_fld (pv 0) rfl) pe_int) (pv 1)) rfl)
      (pss_cons (ps_fld (pv 0) (pe_op op_add (pe_fld (pv 0) rfl) pe_int) rfl)
      (pss_cons (ps_set (i := 2) sc_SignsWriter_take.nd rfl (Or.inl rfl) (pe_lst pa_nil))
      (pss_cons (ps_while (passes_of rfl) (pt_cmpR op_ge (pe_fld (pv 0) rfl) pe_int (nomark _)) (pss_cons (ps_fld (pv 0) (pe_op op_sub (pe_fld (pv 0) rfl) pe_int) rfl)
      (pss_cons (ps_expr (pe_bm PySem.F.plainAttrs_list PySem.F.slot_list_append PySem.F.type_list_append mt_append (pv 2) (pa_cons (pe_ix ix_tup (pe_gr (g_SIGNS T)) (pe_op op_fdivN (pe_fld (pv 0) rfl) (pe_ix ix_tup (pe_gr (g_POWERS T)) (pe_fld (pv 0) rfl) (fun _ _ => rfl))) (fun _ _ => rfl)) pa_nil)))
      (pss_one (ps_fld (pv 0) (pe_op op_modN (pe_fld (pv 0) rfl) (pe_ix ix_tup (pe_gr (g_POWERS T)) (pe_fld (pv 0) rfl) (fun _ _ => rfl))) rfl)))))
      (pss_one (ps_ret (pv 2))))))), rfl, ?_⟩
    try dsimp only [cxOf]
    wtm_at "x"
    intro f hf
    obtain ⟨_, hf⟩ := upd_none hf
    obtain ⟨nf, hf0⟩ := upd_none hf
    have nl : f ≠ l := (ne_of_none hl hf0).symm
    wtm_at "x"
    have e1 : many + 8 - 6 = many + 2 := by omega
    refine x_while (fun m σ H' => σ = [some (.ref p), some (.int b), some (.ref f)] ∧ H' l = some (.own p) ∧ Only' [p] H H' ∧ ∃ (mny v : Int) (out : Row), H' p = some (.ins (He.ga K "SignsWriter") l [("many", .int mny), ("value", .int v)]) ∧ H' f = some (.lst (iV out)) ∧
      ((m = 2 ∧ mny = many + 8 ∧ v = value * 256 + b ∧ out = []) ∨ (m = 1 ∧ mny = many + 2 ∧ v = (value * 256 + b) % pow2 (many + 2) ∧ out = [signOf ((value * 256 + b) / pow2 (many + 2))]) ∨
        (m = 0 ∧ many = 4 ∧ mny = 0 ∧ v = 0 ∧ out = [signOf ((value * 256 + b) / pow2 (many + 2)), signOf ((value * 256 + b) % pow2 (many + 2))]))) 2
      ⟨rfl, by wtm_at "h", by wtm_at "only", many + 8, value * 256 + b, [], by wtm_at "h", upd_same, Or.inl ⟨rfl, rfl, rfl, rfl⟩⟩ ?_
    rintro m σ H' ⟨rfl, hl', ho, mny, v, out, hp', hf', hcase⟩
    wtm_at "x"
    refine ite_d (fun hc => ?_) fun hc => ?_
    · have hA : (m = 2 ∧ mny = many + 8 ∧ v = value * 256 + b ∧ out = []) ∨ (m = 1 ∧ many = 4 ∧ mny = many + 2 ∧ v = (value * 256 + b) % pow2 (many + 2) ∧ out = [signOf ((value * 256 + b) / pow2 (many + 2))]) := by
        rcases hcase with h | ⟨a1, a2, a3, a4⟩ | ⟨_, _, a3, _⟩
        · exact Or.inl h
        · exact Or.inr ⟨a1, by omega, a2, a3, a4⟩
        · omega
      have hB : 0 ≤ mny - 6 ∧ mny - 6 ≤ 6 ∧ 0 < pow2 (mny - 6) ∧ pow2 (mny - 6) ≤ 64 ∧ 0 ≤ v / pow2 (mny - 6) ∧ v / pow2 (mny - 6) < 64 ∧ out.length ≤ 1 := by
        rcases hA with ⟨_, rfl, rfl, rfl⟩ | ⟨_, rfl, rfl, rfl, rfl⟩
        · rw [e1]
          exact ⟨by omega, by omega, g5, g6, g1, g2, by simp⟩
        · have e2 : pow2 (4 + 2 - 6) = 1 := rfl
          rw [e2]
          have e3 : pow2 (4 + 2) = 64 := rfl
          rw [e3] at g3 g4 ⊢
          exact ⟨by omega, by omega, by omega, by omega, by omega, by omega, by simp⟩
      obtain ⟨b1, b2, b3, b4, b5, b6, b7⟩ := hB
      have hfd : v.fdiv (pow2 (mny - 6)) = v / pow2 (mny - 6) := fdiv_pos (by omega)
      have hfm : v.fmod (pow2 (mny - 6)) = v % pow2 (mny - 6) := fmod_pos (by omega)
      have hol : (iV out).length < sizeLine := by rw [iV_length, sizeLine_eq]; omega
      have hix : atI (iV powersT) (mny - 6) = some (V.int (pow2 (mny - 6))) := gI_at b1 (by show mny - 6 < 8; omega)
      have hiy : atI (iV signsT) (v / pow2 (mny - 6)) = some (V.int (signOf (v / pow2 (mny - 6)))) := gI_at b5 (by show v / pow2 (mny - 6) < 64; omega)
      refine ⟨fun σ2 H2 => σ2 = [some (.ref p), some (.int b), some (.ref f)] ∧ H2 l = some (.own p) ∧ Only' [p] H H2 ∧ H2 p = some (.ins (He.ga K "SignsWriter") l [("many", .int (mny - 6)), ("value", .int (v % pow2 (mny - 6)))]) ∧ H2 f = some (.lst (iV (out ++ [signOf (v / pow2 (mny - 6))]))), ?_, ?_⟩
      · rintro σ2 H2 ⟨rfl, a1, a2, a3, a4⟩
        rcases hA with ⟨rfl, rfl, rfl, rfl⟩ | ⟨rfl, rfl, rfl, rfl, rfl⟩
        · rw [e1] at a3 a4
          exact ⟨1, by decide, rfl, a1, a2, _, _, _, a3, a4, Or.inr (Or.inl ⟨rfl, rfl, rfl, rfl⟩)⟩
        · have e2 : pow2 (4 + 2 - 6) = 1 := rfl
          rw [e2, Int.ediv_one] at a4
          rw [e2, Int.emod_one] at a3
          exact ⟨0, by decide, rfl, a1, a2, _, _, _, a3, a4, Or.inr (Or.inr ⟨rfl, rfl, by omega, rfl, rfl⟩)⟩
      · wtm_at "x"
        refine x_ixT (hpow _) hix ?_
        wtm_at "x"
        rw [hfd]
        refine x_ixT (hsig _) hiy ?_
        wtm_at "x"
        refine x_ixT (hpow _) hix ?_
        wtm_at "x"
        rw [hfm]
        refine ⟨rfl, by wtm_at "h", ?_, by wtm_at "h", ?_⟩
        · exact ((ho.put (by simp)).put0 hf0).put (by simp)
        · rw [iV_snoc]
          wtm_at "h"
    · wtm_at "x"
      have hcase2 : (mny = many + 2 ∧ v = (value * 256 + b) % pow2 (many + 2) ∧ out = [signOf ((value * 256 + b) / pow2 (many + 2))] ∧ ¬ many + 2 ≥ 6) ∨ (many = 4 ∧ mny = 0 ∧ v = 0 ∧ out = [signOf ((value * 256 + b) / pow2 (many + 2)), signOf ((value * 256 + b) % pow2 (many + 2))]) := by
        rcases hcase with ⟨_, a1, _⟩ | ⟨_, a2, a3, a4⟩ | ⟨_, a2, a3, a4, a5⟩
        · omega
        · exact Or.inl ⟨a2, a3, a4, by omega⟩
        · exact Or.inr ⟨a2, a3, a4, a5⟩
      have he : wtake (.signs many value) b = (out, .signs mny v) := by
        show takeSigns many value b = _
        unfold takeSigns
        rcases hcase2 with ⟨rfl, rfl, rfl, hn⟩ | ⟨rfl, rfl, rfl, rfl⟩
        · rw [if_neg hn]
        · rw [if_pos (by decide)]
          have e2 : pow2 (4 + 2 - 6) = 1 := rfl
          rw [e2, Int.ediv_one, Int.emod_one]
          rfl
      refine q _ l f ?_ (Or.inl rfl) hf0 ?_ (ho.mono (by simp))
      · rw [he]
        exact ⟨hp', hl'⟩
      · rw [he]
        exact hf'
theorem ok_SignsWriter_end (T : Tx K mg) : DefOk P w K mg base 1 (He.ma K (He.ga K "SignsWriter") "end") ["self"] (spWEnd K isSigns) := by
  refine def_ok (N := n_SignsWriter_end) (fn_SignsWriter_end T) sc_SignsWriter_end (fun _ _ _ _ _ _ us hl => match us, hl with | [_], _ => rfl) (fun vs H Q E h => ?_) (fun cdv A outer s H vs Q E hr h => ?_)
  · obtain ⟨p, l, st, rfl, _⟩ := h
    rfl
  · obtain ⟨p, l, st, rfl, hst, hw, hk, q⟩ := h
    cases st <;> simp only [isSigns] at hst
    rename_i many value
    obtain ⟨hp, hl⟩ := hw
    obtain ⟨k1, k2, k3⟩ := hk
    have hv : value < 64 := by
      rcases k1 with rfl | rfl | rfl
      · rw [pow2_0] at k3; omega
      · rw [pow2_2] at k3; omega
      · rw [pow2_4] at k3; omega
    refine ⟨_, [_], (pss_cons (ps_if (pt_cmpR op_eq (pe_fld (pv 0) rfl) pe_int (nomark _)) (pss_one (ps_ret (pe_lst pa_nil))) pss_nil)
      (pss_one (ps_ret (pe_lst (pa_cons (pe_ix ix_tup (pe_gr (g_SIGNS T)) (pe_op op_mul (pe_fld (pv 0) rfl) (pe_ix ix_tup (pe_gr (g_POWERS T)) (pe_op op_sub pe_int (pe_fld (pv 0) rfl)) (fun _ _ => rfl))) (fun _ _ => rfl)) pa_nil))))), rfl, ?_⟩
    try dsimp only [cxOf]
    wtm_at "x"
    refine ite_d (fun hc => ?_) fun hc => ?_
    · wtm_at "x"
      intro r hr
      refine q _ l r ⟨by wtm_at "h", by wtm_at "h"⟩ (Or.inl rfl) hr ?_ (by wtm_at "only")
      rw [upd_same]
      show _ = some (HO.lst (iV (if many = 0 then [] else _)))
      rw [if_pos hc]
      rfl
    · have hix : atI (iV powersT) (6 - many) = some (V.int (pow2 (6 - many))) := gI_at (by omega) (by show 6 - many < 8; omega)
      have hiz : 0 ≤ value * pow2 (6 - many) ∧ value * pow2 (6 - many) < 64 := by
        rcases k1 with rfl | rfl | rfl
        · exact absurd rfl hc
        · rw [pow2_2] at k3
          rw [show pow2 (6 - 2) = 16 from rfl]
          omega
        · rw [pow2_4] at k3
          rw [show pow2 (6 - 4) = 4 from rfl]
          omega
      have hiy : atI (iV signsT) (value * pow2 (6 - many)) = some (V.int (signOf (value * pow2 (6 - many)))) := gI_at hiz.1 (by show _ < 64; omega)
      wtm_at "x"
      refine x_ixT (t_POWERS T _) hix ?_
      wtm_at "x"
      refine x_ixT (t_SIGNS T _) hiy ?_
      wtm_at "x"
      intro r hr
      refine q _ l r ⟨by wtm_at "h", by wtm_at "h"⟩ (Or.inl rfl) hr ?_ (by wtm_at "only")
      rw [upd_same]
      show _ = some (HO.lst (iV (if many = 0 then [] else _)))
      rw [if_neg hc]
      rfl
end
end Flow

namespace Flow
open PySem PySem.Spec PyProof.Rows L2
/-! ### layers as tuples -/
def goodRaw (k : Str) (xs : Row) : Bool :=
  if k ∈ (["runs", "front", "signs"] : List Str) then decide (((rawLen xs : Nat) : Int) = 1)
  else if k = "add" then (decide ((1 : Int) ≤ (rawLen xs : Int) - 1) && decide ((rawLen xs : Int) - 1 ≤ 8)) && xs.all fun b => decide (0 ≤ b) && decide (b ≤ 255)
  else if k ∈ (["chunks", "checks"] : List Str) then decide (((rawLen xs : Nat) : Int) = 2) && (decide (1 ≤ gI xs 0) && decide (gI xs 0 ≤ 255))
  else decide (k = "escape") && (decide (((rawLen xs : Nat) : Int) = 2) && (decide (0 ≤ gI xs 0) && decide (gI xs 0 ≤ 255)))
where rawLen (xs : Row) : Nat := xs.length + 1
def rawV (k : Str) (xs : Row) : List V := .str k :: iV xs
def lkind : Lay → Str
  | .add _ => "add"
  | .front => "front"
  | .esc _ => "escape"
  | .runs => "runs"
  | .chunks _ => "chunks"
  | .checks _ => "checks"
  | .signs => "signs"
def largs : Lay → Row
  | .add key => key
  | .front => []
  | .esc b => [b]
  | .runs => []
  | .chunks n => [n]
  | .checks n => [n]
  | .signs => []
def layV (l : Lay) : List V := rawV (lkind l) (largs l)
theorem good_lay {l : Lay} (h : l.Ok) : goodRaw (lkind l) (largs l) = true := by
  cases l with
  | add key =>
    obtain ⟨h1, h2, h3⟩ := h
    unfold goodRaw
    rw [if_neg (by show ¬ ("add" : Str) ∈ _; decide +kernel), if_pos (show lkind (Lay.add key) = "add" from rfl)]
    have e : largs (.add key) = key := rfl
    rw [e]
    simp only [goodRaw.rawLen, Bool.and_eq_true, decide_eq_true_eq, List.all_eq_true]
    refine ⟨⟨decide_eq_true (show (1 : Int) ≤ ((key.length + 1 : Nat) : Int) - 1 by omega), decide_eq_true (show ((key.length + 1 : Nat) : Int) - 1 ≤ 8 by omega)⟩, fun x hx => ?_⟩
    have := h3 x hx
    unfold By at this
    omega
  | front => decide +kernel
  | esc b =>
    obtain ⟨h1, h2⟩ := h
    unfold goodRaw
    rw [if_neg (by show ¬ ("escape" : Str) ∈ _; decide +kernel), if_neg (by show ¬ ("escape" : Str) = "add"; decide +kernel), if_neg (by show ¬ ("escape" : Str) ∈ _; decide +kernel)]
    have e : gI (largs (.esc b)) 0 = b := rfl
    rw [e]
    simp only [lkind, goodRaw.rawLen, Bool.and_eq_true, decide_eq_true_eq]
    refine ⟨trivial, rfl, by omega, by omega⟩
  | runs => decide +kernel
  | chunks n =>
    obtain ⟨h1, h2⟩ := h
    unfold goodRaw
    rw [if_neg (by show ¬ ("chunks" : Str) ∈ _; decide +kernel), if_neg (by show ¬ ("chunks" : Str) = "add"; decide +kernel), if_pos (by show ("chunks" : Str) ∈ _; decide +kernel)]
    have e : gI (largs (.chunks n)) 0 = n := rfl
    rw [e]
    simp only [lkind, goodRaw.rawLen, Bool.and_eq_true, decide_eq_true_eq]
    refine ⟨rfl, by omega, by omega⟩
  | checks n =>
    obtain ⟨h1, h2⟩ := h
    unfold goodRaw
    rw [if_neg (by show ¬ ("checks" : Str) ∈ _; decide +kernel), if_neg (by show ¬ ("checks" : Str) = "add"; decide +kernel), if_pos (by show ("checks" : Str) ∈ _; decide +kernel)]
    have e : gI (largs (.checks n)) 0 = n := rfl
    rw [e]
    simp only [lkind, goodRaw.rawLen, Bool.and_eq_true, decide_eq_true_eq]
    refine ⟨rfl, by omega, by omega⟩
  | signs => decide +kernel
/-- raw layers at the addresses ts -/
structure RawAll (K : PySem.W.Frag) (H : Hp) (ts : List Addr) (ls : List (Str × Row)) : Prop where
  len : ts.length = ls.length
  at_ : ∀ (i : Nat) (t : Addr) (k : Str) (xs : Row), ts[i]? = some t → ls[i]? = some (k, xs) → SqT K H t (rawV k xs)
  few : ∀ (i : Nat) (k : Str) (xs : Row), ls[i]? = some (k, xs) → xs.length ≤ 100
theorem RawAll.ext {K : PySem.W.Frag} {H H' : Hp} {ts : List Addr} {ls : List (Str × Row)} (a : RawAll K H ts ls) (e : Ext H H') : RawAll K H' ts ls := ⟨a.len, fun i t k xs h1 h2 => SqT.ext e (a.at_ i t k xs h1 h2), a.few⟩
def goodAll (ls : List (Str × Row)) : Bool := decide (ls.length ≤ 8) && ls.all fun q => goodRaw q.1 q.2
def rawOf (l : Lay) : Str × Row := (lkind l, largs l)
/-- layers at the list a -/
def LaysAt (K : PySem.W.Frag) (H : Hp) (a : Addr) (ls : List Lay) : Prop := ∃ ts, SqL K H a (ts.map V.ref) ∧ RawAll K H ts (ls.map rawOf)
def spLook (K : PySem.W.Frag) : Sp := fun vs H Q E => ∃ (t : Addr) (k : Str) (xs : Row), vs = [.ref t] ∧ SqT K H t (rawV k xs) ∧ xs.length ≤ 100 ∧
  (goodRaw k xs = true → ∀ H', Ext H H' → Q .non H') ∧ (goodRaw k xs = false → ∀ H', Ext H H' → E (.ref (He.ga K "BadLayer")) none H')
def spLooks (K : PySem.W.Frag) : Sp := fun vs H Q E => ∃ (a : Addr) (ts : List Addr) (ls : List (Str × Row)), vs = [.ref a] ∧ SqL K H a (ts.map V.ref) ∧ RawAll K H ts ls ∧
  (goodAll ls = true → ∀ H', Ext H H' → Q .non H') ∧ (goodAll ls = false → ∀ H', Ext H H' → E (.ref (He.ga K "BadLayer")) none H')
theorem rawV_len (k : Str) (xs : Row) : (rawV k xs).length = xs.length + 1 := by
  unfold rawV
  rw [List.length_cons, iV_length]
theorem ix_kind (k : Str) (xs : Row) : atI (rawV k xs) 0 = some (.str k) := at_of (j := 0) rfl rfl
theorem ix_arg {k : Str} {xs : Row} (h : (((xs.length + 1 : Nat) : Int) = 2)) : atI (rawV k xs) 1 = some (.int (gI xs 0)) := by
  have hl : xs.length = 1 := by omega
  obtain ⟨x, rfl⟩ : ∃ x, xs = [x] := List.length_eq_one_iff.mp hl
  exact at_of (j := 1) rfl rfl
section
variable {P : Program} {w : World} {K : PySem.W.Frag} {mg : Str → Option Value} {base : Heap}
theorem all_map (xs : Row) (f : Int → Bool) : ((List.range xs.length).map fun (i : Nat) => V.bl (f (gI xs (i : Int)))) = (xs.map f).map V.bl := by
  refine List.ext_getElem? fun i => ?_
  rw [List.getElem?_map, List.getElem?_map, List.getElem?_map]
  by_cases h : i < xs.length
  · rw [List.getElem?_range h, List.getElem?_eq_getElem h]
    show some (V.bl (f (gI xs (i : Int)))) = some (V.bl (f xs[i]))
    rw [gI_nat (List.getElem?_eq_getElem h)]
  · rw [List.getElem?_eq_none (by rw [List.length_range]; omega), List.getElem?_eq_none (by omega)]
    rfl
theorem ok_look_layer (T : Tx K mg) : DefOk P w K mg base 1 (He.ga K "look_layer") ["layer"] (spLook K) := by
  refine def_ok (N := n_look_layer) (fn_look_layer T) sc_look_layer (fun _ _ _ _ _ _ us hl => match us, hl with | [_], _ => rfl) (fun vs H Q E h => ?_) (fun cdv A outer s H vs Q E hr h => ?_)
  · obtain ⟨t, k, xs, rfl, _⟩ := h
    rfl
  · obtain ⟨t, k, xs, rfl, ht, hfew, qg, qb⟩ := h
    have fin : ∀ (b : Bool) (H' : Hp), Ext H H' → goodRaw k xs = b → (if (!b) = true then E (.ref (He.ga K "BadLayer")) none H' else Q .non H') := fun b H' e hb => by
      cases b with
      | true => exact iteF (qg hb _ e)
      | false => exact iteT (qb hb _ e)
    refine ⟨_, [_, _, _, _], (pss_cons (ps_set (i := 1) sc_look_layer.nd rfl (Or.inl rfl) (pe_ix ix_tup (pv 0) pe_int (fun _ _ => rfl)))
      (pss_cons (ps_if (pt_cmpR op_in_seq (pv 1) (pe_tup (pa_cons pe_str (pa_cons pe_str (pa_cons pe_str pa_nil)))) (by rfl)) (pss_one (ps_set (i := 2) sc_look_layer.nd rfl (Or.inl rfl) (pe_cmpR op_eq (pe_callB call_lenS rfl (f_len T) (by decide +kernel) (pa_cons (pv 0) pa_nil)) pe_int (nomark _)))) (pss_one (ps_if (pt_cmpR op_eq (pv 1) pe_str (nomark _)) (pss_one (ps_set (i := 2) sc_look_layer.nd rfl (Or.inl rfl) (pe_and (pe_chain op_le op_le pe_int (pe_op op_sub (pe_callB call_lenS rfl (f_len T) (by decide +kernel) (pa_cons (pv 0) pa_nil)) pe_int) pe_int) (pe_one (pe_callB (cr_all rfl) rfl (f_all T) (by decide +kernel) (pa_cons (pe_lc (own := [("byte", 3)]) (g := gName 3) (tt := tYes) rfl sc_look_layer.nd (pi_tup (pe_slice sl_tup (pv 0) (po_some pe_int) po_none)) (blkOk_by (own := [("byte", 3)]) (N := n_look_layer) (sc := defScope s_look_layer) (by decide +kernel)) (fun _ _ _ _ _ => pg_name (i := 3) sc_look_layer.nd rfl (Or.inl rfl)) (fun _ _ _ _ _ => pts_nil) (fun _ _ _ _ _ => (pe_chain op_le op_le pe_int (pv 3) pe_int))) pa_nil)))))) (pss_one (ps_if (pt_cmpR op_in_seq (pv 1) (pe_tup (pa_cons pe_str (pa_cons pe_str pa_nil))) (by rfl)) (pss_one (ps_set (i := 2) sc_look_layer.nd rfl (Or.inl rfl) (pe_and (pe_cmpR op_eq (pe_callB call_lenS rfl (f_len T) (by decide +kernel) (pa_cons (pv 0) pa_nil)) pe_int (nomark _)) (pe_one (pe_chain op_le op_le pe_int (pe_ix ix_tup (pv 0) pe_int (fun _ _ => rfl)) pe_int))))) (pss_one (ps_set (i := 2) sc_look_layer.nd rfl (Or.inl rfl) (pe_and (pe_cmpR op_eq (pv 1) pe_str (nomark _)) (pe_and (pe_cmpR op_eq (pe_callB call_lenS rfl (f_len T) (by decide +kernel) (pa_cons (pv 0) pa_nil)) pe_int (nomark _)) (pe_one (pe_chain op_le op_le pe_int (pe_ix ix_tup (pv 0) pe_int (fun _ _ => rfl)) pe_int)))))))))))
      (pss_one (ps_if (pt_not (pt_val (pv 2))) (pss_one (ps_raise rfl (takes_of rfl rfl rfl rfl) (pmk_own PySem.F.excBase_ValueError (xc_BadLayer T).1 (g_BadLayer T) (xc_BadLayer T).2.1 (raises_own (xc_BadLayer T).2.2.1 (xc_BadLayer T).2.2.2) rfl))) pss_nil)))), rfl, ?_⟩
    try dsimp only [cxOf]
    wtm_at "x"
    refine x_ixT ht (ix_kind k xs) ?_
    wtm_at "x"
    intro p1 hp1
    refine x_inS (["runs", "front", "signs"] : List Str) (Or.inr (SqT.of upd_same)) ?_
    wtm_at "x"
    have e1 : Ext H (upd H p1 (.tup [V.str "runs", V.str "front", V.str "signs"])) := Only'.put0 Only'.refl hp1
    have ht1 := SqT.ext e1 ht
    refine ite_d (fun hc => ?_) fun hc => ?_
    · wtm_at "x"
      rw [rawV_len]
      refine fin _ _ e1 ?_
      unfold goodRaw
      rw [if_pos hc]
      rfl
    · wtm_at "x"
      refine ite_d (fun hk => ?_) fun hk => ?_
      · wtm_at "x"
        rw [rawV_len]
        have hg : goodRaw k xs = ((decide ((1 : Int) ≤ ((xs.length + 1 : Nat) : Int) - 1) && decide (((xs.length + 1 : Nat) : Int) - 1 ≤ 8)) && xs.all fun b => decide (0 ≤ b) && decide (b ≤ 255)) := by
          unfold goodRaw
          rw [if_neg hc, if_pos hk]
          rfl
        refine ite_d (fun h1 => ?_) fun h1 => ?_
        · wtm_at "x"
          refine ite_d (fun h2 => ?_) fun h2 => ?_
          · wtm_at "x"
            refine x_slT ht1 (by rw [rawV_len]; intro z; have := z.1; unfold HT.sIx at this; simp at this) fun t2 ht2 => ?_
            obtain ⟨_, ht20⟩ := upd_none ht2
            rw [show cutV (rawV k xs) (some 1) none = iV xs from cut_from (k := 1) rfl]
            have e2 : Ext H (upd (upd H p1 (.tup [V.str "runs", V.str "front", V.str "signs"])) t2 (.tup (iV xs))) := e1.put0 ht20
            refine x_rLcT (fun (i : Nat) => V.bl ((fun b => decide (0 ≤ b) && decide (b ≤ 255)) (gI xs (i : Int)))) (SqT.of upd_same) (by rw [iV_length, sizeLine_eq]; omega) (fun _ => rfl) (fun i x H1 hi e3 Q' kq => ?_) fun l H1 hl e3 hl1 => ?_
            · obtain ⟨z, hz, rfl⟩ := iV_get hi
              rw [gI_nat hz] at kq
              wtm_at "x"
              refine ite_d (fun hz1 => ?_) fun hz1 => ?_
              · wtm_at "x"
                have := kq H1 Only'.refl
                dsimp only at this
                rw [decide_eq_true hz1, Bool.true_and] at this
                exact this
              · have := kq H1 Only'.refl
                dsimp only at this
                rw [decide_eq_false hz1, Bool.false_and] at this
                exact this
            · rw [iV_length, all_map xs fun b => decide (0 ≤ b) && decide (b ≤ 255)] at hl1
              wtm_at "x"
              refine x_all _ (SqL.of hl1) ?_
              wtm_at "x"
              refine fin _ _ (e2.trans e3) ?_
              rw [hg, decide_eq_true h1, decide_eq_true h2, List.all_map]
              rfl
          · wtm_at "x"
            exact fin false _ e1 (by rw [hg, decide_eq_false h2, Bool.and_false, Bool.false_and])
        · wtm_at "x"
          exact fin false _ e1 (by rw [hg, decide_eq_false h1, Bool.false_and, Bool.false_and])
      · wtm_at "x"
        intro p2 hp2
        obtain ⟨_, hp20⟩ := upd_none hp2
        refine x_inS (["chunks", "checks"] : List Str) (Or.inr (SqT.of upd_same)) ?_
        wtm_at "x"
        have e2 : Ext H (upd (upd H p1 (.tup [V.str "runs", V.str "front", V.str "signs"])) p2 (.tup [V.str "chunks", V.str "checks"])) := e1.put0 hp20
        have ht2 := SqT.ext e2 ht
        refine ite_d (fun hk2 => ?_) fun hk2 => ?_
        · wtm_at "x"
          rw [rawV_len]
          have hg : goodRaw k xs = (decide ((((xs.length + 1 : Nat)) : Int) = 2) && (decide (1 ≤ gI xs 0) && decide (gI xs 0 ≤ 255))) := by
            unfold goodRaw
            rw [if_neg hc, if_neg hk, if_pos hk2]
            rfl
          refine ite_d (fun h1 => ?_) fun h1 => ?_
          · wtm_at "x"
            refine x_ixT ht2 (ix_arg h1) ?_
            wtm_at "x"
            refine ite_d (fun h2 => ?_) fun h2 => ?_
            · wtm_at "x"
              exact fin _ _ e2 (by rw [hg, decide_eq_true h1, decide_eq_true h2, Bool.true_and, Bool.true_and])
            · wtm_at "x"
              exact fin false _ e2 (by rw [hg, decide_eq_false h2, Bool.false_and, Bool.and_false])
          · wtm_at "x"
            exact fin false _ e2 (by rw [hg, decide_eq_false h1, Bool.false_and])
        · wtm_at "x"
          have hg : goodRaw k xs = (decide (k = "escape") && (decide ((((xs.length + 1 : Nat)) : Int) = 2) && (decide (0 ≤ gI xs 0) && decide (gI xs 0 ≤ 255)))) := by
            unfold goodRaw
            rw [if_neg hc, if_neg hk, if_neg hk2]
            rfl
          refine ite_d (fun h0 => ?_) fun h0 => ?_
          · wtm_at "x"
            rw [rawV_len]
            refine ite_d (fun h1 => ?_) fun h1 => ?_
            · wtm_at "x"
              refine x_ixT ht2 (ix_arg h1) ?_
              wtm_at "x"
              refine ite_d (fun h2 => ?_) fun h2 => ?_
              · wtm_at "x"
                exact fin _ _ e2 (by rw [hg, decide_eq_true h0, decide_eq_true h1, decide_eq_true h2, Bool.true_and, Bool.true_and, Bool.true_and])
              · wtm_at "x"
                exact fin false _ e2 (by rw [hg, decide_eq_false h2, Bool.false_and, Bool.and_false, Bool.and_false])
            · wtm_at "x"
              exact fin false _ e2 (by rw [hg, decide_eq_false h1, Bool.false_and, Bool.and_false])
          · wtm_at "x"
            exact fin false _ e2 (by rw [hg, decide_eq_false h0, Bool.false_and])
theorem ok_look_layers (T : Tx K mg) : DefOk P w K mg base 2 (He.ga K "look_layers") ["layers"] (spLooks K) := by
  have D_look_layer := ok_look_layer (P := P) (w := w) (base := base) T
  refine def_ok (N := n_look_layers) (fn_look_layers T) sc_look_layers (fun _ _ _ _ _ _ us hl => match us, hl with | [_], _ => rfl) (fun vs H Q E h => ?_) (fun cdv A outer s H vs Q E hr h => ?_)
  · obtain ⟨a, ts, ls, rfl, _⟩ := h
    rfl
  · obtain ⟨a, ts, ls, rfl, ha, hra, qg, qb⟩ := h
    refine ⟨_, [_, _], (pss_cons (ps_if (pt_cmpR op_gt (pe_callB call_lenS rfl (f_len T) (by decide +kernel) (pa_cons (pv 0) pa_nil)) (pe_ci (c_MOST T)) (nomark _)) (pss_one (ps_raise rfl (takes_of rfl rfl rfl rfl) (pmk_own PySem.F.excBase_ValueError (xc_BadLayer T).1 (g_BadLayer T) (xc_BadLayer T).2.1 (raises_own (xc_BadLayer T).2.2.1 (xc_BadLayer T).2.2.2) rfl))) pss_nil)
      (pss_one (ps_for (passes_of rfl) rfl (pi_list (pv 0)) (pg_name (i := 1) sc_look_layers.nd rfl (Or.inl rfl)) (pss_one (ps_expr (pe_fn D_look_layer (g_look_layer T) (hr.mono (by first | decide | omega)) (fun σ => passAt (takes_of rfl rfl rfl rfl) σ) (pa_cons (pv 1) pa_nil))))))), rfl, ?_⟩
    try dsimp only [cxOf]
    wtm_at "x"
    rw [List.length_map, hra.len]
    refine ite_d (fun hc => ?_) fun hc => ?_
    · refine qb ?_ _ Only'.refl
      unfold goodAll
      rw [decide_eq_false (by omega), Bool.false_and]
    · wtm_at "x"
      refine x_rForL ha (fun i σ H' => (∃ v, σ = [some (.ref a), v]) ∧ Ext H H' ∧ ∀ (j : Nat) (k : Str) (xs : Row), j < i → ls[j]? = some (k, xs) → goodRaw k xs = true) ⟨⟨_, rfl⟩, Only'.refl, fun j k xs hj => absurd hj (by omega)⟩
        (fun i σ H' _ p => SqL.ext p.2.1 ha) ?_ ?_
      · rintro i x σ H' hi ⟨⟨v, rfl⟩, e, hgood⟩
        obtain ⟨t, ht, rfl⟩ : ∃ t, ts[i]? = some t ∧ x = V.ref t := by
          rw [List.getElem?_map] at hi
          cases z : ts[i]? with
          | none => rw [z] at hi; cases hi
          | some t => rw [z] at hi; exact ⟨t, rfl, (Option.some.inj hi).symm⟩
        have hlt : i < ls.length := by rw [← hra.len]; exact (List.getElem?_eq_some_iff.mp ht).1
        have hl := List.getElem?_eq_getElem hlt
        wtm_at "x"
        refine ⟨t, (ls[i]).1, (ls[i]).2, rfl, SqT.ext e (hra.at_ i t _ _ ht hl), hra.few i _ _ hl, fun hg H2 e2 => ?_, fun hg H2 e2 => ?_⟩
        · refine ⟨⟨_, rfl⟩, e.trans e2, fun j k xs hj hjl => ?_⟩
          by_cases hji : j = i
          · subst hji
            rw [hl] at hjl
            have ej : ls[j] = (k, xs) := Option.some.inj hjl
            rw [ej] at hg
            exact hg
          · exact hgood j k xs (by omega) hjl
        · refine qb ?_ _ (e.trans e2)
          unfold goodAll
          have : (ls.all fun q => goodRaw q.1 q.2) = false := by
            rw [List.all_eq_false]
            exact ⟨ls[i], List.getElem_mem hlt, by rw [hg]; decide⟩
          rw [this, Bool.and_false]
      · rintro σ H' ⟨⟨v, rfl⟩, e, hgood⟩
        refine qg ?_ _ e
        unfold goodAll
        rw [List.length_map, hra.len] at hgood
        rw [decide_eq_true (by omega), Bool.true_and, List.all_eq_true]
        intro q hq
        obtain ⟨j, hj, ej⟩ := List.mem_iff_getElem.mp hq
        exact hgood j q.1 q.2 hj (by rw [List.getElem?_eq_getElem hj, ej])
end
end Flow

namespace Flow
open PySem PySem.Spec PyProof.Rows L2
theorem WAt_parts (K : PySem.W.Frag) : PartsP (WAt K) := by
  constructor
  · intro H H' p l s h hp hl
    cases s <;> simp only [WAt] at h ⊢
    · obtain ⟨dx, h1, h2⟩ := h
      exact ⟨dx, hp _ h1, hl _ h2⟩
    · obtain ⟨dx, h1, h2⟩ := h
      exact ⟨dx, hp _ h1, hl _ h2⟩
    · obtain ⟨dx, h1, h2⟩ := h
      exact ⟨dx, hp _ h1, hl _ h2⟩
    · exact ⟨hp _ h.1, hl _ h.2⟩
    · obtain ⟨dx, h1, h2⟩ := h
      exact ⟨dx, hp _ h1, hl _ h2⟩
    · exact ⟨hp _ h.1, hl _ h.2⟩
    · exact ⟨hp _ h.1, hl _ h.2⟩
  · intro H p l s h
    cases s <;> simp only [WAt] at h
    · obtain ⟨dx, h1, h2⟩ := h
      exact ⟨⟨_, h1⟩, ⟨_, h2⟩⟩
    · obtain ⟨dx, h1, h2⟩ := h
      exact ⟨⟨_, h1⟩, ⟨_, h2⟩⟩
    · obtain ⟨dx, h1, h2⟩ := h
      exact ⟨⟨_, h1⟩, ⟨_, h2⟩⟩
    · exact ⟨⟨_, h.1⟩, ⟨_, h.2⟩⟩
    · obtain ⟨dx, h1, h2⟩ := h
      exact ⟨⟨_, h1⟩, ⟨_, h2⟩⟩
    · exact ⟨⟨_, h.1⟩, ⟨_, h.2⟩⟩
    · exact ⟨⟨_, h.1⟩, ⟨_, h.2⟩⟩
theorem WAt_ins {K : PySem.W.Frag} {H : Hp} {p l : Addr} {s : WSt} (h : WAt K H p l s) : ∃ dx fs, H p = some (.ins (He.ga K (WName s)) dx fs) ∧ fs.lookup ("take" : Str) = none ∧ fs.lookup ("end" : Str) = none := by
  cases s <;> simp only [WAt] at h
  · obtain ⟨dx, h1, h2⟩ := h
    exact ⟨_, _, h1, by kernel_rfl, by kernel_rfl⟩
  · obtain ⟨dx, h1, h2⟩ := h
    exact ⟨_, _, h1, by kernel_rfl, by kernel_rfl⟩
  · obtain ⟨dx, h1, h2⟩ := h
    exact ⟨_, _, h1, by kernel_rfl, by kernel_rfl⟩
  · exact ⟨_, _, h.1, by kernel_rfl, by kernel_rfl⟩
  · obtain ⟨dx, h1, h2⟩ := h
    exact ⟨_, _, h1, by kernel_rfl, by kernel_rfl⟩
  · exact ⟨_, _, h.1, by kernel_rfl, by kernel_rfl⟩
  · exact ⟨_, _, h.1, by kernel_rfl, by kernel_rfl⟩
def isLike : WSt → WSt → Prop
  | .add _ _ => isAdd
  | .front _ => isFront
  | .esc _ => isEsc
  | .runs _ _ => isRuns
  | .chunks _ _ => isChunks
  | .checks _ _ _ => isChecks
  | .signs _ _ => isSigns
theorem isLike_self (s : WSt) : isLike s s := by cases s <;> trivial
section
variable {P : Program} {w : World} {K : PySem.W.Frag} {mg : Str → Option Value} {base : Heap}
theorem endC_to (vs : List V) (H : Hp) (Q : VK) (E : XK) (h : spWEnd K isChunks vs H Q E) : spWEndC K vs H Q E := by
  obtain ⟨p, l, st, e, hs, hw, hk, q⟩ := h
  cases st <;> simp only [isChunks] at hs
  obtain ⟨k1, k2, k3, k4⟩ := hk
  exact ⟨p, l, _, _, e, hw, by omega, q⟩
theorem wtake_meth (T : Tx K mg) (s : WSt) : MethOk P w K mg base 5 (He.ga K (WName s)) "take" ["self", "byte"] (spWTake K (isLike s)) := by
  cases s
  · exact ⟨cl_AddWriter T, _, me_AddWriter_take T, (ok_AddWriter_take T).mono (by decide)⟩
  · exact ⟨cl_FrontWriter T, _, me_FrontWriter_take T, (ok_FrontWriter_take T).mono (by decide)⟩
  · exact ⟨cl_EscapeWriter T, _, me_EscapeWriter_take T, (ok_EscapeWriter_take T).mono (by decide)⟩
  · exact ⟨cl_RunsWriter T, _, me_RunsWriter_take T, (ok_RunsWriter_take T).mono (by decide)⟩
  · exact ⟨cl_ChunksWriter T, _, me_ChunksWriter_take T, (ok_ChunksWriter_take T).mono (by decide)⟩
  · exact ⟨cl_ChecksWriter T, _, me_ChecksWriter_take T, (ok_ChecksWriter_take T).mono (by decide)⟩
  · exact ⟨cl_SignsWriter T, _, me_SignsWriter_take T, (ok_SignsWriter_take T).mono (by decide)⟩
theorem wend_meth (T : Tx K mg) (s : WSt) : MethOk P w K mg base 5 (He.ga K (WName s)) "end" ["self"] (spWEnd K (isLike s)) := by
  cases s
  · exact ⟨cl_AddWriter T, _, me_AddWriter_end T, (ok_AddWriter_end T).mono (by decide)⟩
  · exact ⟨cl_FrontWriter T, _, me_FrontWriter_end T, (ok_FrontWriter_end T).mono (by decide)⟩
  · exact ⟨cl_EscapeWriter T, _, me_EscapeWriter_end T, (ok_EscapeWriter_end T).mono (by decide)⟩
  · exact ⟨cl_RunsWriter T, _, me_RunsWriter_end T, ((ok_RunsWriter_end T).mono (by decide)).imp spWEndG.to⟩
  · exact ⟨cl_ChunksWriter T, _, me_ChunksWriter_end T, ((ok_ChunksWriter_end T).mono (by decide)).imp endC_to⟩
  · exact ⟨cl_ChecksWriter T, _, me_ChecksWriter_end T, ((ok_ChecksWriter_end T).mono (by decide)).imp spWEndG.to⟩
  · exact ⟨cl_SignsWriter T, _, me_SignsWriter_end T, (ok_SignsWriter_end T).mono (by decide)⟩
theorem x_wtake (T : Tx K mg) {H : Hp} {p l : Addr} {s : WSt} {b : Int} {E : XK} {ta : TE} {σ : L2.St} {Q : VK} (hw : WAt K H p l s) (hk : WOk s) (hb : By b) (ha : ∀ R : VK, R (.int b) H → ta σ H R)
    (q : ∀ (H' : Hp) (l' r : Addr), WAt K H' p l' (wtake s b).2 → (l' = l ∨ H l' = none) → H r = none → H' r = some (.lst (iV (wtake s b).1)) → Only' [p, l] H H' → Q (.ref r) H') :
    rMu P w K mg base 5 "take" ["self", "byte"] E (tCons ta tNil) σ (.ref p) H Q := by
  obtain ⟨dx, fs, hp, h1, h2⟩ := WAt_ins hw
  refine x_rMu hp (wtake_meth T s) h1 ?_
  refine ha _ ?_
  exact ⟨p, l, s, b, rfl, isLike_self s, hw, hk, hb, q⟩
theorem x_wend (T : Tx K mg) {H : Hp} {p l : Addr} {s : WSt} {E : XK} {σ : L2.St} {Q : VK} (hw : WAt K H p l s) (hk : WOk s)
    (q : ∀ (H' : Hp) (l' r : Addr), WAt K H' p l' (wended s) → (l' = l ∨ H l' = none) → H r = none → H' r = some (.lst (iV (wend s))) → Only' [p, l] H H' → Q (.ref r) H') :
    rMu P w K mg base 5 "end" ["self"] E tNil σ (.ref p) H Q := by
  obtain ⟨dx, fs, hp, h1, h2⟩ := WAt_ins hw
  refine x_rMu hp (wend_meth T s) h2 ?_
  exact ⟨p, l, s, rfl, isLike_self s, hw, hk, q⟩
def spWriterOf (K : PySem.W.Frag) : Sp := fun vs H Q _ => ∃ (t : Addr) (ly : Lay), vs = [.ref t] ∧ SqT K H t (layV ly) ∧ ly.Ok ∧
  ∀ (H' : Hp) (p l : Addr), WAt K H' p l (newW ly) → H p = none → H l = none → p ≠ l → Ext H H' → Q (.ref p) H'
/-- what a made writer leaves -/
theorem made_w {H H' : Hp} {x dx l C : Addr} {s : WSt} (nx : H x = none) (ndx : H dx = none) (ne : dx ≠ x) (hw : WAt K H' x l s) (hl : l = dx ∨ (upd (upd H dx (.own x)) x (.ins C dx [])) l = none) (o : Only' [x] (upd (upd H dx (.own x)) x (.ins C dx [])) H') :
    H l = none ∧ x ≠ l ∧ Ext H H' := by
  have e0 : Ext H (upd (upd H dx (.own x)) x (.ins C dx [])) := (Only'.put0 Only'.refl ndx).put0 nx
  refine ⟨?_, ?_, ?_⟩
  · rcases hl with h | h
    · rw [h]; exact ndx
    · exact (upd_none (upd_none h).2).2
  · rcases hl with h | h
    · rw [h]; exact ne.symm
    · exact (upd_none h).1.symm
  · refine ⟨fun b u hb _ => ?_, fun b u hb => ?_⟩
    · exact o b u (e0 b u hb (by simp)) (by simp; exact ne_of_none hb nx)
    · obtain ⟨u1, h1⟩ := e0.more b u hb
      exact o.more b u1 h1
theorem ok_writer_of (T : Tx K mg) : DefOk P w K mg base 3 (He.ga K "writer_of") ["layer"] (spWriterOf K) := by
  have D_AddWriter : MakeOk P w K mg base 1 (He.ga K "AddWriter") _ _ := ⟨_, mk_AddWriter T, ok_AddWriter_init T⟩
  have D_FrontWriter : MakeOk P w K mg base 1 (He.ga K "FrontWriter") _ _ := ⟨_, mk_FrontWriter T, ok_FrontWriter_init T⟩
  have D_EscapeWriter : MakeOk P w K mg base 1 (He.ga K "EscapeWriter") _ _ := ⟨_, mk_EscapeWriter T, ok_EscapeWriter_init T⟩
  have D_RunsWriter : MakeOk P w K mg base 1 (He.ga K "RunsWriter") _ _ := ⟨_, mk_RunsWriter T, ok_RunsWriter_init T⟩
  have D_ChunksWriter : MakeOk P w K mg base 1 (He.ga K "ChunksWriter") _ _ := ⟨_, mk_ChunksWriter T, ok_ChunksWriter_init T⟩
  have D_ChecksWriter : MakeOk P w K mg base 1 (He.ga K "ChecksWriter") _ _ := ⟨_, mk_ChecksWriter T, ok_ChecksWriter_init T⟩
  have D_SignsWriter : MakeOk P w K mg base 1 (He.ga K "SignsWriter") _ _ := ⟨_, mk_SignsWriter T, ok_SignsWriter_init T⟩
  refine def_ok (N := n_writer_of) (fn_writer_of T) sc_writer_of (fun _ _ _ _ _ _ us hl => match us, hl with | [_], _ => rfl) (fun vs H Q E h => ?_) (fun cdv A outer s H vs Q E hr h => ?_)
  · obtain ⟨t, ly, rfl, _⟩ := h
    rfl
  · obtain ⟨t, ly, rfl, ht, hok, q⟩ := h
    have hk : atI (layV ly) 0 = some (.str (lkind ly)) := ix_kind _ _
    refine ⟨_, [_], (pss_cons (ps_if (pt_cmpR op_eq (pe_ix ix_tup (pv 0) pe_int (fun _ _ => rfl)) pe_str (nomark _)) (pss_one (ps_ret (pe_mk D_AddWriter (g_AddWriter T) (hr.mono (by first | decide | omega)) (fun _ => passE) (pa_cons (pe_slice sl_tup (pv 0) (po_some pe_int) po_none) pa_nil)))) pss_nil)
      (pss_cons (ps_if (pt_cmpR op_eq (pe_ix ix_tup (pv 0) pe_int (fun _ _ => rfl)) pe_str (nomark _)) (pss_one (ps_ret (pe_mk0 D_FrontWriter (g_FrontWriter T) (hr.mono (by first | decide | omega)) (fun _ => passE)))) pss_nil)
      (pss_cons (ps_if (pt_cmpR op_eq (pe_ix ix_tup (pv 0) pe_int (fun _ _ => rfl)) pe_str (nomark _)) (pss_one (ps_ret (pe_mk D_EscapeWriter (g_EscapeWriter T) (hr.mono (by first | decide | omega)) (fun _ => passE) (pa_cons (pe_ix ix_tup (pv 0) pe_int (fun _ _ => rfl)) pa_nil)))) pss_nil)
      (pss_cons (ps_if (pt_cmpR op_eq (pe_ix ix_tup (pv 0) pe_int (fun _ _ => rfl)) pe_str (nomark _)) (pss_one (ps_ret (pe_mk0 D_RunsWriter (g_RunsWriter T) (hr.mono (by first | decide | omega)) (fun _ => passE)))) pss_nil)
      (pss_cons (ps_if (pt_cmpR op_eq (pe_ix ix_tup (pv 0) pe_int (fun _ _ => rfl)) pe_str (nomark _)) (pss_one (ps_ret (pe_mk D_ChunksWriter (g_ChunksWriter T) (hr.mono (by first | decide | omega)) (fun _ => passE) (pa_cons (pe_ix ix_tup (pv 0) pe_int (fun _ _ => rfl)) pa_nil)))) pss_nil)
      (pss_cons (ps_if (pt_cmpR op_eq (pe_ix ix_tup (pv 0) pe_int (fun _ _ => rfl)) pe_str (nomark _)) (pss_one (ps_ret (pe_mk D_ChecksWriter (g_ChecksWriter T) (hr.mono (by first | decide | omega)) (fun _ => passE) (pa_cons (pe_ix ix_tup (pv 0) pe_int (fun _ _ => rfl)) pa_nil)))) pss_nil)
      (pss_one (ps_ret (pe_mk0 D_SignsWriter (g_SignsWriter T) (hr.mono (by first | decide | omega)) (fun _ => passE)))))))))), rfl, ?_⟩
    try dsimp only [cxOf]
    wtm_at "x"
    refine x_ixT ht hk ?_
    wtm_at "x"
    refine ite_d (fun h0 => ?_) fun h0 => ?_
    · cases ly <;> first | exact absurd (show ("add" : Str) = _ from h0) (by decide +kernel) | exact absurd (show ("front" : Str) = _ from h0) (by decide +kernel) | exact absurd (show ("escape" : Str) = _ from h0) (by decide +kernel) | exact absurd (show ("runs" : Str) = _ from h0) (by decide +kernel) | exact absurd (show ("chunks" : Str) = _ from h0) (by decide +kernel) | exact absurd (show ("checks" : Str) = _ from h0) (by decide +kernel) | exact absurd (show ("signs" : Str) = _ from h0) (by decide +kernel) | skip
      rename_i key
      wtm_at "x"
      refine x_slT ht (by unfold layV; rw [rawV_len]; intro z; have := z.1; unfold HT.sIx at this; simp at this) fun t2 ht2 => ?_
      rw [show cutV (layV (Lay.add key)) (some 1) none = iV key from cut_from (k := 1) rfl]
      wtm_at "x"
      intro x dx nx ndx ne
      refine ⟨x, dx, [.ref t2], .add key 0, rfl, upd_same, by rw [upd_ne ne, upd_same], ⟨t2, key, rfl, rfl, ?_⟩, fun H' l hw hl o => ⟨rfl, ?_⟩⟩
      · exact SqT.ext ((Only'.put0 Only'.refl ndx).put0 nx) (SqT.of upd_same)
      · obtain ⟨m1, m2, m3⟩ := made_w nx ndx ne hw hl o
        exact q _ x l hw (upd_none nx).2 (upd_none m1).2 m2 ((Only'.put0 Only'.refl ht2).trans m3)
    · wtm_at "x"
      refine x_ixT ht hk ?_
      wtm_at "x"
      refine ite_d (fun h1 => ?_) fun h1 => ?_
      · cases ly <;> first | exact absurd (show ("add" : Str) = _ from h1) (by decide +kernel) | exact absurd (show ("front" : Str) = _ from h1) (by decide +kernel) | exact absurd (show ("escape" : Str) = _ from h1) (by decide +kernel) | exact absurd (show ("runs" : Str) = _ from h1) (by decide +kernel) | exact absurd (show ("chunks" : Str) = _ from h1) (by decide +kernel) | exact absurd (show ("checks" : Str) = _ from h1) (by decide +kernel) | exact absurd (show ("signs" : Str) = _ from h1) (by decide +kernel) | skip
        wtm_at "x"
        intro x dx nx ndx ne
        refine ⟨x, dx, [], .front range256, rfl, upd_same, by rw [upd_ne ne, upd_same], ⟨rfl, rfl⟩, fun H' l hw hl o => ⟨rfl, ?_⟩⟩
        obtain ⟨m1, m2, m3⟩ := made_w nx ndx ne hw hl o
        exact q _ x l hw nx m1 m2 m3
      · wtm_at "x"
        refine x_ixT ht hk ?_
        wtm_at "x"
        refine ite_d (fun h2 => ?_) fun h2 => ?_
        · cases ly <;> first | exact absurd (show ("add" : Str) = _ from h2) (by decide +kernel) | exact absurd (show ("front" : Str) = _ from h2) (by decide +kernel) | exact absurd (show ("escape" : Str) = _ from h2) (by decide +kernel) | exact absurd (show ("runs" : Str) = _ from h2) (by decide +kernel) | exact absurd (show ("chunks" : Str) = _ from h2) (by decide +kernel) | exact absurd (show ("checks" : Str) = _ from h2) (by decide +kernel) | exact absurd (show ("signs" : Str) = _ from h2) (by decide +kernel) | skip
          rename_i e
          wtm_at "x"
          refine x_ixT ht (ix_arg (k := "escape") (xs := [e]) rfl) ?_
          wtm_at "x"
          intro x dx nx ndx ne
          refine ⟨x, dx, [.int e], .esc e, rfl, upd_same, by rw [upd_ne ne, upd_same], ⟨e, rfl, rfl⟩, fun H' l hw hl o => ⟨rfl, ?_⟩⟩
          obtain ⟨m1, m2, m3⟩ := made_w nx ndx ne hw hl o
          exact q _ x l hw nx m1 m2 m3
        · wtm_at "x"
          refine x_ixT ht hk ?_
          wtm_at "x"
          refine ite_d (fun h3 => ?_) fun h3 => ?_
          · cases ly <;> first | exact absurd (show ("add" : Str) = _ from h3) (by decide +kernel) | exact absurd (show ("front" : Str) = _ from h3) (by decide +kernel) | exact absurd (show ("escape" : Str) = _ from h3) (by decide +kernel) | exact absurd (show ("runs" : Str) = _ from h3) (by decide +kernel) | exact absurd (show ("chunks" : Str) = _ from h3) (by decide +kernel) | exact absurd (show ("checks" : Str) = _ from h3) (by decide +kernel) | exact absurd (show ("signs" : Str) = _ from h3) (by decide +kernel) | skip
            wtm_at "x"
            intro x dx nx ndx ne
            refine ⟨x, dx, [], .runs 0 0, rfl, upd_same, by rw [upd_ne ne, upd_same], ⟨rfl, rfl⟩, fun H' l hw hl o => ⟨rfl, ?_⟩⟩
            obtain ⟨m1, m2, m3⟩ := made_w nx ndx ne hw hl o
            exact q _ x l hw nx m1 m2 m3
          · wtm_at "x"
            refine x_ixT ht hk ?_
            wtm_at "x"
            refine ite_d (fun h4 => ?_) fun h4 => ?_
            · cases ly <;> first | exact absurd (show ("add" : Str) = _ from h4) (by decide +kernel) | exact absurd (show ("front" : Str) = _ from h4) (by decide +kernel) | exact absurd (show ("escape" : Str) = _ from h4) (by decide +kernel) | exact absurd (show ("runs" : Str) = _ from h4) (by decide +kernel) | exact absurd (show ("chunks" : Str) = _ from h4) (by decide +kernel) | exact absurd (show ("checks" : Str) = _ from h4) (by decide +kernel) | exact absurd (show ("signs" : Str) = _ from h4) (by decide +kernel) | skip
              rename_i n
              wtm_at "x"
              refine x_ixT ht (ix_arg (k := "chunks") (xs := [n]) rfl) ?_
              wtm_at "x"
              intro x dx nx ndx ne
              refine ⟨x, dx, [.int n], .chunks n [], rfl, upd_same, by rw [upd_ne ne, upd_same], ⟨n, rfl, rfl⟩, fun H' l hw hl o => ⟨rfl, ?_⟩⟩
              obtain ⟨m1, m2, m3⟩ := made_w nx ndx ne hw hl o
              exact q _ x l hw nx m1 m2 m3
            · wtm_at "x"
              refine x_ixT ht hk ?_
              wtm_at "x"
              refine ite_d (fun h5 => ?_) fun h5 => ?_
              · cases ly <;> first | exact absurd (show ("add" : Str) = _ from h5) (by decide +kernel) | exact absurd (show ("front" : Str) = _ from h5) (by decide +kernel) | exact absurd (show ("escape" : Str) = _ from h5) (by decide +kernel) | exact absurd (show ("runs" : Str) = _ from h5) (by decide +kernel) | exact absurd (show ("chunks" : Str) = _ from h5) (by decide +kernel) | exact absurd (show ("checks" : Str) = _ from h5) (by decide +kernel) | exact absurd (show ("signs" : Str) = _ from h5) (by decide +kernel) | skip
                rename_i n
                wtm_at "x"
                refine x_ixT ht (ix_arg (k := "checks") (xs := [n]) rfl) ?_
                wtm_at "x"
                intro x dx nx ndx ne
                refine ⟨x, dx, [.int n], .checks n 0 0, rfl, upd_same, by rw [upd_ne ne, upd_same], ⟨n, rfl, rfl⟩, fun H' l hw hl o => ⟨rfl, ?_⟩⟩
                obtain ⟨m1, m2, m3⟩ := made_w nx ndx ne hw hl o
                exact q _ x l hw nx m1 m2 m3
              · cases ly <;> first | exact absurd rfl h0 | exact absurd rfl h1 | exact absurd rfl h2 | exact absurd rfl h3 | exact absurd rfl h4 | exact absurd rfl h5 | skip
                wtm_at "x"
                intro x dx nx ndx ne
                refine ⟨x, dx, [], .signs 0 0, rfl, upd_same, by rw [upd_ne ne, upd_same], ⟨rfl, rfl⟩, fun H' l hw hl o => ⟨rfl, ?_⟩⟩
                obtain ⟨m1, m2, m3⟩ := made_w nx ndx ne hw hl o
                exact q _ x l hw nx m1 m2 m3
end
end Flow

namespace Flow
open PySem PySem.Spec PyProof.Rows L2
theorem WFits.len : ∀ {ss : List WSt} {r : Row}, WFits ss r → r.length ≤ 16777216
  | [], _, h => h
  | _ :: _, _, h => h.1
theorem wfeed_cons (s : WSt) (b : Int) (r : Row) : wfeed s (b :: r) = ((wtake s b).1 ++ (wfeed (wtake s b).2 r).1, (wfeed (wtake s b).2 r).2) := rfl
theorem wthru_cons (s : WSt) (ss : List WSt) (r : Row) : wthru (s :: ss) r = ((wthru ss (wfeed s r).1).1, (wfeed s r).2 :: (wthru ss (wfeed s r).1).2) := rfl
theorem woks_set {ss : List WSt} {n : Nat} {s : WSt} (h : WOks ss) (hs : WOk s) : WOks (ss.set n s) := fun x hx => by
  rcases List.mem_or_eq_of_mem_set hx with h1 | h1
  · exact h x h1
  · rw [h1]; exact hs
def spThrough (K : PySem.W.Frag) : Sp := fun vs H Q _ => ∃ (a rw_ : Addr) (k : Nat) (ps : List (Addr × Addr)) (ss : List WSt) (row : Row), vs = [.ref a, .int (k : Int), .ref rw_] ∧ H a = some (.lst (pV ps)) ∧ Good (WAt K) H ps ss ∧ WOks ss ∧
  H rw_ = some (.lst (iV row)) ∧ rw_ ∉ flat ps ∧ Bys row ∧ WFits (ss.drop k) row ∧ k ≤ ps.length ∧ ps.length ≤ 1000 ∧
  ∀ (H' : Hp) (r : Addr) (ps' : List (Addr × Addr)), Step (WAt K) [] H ps ss H' ps' (ss.take k ++ (wthru (ss.drop k) row).2) → H' r = some (.lst (iV (wthru (ss.drop k) row).1)) → (r = rw_ ∨ H r = none) → r ∉ flat ps' → Q (.ref r) H'
section
variable {P : Program} {w : World} {K : PySem.W.Frag} {mg : Str → Option Value} {base : Heap}
theorem ok_through (T : Tx K mg) : DefOk P w K mg base 6 (He.ga K "through") ["parts", "at", "row"] (spThrough K) := by
  refine def_ok (N := n_through) (fn_through T) sc_through (fun _ _ _ _ _ _ us hl => match us, hl with | [_, _, _], _ => rfl) (fun vs H Q E h => ?_) (fun cdv A outer s H vs Q E hr h => ?_)
  · obtain ⟨a, rw_, k, ps, ss, row, rfl, _⟩ := h
    rfl
  · obtain ⟨a, rw_, k, ps, ss, row, rfl, ha, hg, hok, hrw, nrw, hby, hfit, hk, hfew, q⟩ := h
    have PP := WAt_parts K
    refine ⟨_, [_, _, _, _, _, _], (pss_cons (ps_for (passes_of rfl) rfl (pi_list (pe_slice sl_list (pv 0) (po_some (pv 1)) po_none)) (pg_name (i := 3) sc_through.nd rfl (Or.inl rfl)) (pss_cons (ps_set (i := 4) sc_through.nd rfl (Or.inl rfl) (pe_lst pa_nil))
      (pss_cons (ps_for (passes_of rfl) rfl (pi_list (pv 2)) (pg_name (i := 5) sc_through.nd rfl (Or.inl rfl)) (pss_one (ps_expr (pe_bm PySem.F.plainAttrs_list PySem.F.slot_list_extend PySem.F.type_list_extend mt_extend (pv 4) (pa_cons (pe_mu 5 ["self", "byte"] (hr.mono (by first | decide | omega)) (fun _ => passE) (pv 3) (pa_cons (pv 5) pa_nil)) pa_nil)))))
      (pss_one (ps_set (i := 2) sc_through.nd rfl (Or.inl rfl) (pv 4))))))
      (pss_one (ps_ret (pv 2)))), rfl, ?_⟩
    try dsimp only [cxOf]
    wtm_at "x"
    intro c hc
    rw [cut_from (k := k) rfl]
    have nc : c ∉ flat ps := fun z => by
      obtain ⟨o, e⟩ := hg.trk PP z
      rw [hc] at e
      cases e
    have nca : c ≠ rw_ := (ne_of_none hrw hc).symm
    have e1 : Ext H (upd H c (.lst ((pV ps).drop k))) := Only'.put0 Only'.refl hc
    generalize hH1 : upd H c (.lst ((pV ps).drop k)) = H1 at *
    have hc1 : H1 c = some (.lst ((pV ps).drop k)) := by rw [← hH1]; exact upd_same
    have hg1 : Good (WAt K) H1 ps ss := hg.ext PP e1 fun _ _ z => nomatch z
    have hdl : ((pV ps).drop k).length = ps.length - k := by rw [List.length_drop, pV_len]
    refine x_rForL (SqL.of hc1) (fun i σ H' => ∃ (psi : List (Addr × Addr)) (ssi : List WSt) (rowi : Row) (ri : Addr) (v3 v4 v5 : Option V), σ = [some (.ref a), some (.int (k : Int)), some (.ref ri), v3, v4, v5] ∧
        Step (WAt K) [] H1 ps ss H' psi ssi ∧ H' ri = some (.lst (iV rowi)) ∧ ri ∉ flat psi ∧ (ri = rw_ ∨ H ri = none) ∧ WOks ssi ∧ Bys rowi ∧ WFits (ssi.drop (k + i)) rowi ∧
        (wthru (ssi.drop (k + i)) rowi).1 = (wthru (ss.drop k) row).1 ∧ ssi.take (k + i) ++ (wthru (ssi.drop (k + i)) rowi).2 = ss.take k ++ (wthru (ss.drop k) row).2)
      ⟨ps, ss, row, rw_, none, none, none, rfl, Step.refl hg1, e1 _ _ hrw (by simp), nrw, Or.inl rfl, hok, hby, hfit, rfl, rfl⟩ ?_ ?_ ?_
    · rintro i σ H' _ ⟨psi, ssi, rowi, ri, v3, v4, v5, rfl, st, _⟩
      exact SqL.of (st.only c _ hc1 (by simpa using nc))
    · rintro i x σ H' hi ⟨psi, ssi, rowi, ri, v3, v4, v5, rfl, st, hri, nri, hri0, hoki, hbyi, hfiti, eo, es⟩
      have hilt : i < ps.length - k := by rw [← hdl]; exact (List.getElem?_eq_some_iff.mp hi).1
      have hn : k + i < psi.length := by rw [st.len]; omega
      obtain ⟨⟨p, l0⟩, hpl0⟩ : ∃ y, psi[k + i]? = some y := ⟨_, List.getElem?_eq_getElem hn⟩
      have hx : x = .ref p := by
        rw [List.getElem?_drop, ← pV_fst st.fst, pV_at hpl0] at hi
        exact (Option.some.inj hi).symm
      subst hx
      have hns : k + i < ssi.length := by rw [← st.good.len]; exact hn
      obtain ⟨s0, hs0⟩ : ∃ y, ssi[k + i]? = some y := ⟨_, List.getElem?_eq_getElem hns⟩
      have hd : ssi.drop (k + i) = s0 :: ssi.drop (k + i + 1) := drop_more hs0
      rw [hd] at hfiti eo es
      rw [wthru_cons] at eo es
      obtain ⟨hf0, hf1⟩ := hfiti
      have hlen := WFits.len hf1
      have hok0 : WOk s0 := hoki s0 (List.mem_of_getElem? hs0)
      wtm_at "x"
      intro f hf
      have nfr : f ≠ ri := (ne_of_none hri hf).symm
      have nff : f ∉ flat psi := fun z => by
        obtain ⟨o, e⟩ := st.good.trk PP z
        rw [hf] at e
        cases e
      have e2 : Ext H' (upd H' f (.lst [])) := Only'.put0 Only'.refl hf
      wtm_at "x"
      generalize hH2 : upd H' f (.lst []) = H2 at *
      have hf2 : H2 f = some (.lst []) := by rw [← hH2]; exact upd_same
      have hg2 : Good (WAt K) H2 psi ssi := st.good.ext PP e2 fun _ _ z => nomatch z
      have hr2 : H2 ri = some (.lst (iV rowi)) := e2 _ _ hri (by simp)
      refine x_rForL (SqL.of hr2) (fun j σ Hj => ∃ (psj : List (Addr × Addr)) (sj : WSt) (lj : Addr) (outj : Row) (v5 : Option V), σ = [some (.ref a), some (.int (k : Int)), some (.ref ri), some (.ref p), some (.ref f), v5] ∧
          Step (WAt K) [f] H2 psi ssi Hj psj (ssi.set (k + i) sj) ∧ psj[k + i]? = some (p, lj) ∧ Hj f = some (.lst (iV outj)) ∧ WOk sj ∧
          outj ++ (wfeed sj (rowi.drop j)).1 = (wfeed s0 rowi).1 ∧ (wfeed sj (rowi.drop j)).2 = (wfeed s0 rowi).2)
        ⟨psi, s0, l0, [], v5, rfl, by
          have e : ssi.set (k + i) s0 = ssi := by
            refine List.ext_getElem? fun m => ?_
            by_cases hm : k + i = m
            · subst hm
              rw [List.getElem?_set_self hns, hs0]
            · rw [List.getElem?_set_ne hm]
          rw [e]
          exact Step.refl hg2, hpl0, hf2, hok0, rfl, rfl⟩ ?_ ?_ ?_
      · rintro j σ Hj _ ⟨psj, sj, lj, outj, v5, rfl, stj, _⟩
        exact SqL.of (stj.only ri _ hr2 (by simpa using ⟨nfr.symm, nri⟩))
      · rintro j y σ Hj hj ⟨psj, sj, lj, outj, v5, rfl, stj, hplj, hfj, hokj, eoj, esj⟩
        obtain ⟨b, hb, rfl⟩ := iV_get hj
        have hbb : By b := hbyi b (List.mem_of_getElem? hb)
        rw [drop_more hb, wfeed_cons] at eoj esj
        obtain ⟨ok1, by1⟩ := wtake_ok hokj hbb
        have hw : WAt K Hj p lj sj := stj.good.at_ (k + i) p lj sj hplj (by rw [List.getElem?_set_self hns])
        have nfj : f ∉ flat psj := stj.out hf2 nff
        have nfp : f ≠ p ∧ f ≠ lj := ⟨fun z => nfj (mem_flat.mpr ⟨_, _, _, hplj, Or.inl z⟩), fun z => nfj (mem_flat.mpr ⟨_, _, _, hplj, Or.inr z⟩)⟩
        wtm_at "x"
        refine x_wtake T hw hokj hbb (fun R k => by wtm_at "x"; exact k) fun H3 l' r hw' hl' hr0 hr' ho => ?_
        wtm_at "x"
        have hf3 : H3 f = some (.lst (iV outj)) := ho f _ hfj (by simp [nfp])
        have lenq : outj.length + (wtake sj b).1.length ≤ 16777216 := by
          have := congrArg List.length eoj
          simp only [List.length_append] at this
          omega
        refine x_extend hf3 hr' (by rw [iV_length, iV_length, sizeLine_eq]; exact lenq) ?_
        have one : Step (WAt K) [f] Hj psj (ssi.set (k + i) sj) H3 (psj.set (k + i) (p, l')) ((ssi.set (k + i) sj).set (k + i) (wtake sj b).2) :=
          Step.one PP stj.good hplj (by rw [List.getElem?_set_self hns]) hw' hl' ho
        have st3 := stj.trans one
        rw [List.set_set] at st3
        have nf3 : f ∉ flat (psj.set (k + i) (p, l')) := st3.out hf2 nff
        have hlt : k + i < psj.length := (List.getElem?_eq_some_iff.mp hplj).1
        refine ⟨psj.set (k + i) (p, l'), (wtake sj b).2, l', outj ++ (wtake sj b).1, some (.int b), rfl, st3.put PP (by simp) nf3, List.getElem?_set_self hlt, ?_, ok1, ?_, esj⟩
        · rw [upd_same, iV_append]
        · rw [List.append_assoc]
          exact eoj
      · rintro σ Hj ⟨psj, sj, lj, outj, v5, rfl, stj, hplj, hfj, hokj, eoj, esj⟩
        have hz : rowi.drop (iV rowi).length = [] := by rw [iV_length, List.drop_length]
        rw [hz] at eoj esj
        have eo2 : outj = (wfeed s0 rowi).1 := by
          have : outj ++ ([] : Row) = (wfeed s0 rowi).1 := eoj
          rwa [List.append_nil] at this
        have es2 : sj = (wfeed s0 rowi).2 := esj
        subst es2
        wtm_at "x"
        have st2 : Step (WAt K) [] H' psi ssi Hj psj (ssi.set (k + i) (wfeed s0 rowi).2) := stj.pre e2 fun x hx => Or.inr (by rw [List.mem_singleton.mp hx]; exact hf)
        have stn := st.trans st2
        refine ⟨psj, ssi.set (k + i) (wfeed s0 rowi).2, (wfeed s0 rowi).1, f, _, _, _, rfl, stn, by rw [hfj, eo2], stj.out hf2 nff, Or.inr ?_, woks_set hoki hokj, (wfeed_ok hok0 hbyi).2, ?_, ?_, ?_⟩
        · exact e1.free (st.only.free hf)
        · rw [List.drop_set_of_lt (by omega)]
          exact hf1
        · rw [← Nat.add_assoc, List.drop_set_of_lt (by omega)]
          exact eo
        · rw [← Nat.add_assoc, List.drop_set_of_lt (by omega), ← es]
          have hts : (ssi.set (k + i) (wfeed s0 rowi).2).take (k + i + 1) = ssi.take (k + i) ++ [(wfeed s0 rowi).2] := by
            rw [take_more (List.getElem?_set_self hns), List.take_set_of_le (Nat.le_refl _)]
          rw [hts, List.append_assoc]
          rfl
    · rintro σ H' ⟨psi, ssi, rowi, ri, v3, v4, v5, rfl, st, hri, nri, hri0, hoki, hbyi, hfiti, eo, es⟩
      rw [hdl] at eo es
      have hz : ssi.drop (k + (ps.length - k)) = [] := List.drop_eq_nil_of_le (by rw [← st.good.len, st.len]; omega)
      have ht : ssi.take (k + (ps.length - k)) = ssi := List.take_of_length_le (by rw [← st.good.len, st.len]; omega)
      rw [hz] at eo es
      rw [ht] at es
      have eo2 : rowi = (wthru (ss.drop k) row).1 := eo
      have es2 : ssi = ss.take k ++ (wthru (ss.drop k) row).2 := by
        have : ssi ++ [] = _ := es
        rwa [List.append_nil] at this
      wtm_at "x"
      refine q H' ri psi ?_ (by rw [hri, eo2]) hri0 nri
      rw [← es2]
      exact st.pre e1 fun _ z => nomatch z
end
end Flow

namespace Flow
open PySem PySem.Spec PyProof.Rows L2
theorem good_raw_lay {k : Str} {xs : Row} (h : goodRaw k xs = true) : ∃ ly : Lay, lkind ly = k ∧ largs ly = xs ∧ ly.Ok := by
  unfold goodRaw at h
  split at h
  · rename_i hk
    have hl : xs = [] := by
      have := of_decide_eq_true h
      unfold goodRaw.rawLen at this
      exact List.eq_nil_of_length_eq_zero (by omega)
    subst hl
    simp only [List.mem_cons, List.not_mem_nil, or_false] at hk
    rcases hk with rfl | rfl | rfl
    · exact ⟨.runs, rfl, rfl, trivial⟩
    · exact ⟨.front, rfl, rfl, trivial⟩
    · exact ⟨.signs, rfl, rfl, trivial⟩
  · split at h
    · rename_i hk
      subst hk
      unfold goodRaw.rawLen at h
      simp only [Bool.and_eq_true, decide_eq_true_eq, List.all_eq_true] at h
      obtain ⟨⟨h1, h2⟩, h3⟩ := h
      exact ⟨.add xs, rfl, rfl, by omega, by omega, fun b hb => by have := h3 b hb; unfold By; omega⟩
    · split at h
      · rename_i hk
        unfold goodRaw.rawLen at h
        simp only [Bool.and_eq_true, decide_eq_true_eq] at h
        obtain ⟨h1, h2, h3⟩ := h
        obtain ⟨x, rfl⟩ : ∃ x, xs = [x] := List.length_eq_one_iff.mp (by omega)
        have e : gI [x] 0 = x := rfl
        rw [e] at h2 h3
        simp only [List.mem_cons, List.not_mem_nil, or_false] at hk
        rcases hk with rfl | rfl
        · exact ⟨.chunks x, rfl, rfl, h2, h3⟩
        · exact ⟨.checks x, rfl, rfl, h2, h3⟩
      · unfold goodRaw.rawLen at h
        simp only [Bool.and_eq_true, decide_eq_true_eq] at h
        obtain ⟨hk, h1, h2, h3⟩ := h
        obtain ⟨x, rfl⟩ : ∃ x, xs = [x] := List.length_eq_one_iff.mp (by omega)
        have e : gI [x] 0 = x := rfl
        rw [e] at h2 h3
        subst hk
        exact ⟨.esc x, rfl, rfl, h2, by omega⟩
theorem good_all_lays : ∀ {ls : List (Str × Row)}, (ls.all fun q => goodRaw q.1 q.2) = true → ∃ lays : List Lay, ls = lays.map rawOf ∧ ∀ ly, ly ∈ lays → ly.Ok
  | [], _ => ⟨[], rfl, fun _ h => nomatch h⟩
  | (k, xs) :: r, h => by
    rw [List.all_cons, Bool.and_eq_true] at h
    obtain ⟨ly, e1, e2, ok⟩ := good_raw_lay h.1
    obtain ⟨lays, e, oks⟩ := good_all_lays h.2
    refine ⟨ly :: lays, ?_, fun x hx => ?_⟩
    · rw [e]
      show (k, xs) :: _ = rawOf ly :: _
      unfold rawOf
      rw [e1, e2]
    · rcases List.mem_cons.mp hx with z | z
      · rw [z]; exact ok
      · exact oks x z
theorem good_of_lays {lays : List Lay} (h : ∀ ly, ly ∈ lays → ly.Ok) (h8 : lays.length ≤ 8) : goodAll (lays.map rawOf) = true := by
  unfold goodAll
  rw [List.length_map, decide_eq_true h8, Bool.true_and, List.all_map, List.all_eq_true]
  intro ly hl
  exact good_lay (h ly hl)
theorem Good.snoc {S : Type} {A : Hp → Addr → Addr → S → Prop} {H : Hp} {ps : List (Addr × Addr)} {ss : List S} {p l : Addr} {s : S} (g : Good A H ps ss) (h : A H p l s) (hp : p ∉ flat ps) (hl : l ∉ flat ps) (hn : p ≠ l) : Good A H (ps ++ [(p, l)]) (ss ++ [s]) := by
  refine ⟨by rw [List.length_append, List.length_append, g.len]; rfl, fun i q m t h1 h2 => ?_, ?_⟩
  · by_cases hi : i < ps.length
    · rw [List.getElem?_append_left hi] at h1
      rw [List.getElem?_append_left (by rw [← g.len]; exact hi)] at h2
      exact g.at_ i q m t h1 h2
    · rw [List.getElem?_append_right (by omega)] at h1
      rw [List.getElem?_append_right (by rw [← g.len]; omega), ← g.len] at h2
      cases hd : i - ps.length with
      | zero =>
        rw [hd] at h1 h2
        have e1 := Option.some.inj h1
        have e2 := Option.some.inj h2
        injection e1 with e3 e4
        subst e2 e3 e4
        exact h
      | succ n =>
        rw [hd] at h1
        cases h1
  · rw [flat_app]
    refine List.nodup_append.mpr ⟨g.nd, ?_, ?_⟩
    · show [p, l].Nodup
      simp [hn]
    · intro a ha b hb e
      subst e
      have hb' : a ∈ [p, l] := hb
      rcases List.mem_cons.mp hb' with z | z
      · exact hp (z ▸ ha)
      · exact hl ((List.mem_singleton.mp z) ▸ ha)
/-- a Writer at p, its list of parts at c -/
structure WriterAt (K : PySem.W.Frag) (H : Hp) (p c : Addr) (ps : List (Addr × Addr)) (ss : List WSt) : Prop where
  ob : ∃ dx, H p = some (.ins (He.ga K "Writer") dx [("parts", .ref c)])
  cl : H c = some (.lst (pV ps))
  good : Good (WAt K) H ps ss
  np : p ∉ flat ps
  nc : c ∉ flat ps
  ok : WOks ss
  few : ps.length ≤ 8
theorem WriterAt.step {K : PySem.W.Frag} {H H' : Hp} {p c : Addr} {ps ps' : List (Addr × Addr)} {ss ss' : List WSt} (w : WriterAt K H p c ps ss) (st : Step (WAt K) [] H ps ss H' ps' ss') (ok : WOks ss') : WriterAt K H' p c ps' ss' := by
  obtain ⟨dx, ob⟩ := w.ob
  refine ⟨⟨dx, st.only p _ ob (by simpa using w.np)⟩, ?_, st.good, st.out ob w.np, st.out w.cl w.nc, ok, by rw [st.len]; exact w.few⟩
  rw [pV_fst st.fst]
  exact st.only c _ w.cl (by simpa using w.nc)
theorem WriterAt.ext {K : PySem.W.Frag} {H H' : Hp} {p c : Addr} {ps : List (Addr × Addr)} {ss : List WSt} (w : WriterAt K H p c ps ss) {Z : List Addr} (e : Only' Z H H') (h1 : p ∉ Z) (h2 : c ∉ Z) (h3 : ∀ x, x ∈ flat ps → x ∉ Z) : WriterAt K H' p c ps ss := by
  obtain ⟨dx, ob⟩ := w.ob
  exact ⟨⟨dx, e p _ ob h1⟩, e c _ w.cl h2, w.good.ext (WAt_parts K) e h3, w.np, w.nc, w.ok, w.few⟩
/-- what layers are handed in: raw ones; good: then these -/
def Handed (K : PySem.W.Frag) (H : Hp) (a : Addr) (ls : List (Str × Row)) : Prop := ∃ ts, SqL K H a (ts.map V.ref) ∧ RawAll K H ts ls
theorem Handed.ext {K : PySem.W.Frag} {H H' : Hp} {a : Addr} {ls : List (Str × Row)} (h : Handed K H a ls) (e : Ext H H') : Handed K H' a ls := by
  obtain ⟨ts, h1, h2⟩ := h
  exact ⟨ts, SqL.ext e h1, h2.ext e⟩
def spWriterInit (K : PySem.W.Frag) : Sp := fun vs H Q E => ∃ (p dx a : Addr) (ls : List (Str × Row)), vs = [.ref p, .ref a] ∧ H p = some (.ins (He.ga K "Writer") dx []) ∧ H dx = some (.own p) ∧ Handed K H a ls ∧
  (∀ lays : List Lay, ls = lays.map rawOf → (∀ ly, ly ∈ lays → ly.Ok) → lays.length ≤ 8 → ∀ (H' : Hp) (c : Addr) (ps : List (Addr × Addr)), WriterAt K H' p c ps (lays.map newW) → H c = none → (∀ x, x ∈ flat ps → H x = none) → Only' [p] H H' → Q .non H') ∧
  (goodAll ls = false → ∀ H', Ext H H' → E (.ref (He.ga K "BadLayer")) none H')
def spWriterTake (K : PySem.W.Frag) : Sp := fun vs H Q _ => ∃ (p c rw_ : Addr) (ps : List (Addr × Addr)) (ss : List WSt) (row : Row), vs = [.ref p, .ref rw_] ∧ WriterAt K H p c ps ss ∧ SqL K H rw_ (iV row) ∧ Bys row ∧ WFits ss row ∧
  ∀ (H' : Hp) (r : Addr) (ps' : List (Addr × Addr)), Step (WAt K) [] H ps ss H' ps' (wthru ss row).2 → WriterAt K H' p c ps' (wthru ss row).2 → H' r = some (.lst (iV (wthru ss row).1)) → H r = none → r ∉ flat ps' → Q (.ref r) H'
def spWriterEnd (K : PySem.W.Frag) : Sp := fun vs H Q _ => ∃ (p c : Addr) (ps : List (Addr × Addr)) (ss : List WSt), vs = [.ref p] ∧ WriterAt K H p c ps ss ∧ WEndFits ss.length ss ∧ (wendAll ss.length ss).length ≤ 16777216 ∧
  ∀ (H' : Hp) (r : Addr) (ps' : List (Addr × Addr)) (ss' : List WSt), Step (WAt K) [] H ps ss H' ps' ss' → H' r = some (.lst (iV (wendAll ss.length ss))) → H r = none → r ∉ flat ps' → Q (.ref r) H'
/-- what an end tells is no part's -/
theorem wend_apart {K : PySem.W.Frag} {H : Hp} {p l r : Addr} {s : WSt} (hw : WAt K H p l (wended s)) (hk : WOk s) (hr : H r = some (.lst (iV (wend s)))) : l ≠ r := by
  intro e
  subst e
  cases s <;> simp only [WAt, wended] at hw
  · obtain ⟨dx, _, h⟩ := hw
    rw [hr] at h
    have h1 : iV [] = iV _ := HO.lst.inj (Option.some.inj h)
    have := congrArg List.length h1
    rw [iV_length, iV_length] at this
    have := hk.1
    simp at *
    omega
  · obtain ⟨dx, _, h⟩ := hw
    rw [hr] at h
    have h1 : iV [] = iV _ := HO.lst.inj (Option.some.inj h)
    have := congrArg List.length h1
    rw [iV_length, iV_length] at this
    have := hk.1
    simp at *
    omega
  · obtain ⟨dx, _, h⟩ := hw
    rw [hr] at h
    have h1 : iV [] = iV _ := HO.lst.inj (Option.some.inj h)
    have := congrArg List.length h1
    rw [iV_length, iV_length] at this
    simp [marksOf] at this
  · rw [hr] at hw
    cases hw.2
  · obtain ⟨dx, _, h⟩ := hw
    rw [hr] at h
    have h1 : iV (_ :: _) = iV [] := HO.lst.inj (Option.some.inj h)
    have := congrArg List.length h1
    rw [iV_length, iV_length] at this
    simp at this
  · rw [hr] at hw
    cases hw.2
  · rw [hr] at hw
    cases hw.2
section
variable {P : Program} {w : World} {K : PySem.W.Frag} {mg : Str → Option Value} {base : Heap}
theorem ok_Writer_init (T : Tx K mg) : DefOk P w K mg base 4 (He.ma K (He.ga K "Writer") "__init__") ["self", "layers"] (spWriterInit K) := by
  have D_look_layers := ok_look_layers (P := P) (w := w) (base := base) T
  have D_writer_of := ok_writer_of (P := P) (w := w) (base := base) T
  refine def_ok (N := n_Writer_init) (fn_Writer_init T) sc_Writer_init (fun _ _ _ _ _ _ us hl => match us, hl with | [_, _], _ => rfl) (fun vs H Q E h => ?_) (fun cdv A outer s H vs Q E hr h => ?_)
  · obtain ⟨p, dx, a, ls, rfl, _⟩ := h
    rfl
  · obtain ⟨p, dx, a, ls, rfl, hp, hd, ⟨ts, ha, hra⟩, q, qb⟩ := h
    have PP := WAt_parts K
    refine ⟨_, [_, _, _], (pss_cons (ps_expr (pe_fn D_look_layers (g_look_layers T) (hr.mono (by first | decide | omega)) (fun σ => passAt (takes_of rfl rfl rfl rfl) σ) (pa_cons (pv 1) pa_nil)))
      (pss_one (ps_fld (pv 0) (pe_lc (own := [("layer", 2)]) (g := gName 2) (tt := tYes) rfl sc_Writer_init.nd (pi_list (pv 1)) (blkOk_by (own := [("layer", 2)]) (N := n_Writer_init) (sc := defScope s_Writer_init) (by decide +kernel)) (fun _ _ _ _ _ => pg_name (i := 2) sc_Writer_init.nd rfl (Or.inl rfl)) (fun _ _ _ _ _ => pts_nil) (fun _ _ _ _ _ => (pe_fn D_writer_of (g_writer_of T) (hr.mono (by first | decide | omega)) (fun _ => passE) (pa_cons (pv 2) pa_nil)))) rfl))), rfl, ?_⟩
    try dsimp only [cxOf]
    wtm_at "x"
    refine ⟨a, ts, ls, rfl, ha, hra, fun hg H1 e1 => ?_, qb⟩
    unfold goodAll at hg
    rw [Bool.and_eq_true, decide_eq_true_eq] at hg
    obtain ⟨h8, hall⟩ := hg
    obtain ⟨lays, rfl, oks⟩ := good_all_lays hall
    rw [List.length_map] at h8
    have hra1 := hra.ext e1
    have hlen : ts.length = lays.length := by rw [hra.len, List.length_map]
    wtm_at "x"
    refine ⟨a, rfl, ⟨_, SqL.ext e1 ha⟩, fun D hD => lc_list (K := K) (a := a) (xs := ts.map V.ref) (fun i H' => ∃ ps : List (Addr × Addr), ps.length = i ∧ Good (WAt K) H' ps ((lays.take i).map newW) ∧ (∀ x, x ∈ flat ps → H x = none) ∧ H' D = some (.lst (pV ps)) ∧ D ∉ flat ps ∧ Ext H1 H')
      ⟨[], rfl, ⟨rfl, fun i p l s h => by simp at h, List.nodup_nil⟩, (fun _ h => nomatch h), upd_same, (fun h => nomatch h), Only'.put0 Only'.refl hD⟩ (fun i H' _ ⟨ps, _, _, _, _, _, e⟩ => SqL.ext (e1.trans e) ha) ?_ ?_⟩
    · rintro i x H' hi ⟨ps, hl, hg, hf, hDl, nD, e⟩
      obtain ⟨t, ht, rfl⟩ : ∃ t, ts[i]? = some t ∧ x = V.ref t := by
        rw [List.getElem?_map] at hi
        cases z : ts[i]? with
        | none => rw [z] at hi; cases hi
        | some t => rw [z] at hi; exact ⟨t, rfl, (Option.some.inj hi).symm⟩
      have hilt : i < lays.length := by rw [← hlen]; exact (List.getElem?_eq_some_iff.mp ht).1
      have hly := List.getElem?_eq_getElem hilt
      refine ⟨rfl, ?_⟩
      unfold tYes
      dsimp only
      wtm_at "x"
      refine ⟨t, lays[i], rfl, ?_, oks _ (List.getElem_mem hilt), fun H2 p2 l2 hw n1 n2 ne e2 => ?_⟩
      · exact SqT.ext e (hra1.at_ i t _ _ ht (by rw [List.getElem?_map, hly]; rfl))
      · have hg2 : Good (WAt K) H2 ps ((lays.take i).map newW) := hg.ext PP e2 fun _ _ z => nomatch z
        have np : p2 ∉ flat ps := fun z => by
          obtain ⟨o, eo⟩ := hg.trk PP z
          rw [n1] at eo
          cases eo
        have nl : l2 ∉ flat ps := fun z => by
          obtain ⟨o, eo⟩ := hg.trk PP z
          rw [n2] at eo
          cases eo
        have hD2 := e2 D _ hDl (by simp)
        have nDp : D ≠ p2 := ne_of_none hDl n1
        have nDl : D ≠ l2 := ne_of_none hDl n2
        have hs : (lays.take (i + 1)).map newW = (lays.take i).map newW ++ [newW lays[i]] := by rw [take_more hly, List.map_append]; rfl
        have nD2 : D ∉ flat (ps ++ [(p2, l2)]) := by
          rw [flat_app]
          intro z
          rcases List.mem_append.mp z with z | z
          · exact nD z
          · have z' : D ∈ [p2, l2] := z
            simp [nDp, nDl] at z'
        refine ⟨pV ps, hD2, by rw [pV_len, hl, sizeLine_eq]; omega, ps ++ [(p2, l2)], by rw [List.length_append, hl]; rfl, ?_, fun x hx => ?_, ?_, nD2, ?_⟩
        · rw [hs]
          exact (hg2.snoc hw np nl ne).ext PP (Z := [D]) (Only'.put Only'.refl (by simp)) fun x hx z => nD2 (by rw [← List.mem_singleton.mp z]; exact hx)
        · rw [flat_app] at hx
          rcases List.mem_append.mp hx with z | z
          · exact hf x z
          · have z' : x ∈ [p2, l2] := z
            rcases List.mem_cons.mp z' with z' | z'
            · rw [z']; exact (e1.trans e).free n1
            · rw [List.mem_singleton.mp z']; exact (e1.trans e).free n2
        · rw [upd_same]
          unfold pV
          rw [List.map_append]
          rfl
        · exact (e.trans e2).put0 hD
    · rintro H' ⟨ps, hl, hg, hf, hDl, nD, e⟩
      rw [List.length_map, hlen] at hl hg
      rw [List.take_length] at hg
      have hp' : H' p = some (.ins (He.ga K "Writer") dx []) := (e1.trans e) p _ hp (by simp)
      have npf : p ∉ flat ps := fun z => by
        have := hf p z
        rw [hp] at this
        cases this
      have nDp : D ≠ p := fun z => by
        rw [z] at hD
        rw [e1 p _ hp (by simp)] at hD
        cases hD
      wtm_at "x"
      refine q lays rfl oks h8 _ D ps ⟨⟨dx, by wtm_at "h"⟩, ?_, ?_, npf, nD, fun s hs => ?_, by omega⟩ (e1.free hD) hf ?_
      · exact upd_get nDp hDl
      · exact hg.ext PP (Z := [p]) (Only'.put Only'.refl (by simp)) fun x hx z => npf (by rw [← List.mem_singleton.mp z]; exact hx)
      · obtain ⟨ly, hly, rfl⟩ := List.mem_map.mp hs
        exact newW_ok (oks ly hly)
      · exact ((e1.trans e).mono fun _ h => nomatch h).put (by simp)
theorem ok_Writer_take (T : Tx K mg) : DefOk P w K mg base 7 (He.ma K (He.ga K "Writer") "take") ["self", "row"] (spWriterTake K) := by
  have D_through := ok_through (P := P) (w := w) (base := base) T
  refine def_ok (N := n_Writer_take) (fn_Writer_take T) sc_Writer_take (fun _ _ _ _ _ _ us hl => match us, hl with | [_, _], _ => rfl) (fun vs H Q E h => ?_) (fun cdv A outer s H vs Q E hr h => ?_)
  · obtain ⟨p, c, rw_, ps, ss, row, rfl, _⟩ := h
    rfl
  · obtain ⟨p, c, rw_, ps, ss, row, rfl, hW, hrw, hby, hfit, q⟩ := h
    have PP := WAt_parts K
    obtain ⟨dx, hp⟩ := hW.ob
    refine ⟨_, [_, _], (pss_one (ps_ret (pe_fn D_through (g_through T) (hr.mono (by first | decide | omega)) (fun _ => passE) (pa_cons (pe_fld (pv 0) rfl) (pa_cons pe_int (pa_cons (pe_callTy call_listS rfl (f_list T) (by decide +kernel) (pa_cons (pv 1) pa_nil)) pa_nil)))))), rfl, ?_⟩
    try dsimp only [cxOf]
    wtm_at "x"
    intro r hr0
    have e1 : Ext H (upd H r (.lst (iV row))) := Only'.put0 Only'.refl hr0
    have nr : r ∉ flat ps := fun z => by
      obtain ⟨o, eo⟩ := hW.good.trk PP z
      rw [hr0] at eo
      cases eo
    wtm_at "x"
    have hW1 : WriterAt K (upd H r (.lst (iV row))) p c ps ss := hW.ext e1 (by simp) (by simp) (by simp)
    have hg := hW1.good
    refine ⟨c, r, 0, ps, ss, row, rfl, hW1.cl, hg, hW.ok, upd_same, nr, hby, hfit, Nat.zero_le _, by have := hW.few; omega, fun H' r' ps' st hr' hrr nr' => ?_⟩
    have st2 : Step (WAt K) [] H ps ss H' ps' (wthru ss row).2 := by
      have := st.pre e1 fun _ z => nomatch z
      exact this
    refine q H' r' ps' st2 (hW.step st2 (wthru_ok hW.ok hby).1) hr' ?_ nr'
    rcases hrr with z | z
    · rw [z]; exact hr0
    · exact (upd_none z).2
theorem ok_Writer_end (T : Tx K mg) : DefOk P w K mg base 7 (He.ma K (He.ga K "Writer") "end") ["self"] (spWriterEnd K) := by
  have D_through := ok_through (P := P) (w := w) (base := base) T
  refine def_ok (N := n_Writer_end) (fn_Writer_end T) sc_Writer_end (fun _ _ _ _ _ _ us hl => match us, hl with | [_], _ => rfl) (fun vs H Q E h => ?_) (fun cdv A outer s H vs Q E hr h => ?_)
  · obtain ⟨p, c, ps, ss, rfl, _⟩ := h
    rfl
  · obtain ⟨p, c, ps, ss, rfl, hW, hfit, hz, q⟩ := h
    have PP := WAt_parts K
    obtain ⟨dx, hp⟩ := hW.ob
    have hcl := hW.cl
    have hlen := hW.good.len
    refine ⟨_, [_, _, _], (pss_cons (ps_set (i := 1) sc_Writer_end.nd rfl (Or.inl rfl) (pe_lst pa_nil))
      (pss_cons (ps_for (passes_of rfl) rfl (pi_range1 rfl (f_range T) (pa_cons (pe_callB call_lenS rfl (f_len T) (by decide +kernel) (pa_cons (pe_fld (pv 0) rfl) pa_nil)) pa_nil)) (pg_name (i := 2) sc_Writer_end.nd rfl (Or.inl rfl)) (pss_one (ps_set (i := 1) sc_Writer_end.nd rfl (Or.inl rfl) (pe_op op_cat (pv 1) (pe_fn D_through (g_through T) (hr.mono (by first | decide | omega)) (fun _ => passE) (pa_cons (pe_fld (pv 0) rfl) (pa_cons (pe_op op_add (pv 2) pe_int) (pa_cons (pe_mu0 5 ["self"] (hr.mono (by first | decide | omega)) (fun _ => passE) (pe_ix ix_list (pe_fld (pv 0) rfl) (pv 2) (fun _ _ => rfl))) pa_nil))))))))
      (pss_one (ps_ret (pv 1))))), rfl, ?_⟩
    try dsimp only [cxOf]
    wtm_at "x"
    intro f0 hf0
    have e1 : Ext H (upd H f0 (.lst [])) := Only'.put0 Only'.refl hf0
    have nf0 : f0 ≠ p := (ne_of_none hp hf0).symm
    have nf1 : f0 ≠ c := (ne_of_none hcl hf0).symm
    have nff : f0 ∉ flat ps := fun z => by
      obtain ⟨o, eo⟩ := hW.good.trk PP z
      rw [hf0] at eo
      cases eo
    wtm_at "x"
    have hW1 : WriterAt K (upd H f0 (.lst [])) p c ps ss := hW.ext e1 (by simp) (by simp) (by simp)
    rw [pV_len]
    refine x_rForR1 (k := ps.length) rfl (by have := hW.few; omega) (fun i σ H' => ∃ (psi : List (Addr × Addr)) (ssi : List WSt) (fi : Addr) (outi : Row) (v2 : Option V), σ = [some (.ref p), some (.ref fi), v2] ∧
        Step (WAt K) [] H ps ss H' psi ssi ∧ WriterAt K H' p c psi ssi ∧ H' fi = some (.lst (iV outi)) ∧ fi ∉ flat psi ∧ H fi = none ∧
        WEndFits (ss.length - i) (ssi.drop i) ∧ outi ++ wendAll (ss.length - i) (ssi.drop i) = wendAll ss.length ss)
      ⟨ps, ss, f0, [], none, rfl, Step.pre (X := []) e1 (Step.refl hW1.good) (fun _ z => nomatch z), hW1, upd_same, nff, hf0, hfit, rfl⟩ ?_ ?_
    · rintro i σ H' hi ⟨psi, ssi, fi, outi, v2, rfl, st, hWi, hfi, nfi, hfi0, hfiti, eo⟩
      obtain ⟨dxi, hpi⟩ := hWi.ob
      have hci := hWi.cl
      have hn : i < psi.length := by rw [st.len]; exact hi
      obtain ⟨⟨pp, l0⟩, hpl0⟩ : ∃ y, psi[i]? = some y := ⟨_, List.getElem?_eq_getElem hn⟩
      have hns : i < ssi.length := by rw [← hWi.good.len]; exact hn
      obtain ⟨s0, hs0⟩ : ∃ y, ssi[i]? = some y := ⟨_, List.getElem?_eq_getElem hns⟩
      have hn1 : ss.length - i = (ss.length - (i + 1)) + 1 := by omega
      rw [hn1, drop_more hs0] at hfiti eo
      have hok0 := hWi.ok s0 (List.mem_of_getElem? hs0)
      have hw := hWi.good.at_ i pp l0 s0 hpl0 hs0
      have hlss : ss.length = ssi.length := by rw [← hWi.good.len, st.len, hlen]
      wtm_at "x"
      refine x_ixL (SqL.of hci) (at_of (j := i) rfl (pV_at hpl0)) ?_
      wtm_at "x"
      refine x_wend T hw hok0 fun H1 l' r hw' hl' hr0 hr' ho => ?_
      obtain ⟨okE, byE⟩ := wend_ok hok0
      have st1 : Step (WAt K) [] H' psi ssi H1 (psi.set i (pp, l')) (ssi.set i (wended s0)) := Step.one PP hWi.good hpl0 hs0 hw' hl' ho
      have hW2 := hWi.step st1 (woks_set hWi.ok okE)
      have hdr : (ssi.set i (wended s0)).drop (i + 1) = ssi.drop (i + 1) := List.drop_set_of_lt (by omega)
      have pin : pp ∈ flat psi := mem_flat.mpr ⟨i, pp, l0, hpl0, Or.inl rfl⟩
      have lin : l0 ∈ flat psi := mem_flat.mpr ⟨i, pp, l0, hpl0, Or.inr rfl⟩
      have nlr := wend_apart hw' hok0 hr'
      have nrf : r ∉ flat (psi.set i (pp, l')) := by
        intro z
        rcases st1.old r z with y | y
        · obtain ⟨o, eo2⟩ := hWi.good.trk PP y
          rw [hr0] at eo2
          cases eo2
        · obtain ⟨j, q2, m2, hj, hx⟩ := mem_flat.mp z
          by_cases hji : i = j
          · subst hji
            rw [List.getElem?_set_self hn] at hj
            have e3 := Option.some.inj hj
            injection e3 with e4 e5
            subst e4 e5
            rcases hx with hx | hx
            · obtain ⟨o, eo2⟩ := hWi.good.trk PP pin
              rw [← hx, hr0] at eo2
              cases eo2
            · exact nlr hx.symm
          · rw [List.getElem?_set_ne hji] at hj
            obtain ⟨o, eo2⟩ := hWi.good.trk PP (mem_flat.mpr ⟨j, q2, m2, hj, hx⟩)
            rw [hr0] at eo2
            cases eo2
      wtm_at "x"
      have ei : ((i : Int) + 1) = ((i + 1 : Nat) : Int) := by omega
      rw [ei]
      refine ⟨c, r, i + 1, psi.set i (pp, l'), ssi.set i (wended s0), wend s0, rfl, hW2.cl, hW2.good, hW2.ok, hr', nrf, byE, ?_, ?_, ?_, fun H2 r2 ps2 st2 hr2 hrr nr2 => ?_⟩
      · rw [hdr]
        exact hfiti.1
      · rw [List.length_set]; omega
      · rw [List.length_set]; have := hWi.few; omega
      · rw [hdr] at st2 hr2
        have stA := st1.trans st2
        have hf2 : H2 fi = some (.lst (iV outi)) := stA.only fi _ hfi (by simpa using nfi)
        have lenq : outi.length + (wthru (ssi.drop (i + 1)) (wend s0)).1.length ≤ 16777216 := by
          have := congrArg List.length eo
          simp only [wendAll, List.length_append] at this
          omega
        refine x_cat hf2 hr2 (by rw [iV_length, iV_length, sizeLine_eq]; exact lenq) fun g hg0 => ?_
        wtm_at "x"
        have okT := (wthru_ok (ss := ssi.drop (i + 1)) (r := wend s0) (fun x hx => hWi.ok x (List.mem_of_mem_drop hx)) byE).1
        have ok2 : WOks ((ssi.set i (wended s0)).take (i + 1) ++ (wthru (ssi.drop (i + 1)) (wend s0)).2) := fun x hx => by
          rcases List.mem_append.mp hx with z | z
          · exact hW2.ok x (List.mem_of_mem_take z)
          · exact okT x z
        have stB := (st.trans stA).new PP (o := .lst (iV outi ++ iV (wthru (ssi.drop (i + 1)) (wend s0)).1)) hg0
        have ngf : g ∉ flat ps2 := fun z => by
          obtain ⟨o, eo2⟩ := stA.good.trk PP z
          rw [hg0] at eo2
          cases eo2
        have hdA : ((ssi.set i (wended s0)).take (i + 1) ++ (wthru (ssi.drop (i + 1)) (wend s0)).2).drop (i + 1) = (wthru (ssi.drop (i + 1)) (wend s0)).2 := by
          rw [List.drop_append_of_le_length (by rw [List.length_take, List.length_set]; omega), List.drop_eq_nil_of_le (by rw [List.length_take]; omega)]
          rfl
        refine ⟨ps2, _, g, outi ++ (wthru (ssi.drop (i + 1)) (wend s0)).1, _, rfl, stB, hW.step stB ok2, by rw [upd_same, iV_append], ngf, (st.trans stA).only.free hg0, ?_, ?_⟩
        · rw [hdA]
          exact hfiti.2
        · rw [hdA, List.append_assoc]
          exact eo
    · rintro σ H' ⟨psi, ssi, fi, outi, v2, rfl, st, hWi, hfi, nfi, hfi0, hfiti, eo⟩
      wtm_at "x"
      have e0 : ss.length - ps.length = 0 := by omega
      rw [e0] at eo
      have eo2 : outi = wendAll ss.length ss := by
        have : outi ++ [] = wendAll ss.length ss := eo
        rwa [List.append_nil] at this
      exact q H' fi psi ssi st (by rw [hfi, eo2]) hfi0 nfi
end
end Flow

namespace Flow
open PySem PySem.Spec PyProof.Rows L2
def spWritten (K : PySem.W.Frag) : Sp := fun vs H Q E => ∃ (a rw_ : Addr) (ls : List (Str × Row)) (row : Row), vs = [.ref a, .ref rw_] ∧ Handed K H a ls ∧ SqL K H rw_ (iV row) ∧ Bys row ∧
  (∀ lays : List Lay, ls = lays.map rawOf → (∀ ly, ly ∈ lays → ly.Ok) → lays.length ≤ 8 → WFits (lays.map newW) row ∧ WEndFits lays.length (wthru (lays.map newW) row).2 ∧ (written lays row).length ≤ 16777216 ∧
    ∀ (H' : Hp) (r : Addr), Ext H H' → H r = none → H' r = some (.lst (iV (written lays row))) → Q (.ref r) H') ∧
  (goodAll ls = false → ∀ H', Ext H H' → E (.ref (He.ga K "BadLayer")) none H')
section
variable {P : Program} {w : World} {K : PySem.W.Frag} {mg : Str → Option Value} {base : Heap}
theorem ok_written (T : Tx K mg) : DefOk P w K mg base 8 (He.ga K "written") ["layers", "row"] (spWritten K) := by
  have D_Writer : MakeOk P w K mg base 4 (He.ga K "Writer") _ _ := ⟨_, mk_Writer T, ok_Writer_init T⟩
  have M_Writer_take := meth1 (cl_Writer T) (me_Writer_take T) (ok_Writer_take (P := P) (w := w) (base := base) T)
  have M_Writer_end := meth1 (cl_Writer T) (me_Writer_end T) (ok_Writer_end (P := P) (w := w) (base := base) T)
  refine def_ok (N := n_written) (fn_written T) sc_written (fun _ _ _ _ _ _ us hl => match us, hl with | [_, _], _ => rfl) (fun vs H Q E h => ?_) (fun cdv A outer s H vs Q E hr h => ?_)
  · obtain ⟨a, rw_, ls, row, rfl, _⟩ := h
    rfl
  · obtain ⟨a, rw_, ls, row, rfl, hh, hrw, hby, qg, qb⟩ := h
    refine ⟨_, [_, _, _], (pss_cons (ps_set (i := 2) sc_written.nd rfl (Or.inl rfl) (pe_mk D_Writer (g_Writer T) (hr.mono (by first | decide | omega)) (fun σ => passAt (takes_of rfl rfl rfl rfl) σ) (pa_cons (pv 0) pa_nil)))
      (pss_one (ps_ret (pe_op op_cat (pe_mm M_Writer_take (hr.mono (by first | decide | omega)) (fun _ => passE) (pv 2) (pa_cons (pv 1) pa_nil)) (pe_mm0 M_Writer_end (hr.mono (by first | decide | omega)) (fun _ => passE) (pv 2)))))), rfl, ?_⟩
    try dsimp only [cxOf]
    wtm_at "x"
    intro x dx nx ndx ne
    have e0 : Ext H (upd (upd H dx (.own x)) x (.ins (He.ga K "Writer") dx [])) := (Only'.put0 Only'.refl ndx).put0 nx
    refine ⟨x, dx, a, ls, rfl, upd_same, by rw [upd_ne ne, upd_same], hh.ext e0, fun lays el oks few H1 c ps hW hc hfr ho => ⟨rfl, ?_⟩, fun hg H1 e1 => qb hg H1 (e0.trans e1)⟩
    obtain ⟨f1, f2, f3, q⟩ := qg lays el oks few
    have hl : (wthru (lays.map newW) row).2.length = lays.length := by
      rw [(wthru_ok (ss := lays.map newW) (r := row) hW.ok hby).2.2, List.length_map]
    have e1 : Ext H H1 := by
      refine ⟨fun b u hb _ => ?_, fun b u hb => ?_⟩
      · exact ho b u (e0 b u hb (by simp)) (by simp; exact ne_of_none hb nx)
      · obtain ⟨u1, h1⟩ := e0.more b u hb
        exact ho.more b u1 h1
    have hnone : ∀ y, y ∈ flat ps → H y = none := fun y hy => (upd_none (upd_none (hfr y hy)).2).2
    have hcn : H c = none := (upd_none (upd_none hc).2).2
    obtain ⟨dx1, hx1⟩ := hW.ob
    wtm_at "x"
    refine ⟨x, c, rw_, ps, lays.map newW, row, rfl, hW, SqL.ext e1 hrw, hby, f1, fun H2 r ps2 st2 hW2 hr2 hr0 nr2 => ?_⟩
    obtain ⟨dx2, hx2⟩ := hW2.ob
    have nxp : x ≠ r := ne_of_none hx1 hr0
    wtm_at "x"
    have hl2 : written lays row = (wthru (lays.map newW) row).1 ++ wendAll (wthru (lays.map newW) row).2.length (wthru (lays.map newW) row).2 := by rw [hl]; rfl
    have f3' : (wthru (lays.map newW) row).1.length + (wendAll (wthru (lays.map newW) row).2.length (wthru (lays.map newW) row).2).length ≤ 16777216 := by
      rw [hl2, List.length_append] at f3
      exact f3
    refine ⟨x, c, ps2, (wthru (lays.map newW) row).2, rfl, hW2, by rw [hl]; exact f2, by omega, fun H3 r3 ps3 ss3 st3 hr3 hr30 nr3 => ?_⟩
    have hrr : H3 r = some (.lst (iV (wthru (lays.map newW) row).1)) := st3.only r _ hr2 (by simpa using nr2)
    refine x_cat hrr hr3 (by rw [iV_length, iV_length, sizeLine_eq]; exact f3') fun r4 hr4 => ?_
    have st := st2.trans st3
    have e3 : Ext H H3 := by
      refine ⟨fun b u hb _ => ?_, fun b u hb => ?_⟩
      · exact st.only b u (e1 b u hb (by simp)) (by
          simp only [List.nil_append]
          intro z
          rw [hnone b z] at hb
          cases hb)
      · obtain ⟨u1, h1⟩ := e1.more b u hb
        exact st.only.more b u1 h1
    refine q _ r4 (e3.new hr4) (e3.free hr4) ?_
    rw [upd_same, hl2, iV_append]
end
end Flow

namespace Flow
open PySem PySem.Spec PyProof.Rows L2
/-! ### what the laws draw from a script -/
def lcell (s : Row) (k : Int) : Int := if s = [] then 0 else gI s (k % (s.length : Int))
def lnum (s : Row) (k : Int) : Int := (lcell s k + 104729 * (k + 1)) % 4294967291 * 48271 % 4294967279
def lmix (s : Row) (k : Int) : Int := (lnum s k / 64 * 69621 + lnum s k) % 4294967231
theorem lmix_in (s : Row) (k : Int) : 0 ≤ lmix s k ∧ lmix s k < 4294967231 := ⟨Int.emod_nonneg _ (by decide), Int.emod_lt_of_pos _ (by decide)⟩
def spCell (K : PySem.W.Frag) : Sp := fun vs H Q _ => ∃ (a : Addr) (s : Row) (k : Int), vs = [.ref a, .int k] ∧ SqL K H a (iV s) ∧ Q (.int (lcell s k)) H
def spMix (K : PySem.W.Frag) : Sp := fun vs H Q _ => ∃ (a : Addr) (s : Row) (k : Int), vs = [.ref a, .int k] ∧ SqL K H a (iV s) ∧ Q (.int (lmix s k)) H
def spWhole : Sp := fun vs H Q _ => ∃ i : Int, vs = [.int i] ∧ Q (.bl true) H
def spLawLayer (K : PySem.W.Frag) : Sp := fun vs H Q _ => ∃ (a : Addr) (s : Row) (k : Int), vs = [.ref a, .int k] ∧ SqL K H a (iV s) ∧
  ∀ (ly : Lay) (H' : Hp) (t : Addr), ly.Ok → Ext H H' → H t = none → H' t = some (.tup (layV ly)) → Q (.ref t) H'
/-- layers that the law has made -/
structure Made (K : PySem.W.Frag) (H0 H : Hp) (ts : List Addr) (lays : List Lay) : Prop where
  len : ts.length = lays.length
  at_ : ∀ (i : Nat) (t : Addr) (ly : Lay), ts[i]? = some t → lays[i]? = some ly → H t = some (.tup (layV ly))
  new : ∀ t, t ∈ ts → H0 t = none
  oks : ∀ ly, ly ∈ lays → ly.Ok
theorem Made.ext {K : PySem.W.Frag} {H0 H H' : Hp} {ts : List Addr} {lays : List Lay} (m : Made K H0 H ts lays) (e : Ext H H') : Made K H0 H' ts lays := ⟨m.len, fun i t ly h1 h2 => e t _ (m.at_ i t ly h1 h2) (by simp), m.new, m.oks⟩
theorem Made.snoc {K : PySem.W.Frag} {H0 H : Hp} {ts : List Addr} {lays : List Lay} {t : Addr} {ly : Lay} (m : Made K H0 H ts lays) (h : H t = some (.tup (layV ly))) (n : H0 t = none) (ok : ly.Ok) : Made K H0 H (ts ++ [t]) (lays ++ [ly]) := by
  refine ⟨by rw [List.length_append, List.length_append, m.len]; rfl, fun i u l h1 h2 => ?_, fun u hu => ?_, fun l hl => ?_⟩
  · by_cases hi : i < ts.length
    · rw [List.getElem?_append_left hi] at h1
      rw [List.getElem?_append_left (by rw [← m.len]; exact hi)] at h2
      exact m.at_ i u l h1 h2
    · rw [List.getElem?_append_right (by omega)] at h1
      rw [List.getElem?_append_right (by rw [← m.len]; omega), ← m.len] at h2
      cases hd : i - ts.length with
      | zero =>
        rw [hd] at h1 h2
        have e1 : t = u := Option.some.inj h1
        have e2 : ly = l := Option.some.inj h2
        subst e1 e2
        exact h
      | succ j =>
        rw [hd] at h1
        cases h1
  · rcases List.mem_append.mp hu with z | z
    · exact m.new u z
    · rw [List.mem_singleton.mp z]; exact n
  · rcases List.mem_append.mp hl with z | z
    · exact m.oks l z
    · rw [List.mem_singleton.mp z]; exact ok
theorem lay_few {ly : Lay} (ok : ly.Ok) : (largs ly).length ≤ 8 := by
  cases ly <;> simp only [largs] <;> first | exact ok.2.1 | (simp)
theorem Made.raw {K : PySem.W.Frag} {H0 H : Hp} {ts : List Addr} {lays : List Lay} (m : Made K H0 H ts lays) : RawAll K H ts (lays.map rawOf) := by
  refine ⟨by rw [List.length_map]; exact m.len, fun i t k xs h1 h2 => ?_, fun i k xs h2 => ?_⟩
  · rw [List.getElem?_map] at h2
    cases e : lays[i]? with
    | none => rw [e] at h2; cases h2
    | some ly =>
      rw [e] at h2
      have e2 : rawOf ly = (k, xs) := Option.some.inj h2
      injection e2 with e3 e4
      subst e3 e4
      exact SqT.of (m.at_ i t ly h1 e)
  · rw [List.getElem?_map] at h2
    cases e : lays[i]? with
    | none => rw [e] at h2; cases h2
    | some ly =>
      rw [e] at h2
      have e2 : rawOf ly = (k, xs) := Option.some.inj h2
      injection e2 with e3 e4
      subst e3 e4
      have := lay_few (m.oks ly (List.mem_of_getElem? e))
      omega
theorem Made.handed {K : PySem.W.Frag} {H0 H : Hp} {a : Addr} {ts : List Addr} {lays : List Lay} (m : Made K H0 H ts lays) (h : H a = some (.lst (ts.map V.ref))) : Handed K H a (lays.map rawOf) := ⟨ts, SqL.of h, m.raw⟩
def spLawLayers (K : PySem.W.Frag) : Sp := fun vs H Q _ => ∃ (a : Addr) (s : Row) (k : Int) (most : Nat), vs = [.ref a, .int k, .int (most : Int)] ∧ SqL K H a (iV s) ∧ most ≤ 100 ∧
  ∀ (lays : List Lay) (ts : List Addr) (H' : Hp) (r : Addr), lays.length ≤ most → Ext H H' → H r = none → H' r = some (.lst (ts.map V.ref)) → Made K H H' ts lays → Q (.ref r) H'
def spLawRow (K : PySem.W.Frag) : Sp := fun vs H Q _ => ∃ (a : Addr) (s : Row) (k : Int) (most : Nat) (long : Bool), vs = [.ref a, .int k, .int (most : Int), .bl long] ∧ SqL K H a (iV s) ∧ most ≤ 100 ∧
  ∀ (row : Row) (H' : Hp) (r : Addr), Bys row → (row.length ≤ 256 + 4 * most ∧ (long = false → row.length ≤ 4 * most ∧ ∃ pcs, pcs.length ≤ most ∧ row = flatR pcs)) → Ext H H' → H r = none → H' r = some (.lst (iV row)) → Q (.ref r) H'
def spIsRow (K : PySem.W.Frag) : Sp := fun vs H Q _ => ∃ (a : Addr) (row : Row), vs = [.ref a] ∧ H a = some (.lst (iV row)) ∧ Bys row ∧ row.length ≤ 16777216 ∧ ∀ H', Ext H H' → Q (.bl true) H'
section
variable {P : Program} {w : World} {K : PySem.W.Frag} {mg : Str → Option Value} {base : Heap}
theorem ok_law_cell (T : Tx K mg) : DefOk P w K mg base 1 (He.ga K "_law_cell") ["_law_script", "_law_k"] (spCell K) := by
  refine def_ok (N := n_law_cell) (fn_law_cell T) sc_law_cell (fun _ _ _ _ _ _ us hl => match us, hl with | [_, _], _ => rfl) (fun vs H Q E h => ?_) (fun cdv A outer s H vs Q E hr h => ?_)
  · obtain ⟨a, s, k, rfl, _⟩ := h
    rfl
  · obtain ⟨a, s, k, rfl, hs, q⟩ := h
    refine ⟨_, [_, _], (pss_cons (ps_if (pt_truthS (pv 0) (by intro _; rfl)) (pss_one (ps_ret (pe_ix ix_list (pv 0) (pe_op op_modN (pv 1) (pe_callB call_lenS rfl (f_len T) (by decide +kernel) (pa_cons (pv 0) pa_nil))) (fun _ _ => rfl)))) pss_nil)
      (pss_one (ps_ret pe_int))), rfl, ?_⟩
    try dsimp only [cxOf]
    wtm_at "x"
    refine x_truL hs ?_
    cases s with
    | nil =>
      refine iteF ?_
      wtm_at "x"
      exact q
    | cons y r =>
      refine iteT ?_
      wtm_at "x"
      have e : k.fmod ((iV (y :: r)).length : Int) = k % ((y :: r).length : Int) := by rw [iV_length, fmod_pos (by omega)]
      refine x_rI (by rw [iV_length, List.length_cons]; omega) ?_
      rw [e]
      have hl : (0 : Int) < ((y :: r).length : Int) := by rw [List.length_cons]; omega
      refine x_ixL hs (gI_at (Int.emod_nonneg _ (by omega)) (Int.emod_lt_of_pos _ hl)) ?_
      wtm_at "x"
      have e2 : lcell (y :: r) k = gI (y :: r) (k % ((y :: r).length : Int)) := if_neg (by intro z; cases z)
      rw [e2] at q
      exact q
theorem ok_law_mix (T : Tx K mg) : DefOk P w K mg base 2 (He.ga K "_law_mix") ["_law_script", "_law_k"] (spMix K) := by
  have D_law_cell := ok_law_cell (P := P) (w := w) (base := base) T
  refine def_ok (N := n_law_mix) (fn_law_mix T) sc_law_mix (fun _ _ _ _ _ _ us hl => match us, hl with | [_, _], _ => rfl) (fun vs H Q E h => ?_) (fun cdv A outer s H vs Q E hr h => ?_)
  · obtain ⟨a, s, k, rfl, _⟩ := h
    rfl
  · obtain ⟨a, s, k, rfl, hs, q⟩ := h
    refine ⟨_, [_, _, _], (pss_cons (ps_set (i := 2) sc_law_mix.nd rfl (Or.inl rfl) (pe_op op_mod (pe_op op_add (pe_fn D_law_cell (g_law_cell T) (hr.mono (by first | decide | omega)) (fun _ => passE) (pa_cons (pv 0) (pa_cons (pv 1) pa_nil))) (pe_op op_mul pe_int (pe_op op_add (pv 1) pe_int))) pe_int))
      (pss_cons (ps_set (i := 2) sc_law_mix.nd rfl (Or.inl rfl) (pe_op op_mod (pe_op op_mul (pv 2) pe_int) pe_int))
      (pss_one (ps_ret (pe_op op_mod (pe_op op_add (pe_op op_mul (pe_op op_fdiv (pv 2) pe_int) pe_int) (pv 2)) pe_int))))), rfl, ?_⟩
    try dsimp only [cxOf]
    wtm_at "x"
    refine ⟨a, s, k, rfl, hs, ?_⟩
    wtm_at "x"
    exact q
theorem ok_law_whole (T : Tx K mg) : DefOk P w K mg base 1 (He.ga K "_law_whole") ["_law_found"] spWhole := by
  refine def_ok (N := n_law_whole) (fn_law_whole T) sc_law_whole (fun _ _ _ _ _ _ us hl => match us, hl with | [_], _ => rfl) (fun vs H Q E h => ?_) (fun cdv A outer s H vs Q E hr h => ?_)
  · obtain ⟨i, rfl, _⟩ := h
    rfl
  · obtain ⟨i, rfl, q⟩ := h
    refine ⟨_, [_], (pss_one (ps_ret (pe_and (pe_callB call_isi rfl (f_isinstance T) (by decide +kernel) (pa_cons (pv 0) (pa_cons (pe_bltn (v := .ty "int") rfl (f_int T) (by decide +kernel) rfl) pa_nil))) (pe_one (pe_not (pe_callB call_isi rfl (f_isinstance T) (by decide +kernel) (pa_cons (pv 0) (pa_cons (pe_bltn (v := .ty "bool") rfl (f_bool T) (by decide +kernel) rfl) pa_nil)))))))), rfl, ?_⟩
    try dsimp only [cxOf]
    wtm_at "x"
    refine x_isiI (b := true) (by decide +kernel) ?_
    wtm_at "x"
    refine x_isiI (b := false) (by decide +kernel) ?_
    wtm_at "x"
    exact q
theorem ok_law_layer (T : Tx K mg) : DefOk P w K mg base 3 (He.ga K "_law_layer") ["_law_script", "_law_k"] (spLawLayer K) := by
  have D_law_mix := ok_law_mix (P := P) (w := w) (base := base) T
  refine def_ok (N := n_law_layer) (fn_law_layer T) sc_law_layer (fun _ _ _ _ _ _ us hl => match us, hl with | [_, _], _ => rfl) (fun vs H Q E h => ?_) (fun cdv A outer s H vs Q E hr h => ?_)
  · obtain ⟨a, s, k, rfl, _⟩ := h
    rfl
  · obtain ⟨a, s, k, rfl, hs, q⟩ := h
    obtain ⟨m0, m1⟩ := lmix_in s k
    refine ⟨_, [_, _, _, _, _], (pss_cons (ps_set (i := 2) sc_law_layer.nd rfl (Or.inl rfl) (pe_fn D_law_mix (g_law_mix T) (hr.mono (by first | decide | omega)) (fun _ => passE) (pa_cons (pv 0) (pa_cons (pv 1) pa_nil))))
      (pss_cons (ps_set (i := 3) sc_law_layer.nd rfl (Or.inl rfl) (pe_ix ix_list (pe_lst (pa_cons pe_str (pa_cons pe_str (pa_cons pe_str (pa_cons pe_str (pa_cons pe_str (pa_cons pe_str (pa_cons pe_str (pa_cons pe_str pa_nil))))))))) (pe_op op_mod (pv 2) pe_int) (fun _ _ => rfl)))
      (pss_cons (ps_if (pt_cmpR op_eq (pv 3) pe_str (nomark _)) (pss_one (ps_ret (pe_op op_catT (pe_tup (pa_cons (pv 3) pa_nil)) (pe_callTy call_tupleS rfl (f_tuple T) (by decide +kernel) (pa_cons (pe_lc (own := [("_law_j", 4)]) (g := gName 4) (tt := tYes) rfl sc_law_layer.nd (pi_range1 rfl (f_range T) (pa_cons (pe_op op_add pe_int (pe_op op_mod (pe_op op_fdiv (pv 2) pe_int) pe_int)) pa_nil)) (blkOk_by (own := [("_law_j", 4)]) (N := n_law_layer) (sc := defScope s_law_layer) (by decide +kernel)) (fun _ _ _ _ _ => pg_name (i := 4) sc_law_layer.nd rfl (Or.inl rfl)) (fun _ _ _ _ _ => pts_nil) (fun _ _ _ _ _ => (pe_op op_mod (pe_op op_fdiv (pe_fn D_law_mix (g_law_mix T) (hr.mono (by first | decide | omega)) (fun _ => passE) (pa_cons (pv 0) (pa_cons (pe_op op_add (pe_op op_add (pv 1) pe_int) (pv 4)) pa_nil))) pe_int) pe_int))) pa_nil))))) pss_nil)
      (pss_cons (ps_if (pt_cmpR op_eq (pv 3) pe_str (nomark _)) (pss_one (ps_ret (pe_tup (pa_cons (pv 3) (pa_cons (pe_ix ix_list (pe_lst (pa_cons pe_int (pa_cons pe_int (pa_cons pe_int (pa_cons pe_int (pa_cons pe_int (pa_cons (pe_op op_mod (pe_op op_fdiv (pv 2) pe_int) pe_int) pa_nil))))))) (pe_op op_mod (pe_op op_fdiv (pv 2) pe_int) pe_int) (fun _ _ => rfl)) pa_nil))))) pss_nil)
      (pss_cons (ps_if (pt_cmpR op_in_seq (pv 3) (pe_tup (pa_cons pe_str (pa_cons pe_str pa_nil))) (by rfl)) (pss_one (ps_ret (pe_tup (pa_cons (pv 3) (pa_cons (pe_ix ix_list (pe_lst (pa_cons pe_int (pa_cons pe_int (pa_cons pe_int (pa_cons pe_int (pa_cons pe_int (pa_cons (pe_op op_add pe_int (pe_op op_mod (pe_op op_fdiv (pv 2) pe_int) pe_int)) pa_nil))))))) (pe_op op_mod (pe_op op_fdiv (pv 2) pe_int) pe_int) (fun _ _ => rfl)) pa_nil))))) pss_nil)
      (pss_one (ps_ret (pe_tup (pa_cons (pv 3) pa_nil))))))))), rfl, ?_⟩
    try dsimp only [cxOf]
    wtm_at "x"
    refine ⟨a, s, k, rfl, hs, ?_⟩
    wtm_at "x"
    intro p1 hp1
    have e1 : Ext H (upd H p1 (.lst [V.str "add", V.str "front", V.str "escape", V.str "runs", V.str "chunks", V.str "checks", V.str "signs", V.str "checks"])) := Only'.put0 Only'.refl hp1
    wtm_at "x"
    refine x_ixW (["add", "front", "escape", "runs", "chunks", "checks", "signs", "checks"] : List Str) upd_same (by omega) (by show _ < (8 : Int); omega) fun z hz => ?_
    generalize hH1 : upd H p1 (.lst [V.str "add", V.str "front", V.str "escape", V.str "runs", V.str "chunks", V.str "checks", V.str "signs", V.str "checks"]) = H1 at *
    wtm_at "x"
    refine ite_d (fun ha => ?_) fun ha => ?_
    · wtm_at "x"
      intro p2 hp2
      wtm_at "x"
      have e2 : Ext H (upd H1 p2 (.tup [V.str z])) := e1.new hp2
      refine x_rLcR (k := (1 + lmix s k / 8 % 8).toNat) (fun i => V.int (lmix s (k + 1 + (i : Int)) / 3 % 256)) (by omega) (by omega) (fun _ => rfl) (fun i H2 hi e3 Q' kq => ?_) fun l H2 hl e3 h2 => ?_
      · wtm_at "x"
        refine ⟨a, s, _, rfl, SqL.ext (e2.trans e3) hs, ?_⟩
        wtm_at "x"
        exact kq _ Only'.refl
      · have hrow : (List.range (1 + lmix s k / 8 % 8).toNat).map (fun i : Nat => V.int (lmix s (k + 1 + (i : Int)) / 3 % 256)) = iV ((List.range (1 + lmix s k / 8 % 8).toNat).map fun i : Nat => lmix s (k + 1 + (i : Int)) / 3 % 256) := by
          unfold iV
          rw [List.map_map]
          rfl
        rw [hrow] at h2
        have hlen : ((List.range (1 + lmix s k / 8 % 8).toNat).map fun i : Nat => lmix s (k + 1 + (i : Int)) / 3 % 256).length = (1 + lmix s k / 8 % 8).toNat := by rw [List.length_map, List.length_range]
        have hbys : Bys ((List.range (1 + lmix s k / 8 % 8).toNat).map fun i : Nat => lmix s (k + 1 + (i : Int)) / 3 % 256) := fun b hb => by
          obtain ⟨i, _, rfl⟩ := List.mem_map.mp hb
          exact by_mod _
        generalize ((List.range (1 + lmix s k / 8 % 8).toNat).map fun i : Nat => lmix s (k + 1 + (i : Int)) / 3 % 256) = key at *
        wtm_at "x"
        refine x_tupleOfL (SqL.of h2) fun t2 ht2 => ?_
        wtm_at "x"
        have hp22 : (upd H2 t2 (.tup (iV key))) p2 = some (.tup [V.str z]) := upd_get (ne_of_none (e3 p2 _ upd_same (by simp)) ht2) (e3 p2 _ upd_same (by simp))
        have e4 : Ext H (upd H2 t2 (.tup (iV key))) := (e2.trans e3).new ht2
        refine x_catT (SqT.of hp22) (SqT.of upd_same) (by simp) (by intro y; have := congrArg List.length y; rw [iV_length, hlen] at this; simp at this; omega) (by rw [iV_length, hlen, sizeLine_eq]; simp; omega) fun r hr => ?_
        wtm_at "x"
        subst ha
        exact q (.add key) _ r ⟨by omega, by omega, hbys⟩ (e4.new hr) (e4.free hr) upd_same
    · wtm_at "x"
      refine ite_d (fun hb => ?_) fun hb => ?_
      · wtm_at "x"
        intro p2 hp2
        wtm_at "x"
        refine x_ixI [0, 1, 253, 254, 255, lmix s k / 8 % 256] upd_same (by omega) (by show _ < (6 : Int); omega) fun x hx => ?_
        have hbx : By x := by
          simp only [List.mem_cons, List.not_mem_nil, or_false] at hx
          unfold By
          omega
        wtm_at "x"
        intro r hr
        subst hb
        exact q (.esc x) _ r hbx ((e1.new hp2).new hr) ((e1.new hp2).free hr) upd_same
      · wtm_at "x"
        intro p2 hp2
        refine x_inS (["chunks", "checks"] : List Str) (Or.inr (SqT.of upd_same)) ?_
        wtm_at "x"
        refine ite_d (fun hc => ?_) fun hc => ?_
        · wtm_at "x"
          intro p3 hp3
          wtm_at "x"
          refine x_ixI [1, 2, 3, 5, 255, 1 + lmix s k / 8 % 255] upd_same (by omega) (by show _ < (6 : Int); omega) fun x hx => ?_
          have hbx : 1 ≤ x ∧ x ≤ 255 := by
            simp only [List.mem_cons, List.not_mem_nil, or_false] at hx
            omega
          wtm_at "x"
          intro r hr
          have e5 : Ext H (upd (upd H1 p2 (.tup [V.str "chunks", V.str "checks"])) p3 (.lst [V.int 1, V.int 2, V.int 3, V.int 5, V.int 255, V.int (1 + lmix s k / 8 % 255)])) := (e1.new hp2).new hp3
          rcases List.mem_cons.mp hc with hc | hc
          · subst hc
            exact q (.chunks x) _ r hbx (e5.new hr) (e5.free hr) upd_same
          · have hc := List.mem_singleton.mp hc
            subst hc
            exact q (.checks x) _ r hbx (e5.new hr) (e5.free hr) upd_same
        · wtm_at "x"
          intro r hr
          have e5 : Ext H (upd H1 p2 (.tup [V.str "chunks", V.str "checks"])) := e1.new hp2
          have hz2 : z = "front" ∨ z = "runs" ∨ z = "signs" := by
            simp only [List.mem_cons, List.not_mem_nil, or_false] at hz hc
            rcases hz with h | h | h | h | h | h | h | h
            · exact absurd h ha
            · exact Or.inl h
            · exact absurd h hb
            · exact Or.inr (Or.inl h)
            · exact absurd (Or.inl h) hc
            · exact absurd (Or.inr h) hc
            · exact Or.inr (Or.inr h)
            · exact absurd (Or.inr h) hc
          rcases hz2 with rfl | rfl | rfl
          · exact q .front _ r trivial (e5.new hr) (e5.free hr) upd_same
          · exact q .runs _ r trivial (e5.new hr) (e5.free hr) upd_same
          · exact q .signs _ r trivial (e5.new hr) (e5.free hr) upd_same
theorem ok_law_layers (T : Tx K mg) : DefOk P w K mg base 4 (He.ga K "_law_layers") ["_law_script", "_law_k", "_law_most"] (spLawLayers K) := by
  have D_law_mix := ok_law_mix (P := P) (w := w) (base := base) T
  have D_law_layer := ok_law_layer (P := P) (w := w) (base := base) T
  refine def_ok (N := n_law_layers) (fn_law_layers T) sc_law_layers (fun _ _ _ _ _ _ us hl => match us, hl with | [_, _, _], _ => rfl) (fun vs H Q E h => ?_) (fun cdv A outer s H vs Q E hr h => ?_)
  · obtain ⟨a, s, k, most, rfl, _⟩ := h
    rfl
  · obtain ⟨a, s, k, most, rfl, hs, hm, q⟩ := h
    obtain ⟨m0, m1⟩ := lmix_in s k
    refine ⟨_, [_, _, _, _], (pss_one (ps_ret (pe_lc (own := [("_law_j", 3)]) (g := gName 3) (tt := tYes) rfl sc_law_layers.nd (pi_range1 rfl (f_range T) (pa_cons (pe_op op_modN (pe_fn D_law_mix (g_law_mix T) (hr.mono (by first | decide | omega)) (fun _ => passE) (pa_cons (pv 0) (pa_cons (pv 1) pa_nil))) (pe_op op_add (pv 2) pe_int)) pa_nil)) (blkOk_by (own := [("_law_j", 3)]) (N := n_law_layers) (sc := defScope s_law_layers) (by decide +kernel)) (fun _ _ _ _ _ => pg_name (i := 3) sc_law_layers.nd rfl (Or.inl rfl)) (fun _ _ _ _ _ => pts_nil) (fun _ _ _ _ _ => (pe_fn D_law_layer (g_law_layer T) (hr.mono (by first | decide | omega)) (fun _ => passE) (pa_cons (pv 0) (pa_cons (pe_op op_add (pe_op op_add (pv 1) pe_int) (pe_op op_mul pe_int (pv 3))) pa_nil))))))), rfl, ?_⟩
    try dsimp only [cxOf]
    wtm_at "x"
    refine ⟨a, s, k, rfl, hs, ?_⟩
    wtm_at "x"
    have e0 : (lmix s k).fmod ((most : Int) + 1) = lmix s k % ((most : Int) + 1) := fmod_pos (by omega)
    have b0 := Int.emod_nonneg (lmix s k) (show ((most : Int) + 1) ≠ 0 by omega)
    have b1 := Int.emod_lt_of_pos (lmix s k) (show (0 : Int) < (most : Int) + 1 by omega)
    rw [e0]
    generalize lmix s k % ((most : Int) + 1) = n at *
    refine ⟨n, rfl, by omega, by omega, fun D hD => lc_range (lo := 0) (n := n.toNat) (fun i H' => ∃ (ts : List Addr) (lays : List Lay), ts.length = i ∧ Made K H H' ts lays ∧ H' D = some (.lst (ts.map V.ref)) ∧ Ext H H')
      ⟨[], [], rfl, ⟨rfl, fun i t ly h => by simp at h, (fun _ h => nomatch h), (fun _ h => nomatch h)⟩, upd_same, Only'.put0 Only'.refl hD⟩ ?_ ?_⟩
    · rintro i H' hi ⟨ts, lays, hl, hmd, hDl, e⟩
      rw [Int.zero_add]
      refine ⟨rfl, ?_⟩
      unfold tYes
      dsimp only
      wtm_at "x"
      refine ⟨a, s, _, rfl, SqL.ext e hs, fun ly H2 t ok e2 ht htv => ?_⟩
      have hD2 := e2 D _ hDl (by simp)
      have hnt : D ≠ t := ne_of_none hDl ht
      refine ⟨ts.map V.ref, hD2, by rw [List.length_map, hl, sizeLine_eq]; omega, ts ++ [t], lays ++ [ly], by rw [List.length_append, hl]; rfl, ?_, ?_, ?_⟩
      · have m2 := (hmd.ext e2).snoc htv (e.free ht) ok
        refine ⟨m2.len, fun j u l h1 h2 => ?_, m2.new, m2.oks⟩
        have := m2.at_ j u l h1 h2
        refine upd_get (fun z => ?_) this
        rw [z, hD2] at this
        cases this
      · rw [upd_same, List.map_append]
        rfl
      · exact (e.trans e2).put0 hD
    · rintro H' ⟨ts, lays, hl, hmd, hDl, e⟩
      exact q lays ts H' D (by rw [← hmd.len, hl]; omega) e hD hDl hmd
theorem ok_law_row (T : Tx K mg) : DefOk P w K mg base 3 (He.ga K "_law_row") ["_law_script", "_law_k", "_law_pieces", "_law_long"] (spLawRow K) := by
  have D_law_mix := ok_law_mix (P := P) (w := w) (base := base) T
  refine def_ok (N := n_law_row) (fn_law_row T) sc_law_row (fun _ _ _ _ _ _ us hl => match us, hl with | [_, _, _, _], _ => rfl) (fun vs H Q E h => ?_) (fun cdv A outer s H vs Q E hr h => ?_)
  · obtain ⟨a, s, k, most, long, rfl, _⟩ := h
    rfl
  · obtain ⟨a, s, k, most, long, rfl, hs, hm, q⟩ := h
    refine ⟨_, [_, _, _, _, _, _, _, _, _], (pss_cons (ps_set (i := 4) sc_law_row.nd rfl (Or.inl rfl) (pe_lst pa_nil))
      (pss_cons (ps_for (passes_of rfl) rfl (pi_range1 rfl (f_range T) (pa_cons (pe_op op_modN (pe_fn D_law_mix (g_law_mix T) (hr.mono (by first | decide | omega)) (fun _ => passE) (pa_cons (pv 0) (pa_cons (pv 1) pa_nil))) (pe_op op_add (pv 2) pe_int)) pa_nil)) (pg_name (i := 5) sc_law_row.nd rfl (Or.inl rfl)) (pss_cons (ps_set (i := 6) sc_law_row.nd rfl (Or.inl rfl) (pe_fn D_law_mix (g_law_mix T) (hr.mono (by first | decide | omega)) (fun _ => passE) (pa_cons (pv 0) (pa_cons (pe_op op_add (pe_op op_add (pv 1) pe_int) (pv 5)) pa_nil))))
      (pss_cons (ps_set (i := 7) sc_law_row.nd rfl (Or.inl rfl) (pe_ix ix_list (pe_lst (pa_cons pe_int (pa_cons pe_int (pa_cons pe_int (pa_cons pe_int (pa_cons (pe_op op_mod (pe_op op_fdiv (pv 6) pe_int) pe_int) (pa_cons (pe_op op_mod (pe_op op_fdiv (pv 6) pe_int) pe_int) pa_nil))))))) (pe_op op_mod (pv 6) pe_int) (fun _ _ => rfl)))
      (pss_cons (ps_set (i := 8) sc_law_row.nd rfl (Or.inl rfl) (pe_ix ix_list (pe_lst (pa_cons pe_int (pa_cons pe_int (pa_cons pe_int (pa_cons pe_int (pa_cons pe_int (pa_cons pe_int (pa_cons pe_int (pa_cons pe_int pa_nil))))))))) (pe_op op_mod (pe_op op_fdiv (pv 6) pe_int) pe_int) (fun _ _ => rfl)))
      (pss_cons (ps_if (PW.pt (pw_and (pt_cmpR op_eq (pv 5) pe_int (nomark _)) (pw_and (pt_val (pv 3)) (pw_and1 (pt_cmpR op_eq (pe_op op_mod (pe_op op_fdiv (pv 6) pe_int) pe_int) pe_int (nomark _)))))) (pss_one (ps_set (i := 8) sc_law_row.nd rfl (Or.inl rfl) (pe_ix ix_list (pe_lst (pa_cons pe_int (pa_cons pe_int (pa_cons pe_int (pa_cons pe_int pa_nil))))) (pe_op op_mod (pe_op op_fdiv (pv 6) pe_int) pe_int) (fun _ _ => rfl)))) pss_nil)
      (pss_one (ps_set (i := 4) sc_law_row.nd rfl (Or.inl rfl) (pe_op op_cat (pv 4) (pe_op op_rep (pe_lst (pa_cons (pv 7) pa_nil)) (pv 8))))))))))
      (pss_one (ps_ret (pv 4))))), rfl, ?_⟩
    try dsimp only [cxOf]
    wtm_at "x"
    intro f0 hf0
    have e0 : Ext H (upd H f0 (.lst [])) := Only'.put0 Only'.refl hf0
    wtm_at "x"
    refine ⟨a, s, k, rfl, SqL.ext e0 hs, ?_⟩
    wtm_at "x"
    have em : (lmix s k).fmod ((most : Int) + 1) = lmix s k % ((most : Int) + 1) := fmod_pos (by omega)
    have b0 := Int.emod_nonneg (lmix s k) (show ((most : Int) + 1) ≠ 0 by omega)
    have b1 := Int.emod_lt_of_pos (lmix s k) (show (0 : Int) < (most : Int) + 1 by omega)
    rw [em]
    generalize lmix s k % ((most : Int) + 1) = n at *
    refine x_rForR1 (k := n.toNat) (by omega) (by omega) (fun i σ H' => ∃ (row : Row) (f : Addr) (v5 v6 v7 v8 : Option V), σ = [some (.ref a), some (.int k), some (.int (most : Int)), some (.bl long), some (.ref f), v5, v6, v7, v8] ∧
        H' f = some (.lst (iV row)) ∧ H f = none ∧ Ext H H' ∧ Bys row ∧ row.length ≤ 252 * min i 1 + 4 * i ∧ (long = false → row.length ≤ 4 * i ∧ ∃ pcs, pcs.length = i ∧ row = flatR pcs))
      ⟨[], f0, none, none, none, none, rfl, upd_same, hf0, e0, bys_nil, by simp, fun _ => ⟨Nat.le_refl _, [], rfl, rfl⟩⟩ ?_ ?_
    · rintro i σ H' hi ⟨row, f, v5, v6, v7, v8, rfl, hf, hfn, e, hby, hlen, hsm⟩
      obtain ⟨n0, n1⟩ := lmix_in s (k + 1 + (i : Int))
      wtm_at "x"
      refine ⟨a, s, _, rfl, SqL.ext e hs, ?_⟩
      generalize lmix s (k + 1 + (i : Int)) = nn at *
      wtm_at "x"
      intro p1 hp1
      wtm_at "x"
      refine x_ixI [0, 1, 2, 255, nn / 16 % 256, nn / 16 % 256] upd_same (by omega) (by show _ < (6 : Int); omega) fun b hb => ?_
      have hbb : By b := by
        simp only [List.mem_cons, List.not_mem_nil, or_false] at hb
        unfold By
        omega
      wtm_at "x"
      intro p2 hp2
      wtm_at "x"
      refine x_ixI [1, 1, 2, 3, 1, 1, 4, 1] upd_same (by omega) (by show _ < (8 : Int); omega) fun m hm2 => ?_
      have hmm : 1 ≤ m ∧ m ≤ 4 := by
        simp only [List.mem_cons, List.not_mem_nil, or_false] at hm2
        omega
      have e2 : Ext H (upd (upd H' p1 (.lst [V.int 0, V.int 1, V.int 2, V.int 255, V.int (nn / 16 % 256), V.int (nn / 16 % 256)])) p2 (.lst [V.int 1, V.int 1, V.int 2, V.int 3, V.int 1, V.int 1, V.int 4, V.int 1])) := (e.new hp1).new hp2
      have hf2 : (upd (upd H' p1 (.lst [V.int 0, V.int 1, V.int 2, V.int 255, V.int (nn / 16 % 256), V.int (nn / 16 % 256)])) p2 (.lst [V.int 1, V.int 1, V.int 2, V.int 3, V.int 1, V.int 1, V.int 4, V.int 1])) f = some (.lst (iV row)) :=
        upd_get (ne_of_none (upd_get (ne_of_none hf hp1) hf) hp2) (upd_get (ne_of_none hf hp1) hf)
      generalize (upd (upd H' p1 (.lst [V.int 0, V.int 1, V.int 2, V.int 255, V.int (nn / 16 % 256), V.int (nn / 16 % 256)])) p2 (.lst [V.int 1, V.int 1, V.int 2, V.int 3, V.int 1, V.int 1, V.int 4, V.int 1])) = H2 at *
      have fin : ∀ (m : Int) (H3 : Hp), 0 ≤ m → m ≤ 256 → (i ≠ 0 → m ≤ 4) → (long = false → m ≤ 4) → Ext H H3 → H3 f = some (.lst (iV row)) → ∀ p3, H3 p3 = none → ∀ (Q' : VK), (∀ (r : Addr) (H4 : Hp), H4 r = some (.lst (iV (row ++ List.replicate m.toNat b))) → H r = none → Ext H H4 → Bys (row ++ List.replicate m.toNat b) → (row ++ List.replicate m.toNat b).length ≤ 252 * min (i + 1) 1 + 4 * (i + 1) → (long = false → (row ++ List.replicate m.toNat b).length ≤ 4 * (i + 1) ∧ ∃ pcs, pcs.length = i + 1 ∧ row ++ List.replicate m.toNat b = flatR pcs) → Q' (.ref r) H4) →
          rRep (.ref p3) (.int m) (upd H3 p3 (.lst [V.int b])) fun y H5 => rCat (.ref f) y H5 Q' := by
        intro m H3 h0 h1 h2 h4 e3 hf3 p3 hp3 Q' kq
        refine x_rep1 upd_same h0 (by omega) fun p4 hp4 => ?_
        have hl2 : (row ++ List.replicate m.toNat b).length ≤ 252 * min (i + 1) 1 + 4 * (i + 1) := by
          rw [List.length_append, List.length_replicate]
          by_cases hi0 : i = 0
          · subst hi0
            simp at hlen ⊢
            subst hlen
            simp
            omega
          · have := h2 hi0
            have e1 : min i 1 = 1 := by omega
            have e2 : min (i + 1) 1 = 1 := by omega
            rw [e1] at hlen
            rw [e2]
            omega
        have er : List.replicate m.toNat (V.int b) = iV (List.replicate m.toNat b) := by
          unfold iV
          rw [List.map_replicate]
        have hf4 : (upd (upd H3 p3 (.lst [V.int b])) p4 (.lst (List.replicate m.toNat (V.int b)))) f = some (.lst (iV row)) := upd_get (ne_of_none (upd_get (ne_of_none hf3 hp3) hf3) hp4) (upd_get (ne_of_none hf3 hp3) hf3)
        have e4 : Ext H (upd (upd H3 p3 (.lst [V.int b])) p4 (.lst (List.replicate m.toNat (V.int b)))) := (e3.new hp3).new hp4
        refine x_cat hf4 upd_same (by
          rw [List.length_replicate, iV_length, sizeLine_eq]
          rw [List.length_append, List.length_replicate] at hl2
          omega) fun r hr => ?_
        refine kq r _ (by rw [upd_same, iV_append, er]) (e4.free hr) (e4.new hr) (bys_app hby fun x hx => ?_) hl2 fun hl0 => by
          obtain ⟨g1, pcs, g2, g3⟩ := hsm hl0
          have := h4 hl0
          refine ⟨?_, pcs ++ [(m.toNat, b)], by rw [List.length_append, g2]; rfl, by rw [flatR_snoc, g3]⟩
          rw [List.length_append, List.length_replicate]
          omega
        rw [List.eq_of_mem_replicate hx]
        exact hbb
      wtm_at "x"
      refine x_andJ (a := decide ((i : Int) = 0)) (b := long && decide (nn / 48 % 3 = 0)) (fun B' k => ?_) (fun _ B' k => ?_) (fun h1 h2 => ?_) (fun h12 => ?_)
      · wtm_at "x"
        exact k
      · refine x_andJ (a := long) (b := decide (nn / 48 % 3 = 0)) (fun B'' k2 => ?_) (fun _ B'' k2 => ?_) (fun g1 g2 => ?_) (fun g12 => ?_)
        · wtm_at "x"
          exact k2
        · wtm_at "x"
          exact k2
        · rw [g1, g2] at k
          exact k
        · rw [g12] at k
          exact k
      · refine iteT ?_
        have hi0 : i = 0 := by
          have := of_decide_eq_true h1
          omega
        wtm_at "x"
        intro p5 hp5
        wtm_at "x"
        refine x_ixI [254, 255, 256, 100] upd_same (by omega) (by show _ < (4 : Int); omega) fun m hm2 => ?_
        have hmm : 0 ≤ m ∧ m ≤ 256 := by
          simp only [List.mem_cons, List.not_mem_nil, or_false] at hm2
          omega
        wtm_at "x"
        intro p3 hp3
        wtm_at "x"
        refine fin m _ hmm.1 hmm.2 (fun z => absurd hi0 z) (fun z => by rw [z] at h2; cases h2) (e2.new hp5) (upd_get (ne_of_none hf2 hp5) hf2) p3 hp3 _ fun r H4 a1 a2 a3 a4 a5 a6 => ?_
        wtm_at "x"
        exact ⟨_, r, _, _, _, _, rfl, a1, a2, a3, a4, a5, a6⟩
      · refine iteF ?_
        wtm_at "x"
        intro p3 hp3
        wtm_at "x"
        refine fin m _ (by omega) (by omega) (fun _ => hmm.2) (fun _ => hmm.2) e2 hf2 p3 hp3 _ fun r H4 a1 a2 a3 a4 a5 a6 => ?_
        wtm_at "x"
        exact ⟨_, r, _, _, _, _, rfl, a1, a2, a3, a4, a5, a6⟩
    · rintro σ H' ⟨row, f, v5, v6, v7, v8, rfl, hf, hfn, e, hby, hlen, hsm⟩
      wtm_at "x"
      exact q row H' f hby ⟨by omega, fun z => (by
        obtain ⟨g1, pcs, g2, g3⟩ := hsm z
        exact ⟨by omega, pcs, by omega, g3⟩)⟩ e hfn hf
end
end Flow

namespace Flow
open PySem PySem.Spec PyProof.Rows L2
theorem all_true (n : Nat) : ((List.range n).map fun (_ : Nat) => V.bl true) = (List.replicate n true).map V.bl := by
  rw [List.map_replicate]
  refine List.ext_getElem? fun i => ?_
  rw [List.getElem?_map]
  by_cases h : i < n
  · rw [List.getElem?_range h, List.getElem?_replicate, if_pos h]
    rfl
  · rw [List.getElem?_eq_none (by rw [List.length_range]; omega), List.getElem?_replicate, if_neg h]
    rfl
theorem rep_all (n : Nat) : (List.replicate n true).all id = true := by
  rw [List.all_eq_true]
  intro x hx
  rw [List.eq_of_mem_replicate hx]
  rfl
theorem raw_inj1 {a b : Lay} (h : rawOf a = rawOf b) : a = b := by
  have h1 : lkind a = lkind b := congrArg Prod.fst h
  have h2 : largs a = largs b := congrArg Prod.snd h
  cases a <;> cases b <;> simp only [lkind, largs] at h1 h2 <;> first
    | rfl
    | (subst h2; rfl)
    | (cases h2; rfl)
    | exact absurd h1 (by decide +kernel)
theorem raw_inj : ∀ {a b : List Lay}, a.map rawOf = b.map rawOf → a = b
  | [], [], _ => rfl
  | [], _ :: _, h => by simp at h
  | _ :: _, [], h => by simp at h
  | x :: a, y :: b, h => by
    rw [List.map_cons, List.map_cons] at h
    injection h with h1 h2
    rw [raw_inj1 h1, raw_inj h2]
theorem kind_at (ly : Lay) : atI (layV ly) 0 = some (.str (lkind ly)) := ix_kind _ _
section
variable {K : PySem.W.Frag}
def spLaw (K : PySem.W.Frag) : Sp := fun vs H Q _ => ∃ (a : Addr) (ns : List Int), vs = [.ref a] ∧ SqL K H a (ns.map V.int) ∧ ∀ H', Q (.bl true) H'
theorem lay_dp {H : Hp} {a : Addr} (ly : Lay) (h : H a = some (.tup (layV ly))) : SqT K H a (.str (layD.lk ly) :: iV (layD.la ly)) := by
  cases ly <;> exact SqT.of h
theorem Made.dp {H0 H : Hp} {a : Addr} {ts : List Addr} {lays : List Lay} (m : Made K H0 H ts lays) (h : SqL K H a (ts.map V.ref)) : Dp K H (.ref a) (laysD lays) :=
  .lst h (dp_lays m.len fun i t ly h1 h2 => lay_dp ly (m.at_ i t ly h1 h2))
end
section
variable {P : Program} {w : World} {K : PySem.W.Frag} {mg : Str → Option Value} {base : Heap}
theorem ok_law_is_row (T : Tx K mg) : DefOk P w K mg base 2 (He.ga K "_law_is_row") ["_law_found"] (spIsRow K) := by
  have D_law_whole := ok_law_whole (P := P) (w := w) (base := base) T
  refine def_ok (N := n_law_is_row) (fn_law_is_row T) sc_law_is_row (fun _ _ _ _ _ _ us hl => match us, hl with | [_], _ => rfl) (fun vs H Q E h => ?_) (fun cdv A outer s H vs Q E hr h => ?_)
  · obtain ⟨a, row, rfl, _⟩ := h
    rfl
  · obtain ⟨a, row, rfl, ha, hby, hlen, q⟩ := h
    refine ⟨_, [_, _], (pss_one (ps_ret (pe_and (pe_callB call_isi rfl (f_isinstance T) (by decide +kernel) (pa_cons (pv 0) (pa_cons (pe_bltn (v := .ty "list") rfl (f_list T) (by decide +kernel) rfl) pa_nil))) (pe_one (pe_callB (cr_all rfl) rfl (f_all T) (by decide +kernel) (pa_cons (pe_lc (own := [("_law_byte", 1)]) (g := gName 1) (tt := tYes) rfl sc_law_is_row.nd (pi_list (pv 0)) (blkOk_by (own := [("_law_byte", 1)]) (N := n_law_is_row) (sc := defScope s_law_is_row) (by decide +kernel)) (fun _ _ _ _ _ => pg_name (i := 1) sc_law_is_row.nd rfl (Or.inl rfl)) (fun _ _ _ _ _ => pts_nil) (fun _ _ _ _ _ => (pe_and (pe_fn D_law_whole (g_law_whole T) (hr.mono (by first | decide | omega)) (fun _ => passE) (pa_cons (pv 1) pa_nil)) (pe_one (pe_chain op_le op_lt pe_int (pv 1) pe_int))))) pa_nil)))))), rfl, ?_⟩
    try dsimp only [cxOf]
    wtm_at "x"
    refine x_isiL (b := true) ha (by decide +kernel) ?_
    wtm_at "x"
    refine x_rLcL (fun _ => V.bl true) (SqL.of ha) (by rw [iV_length, sizeLine_eq]; exact hlen) (fun _ => rfl) (fun i x H1 hi e Q' kq => ?_) fun l H1 hl e h1 => ?_
    · obtain ⟨z, hz, rfl⟩ := iV_get hi
      obtain ⟨z0, z1⟩ := hby z (List.mem_of_getElem? hz)
      wtm_at "x"
      refine ⟨z, rfl, ?_⟩
      wtm_at "x"
      refine ite_d (fun _ => ?_) fun hn => absurd z0 hn
      wtm_at "x"
      rw [decide_eq_true z1]
      exact kq _ Only'.refl
    · rw [all_true] at h1
      wtm_at "x"
      refine x_all _ (SqL.of h1) ?_
      rw [rep_all]
      wtm_at "x"
      exact q _ e
end
end Flow

namespace Flow
open PySem PySem.Spec PyProof.Rows L2
local macro_rules | `(tactic| wtm_at "x1") => `(tactic| first
  | (with_reducible refine Flow.x_lenSet ?_)
  | (with_reducible refine Flow.x_dget2 ?_))
/-! ### the law's own bits, groups, signs, checks -/
def spBits (K : PySem.W.Frag) : Sp := fun vs H Q _ => ∃ (a : Addr) (row : Row) (n : Nat), vs = [.ref a, .int (n : Int)] ∧ SqL K H a (iV row) ∧ n ≤ 8 ∧ n * row.length ≤ 16777216 ∧ ∀ H' r, Ext H H' → H r = none → H' r = some (.lst (iV (bitsOf n row))) → Q (.ref r) H'
def spGroups (K : PySem.W.Frag) : Sp := fun vs H Q _ => ∃ (a : Addr) (row : Row) (n : Nat), vs = [.ref a, .int (n : Int)] ∧ SqL K H a (iV row) ∧ 1 ≤ n ∧ n ≤ 8 ∧ row.length ≤ 16777216 ∧ ∀ H' r, Ext H H' → H r = none → H' r = some (.lst (iV (groupsOf n row))) → Q (.ref r) H'
def spSigns (K : PySem.W.Frag) : Sp := fun vs H Q _ => vs = [] ∧ ∀ H' r, Ext H H' → H r = none → H' r = some (.lst (iV signsT)) → Q (.ref r) H'
theorem pw_all : ∀ x, x ∈ powersT → 0 < x ∧ x ≤ 128 := by decide +kernel
theorem pw_pos {m : Int} (h0 : 0 ≤ m) (h : m < 8) : 0 < gI powersT m := (pw_all _ (gI_mem h0 h)).1
theorem pw_le {m : Int} (h0 : 0 ≤ m) (h : m < 8) : gI powersT m ≤ 128 := (pw_all _ (gI_mem h0 h)).2
def scan : Int → Row → Row
  | c, [] => [c]
  | c, b :: r => c :: scan (nextCheck c b) r
def chk (r : Row) : Row := scan 0 r
theorem scan_snoc : ∀ (c : Int) (r : Row) (b : Int), scan c (r ++ [b]) = scan c r ++ [nextCheck (checkAll c r) b]
  | _, [], _ => rfl
  | c, x :: r, b => congrArg (List.cons c) (scan_snoc (nextCheck c x) r b)
theorem scan_last : ∀ (c : Int) (r : Row), ∃ ys, scan c r = ys ++ [checkAll c r]
  | c, [] => ⟨[], rfl⟩
  | c, x :: r => by
    obtain ⟨ys, e⟩ := scan_last (nextCheck c x) r
    exact ⟨c :: ys, congrArg (List.cons c) e⟩
theorem scan_len : ∀ (c : Int) (r : Row), (scan c r).length = r.length + 1
  | _, [] => rfl
  | c, x :: r => congrArg Nat.succ (scan_len (nextCheck c x) r)
theorem scan_get : ∀ (c : Int) (r : Row) (i : Nat), i ≤ r.length → (scan c r)[i]? = some (checkAll c (r.take i))
  | c, [], 0, _ => rfl
  | c, x :: r, 0, _ => rfl
  | c, [], i + 1, h => absurd h (by simp)
  | c, x :: r, i + 1, h => scan_get (nextCheck c x) r i (by simpa using h)
theorem at_last {xs ys : Row} {z : Int} (h : xs = ys ++ [z]) : atI (iV xs) (-1) = some (V.int z) := by
  subst h
  rw [iV_snoc]
  have e : ixN (iV ys ++ [V.int z]).length (-1) = some ys.length := by
    rw [List.length_append, iV_length]
    unfold ixN
    rw [if_neg (by decide)]
    show (if _ then some _ else none) = _
    rw [if_pos (by simp; omega)]
    congr 1
    simp
    omega
  unfold atI
  rw [e]
  show (iV ys ++ [V.int z])[ys.length]? = _
  rw [List.getElem?_append_right (by rw [iV_length]; omega), iV_length, Nat.sub_self]
  rfl
theorem map_gI {α : Type} (f : Int → α) (r : Row) : ((List.range r.length).map fun i : Nat => f (gI r (i : Int))) = r.map f := by
  refine List.ext_getElem? fun i => ?_
  rw [List.getElem?_map, List.getElem?_map]
  by_cases h : i < r.length
  · rw [List.getElem?_range h, List.getElem?_eq_getElem h]
    show some (f (gI r (i : Int))) = _
    rw [gI_nat (List.getElem?_eq_getElem h)]
    rfl
  · rw [List.getElem?_eq_none (by rw [List.length_range]; omega), List.getElem?_eq_none (by omega)]
    rfl
theorem ints_iV {n : Nat} {f : Nat → Int} : ((List.range n).map fun j : Nat => V.int (f j)) = iV ((List.range n).map f) := by
  unfold iV
  rw [List.map_map]
  rfl
def spChecks (K : PySem.W.Frag) : Sp := fun vs H Q _ => ∃ (a : Addr) (row : Row), vs = [.ref a] ∧ SqL K H a (iV row) ∧ row.length ≤ 16000000 ∧ ∀ H' r ts, Ext H H' → H r = none → H' r = some (.lst (ts.map V.ref)) → RowsIn H' ts ((chk row).map checkBytes) → (∀ t, t ∈ ts → H t = none) → Q (.ref r) H'
section
variable {P : Program} {w : World} {K : PySem.W.Frag} {mg : Str → Option Value} {base : Heap}
theorem ok_law_bits (T : Tx K mg) : DefOk P w K mg base 1 (He.ga K "_law_bits") ["_law_row_here", "_law_size"] (spBits K) := by
  refine def_ok (N := n_law_bits) (fn_law_bits T) sc_law_bits (fun _ _ _ _ _ _ us hl => match us, hl with | [_, _], _ => rfl) (fun vs H Q E h => ?_) (fun cdv A outer s H vs Q E hr h => ?_)
  · obtain ⟨a, row, n, rfl, _⟩ := h
    rfl
  · obtain ⟨a, row, n, rfl, hs, h8, hz, q⟩ := h
    refine ⟨_, [_, _, _, _, _], (pss_cons (ps_set (i := 2) sc_law_bits.nd rfl (Or.inl rfl) (pe_lst pa_nil))
      (pss_cons (ps_for (passes_of rfl) rfl (pi_list (pv 0)) (pg_name (i := 3) sc_law_bits.nd rfl (Or.inr rfl)) (pss_one (ps_expr (pe_bm PySem.F.plainAttrs_list PySem.F.slot_list_extend PySem.F.type_list_extend mt_extend (pv 2) (pa_cons (pe_lc (own := [("_law_k", 4)]) (g := gName 4) (tt := tYes) rfl sc_law_bits.nd (pi_range1 rfl (f_range T) (pa_cons (pv 1) pa_nil)) (blkOk_by (own := [("_law_k", 4)]) (N := n_law_bits) (sc := defScope s_law_bits) (by decide +kernel)) (fun _ _ _ _ _ => pg_name (i := 4) sc_law_bits.nd rfl (Or.inl rfl)) (fun _ _ _ _ _ => pts_nil) (fun _ _ _ _ _ => (pe_op op_mod (pe_op op_fdivN (pv 3) (pe_ix (ix_listK K rfl) (pe_lst (pa_cons pe_int (pa_cons pe_int (pa_cons pe_int (pa_cons pe_int (pa_cons pe_int (pa_cons pe_int (pa_cons pe_int (pa_cons pe_int pa_nil))))))))) (pe_op op_sub (pe_op op_sub (pv 1) pe_int) (pv 4)) (fun _ _ => rfl))) pe_int))) pa_nil)))))
      (pss_one (ps_ret (pv 2))))), rfl, ?_⟩
    try dsimp only [cxOf]
    wtm_at "x"
    intro f hf
    wtm_at "x"
    refine x_rForL (SqL.ext (Only'.put0 Only'.refl hf) hs) (fun i σ H' => ∃ v3 v4, σ = [some (.ref a), some (.int (n : Int)), some (.ref f), v3, v4] ∧ H' f = some (.lst (iV (bitsOf n (row.take i)))) ∧ Ext H H') ⟨_, _, rfl, upd_same, Only'.put0 Only'.refl hf⟩ (fun i σ H' _ p => ?_) ?_ ?_
    · obtain ⟨v3, v4, _, _, e⟩ := p
      exact SqL.ext e hs
    · rintro i x σ H' hi ⟨v3, v4, rfl, h1, e⟩
      obtain ⟨z, hz1, rfl⟩ := iV_get hi
      wtm_at "x"
      refine x_rLcR (k := n) (fun j => V.int (z / gI powersT ((n : Int) - 1 - (j : Int)) % 2)) rfl (by omega) (fun _ => rfl) (fun j H1 hj e1 Q' k => ?_) fun l H1 hl e1 h2 => ?_
      · wtm_at "x"
        intro p hp
        wtm_at "x"
        have hpos := pw_pos (m := (n : Int) - 1 - (j : Int)) (by omega) (by omega)
        refine x_ixL (SqL.of (show _ = some (.lst (iV powersT)) from upd_same)) (gI_at (by omega) (by show _ < (8 : Int); omega)) ?_
        refine x_rI ⟨by omega, by have := pw_le (m := (n : Int) - 1 - (j : Int)) (by omega) (by omega); omega⟩ ?_
        wtm_at "x"
        rw [fdiv_pos (by omega)]
        exact k _ (Only'.put0 Only'.refl hp)
      · have eb : (List.range n).map (fun j : Nat => V.int (z / gI powersT ((n : Int) - 1 - (j : Int)) % 2)) = iV (bits1 n z) := by
          unfold iV bits1
          rw [List.map_map]
          rfl
        rw [eb] at h2
        have hil : i < row.length := (List.getElem?_eq_some_iff.mp hz1).1
        have hb : bitsOf n (row.take (i + 1)) = bitsOf n (row.take i) ++ bits1 n z := by
          rw [take_more hz1, bitsOf_app, bitsOf_cons]
          show _ ++ (_ ++ []) = _
          rw [List.append_nil]
        have hm : n * (i + 1) ≤ n * row.length := Nat.mul_le_mul_left n hil
        have hlen : (bitsOf n (row.take (i + 1))).length ≤ 16777216 := by
          rw [bitsOf_len, List.length_take, Nat.min_eq_left hil]
          show n * (i + 1) ≤ _
          omega
        rw [hb, List.length_append] at hlen
        wtm_at "x"
        refine x_extend (e1 f _ h1 (by simp)) h2 (by rw [iV_length, iV_length, sizeLine_eq]; exact hlen) ?_
        wtm_at "x"
        refine ⟨_, _, rfl, ?_, (e.trans e1).put0 hf⟩
        rw [hb, iV_append, upd_same]
    · rintro σ H' ⟨v3, v4, rfl, h1, e⟩
      rw [iV_length, List.take_length] at h1
      wtm_at "x"
      exact q H' f e hf h1
theorem ok_law_groups (T : Tx K mg) : DefOk P w K mg base 1 (He.ga K "_law_groups") ["_law_bits_here", "_law_size"] (spGroups K) := by
  refine def_ok (N := n_law_groups) (fn_law_groups T) sc_law_groups (fun _ _ _ _ _ _ us hl => match us, hl with | [_, _], _ => rfl) (fun vs H Q E h => ?_) (fun cdv A outer s H vs Q E hr h => ?_)
  · obtain ⟨a, row, n, rfl, _⟩ := h
    rfl
  · obtain ⟨a, row, n, rfl, hs, h1, h8, hz, q⟩ := h
    refine ⟨_, [_, _, _, _, _, _], (pss_cons (ps_set (i := 2) sc_law_groups.nd rfl (Or.inl rfl) (pe_lst pa_nil))
      (pss_cons (ps_for (passes_of rfl) rfl (pi_range1 rfl (f_range T) (pa_cons (pe_op op_fdivN (pe_callB call_lenS rfl (f_len T) (by decide +kernel) (pa_cons (pv 0) pa_nil)) (pv 1)) pa_nil)) (pg_name (i := 3) sc_law_groups.nd rfl (Or.inl rfl)) (pss_cons (ps_set (i := 4) sc_law_groups.nd rfl (Or.inr rfl) (pe_slice sl_list (pv 0) (po_some (pe_op op_mul (pv 1) (pv 3))) (po_some (pe_op op_add (pe_op op_mul (pv 1) (pv 3)) (pv 1)))))
      (pss_one (ps_expr (pe_bm PySem.F.plainAttrs_list PySem.F.slot_list_append PySem.F.type_list_append mt_append (pv 2) (pa_cons (pe_callB (cr_sum rfl) rfl (f_sum T) (by decide +kernel) (pa_cons (pe_lc (own := [("_law_j", 5)]) (g := gName 5) (tt := tYes) rfl sc_law_groups.nd (pi_range1 rfl (f_range T) (pa_cons (pv 1) pa_nil)) (blkOk_by (own := [("_law_j", 5)]) (N := n_law_groups) (sc := defScope s_law_groups) (by decide +kernel)) (fun _ _ _ _ _ => pg_name (i := 5) sc_law_groups.nd rfl (Or.inl rfl)) (fun _ _ _ _ _ => pts_nil) (fun _ _ _ _ _ => (pe_op op_mul (pe_ix (ix_listK K rfl) (pv 4) (pv 5) (fun _ _ => rfl)) (pe_ix (ix_listK K rfl) (pe_lst (pa_cons pe_int (pa_cons pe_int (pa_cons pe_int (pa_cons pe_int (pa_cons pe_int (pa_cons pe_int (pa_cons pe_int (pa_cons pe_int pa_nil))))))))) (pe_op op_sub (pe_op op_sub (pv 1) pe_int) (pv 5)) (fun _ _ => rfl))))) pa_nil)) pa_nil))))))
      (pss_one (ps_ret (pv 2))))), rfl, ?_⟩
    try dsimp only [cxOf]
    wtm_at "x"
    intro f hf
    wtm_at "x"
    refine x_len (Or.inl (SqL.ext (Only'.put0 Only'.refl hf) hs)) ?_
    wtm_at "x"
    refine x_rForR1 (k := row.length / n) (by rw [iV_length, fdiv_pos (by omega)]; rfl) (by have := Nat.div_le_self row.length n; omega) (fun i σ H' => ∃ v3 v4 v5, σ = [some (.ref a), some (.int (n : Int)), some (.ref f), v3, v4, v5] ∧
        H' f = some (.lst (iV ((List.range i).map fun k : Nat => grpOf n ((row.drop (n * k)).take n)))) ∧ Ext H H') ⟨_, _, _, rfl, upd_same, Only'.put0 Only'.refl hf⟩ ?_ ?_
    · rintro i σ H' hi ⟨v3, v4, v5, rfl, hf1, e⟩
      have hd := Nat.div_mul_le_self row.length n
      have hi2 : (i + 1) * n ≤ row.length / n * n := Nat.mul_le_mul_right n hi
      have hi3 : n * i + n ≤ row.length := by
        rw [Nat.add_mul, Nat.one_mul, Nat.mul_comm] at hi2
        omega
      wtm_at "x"
      refine x_slL (SqL.ext e hs) fun l hl => ?_
      have hcut : cutV (iV row) (some ((n : Int) * (i : Int))) (some ((n : Int) * (i : Int) + (n : Int))) = iV ((row.drop (n * i)).take n) := by
        have e1 : n * i + n - n * i = n := by omega
        rw [cut_both (i := n * i) (k := n * i + n) (by omega) (by omega), e1]
        unfold iV
        rw [← List.map_drop, ← List.map_take]
      rw [hcut]
      have hg : ((row.drop (n * i)).take n).length = n := by
        rw [List.length_take, List.length_drop]
        omega
      generalize hgg : (row.drop (n * i)).take n = g at *
      have hf2 : (upd H' l (.lst (iV g))) f = some (.lst (iV ((List.range i).map fun k : Nat => grpOf n ((row.drop (n * k)).take n)))) := upd_get (ne_of_none hf1 hl) hf1
      have e2 : Ext H (upd H' l (.lst (iV g))) := e.new hl
      have hl2 : (upd H' l (.lst (iV g))) l = some (.lst (iV g)) := upd_same
      generalize upd H' l (.lst (iV g)) = H2 at *
      wtm_at "x"
      refine x_rLcR (k := n) (fun j => V.int (gI g (j : Int) * gI powersT ((n : Int) - 1 - (j : Int)))) rfl (by omega) (fun _ => rfl) (fun j H3 hj e3 Q' k => ?_) fun l3 H3 hl3 e3 h3 => ?_
      · wtm_at "x"
        refine x_ixL (SqL.ext e3 (SqL.of hl2)) (gI_at (by omega) (by omega)) ?_
        wtm_at "x"
        intro p hp
        wtm_at "x"
        have hpos := pw_pos (m := (n : Int) - 1 - (j : Int)) (by omega) (by omega)
        have hle := pw_le (m := (n : Int) - 1 - (j : Int)) (by omega) (by omega)
        refine x_ixL (SqL.of (show _ = some (.lst (iV powersT)) from upd_same)) (gI_at (by omega) (by show _ < (8 : Int); omega)) ?_
        refine x_rI (Or.inr ⟨by omega, by omega⟩) ?_
        wtm_at "x"
        exact k _ (Only'.put0 Only'.refl hp)
      · rw [ints_iV] at h3
        wtm_at "x"
        refine x_sum (SqL.of h3) ?_
        wtm_at "x"
        refine x_append (e3 f _ hf2 (by simp)) (by rw [iV_length, List.length_map, List.length_range, sizeLine_eq]; have := Nat.div_le_self row.length n; omega) ?_
        wtm_at "x"
        refine ⟨_, _, _, rfl, ?_, (e2.trans e3).put0 hf⟩
        rw [upd_same, List.range_succ, List.map_append, iV_append, List.map_cons, List.map_nil, hgg]
        rfl
    · rintro σ H' ⟨v3, v4, v5, rfl, hf1, e⟩
      wtm_at "x"
      exact q H' f e hf hf1
theorem ok_law_signs (T : Tx K mg) : DefOk P w K mg base 1 (He.ga K "_law_signs") [] (spSigns K) := by
  refine def_ok (N := n_law_signs) (fn_law_signs T) sc_law_signs (fun _ _ _ _ _ _ us hl => match us, hl with | [], _ => rfl) (fun vs H Q E h => ?_) (fun cdv A outer s H vs Q E hr h => ?_)
  · obtain ⟨rfl, _⟩ := h
    rfl
  · obtain ⟨rfl, q⟩ := h
    refine ⟨_, [], (pss_one (ps_ret (pe_op op_cat (pe_op op_cat (pe_op op_cat (pe_op op_cat (pe_lst (pa_cons pe_int pa_nil)) (pe_listRg rfl rfl (f_list T) (prg_2 rfl (f_range T) pe_int pe_int))) (pe_listRg rfl rfl (f_list T) (prg_2 rfl (f_range T) pe_int pe_int))) (pe_lst (pa_cons pe_int pa_nil))) (pe_listRg rfl rfl (f_list T) (prg_2 rfl (f_range T) pe_int pe_int))))), rfl, ?_⟩
    try dsimp only [cxOf]
    wtm_at "x"
    intro p hp
    refine x_lstRg2 ?_
    wtm_at "x"
    refine ⟨48, 58, rfl, rfl, RgOk.of_le (by decide) (by decide) (by decide) (by decide), fun p2 hp2 => ?_⟩
    refine x_cat (upd_get (ne_of_none upd_same hp2) upd_same) upd_same (by decide +kernel) fun p3 hp3 => ?_
    refine x_lstRg2 ?_
    wtm_at "x"
    refine ⟨65, 91, rfl, rfl, RgOk.of_le (by decide) (by decide) (by decide) (by decide), fun p4 hp4 => ?_⟩
    refine x_cat (upd_get (ne_of_none upd_same hp4) upd_same) upd_same (by decide +kernel) fun p5 hp5 => ?_
    wtm_at "x"
    intro p6 hp6
    refine x_cat (upd_get (ne_of_none upd_same hp6) upd_same) upd_same (by decide +kernel) fun p7 hp7 => ?_
    refine x_lstRg2 ?_
    wtm_at "x"
    refine ⟨97, 123, rfl, rfl, RgOk.of_le (by decide) (by decide) (by decide) (by decide), fun p8 hp8 => ?_⟩
    refine x_cat (upd_get (ne_of_none upd_same hp8) upd_same) upd_same (by decide +kernel) fun p9 hp9 => ?_
    refine q _ p9 (((((((((Only'.put0 Only'.refl hp).new hp2).new hp3).new hp4).new hp5).new hp6).new hp7).new hp8).new hp9) ?_ ?_
    · exact (upd_none (upd_none (upd_none (upd_none (upd_none (upd_none (upd_none (upd_none hp9).2).2).2).2).2).2).2).2
    · exact upd_same
theorem ok_law_checks (T : Tx K mg) : DefOk P w K mg base 1 (He.ga K "_law_checks") ["_law_row_here"] (spChecks K) := by
  refine def_ok (N := n_law_checks) (fn_law_checks T) sc_law_checks (fun _ _ _ _ _ _ us hl => match us, hl with | [_], _ => rfl) (fun vs H Q E h => ?_) (fun cdv A outer s H vs Q E hr h => ?_)
  · obtain ⟨a, row, rfl, _⟩ := h
    rfl
  · obtain ⟨a, row, rfl, hs, hz, q⟩ := h
    refine ⟨_, [_, _, _, _], (pss_cons (ps_set (i := 1) sc_law_checks.nd rfl (Or.inl rfl) (pe_lst (pa_cons pe_int pa_nil)))
      (pss_cons (ps_for (passes_of rfl) rfl (pi_list (pv 0)) (pg_name (i := 2) sc_law_checks.nd rfl (Or.inl rfl)) (pss_one (ps_expr (pe_bm PySem.F.plainAttrs_list PySem.F.slot_list_append PySem.F.type_list_append mt_append (pv 1) (pa_cons (pe_op op_mod (pe_op op_add (pe_op op_add (pe_op op_mul (pe_ix ix_list (pv 1) (pe_un un_neg pe_int) (fun _ _ => rfl)) pe_int) (pv 2)) pe_int) pe_int) pa_nil)))))
      (pss_one (ps_ret (pe_lc (own := [("_law_check", 3)]) (g := gName 3) (tt := tYes) rfl sc_law_checks.nd (pi_list (pv 1)) (blkOk_by (own := [("_law_check", 3)]) (N := n_law_checks) (sc := defScope s_law_checks) (by decide +kernel)) (fun _ _ _ _ _ => pg_name (i := 3) sc_law_checks.nd rfl (Or.inl rfl)) (fun _ _ _ _ _ => pts_nil) (fun _ _ _ _ _ => (pe_lst (pa_cons (pe_op op_fdiv (pv 3) pe_int) (pa_cons (pe_op op_mod (pv 3) pe_int) pa_nil))))))))), rfl, ?_⟩
    try dsimp only [cxOf]
    wtm_at "x"
    intro f hf
    wtm_at "x"
    refine x_rForL (SqL.ext (Only'.put0 Only'.refl hf) hs) (fun i σ H' => ∃ v2 v3, σ = [some (.ref a), some (.ref f), v2, v3] ∧ H' f = some (.lst (iV (chk (row.take i)))) ∧ Ext H H') ⟨_, _, rfl, upd_same, Only'.put0 Only'.refl hf⟩ (fun i σ H' _ p => ?_) ?_ ?_
    · obtain ⟨v2, v3, _, _, e⟩ := p
      exact SqL.ext e hs
    · rintro i x σ H' hi ⟨v2, v3, rfl, h1, e⟩
      obtain ⟨z, hz1, rfl⟩ := iV_get hi
      have hil : i < row.length := (List.getElem?_eq_some_iff.mp hz1).1
      obtain ⟨ys, ey⟩ := scan_last 0 (row.take i)
      wtm_at "x"
      refine x_ixL (SqL.of h1) (at_last ey) ?_
      wtm_at "x"
      refine x_append h1 (by unfold chk; rw [iV_length, scan_len, List.length_take, sizeLine_eq]; omega) ?_
      wtm_at "x"
      refine ⟨_, _, rfl, ?_, e.put0 hf⟩
      unfold chk
      rw [upd_same, take_more hz1, scan_snoc, iV_snoc]
      rfl
    · rintro σ H' ⟨v2, v3, rfl, h1, e⟩
      rw [iV_length, List.take_length] at h1
      wtm_at "x"
      refine x_rLcLN (fun t => H t = none) (fun i => checkBytes (gI (chk row) (i : Int))) (SqL.of h1) (by unfold chk; rw [iV_length, scan_len]; omega) (fun _ => rfl) (fun i x H1 Dl hi e1 hD hne Q' k => ?_) fun p ts H1 hp e1 h2 h3 _ h5 => ?_
      · obtain ⟨z, hz1, rfl⟩ := iV_get hi
        wtm_at "x"
        intro t ht
        refine k t _ (Only'.put0 Only'.refl ht) ?_ (hne t ht) ((e.trans e1).free ht)
        rw [upd_same, gI_nat hz1]
        rfl
      · refine q H1 p ts (e.trans e1) (e.free hp) h2 ?_ h5
        have e2 : ((List.range (iV (chk row)).length).map fun i : Nat => checkBytes (gI (chk row) (i : Int))) = (chk row).map checkBytes := by
          rw [iV_length]
          exact map_gI checkBytes (chk row)
        rw [e2] at h3
        exact h3
end
end Flow

namespace Flow
open PySem PySem.Spec PyProof.Rows L2
local macro_rules | `(tactic| wtm_at "x1") => `(tactic| first
  | (with_reducible refine Flow.x_lenSet ?_)
  | (with_reducible refine Flow.x_dget2 ?_))
/-! ### the law's own writing: runs, front, pieces -/
/-- rows that are told -/
def ToldR (K : PySem.W.Frag) (H : Hp) (rows : List Row) (Q : VK) : Prop := ∀ H' r ts, Ext H H' → H r = none → H' r = some (.lst (ts.map V.ref)) → RowsIn H' ts rows → (∀ t, t ∈ ts → H t = none) → Q (.ref r) H'
def spWrite (s0 : WSt) (K : PySem.W.Frag) : Sp := fun vs H Q _ => ∃ (a : Addr) (row : Row), vs = [.ref a] ∧ SqL K H a (iV row) ∧ Bys row ∧ row.length ≤ 4000 ∧ ToldR K H (outs s0 row) Q
def chunkOr (c : Bool) : Str := if c then "chunks" else "checks"
def layOr (c : Bool) (n : Nat) : Lay := if c then .chunks (n : Int) else .checks (n : Int)
def spPieces (K : PySem.W.Frag) : Sp := fun vs H Q _ => ∃ (a : Addr) (row : Row) (c : Bool) (n : Nat), vs = [.str (chunkOr c), .int (n : Int), .ref a] ∧ SqL K H a (iV row) ∧ Bys row ∧ row.length ≤ 4000 ∧ 1 ≤ n ∧ n ≤ 255 ∧ ToldR K H (outs (newW (layOr c n)) row) Q
/-- what stands behind i turns -/
structure Acc (H0 : Hp) (f : Addr) (g : Nat → Row) (i : Nat) (H : Hp) (ts : List Addr) : Prop where
  here : H f = some (.lst (ts.map V.ref))
  rows : RowsIn H ts ((List.range i).map g)
  ne : ∀ t, t ∈ ts → t ≠ f
  new : ∀ t, t ∈ ts → H0 t = none
  ext : Ext H0 H
theorem Acc.to {H0 H H' : Hp} {f : Addr} {g : Nat → Row} {i : Nat} {ts : List Addr} (c : Acc H0 f g i H ts) (e : Ext H H') : Acc H0 f g i H' ts := ⟨e f _ c.here (by simp), c.rows.ext e, c.ne, c.new, c.ext.trans e⟩
theorem Acc.next {H0 H : Hp} {f t : Addr} {g : Nat → Row} {i : Nat} {ts : List Addr} (c : Acc H0 f g i H ts) (hf : H0 f = none) (h : H t = some (.lst (iV (g i)))) (hn : t ≠ f) (h0 : H0 t = none) : Acc H0 f g (i + 1) (upd H f (.lst (ts.map V.ref ++ [V.ref t]))) (ts ++ [t]) := by
  refine ⟨?_, ?_, ne_snoc c.ne hn, all_snoc c.new h0, c.ext.put0 hf⟩
  · rw [upd_same, List.map_append]
    rfl
  · rw [List.range_succ, List.map_append]
    exact (c.rows.snoc h).put (ne_snoc c.ne hn)
theorem Acc.few {H0 H : Hp} {f : Addr} {g : Nat → Row} {i : Nat} {ts : List Addr} (c : Acc H0 f g i H ts) : ts.length = i := by rw [c.rows.len, List.length_map, List.length_range]
theorem Acc.start {H0 H : Hp} {f : Addr} {g : Nat → Row} (h : H f = some (.lst [])) (e : Ext H0 H) : Acc H0 f g 0 H [] := ⟨h, RowsIn.nil, (fun _ h => nomatch h), (fun _ h => nomatch h), e⟩
section
variable {P : Program} {w : World} {K : PySem.W.Frag} {mg : Str → Option Value} {base : Heap}
theorem ok_law_write_runs (T : Tx K mg) : DefOk P w K mg base 1 (He.ga K "_law_write_runs") ["_law_row_here"] (spWrite (.runs 0 0) K) := by
  refine def_ok (N := n_law_write_runs) (fn_law_write_runs T) sc_law_write_runs (fun _ _ _ _ _ _ us hl => match us, hl with | [_], _ => rfl) (fun vs H Q E h => ?_) (fun cdv A outer s H vs Q E hr h => ?_)
  · obtain ⟨a, row, rfl, _⟩ := h
    rfl
  · obtain ⟨a, row, rfl, hs, hby, hz, q⟩ := h
    refine ⟨_, [_, _, _, _, _], (pss_cons (ps_set (i := 1) sc_law_write_runs.nd rfl (Or.inl rfl) (pe_lst pa_nil))
      (pss_cons (ps_set (i := 2) sc_law_write_runs.nd rfl (Or.inl rfl) pe_int)
      (pss_cons (ps_for (passes_of rfl) rfl (pi_range1 rfl (f_range T) (pa_cons (pe_callB call_lenS rfl (f_len T) (by decide +kernel) (pa_cons (pv 0) pa_nil)) pa_nil)) (pg_name (i := 3) sc_law_write_runs.nd rfl (Or.inl rfl)) (pss_cons (ps_set (i := 4) sc_law_write_runs.nd rfl (Or.inl rfl) (pe_lst pa_nil))
      (pss_cons (ps_if (PW.pt (pw_and (pt_cmpR op_gt (pv 2) pe_int (nomark _)) (pw_and1 (pt_cmpR op_ne (pe_ix ix_list (pv 0) (pv 3) (fun _ _ => rfl)) (pe_ix ix_list (pv 0) (pe_op op_sub (pv 3) pe_int) (fun _ _ => rfl)) (nomark _))))) (pss_cons (ps_set (i := 4) sc_law_write_runs.nd rfl (Or.inl rfl) (pe_lst (pa_cons (pv 2) (pa_cons (pe_ix ix_list (pv 0) (pe_op op_sub (pv 3) pe_int) (fun _ _ => rfl)) pa_nil))))
      (pss_one (ps_set (i := 2) sc_law_write_runs.nd rfl (Or.inl rfl) pe_int))) pss_nil)
      (pss_cons (ps_set (i := 2) sc_law_write_runs.nd rfl (Or.inl rfl) (pe_op op_add (pv 2) pe_int))
      (pss_cons (ps_if (pt_cmpR op_eq (pv 2) pe_int (nomark _)) (pss_cons (ps_set (i := 4) sc_law_write_runs.nd rfl (Or.inl rfl) (pe_op op_cat (pv 4) (pe_lst (pa_cons (pv 2) (pa_cons (pe_ix ix_list (pv 0) (pv 3) (fun _ _ => rfl)) pa_nil)))))
      (pss_one (ps_set (i := 2) sc_law_write_runs.nd rfl (Or.inl rfl) pe_int))) pss_nil)
      (pss_one (ps_expr (pe_bm PySem.F.plainAttrs_list PySem.F.slot_list_append PySem.F.type_list_append mt_append (pv 1) (pa_cons (pv 4) pa_nil)))))))))
      (pss_one (ps_ret (pe_op op_cat (pv 1) (pe_lst (pa_cons (pe_ifExp (pt_cmpR op_gt (pv 2) pe_int (nomark _)) (pe_lst (pa_cons (pv 2) (pa_cons (pe_ix ix_list (pv 0) (pe_un un_neg pe_int) (fun _ _ => rfl)) pa_nil))) (pe_lst pa_nil)) pa_nil)))))))), rfl, ?_⟩
    try dsimp only [cxOf]
    wtm_at "x"
    intro f hf
    wtm_at "x"
    refine x_len (Or.inl (SqL.ext (Only'.put0 Only'.refl hf) hs)) ?_
    rw [iV_length]
    wtm_at "x"
    refine x_rForR1 (k := row.length) rfl (by omega) (fun i σ H' => ∃ (many byte : Int) (ts : List Addr) (v3 v4 : Option V), σ = [some (.ref a), some (.ref f), some (.int many), v3, v4] ∧ Acc H f (outAt (.runs 0 0) row) i H' ts ∧
        stAt (.runs 0 0) row i = .runs many byte) ⟨0, 0, [], _, _, rfl, Acc.start upd_same (Only'.put0 Only'.refl hf), rfl⟩ ?_ ?_
    · rintro i σ H' hi ⟨many, byte, ts, v3, v4, rfl, c, hst⟩
      obtain ⟨many', byte', e', m0, m1, hprev, hz0⟩ := runs_st row i (by omega)
      rw [hst] at e'
      injection e' with ea eb
      subst ea eb
      have hs1 := SqL.ext c.ext hs
      have hlen := c.few
      have hsz : (ts.map V.ref).length < sizeLine := by
        rw [List.length_map, hlen, sizeLine_eq]
        omega
      wtm_at "x"
      intro p n_p
      have e_p : Ext H' (upd H' p (.lst [])) := Only'.put0 Only'.refl n_p
      have h_p : (upd H' p (.lst [])) p = some (.lst []) := upd_same
      generalize (upd H' p (.lst [])) = H1 at *
      have c1 := c.to e_p
      have hpf : p ≠ f := Ne.symm (ne_of_none c.here n_p)
      wtm_at "x"
      refine x_andJ (a := decide (many > 0)) (b := decide (gI row (i : Int) ≠ gI row ((i - 1 : Nat) : Int))) (fun B' k => ?_) (fun h1 B' k => ?_) (fun h1 h2 => ?_) (fun h12 => ?_)
      · wtm_at "x"
        exact k
      · have h1' : many > 0 := of_decide_eq_true h1
        have hi0 : 0 < i := Nat.pos_of_ne_zero fun z => by
          have := hz0 z
          omega
        wtm_at "x"
        refine x_ixL (SqL.ext e_p hs1) (gI_at (by omega) (by omega)) ?_
        wtm_at "x"
        have ei : (i : Int) - 1 = ((i - 1 : Nat) : Int) := by omega
        rw [ei]
        refine x_ixL (SqL.ext e_p hs1) (gI_at (by omega) (by omega)) ?_
        wtm_at "x"
        rw [← decide_not] <;> exact k
      · refine iteT ?_
        have h1' : many > 0 := of_decide_eq_true h1
        have h2' : gI row (i : Int) ≠ gI row ((i - 1 : Nat) : Int) := of_decide_eq_true h2
        have hi0 : 0 < i := Nat.pos_of_ne_zero fun z => by
          have := hz0 z
          omega
        have hbyte := hprev hi0
        have ei : (i : Int) - 1 = ((i - 1 : Nat) : Int) := by omega
        have ho : outAt (.runs 0 0) row i = [many, byte] := by
          unfold outAt
          rw [hst]
          show (takeRuns _ _ _).1 = _
          unfold takeRuns
          rw [if_pos ⟨h1', by rw [hbyte]; exact h2'⟩]
        have hn : stAt (.runs 0 0) row (i + 1) = .runs 1 (gI row (i : Int)) := by
          rw [stAt_succ hi, hst]
          show (takeRuns _ _ _).2 = _
          unfold takeRuns
          rw [if_pos ⟨h1', by rw [hbyte]; exact h2'⟩]
        wtm_at "x"
        rw [ei]
        refine x_ixL (SqL.ext e_p hs1) (gI_at (by omega) (by omega)) ?_
        wtm_at "x"
        intro p2 n_p2
        have e_p2 : Ext H1 (upd H1 p2 (.lst [V.int many, V.int (gI row ((i - 1 : Nat) : Int))])) := Only'.put0 Only'.refl n_p2
        have h_p2 : (upd H1 p2 (.lst [V.int many, V.int (gI row ((i - 1 : Nat) : Int))])) p2 = some (.lst [V.int many, V.int (gI row ((i - 1 : Nat) : Int))]) := upd_same
        generalize (upd H1 p2 (.lst [V.int many, V.int (gI row ((i - 1 : Nat) : Int))])) = H2 at *
        have c2 := c1.to e_p2
        have hpf2 : p2 ≠ f := Ne.symm (ne_of_none c1.here n_p2)
        wtm_at "x"
        refine ite_d (fun z => absurd z (by decide)) fun _ => ?_
        have hh := c2.here
        wtm_at "x"
        exact ⟨_, _, _, _, _, rfl, c2.next hf (by rw [h_p2, ho, hbyte]; rfl) hpf2 (c1.ext.free n_p2), hn⟩
      · refine iteF ?_
        have hc : ¬ (many > 0 ∧ gI row (i : Int) ≠ byte) := fun z => by
          have hi0 : 0 < i := Nat.pos_of_ne_zero fun y => by
            have := hz0 y
            omega
          rw [hprev hi0] at z
          rw [decide_eq_true z.1, decide_eq_true z.2] at h12
          cases h12
        wtm_at "x"
        refine ite_d (fun h255 => ?_) fun h255 => ?_
        · have ho : outAt (.runs 0 0) row i = [255, gI row (i : Int)] := by
            unfold outAt
            rw [hst]
            show (takeRuns _ _ _).1 = _
            unfold takeRuns
            rw [if_neg hc, if_pos h255]
          have hn : stAt (.runs 0 0) row (i + 1) = .runs 0 (gI row (i : Int)) := by
            rw [stAt_succ hi, hst]
            show (takeRuns _ _ _).2 = _
            unfold takeRuns
            rw [if_neg hc, if_pos h255]
          wtm_at "x"
          refine x_ixL (SqL.ext e_p hs1) (gI_at (by omega) (by omega)) ?_
          wtm_at "x"
          intro p2 n_p2
          have e_p2 : Ext H1 (upd H1 p2 (.lst [V.int (many + 1), V.int (gI row (i : Int))])) := Only'.put0 Only'.refl n_p2
          have h_p2 : (upd H1 p2 (.lst [V.int (many + 1), V.int (gI row (i : Int))])) p2 = some (.lst [V.int (many + 1), V.int (gI row (i : Int))]) := upd_same
          generalize (upd H1 p2 (.lst [V.int (many + 1), V.int (gI row (i : Int))])) = H2 at *
          refine x_cat (e_p2 p _ h_p (by simp)) h_p2 (by rw [sizeLine_eq]; simp) ?_
          intro p3 n_p3
          have e_p3 : Ext H2 (upd H2 p3 (.lst ([] ++ [V.int (many + 1), V.int (gI row (i : Int))]))) := Only'.put0 Only'.refl n_p3
          have h_p3 : (upd H2 p3 (.lst ([] ++ [V.int (many + 1), V.int (gI row (i : Int))]))) p3 = some (.lst ([] ++ [V.int (many + 1), V.int (gI row (i : Int))])) := upd_same
          generalize (upd H2 p3 (.lst ([] ++ [V.int (many + 1), V.int (gI row (i : Int))]))) = H3 at *
          have c2 := (c1.to e_p2).to e_p3
          have hpf3 : p3 ≠ f := Ne.symm (ne_of_none (c1.to e_p2).here n_p3)
          have hh := c2.here
          wtm_at "x"
          exact ⟨_, _, _, _, _, rfl, c2.next hf (by rw [h_p3, ho, h255]; rfl) hpf3 ((c1.to e_p2).ext.free n_p3), hn⟩
        · have ho : outAt (.runs 0 0) row i = [] := by
            unfold outAt
            rw [hst]
            show (takeRuns _ _ _).1 = _
            unfold takeRuns
            rw [if_neg hc, if_neg h255]
          have hn : stAt (.runs 0 0) row (i + 1) = .runs (many + 1) (gI row (i : Int)) := by
            rw [stAt_succ hi, hst]
            show (takeRuns _ _ _).2 = _
            unfold takeRuns
            rw [if_neg hc, if_neg h255]
          have hh := c1.here
          wtm_at "x"
          exact ⟨_, _, _, _, _, rfl, c1.next hf (by rw [h_p, ho]; rfl) hpf (c.ext.free n_p), hn⟩
    · rintro σ H' ⟨many, byte, ts, v3, v4, rfl, c, hst⟩
      obtain ⟨many', byte', e', m0, m1, hprev, hz0⟩ := runs_st row row.length (Nat.le_refl _)
      rw [hst] at e'
      injection e' with ea eb
      subst ea eb
      have hs1 := SqL.ext c.ext hs
      have hlen := c.few
      have hsz : (ts.map V.ref).length < sizeLine := by
        rw [List.length_map, hlen, sizeLine_eq]
        omega
      have fin : ∀ (x : Row) (H2 : Hp) (p : Addr), wend (.runs many byte) = x → Ext H' H2 → H2 p = some (.lst (iV x)) → H p = none → ∀ p2, H2 p2 = none → rCat (.ref f) (.ref p2) (upd H2 p2 (.lst [V.ref p])) Q := by
        intro x H2 p hx e2 hp hpn p2 hp2
        refine x_cat (keep (e2 f _ c.here (by simp)) hp2) upd_same (by rw [List.length_map, hlen, sizeLine_eq]; simp; omega) fun r hr => ?_
        have e3 : Ext H' (upd (upd H2 p2 (.lst [V.ref p])) r (.lst (ts.map V.ref ++ [V.ref p]))) := (e2.new hp2).new hr
        refine q _ r (ts ++ [p]) (c.ext.trans e3) (c.ext.free (e2.free (upd_none hr).2)) (by rw [upd_same, List.map_append]; rfl) ?_ (all_snoc c.new hpn)
        rw [outs_at, hst, hx]
        exact (c.rows.ext e3).snoc (keep (keep hp hp2) hr)
      wtm_at "x"
      refine ite_d (fun hm => ?_) fun hm => ?_
      · have hi0 : 0 < row.length := Nat.pos_of_ne_zero fun z => by
          have := hz0 z
          omega
        have hr1 : row = row.take (row.length - 1) ++ [gI row ((row.length - 1 : Nat) : Int)] := by
          rw [← take_snoc (by omega)]
          rw [show row.length - 1 + 1 = row.length from by omega, List.take_length]
        wtm_at "x"
        refine x_ixL hs1 (at_last hr1) ?_
        wtm_at "x"
        intro p n_p
        have e_p : Ext H' (upd H' p (.lst [V.int many, V.int (gI row ((row.length - 1 : Nat) : Int))])) := Only'.put0 Only'.refl n_p
        have h_p : (upd H' p (.lst [V.int many, V.int (gI row ((row.length - 1 : Nat) : Int))])) p = some (.lst [V.int many, V.int (gI row ((row.length - 1 : Nat) : Int))]) := upd_same
        generalize (upd H' p (.lst [V.int many, V.int (gI row ((row.length - 1 : Nat) : Int))])) = H2 at *
        wtm_at "x"
        intro p2 hp2
        refine fin [many, byte] H2 p ?_ e_p (by rw [h_p, hprev hi0]; rfl) (c.ext.free n_p) p2 hp2
        show (if many = 0 then [] else [many, byte]) = _
        rw [if_neg (by omega)]
      · wtm_at "x"
        intro p n_p
        have e_p : Ext H' (upd H' p (.lst [])) := Only'.put0 Only'.refl n_p
        have h_p : (upd H' p (.lst [])) p = some (.lst []) := upd_same
        generalize (upd H' p (.lst [])) = H2 at *
        wtm_at "x"
        intro p2 hp2
        refine fin [] H2 p ?_ e_p (by rw [h_p]; rfl) (c.ext.free n_p) p2 hp2
        show (if many = 0 then [] else [many, byte]) = _
        rw [if_pos (by omega)]
theorem told_end {H0 H H2 : Hp} {f p : Addr} {ts : List Addr} {s0 : WSt} {row x : Row} {Q : VK} (c : Acc H0 f (outAt s0 row) row.length H ts) (e2 : Ext H H2) (hp : H2 p = some (.lst (iV x))) (hx : wend (stAt s0 row row.length) = x) (hpn : H0 p = none) (hz : row.length ≤ 4000)
    (q : ToldR K H0 (outs s0 row) Q) : ∀ p2, H2 p2 = none → rCat (.ref f) (.ref p2) (upd H2 p2 (.lst [V.ref p])) Q := by
  intro p2 hp2
  have hlen := c.few
  refine x_cat (keep (e2 f _ c.here (by simp)) hp2) upd_same (by rw [List.length_map, hlen, sizeLine_eq]; simp; omega) fun r hr => ?_
  have e3 : Ext H (upd (upd H2 p2 (.lst [V.ref p])) r (.lst (ts.map V.ref ++ [V.ref p]))) := (e2.new hp2).new hr
  refine q _ r (ts ++ [p]) (c.ext.trans e3) (c.ext.free (e2.free (upd_none hr).2)) (by rw [upd_same, List.map_append]; rfl) ?_ (all_snoc c.new hpn)
  rw [outs_at, hx]
  exact (c.rows.ext e3).snoc (keep (keep hp hp2) hr)
end
end Flow

namespace Flow
open PySem PySem.Spec PyProof.Rows L2
local macro_rules | `(tactic| wtm_at "x1") => `(tactic| first
  | (with_reducible refine Flow.x_lenSet ?_)
  | (with_reducible refine Flow.x_dget2 ?_))
/-! ### the law's own writing: front -/
theorem gvn_ints {n : Nat} {c : Nat → Bool} {f : Nat → Int} : gvn n c (fun i => V.int (f i)) = iV (((List.range n).filter c).map f) := by
  unfold gvn iV
  rw [List.map_map]
  rfl
theorem filter_gI {p : Int → Bool} (r : Row) : (((List.range r.length).filter fun i : Nat => p (gI r (i : Int))).map fun i : Nat => gI r (i : Int)) = r.filter p := by
  have e : r.filter p = ((List.range r.length).map fun i : Nat => gI r (i : Int)).filter p := by
    have e2 := map_gI (fun x : Int => x) r
    rw [List.map_id'] at e2
    rw [e2]
  rw [e, List.filter_map]
  rfl
theorem gI_take {r : Row} {i j : Nat} (h : j < i) : gI (r.take i) (j : Int) = gI r (j : Int) := by
  unfold gI
  rw [Int.toNat_natCast, List.getD_eq_getElem?_getD, List.getD_eq_getElem?_getD, List.getElem?_take]
  rw [if_pos h]
section
variable {P : Program} {w : World} {K : PySem.W.Frag} {mg : Str → Option Value} {base : Heap}
theorem ok_law_write_front (T : Tx K mg) : DefOk P w K mg base 1 (He.ga K "_law_write_front") ["_law_row_here"] (spWrite (.front range256) K) := by
  refine def_ok (N := n_law_write_front) (fn_law_write_front T) sc_law_write_front (fun _ _ _ _ _ _ us hl => match us, hl with | [_], _ => rfl) (fun vs H Q E h => ?_) (fun cdv A outer s H vs Q E hr h => ?_)
  · obtain ⟨a, row, rfl, _⟩ := h
    rfl
  · obtain ⟨a, row, rfl, hs, hby, hz, q⟩ := h
    refine ⟨_, [_, _, _, _, _, _, _, _, _], (pss_cons (ps_set (i := 1) sc_law_write_front.nd rfl (Or.inl rfl) (pe_lst pa_nil))
      (pss_cons (ps_for (passes_of rfl) rfl (pi_range1 rfl (f_range T) (pa_cons (pe_callB call_lenS rfl (f_len T) (by decide +kernel) (pa_cons (pv 0) pa_nil)) pa_nil)) (pg_name (i := 2) sc_law_write_front.nd rfl (Or.inr rfl)) (pss_cons (ps_set (i := 3) sc_law_write_front.nd rfl (Or.inr rfl) (pe_slice sl_list (pv 0) po_none (po_some (pv 2))))
      (pss_cons (ps_set (i := 4) sc_law_write_front.nd rfl (Or.inl rfl) (pv 3))
      (pss_cons (ps_set (i := 5) sc_law_write_front.nd rfl (Or.inl rfl) pe_int)
      (pss_cons (ps_if (pt_cmpR op_in_seq (pe_ix ix_list (pv 0) (pv 2) (fun _ _ => rfl)) (pv 3) (by rfl)) (pss_cons (ps_set (i := 6) sc_law_write_front.nd rfl (Or.inl rfl) (pe_callB (cr_max rfl) rfl (f_max T) (by decide +kernel) (pa_cons (pe_lc (own := [("_law_j", 7)]) (g := gName 7) rfl sc_law_write_front.nd (pi_range1 rfl (f_range T) (pa_cons (pv 2) pa_nil)) (blkOk_by (own := [("_law_j", 7)]) (N := n_law_write_front) (sc := defScope s_law_write_front) (by decide +kernel)) (fun _ _ _ _ _ => pg_name (i := 7) sc_law_write_front.nd rfl (Or.inl rfl)) (fun _ _ _ _ _ => (pts_one (pt_cmpR op_eq (pe_ix (ix_listK K rfl) (pv 3) (pv 7) (fun _ _ => rfl)) (pe_ix (ix_listK K rfl) (pv 0) (pv 2) (fun _ _ => rfl)) (nomark _)))) (fun _ _ _ _ _ => (pv 7))) pa_nil)))
      (pss_one (ps_set (i := 4) sc_law_write_front.nd rfl (Or.inl rfl) (pe_slice sl_list (pv 3) (po_some (pe_op op_add (pv 6) pe_int)) po_none)))) (pss_one (ps_set (i := 5) sc_law_write_front.nd rfl (Or.inl rfl) (pe_op op_sub (pe_ix ix_list (pv 0) (pv 2) (fun _ _ => rfl)) (pe_lenSetG rfl rfl (f_len T) rfl (f_set T) (pe_lc (own := [("_law_byte", 8)]) (g := gName 8) rfl sc_law_write_front.nd (pi_list (pv 3)) (blkOk_by (own := [("_law_byte", 8)]) (N := n_law_write_front) (sc := defScope s_law_write_front) (by decide +kernel)) (fun _ _ _ _ _ => pg_name (i := 8) sc_law_write_front.nd rfl (Or.inl rfl)) (fun _ _ _ _ _ => (pts_one (pt_cmpR op_lt (pv 8) (pe_ix (ix_listK K rfl) (pv 0) (pv 2) (fun _ _ => rfl)) (nomark _)))) (fun _ _ _ _ _ => (pv 8))))))))
      (pss_one (ps_expr (pe_bm PySem.F.plainAttrs_list PySem.F.slot_list_append PySem.F.type_list_append mt_append (pv 1) (pa_cons (pe_lst (pa_cons (pe_op op_add (pe_lenSetG rfl rfl (f_len T) rfl (f_set T) (pv 4)) (pv 5)) pa_nil)) pa_nil)))))))))
      (pss_one (ps_ret (pe_op op_cat (pv 1) (pe_lst (pa_cons (pe_lst pa_nil) pa_nil))))))), rfl, ?_⟩
    try dsimp only [cxOf]
    wtm_at "x"
    intro f hf
    wtm_at "x"
    refine x_len (Or.inl (SqL.ext (Only'.put0 Only'.refl hf) hs)) ?_
    rw [iV_length]
    wtm_at "x"
    refine x_rForR1 (k := row.length) rfl (by omega) (fun i σ H' => ∃ (ts : List Addr) (v2 v3 v4 v5 v6 v7 v8 : Option V), σ = [some (.ref a), some (.ref f), v2, v3, v4, v5, v6, v7, v8] ∧ Acc H f (outAt (.front range256) row) i H' ts)
      ⟨[], _, _, _, _, _, _, _, rfl, Acc.start upd_same (Only'.put0 Only'.refl hf)⟩ ?_ ?_
    · rintro i σ H' hi ⟨ts, v2, v3, v4, v5, v6, v7, v8, rfl, c⟩
      have hs1 := SqL.ext c.ext hs
      have hlen := c.few
      have hsz : (ts.map V.ref).length < sizeLine := by
        rw [List.length_map, hlen, sizeLine_eq]
        omega
      wtm_at "x"
      rw [cut_to (k := i) rfl]
      have et : (iV row).take i = iV (row.take i) := by
        unfold iV
        rw [List.map_take]
      rw [et]
      intro p n_p
      have e_p : Ext H' (upd H' p (.lst (iV (row.take i)))) := Only'.put0 Only'.refl n_p
      have h_p : (upd H' p (.lst (iV (row.take i)))) p = some (.lst (iV (row.take i))) := upd_same
      generalize (upd H' p (.lst (iV (row.take i)))) = H1 at *
      have c1 := c.to e_p
      have hs2 := SqL.ext e_p hs1
      have hti : (row.take i).length = i := by rw [List.length_take, Nat.min_eq_left (by omega)]
      wtm_at "x"
      refine x_ixL hs2 (gI_at (by omega) (by omega)) ?_
      wtm_at "x"
      refine x_inI (Or.inl (SqL.of h_p)) ?_
      wtm_at "x"
      refine ite_d (fun hin => ?_) fun hin => ?_
      · wtm_at "x"
        refine x_rLcRT (k := i) (fun j => decide (gI (row.take i) (j : Int) = gI row (i : Int))) (fun j => V.int (j : Int)) rfl (by omega) (fun _ => rfl) (fun j H2 hj e B k => ?_) (fun j H2 hj hc e Q' k => ?_) fun l H2 hl e hl1 => ?_
        · wtm_at "x"
          refine x_ixL (SqL.ext e (SqL.of h_p)) (gI_at (by omega) (by omega)) ?_
          wtm_at "x"
          refine x_ixL (SqL.ext e hs2) (gI_at (by omega) (by omega)) ?_
          wtm_at "x"
          exact k _ Only'.refl
        · wtm_at "x"
          exact k _ Only'.refl
        · rw [gvn_ints] at hl1
          wtm_at "x"
          have hpos : 0 < (((List.range i).filter fun j : Nat => decide (gI (row.take i) (j : Int) = gI row (i : Int))).map fun j : Nat => (j : Int)).length := by
            obtain ⟨j, hj, ej⟩ := List.getElem_of_mem hin
            have e1 : (row.take i)[j]? = some (gI row (i : Int)) := by rw [List.getElem?_eq_getElem hj, ej]
            exact List.length_pos_of_mem (List.mem_map.mpr ⟨j, List.mem_filter.mpr ⟨List.mem_range.mpr (by omega), decide_eq_true (gI_nat e1)⟩, rfl⟩)
          refine x_max (SqL.of hl1) hpos fun m hm hmax => ?_
          obtain ⟨last, hlast, rfl⟩ := List.mem_map.mp hm
          obtain ⟨hl1', hl2⟩ := List.mem_filter.mp hlast
          have hli : last < i := List.mem_range.mp hl1'
          have hl3 : gI row (last : Int) = gI row (i : Int) := by rw [← gI_take hli]; exact of_decide_eq_true hl2
          have hno : gI row (i : Int) ∉ (row.take i).drop (last + 1) := fun z => by
            obtain ⟨j, hj, ej⟩ := List.getElem_of_mem z
            have e1 : (row.take i)[last + 1 + j]? = some (gI row (i : Int)) := by
              rw [← List.getElem?_drop, List.getElem?_eq_getElem hj, ej]
            have hlt : last + 1 + j < i := by
              have := (List.getElem?_eq_some_iff.mp e1).1
              omega
            have := hmax _ (List.mem_map.mpr ⟨last + 1 + j, List.mem_filter.mpr ⟨List.mem_range.mpr hlt, decide_eq_true (gI_nat e1)⟩, rfl⟩)
            omega
          have h_p2 := e p _ h_p (by simp)
          have c2 := c1.to e
          wtm_at "x"
          rw [cut_from (k := last + 1) (by omega)]
          have ed : (iV (row.take i)).drop (last + 1) = iV ((row.take i).drop (last + 1)) := by
            unfold iV
            rw [List.map_drop]
          rw [ed]
          intro p3 n_p3
          have e_p3 : Ext H2 (upd H2 p3 (.lst (iV ((row.take i).drop (last + 1))))) := Only'.put0 Only'.refl n_p3
          have h_p3 : (upd H2 p3 (.lst (iV ((row.take i).drop (last + 1))))) p3 = some (.lst (iV ((row.take i).drop (last + 1)))) := upd_same
          generalize (upd H2 p3 (.lst (iV ((row.take i).drop (last + 1))))) = H3 at *
          have c3 := c2.to e_p3
          have hh := c3.here
          wtm_at "x"
          refine x_rLenSet (SqL.of h_p3) (by rw [List.length_drop]; omega) ?_
          wtm_at "x"
          intro p4 hp4
          have c4 := c3.to (Only'.put0 Only'.refl hp4 : Ext H3 (upd H3 p4 (.lst [V.int ((nd ((row.take i).drop (last + 1)) : Nat) + 0)])))
          have hh4 := c4.here
          wtm_at "x"
          refine ⟨_, _, _, _, _, _, _, _, rfl, c4.next hf ?_ (Ne.symm (ne_of_none c3.here hp4)) (c3.ext.free hp4)⟩
          rw [upd_same, front_old hby hi hli hl3 hno, Int.add_zero]
          rfl
      · wtm_at "x"
        refine x_ixL hs2 (gI_at (by omega) (by omega)) ?_
        wtm_at "x"
        refine x_rLcLT (fun j => decide (gI (row.take i) (j : Int) < gI row (i : Int))) (fun j => V.int (gI (row.take i) (j : Int))) (SqL.of h_p) (by rw [iV_length, sizeLine_eq]; omega) (fun _ => rfl) (fun j x H2 hj e B k => ?_) (fun j x H2 hj hc e Q' k => ?_) fun l H2 hl e hl1 => ?_
        · obtain ⟨z, hz1, rfl⟩ := iV_get hj
          wtm_at "x"
          refine x_ixL (SqL.ext e hs2) (gI_at (by omega) (by omega)) ?_
          wtm_at "x"
          rw [← gI_nat hz1]
          exact k _ Only'.refl
        · obtain ⟨z, hz1, rfl⟩ := iV_get hj
          wtm_at "x"
          rw [← gI_nat hz1]
          exact k _ Only'.refl
        · rw [gvn_ints, iV_length, filter_gI (p := fun x => decide (x < gI row (i : Int)))] at hl1
          have c2 := c1.to e
          have h_p2 := e p _ h_p (by simp)
          wtm_at "x"
          refine x_rLenSet (SqL.of hl1) (Nat.le_trans (List.length_filter_le _ _) (by omega)) ?_
          have hh := c2.here
          wtm_at "x"
          refine x_rLenSet (SqL.of h_p2) (by omega) ?_
          wtm_at "x"
          intro p4 hp4
          have hh4 := upd_get (o := .lst [V.int ((nd (row.take i) : Nat) + (gI row (i : Int) - (nd ((row.take i).filter fun x => decide (x < gI row (i : Int))) : Nat)))]) (ne_of_none c2.here hp4) c2.here
          wtm_at "x"
          refine ⟨_, _, _, _, _, _, _, _, rfl, (c2.to (Only'.put0 Only'.refl hp4)).next hf ?_ (Ne.symm (ne_of_none c2.here hp4)) (c2.ext.free hp4)⟩
          rw [upd_same, front_new hby hi hin]
          rfl
    · rintro σ H' ⟨ts, v2, v3, v4, v5, v6, v7, v8, rfl, c⟩
      wtm_at "x"
      intro p n_p
      have e_p : Ext H' (upd H' p (.lst [])) := Only'.put0 Only'.refl n_p
      have h_p : (upd H' p (.lst [])) p = some (.lst []) := upd_same
      generalize (upd H' p (.lst [])) = H1 at *
      wtm_at "x"
      exact told_end (x := []) c e_p h_p (front_end hby) (c.ext.free n_p) hz q
end
end Flow

namespace Flow
open PySem PySem.Spec PyProof.Rows L2
local macro_rules | `(tactic| wtm_at "x1") => `(tactic| first
  | (with_reducible refine Flow.x_lenSet ?_)
  | (with_reducible refine Flow.x_dget2 ?_))
/-! ### the law's own writing: chunks, checks -/
section
variable {P : Program} {w : World} {K : PySem.W.Frag} {mg : Str → Option Value} {base : Heap}
theorem at_neg {xs : List V} {j : Nat} {v : V} (h : xs.length = j + 1) (e : xs[j]? = some v) : atI xs (-1) = some v := by
  have e2 : ixN xs.length (-1) = some j := by
    rw [h]
    unfold ixN
    rw [if_neg (by decide)]
    show (if _ then some _ else none) = _
    rw [if_pos (by omega)]
    congr 1
    omega
  unfold atI
  rw [e2]
  exact e
theorem full_iff (i n : Nat) (h : 1 ≤ n) : (((i : Int) + 1) % (n : Int) = 0) = ((i + 1) % n = 0) := by
  have e : ((i : Int) + 1) % (n : Int) = (((i + 1) % n : Nat) : Int) := by
    rw [Int.natCast_emod]
    rfl
  rw [e]
  exact propext ⟨fun z => by omega, fun z => by omega⟩
theorem ok_law_write_pieces (T : Tx K mg) : DefOk P w K mg base 2 (He.ga K "_law_write_pieces") ["_law_word", "_law_size", "_law_row_here"] (spPieces K) := by
  have D_law_checks := ok_law_checks (P := P) (w := w) (base := base) T
  refine def_ok (N := n_law_write_pieces) (fn_law_write_pieces T) sc_law_write_pieces (fun _ _ _ _ _ _ us hl => match us, hl with | [_, _, _], _ => rfl) (fun vs H Q E h => ?_) (fun cdv A outer s H vs Q E hr h => ?_)
  · obtain ⟨a, row, c, n, rfl, _⟩ := h
    rfl
  · obtain ⟨a, row, cc, n, rfl, hs, hby, hz, h1, h255, q⟩ := h
    refine ⟨_, [_, _, _, _, _, _, _, _], (pss_cons (ps_set (i := 3) sc_law_write_pieces.nd rfl (Or.inl rfl) (pe_lst pa_nil))
      (pss_cons (ps_set (i := 4) sc_law_write_pieces.nd rfl (Or.inl rfl) (pe_fn D_law_checks (g_law_checks T) (hr.mono (by first | decide | omega)) (fun _ => passE) (pa_cons (pv 2) pa_nil)))
      (pss_cons (ps_for (passes_of rfl) rfl (pi_range1 rfl (f_range T) (pa_cons (pe_callB call_lenS rfl (f_len T) (by decide +kernel) (pa_cons (pv 2) pa_nil)) pa_nil)) (pg_name (i := 5) sc_law_write_pieces.nd rfl (Or.inl rfl)) (pss_cons (ps_set (i := 6) sc_law_write_pieces.nd rfl (Or.inl rfl) (pe_cmpR op_eq (pe_op op_modN (pe_op op_add (pv 5) pe_int) (pv 1)) pe_int (nomark _)))
      (pss_one (ps_if (pt_cmpR op_eq (pv 0) pe_str (nomark _)) (pss_one (ps_expr (pe_bm PySem.F.plainAttrs_list PySem.F.slot_list_append PySem.F.type_list_append mt_append (pv 3) (pa_cons (pe_ifExp (pt_val (pv 6)) (pe_op op_cat (pe_lst (pa_cons (pv 1) pa_nil)) (pe_slice sl_list (pv 2) (po_some (pe_op op_sub (pe_op op_add (pv 5) pe_int) (pv 1))) (po_some (pe_op op_add (pv 5) pe_int)))) (pe_lst pa_nil)) pa_nil)))) (pss_one (ps_expr (pe_bm PySem.F.plainAttrs_list PySem.F.slot_list_append PySem.F.type_list_append mt_append (pv 3) (pa_cons (pe_op op_cat (pe_lst (pa_cons (pe_ix ix_list (pv 2) (pv 5) (fun _ _ => rfl)) pa_nil)) (pe_ifExp (pt_val (pv 6)) (pe_ix ix_list (pv 4) (pe_op op_add (pv 5) pe_int) (fun _ _ => rfl)) (pe_lst pa_nil))) pa_nil))))))))
      (pss_cons (ps_set (i := 7) sc_law_write_pieces.nd rfl (Or.inl rfl) (pe_op op_modN (pe_callB call_lenS rfl (f_len T) (by decide +kernel) (pa_cons (pv 2) pa_nil)) (pv 1)))
      (pss_cons (ps_if (pt_cmpR op_eq (pv 0) pe_str (nomark _)) (pss_one (ps_ret (pe_op op_cat (pv 3) (pe_lst (pa_cons (pe_op op_cat (pe_lst (pa_cons (pv 7) pa_nil)) (pe_slice sl_list (pv 2) (po_some (pe_op op_sub (pe_callB call_lenS rfl (f_len T) (by decide +kernel) (pa_cons (pv 2) pa_nil)) (pv 7))) po_none)) pa_nil))))) pss_nil)
      (pss_one (ps_ret (pe_op op_cat (pv 3) (pe_lst (pa_cons (pe_ix ix_list (pv 4) (pe_un un_neg pe_int) (fun _ _ => rfl)) pa_nil)))))))))), rfl, ?_⟩
    try dsimp only [cxOf]
    wtm_at "x"
    intro f n_f
    have e_f : Ext H (upd H f (.lst [])) := Only'.put0 Only'.refl n_f
    have h_f : (upd H f (.lst [])) f = some (.lst []) := upd_same
    generalize (upd H f (.lst [])) = H1 at *
    wtm_at "x"
    refine ⟨a, row, rfl, SqL.ext e_f hs, by omega, fun H2 ck cts e2 hck0 hck hcr hcn => ?_⟩
    have hs2 := SqL.ext (e_f.trans e2) hs
    have hckf : ck ≠ f := fun z => by
      rw [z, h_f] at hck0
      cases hck0
    have hctf : ∀ t, t ∈ cts → t ≠ f := fun t ht z => by
      obtain ⟨j, hj, ej⟩ := List.getElem_of_mem ht
      have hj2 : j < ((chk row).map checkBytes).length := by rw [← hcr.len]; exact hj
      have e4 := hcr.at_ j t _ (by rw [List.getElem?_eq_getElem hj, ej]) (List.getElem?_eq_getElem hj2)
      rw [z, e2 f _ h_f (by simp), List.getElem_map] at e4
      cases e4
    wtm_at "x"
    rw [iV_length]
    refine x_rForR1 (k := row.length) rfl (by omega) (fun i σ H' => ∃ (ts : List Addr) (v5 v6 v7 : Option V), σ = [some (.str (chunkOr cc)), some (.int (n : Int)), some (.ref a), some (.ref f), some (.ref ck), v5, v6, v7] ∧ Acc H f (outAt (newW (layOr cc n)) row) i H' ts ∧ H' ck = some (.lst (cts.map V.ref)) ∧ RowsIn H' cts ((chk row).map checkBytes))
      ⟨[], _, _, _, rfl, Acc.start (e2 f _ h_f (by simp)) (e_f.trans e2), hck, hcr⟩ ?_ ?_
    · rintro i σ H' hi ⟨ts, v5, v6, v7, rfl, c, hck3, hcr3⟩
      have hs1 := SqL.ext c.ext hs
      have hlen := c.few
      have hsz : (ts.map V.ref).length < sizeLine := by
        rw [List.length_map, hlen, sizeLine_eq]
        omega
      wtm_at "x"
      rw [fmod_pos (by omega), show decide (((i : Int) + 1) % (n : Int) = 0) = decide ((i + 1) % n = 0) from by simp only [full_iff i n h1]]
      have hh := c.here
      cases cc
      · refine ite_d (fun z => absurd (show ("checks" : Str) = "chunks" from z) (by decide +kernel)) fun _ => ?_
        have ho := checks_out n h1 row hi
        wtm_at "x"
        refine x_ixL hs1 (gI_at (by omega) (by omega)) ?_
        wtm_at "x"
        intro p n_p
        have e_p : Ext H' (upd H' p (.lst [V.int (gI row (i : Int))])) := Only'.put0 Only'.refl n_p
        have h_p : (upd H' p (.lst [V.int (gI row (i : Int))])) p = some (.lst [V.int (gI row (i : Int))]) := upd_same
        generalize (upd H' p (.lst [V.int (gI row (i : Int))])) = H3 at *
        wtm_at "x"
        refine ite_d (fun hfull => ?_) fun hfull => ?_
        · rw [if_pos hfull] at ho
          obtain ⟨ct, hct, hcv⟩ := (hcr3.ext e_p).get (i := i + 1) (r := checkBytes (checkAll 0 (row.take (i + 1)))) (by
            rw [List.getElem?_map]
            unfold chk
            rw [scan_get 0 row (i + 1) (by omega)]
            rfl)
          wtm_at "x"
          refine x_ixL (SqL.of (e_p ck _ hck3 (by simp))) (v := .ref ct) (at_of (j := i + 1) (by omega) (by rw [List.getElem?_map, hct]; rfl)) ?_
          refine x_cat h_p hcv (by rw [sizeLine_eq]; simp [checkBytes, iV]) ?_
          intro p2 n_p2
          have e_p2 : Ext H3 (upd H3 p2 (.lst ([V.int (gI row (i : Int))] ++ iV (checkBytes (checkAll 0 (row.take (i + 1))))))) := Only'.put0 Only'.refl n_p2
          have h_p2 : (upd H3 p2 (.lst ([V.int (gI row (i : Int))] ++ iV (checkBytes (checkAll 0 (row.take (i + 1))))))) p2 = some (.lst ([V.int (gI row (i : Int))] ++ iV (checkBytes (checkAll 0 (row.take (i + 1)))))) := upd_same
          generalize (upd H3 p2 (.lst ([V.int (gI row (i : Int))] ++ iV (checkBytes (checkAll 0 (row.take (i + 1))))))) = H4 at *
          have e4 := e_p.trans e_p2
          have hh2 := (c.to e4).here
          wtm_at "x"
          exact ⟨_, _, _, _, rfl, (c.to e4).next n_f (by rw [h_p2]; exact congrArg (fun z => some (HO.lst (iV z))) ho.symm) (Ne.symm (ne_of_none (c.to e_p).here n_p2)) ((c.to e_p).ext.free n_p2), upd_get hckf (e4 ck _ hck3 (by simp)), (hcr3.ext e4).put hctf⟩
        · rw [if_neg hfull] at ho
          wtm_at "x"
          intro p2 n_p2
          have e_p2 : Ext H3 (upd H3 p2 (.lst [])) := Only'.put0 Only'.refl n_p2
          have h_p2 : (upd H3 p2 (.lst [])) p2 = some (.lst []) := upd_same
          generalize (upd H3 p2 (.lst [])) = H4 at *
          refine x_cat (e_p2 p _ h_p (by simp)) h_p2 (by rw [sizeLine_eq]; simp) ?_
          intro p3 n_p3
          have e_p3 : Ext H4 (upd H4 p3 (.lst ([V.int (gI row (i : Int))] ++ []))) := Only'.put0 Only'.refl n_p3
          have h_p3 : (upd H4 p3 (.lst ([V.int (gI row (i : Int))] ++ []))) p3 = some (.lst ([V.int (gI row (i : Int))] ++ [])) := upd_same
          generalize (upd H4 p3 (.lst ([V.int (gI row (i : Int))] ++ []))) = H5 at *
          have e4 := (e_p.trans e_p2).trans e_p3
          have hh2 := (c.to e4).here
          wtm_at "x"
          exact ⟨_, _, _, _, rfl, (c.to e4).next n_f (by rw [h_p3]; exact congrArg (fun z => some (HO.lst (iV z))) ho.symm) (Ne.symm (ne_of_none (c.to (e_p.trans e_p2)).here n_p3)) ((c.to (e_p.trans e_p2)).ext.free n_p3), upd_get hckf (e4 ck _ hck3 (by simp)), (hcr3.ext e4).put hctf⟩
      · refine ite_d (fun _ => ?_) fun z => absurd rfl z
        have ho := chunks_out n h1 row hi
        wtm_at "x"
        refine ite_d (fun hfull => ?_) fun hfull => ?_
        · rw [if_pos hfull] at ho
          have hni : n ≤ i + 1 := Nat.le_of_dvd (by omega) (Nat.dvd_of_mod_eq_zero hfull)
          wtm_at "x"
          intro p n_p
          have e_p : Ext H' (upd H' p (.lst [V.int (n : Int)])) := Only'.put0 Only'.refl n_p
          have h_p : (upd H' p (.lst [V.int (n : Int)])) p = some (.lst [V.int (n : Int)]) := upd_same
          generalize (upd H' p (.lst [V.int (n : Int)])) = H3 at *
          have hs3 := SqL.ext e_p hs1
          wtm_at "x"
          rw [cut_both (i := i + 1 - n) (k := i + 1) (by omega) (by omega)]
          have ecut : ((iV row).drop (i + 1 - n)).take (i + 1 - (i + 1 - n)) = iV ((row.take (i + 1)).drop (i + 1 - n)) := by
            unfold iV
            rw [← List.drop_take, ← List.map_take, ← List.map_drop]
          rw [ecut]
          intro p2 n_p2
          have e_p2 : Ext H3 (upd H3 p2 (.lst (iV ((row.take (i + 1)).drop (i + 1 - n))))) := Only'.put0 Only'.refl n_p2
          have h_p2 : (upd H3 p2 (.lst (iV ((row.take (i + 1)).drop (i + 1 - n))))) p2 = some (.lst (iV ((row.take (i + 1)).drop (i + 1 - n)))) := upd_same
          generalize (upd H3 p2 (.lst (iV ((row.take (i + 1)).drop (i + 1 - n))))) = H4 at *
          refine x_cat (e_p2 p _ h_p (by simp)) h_p2 (by rw [iV_length, List.length_drop, List.length_take, sizeLine_eq]; simp; omega) ?_
          intro p3 n_p3
          have e_p3 : Ext H4 (upd H4 p3 (.lst ([V.int (n : Int)] ++ iV ((row.take (i + 1)).drop (i + 1 - n))))) := Only'.put0 Only'.refl n_p3
          have h_p3 : (upd H4 p3 (.lst ([V.int (n : Int)] ++ iV ((row.take (i + 1)).drop (i + 1 - n))))) p3 = some (.lst ([V.int (n : Int)] ++ iV ((row.take (i + 1)).drop (i + 1 - n)))) := upd_same
          generalize (upd H4 p3 (.lst ([V.int (n : Int)] ++ iV ((row.take (i + 1)).drop (i + 1 - n))))) = H5 at *
          have e4 := (e_p.trans e_p2).trans e_p3
          have hh2 := (c.to e4).here
          wtm_at "x"
          exact ⟨_, _, _, _, rfl, (c.to e4).next n_f (by rw [h_p3]; exact congrArg (fun z => some (HO.lst (iV z))) ho.symm) (Ne.symm (ne_of_none (c.to (e_p.trans e_p2)).here n_p3)) ((c.to (e_p.trans e_p2)).ext.free n_p3), upd_get hckf (e4 ck _ hck3 (by simp)), (hcr3.ext e4).put hctf⟩
        · rw [if_neg hfull] at ho
          wtm_at "x"
          intro p n_p
          have e_p : Ext H' (upd H' p (.lst [])) := Only'.put0 Only'.refl n_p
          have h_p : (upd H' p (.lst [])) p = some (.lst []) := upd_same
          generalize (upd H' p (.lst [])) = H3 at *
          have hh2 := (c.to e_p).here
          wtm_at "x"
          exact ⟨_, _, _, _, rfl, (c.to e_p).next n_f (by rw [h_p]; exact congrArg (fun z => some (HO.lst (iV z))) ho.symm) (Ne.symm (ne_of_none c.here n_p)) (c.ext.free n_p), upd_get hckf (e_p ck _ hck3 (by simp)), (hcr3.ext e_p).put hctf⟩
    · rintro σ H' ⟨ts, v5, v6, v7, rfl, c, hck3, hcr3⟩
      have hs1 := SqL.ext c.ext hs
      wtm_at "x"
      rw [iV_length, fmod_pos (by omega)]
      have em : (row.length : Int) % (n : Int) = ((row.length % n : Nat) : Int) := rfl
      rw [em]
      cases cc
      · refine ite_d (fun z => absurd (show ("checks" : Str) = "chunks" from z) (by decide +kernel)) fun _ => ?_
        have ho := checks_end n h1 row
        obtain ⟨ct, hct, hcv⟩ := hcr3.get (i := row.length) (r := checkBytes (checkAll 0 row)) (by
          rw [List.getElem?_map]
          unfold chk
          rw [scan_get 0 row row.length (Nat.le_refl _), List.take_length]
          rfl)
        have hcl : cts.length = row.length + 1 := by
          rw [hcr3.len, List.length_map]
          exact scan_len 0 row
        wtm_at "x"
        refine x_ixL (SqL.of hck3) (v := .ref ct) (at_neg (xs := cts.map V.ref) (j := row.length) (by rw [List.length_map, hcl]) (by rw [List.getElem?_map, hct]; rfl)) ?_
        wtm_at "x"
        exact told_end c Only'.refl hcv ho (e_f.free (hcn ct (List.mem_of_getElem? hct))) hz q
      · refine ite_d (fun _ => ?_) fun z => absurd rfl z
        have ho := chunks_end n h1 row
        wtm_at "x"
        intro p n_p
        have e_p : Ext H' (upd H' p (.lst [V.int ((row.length % n : Nat) : Int)])) := Only'.put0 Only'.refl n_p
        have h_p : (upd H' p (.lst [V.int ((row.length % n : Nat) : Int)])) p = some (.lst [V.int ((row.length % n : Nat) : Int)]) := upd_same
        generalize (upd H' p (.lst [V.int ((row.length % n : Nat) : Int)])) = H3 at *
        have hs3 := SqL.ext e_p hs1
        wtm_at "x"
        have hml := Nat.mod_le row.length n
        rw [cut_from (k := row.length - row.length % n) (by rw [iV_length]; omega)]
        have ecut : (iV row).drop (row.length - row.length % n) = iV (row.drop (row.length - row.length % n)) := by
          unfold iV
          rw [← List.map_drop]
        rw [ecut]
        intro p2 n_p2
        have e_p2 : Ext H3 (upd H3 p2 (.lst (iV (row.drop (row.length - row.length % n))))) := Only'.put0 Only'.refl n_p2
        have h_p2 : (upd H3 p2 (.lst (iV (row.drop (row.length - row.length % n))))) p2 = some (.lst (iV (row.drop (row.length - row.length % n)))) := upd_same
        generalize (upd H3 p2 (.lst (iV (row.drop (row.length - row.length % n))))) = H4 at *
        refine x_cat (e_p2 p _ h_p (by simp)) h_p2 (by rw [iV_length, List.length_drop, sizeLine_eq]; simp; omega) ?_
        intro p3 n_p3
        have e_p3 : Ext H4 (upd H4 p3 (.lst ([V.int ((row.length % n : Nat) : Int)] ++ iV (row.drop (row.length - row.length % n))))) := Only'.put0 Only'.refl n_p3
        have h_p3 : (upd H4 p3 (.lst ([V.int ((row.length % n : Nat) : Int)] ++ iV (row.drop (row.length - row.length % n))))) p3 = some (.lst ([V.int ((row.length % n : Nat) : Int)] ++ iV (row.drop (row.length - row.length % n)))) := upd_same
        generalize (upd H4 p3 (.lst ([V.int ((row.length % n : Nat) : Int)] ++ iV (row.drop (row.length - row.length % n))))) = H5 at *
        wtm_at "x"
        exact told_end c ((e_p.trans e_p2).trans e_p3) (by rw [h_p3]; rfl) ho ((c.to (e_p.trans e_p2)).ext.free n_p3) hz q
end
end Flow

namespace Flow
open PySem PySem.Spec PyProof.Rows L2
local macro_rules | `(tactic| wtm_at "x1") => `(tactic| first
  | (with_reducible refine Flow.x_lenSet ?_)
  | (with_reducible refine Flow.x_dget2 ?_))
/-! ### the law's own writing: a layer, the layers -/
theorem ToldR.to {K : PySem.W.Frag} {H H1 : Hp} {rows : List Row} {Q : VK} (q : ToldR K H rows Q) (e : Ext H H1) : ToldR K H1 rows Q := fun H' r ts e2 hr h1 h2 h3 => q H' r ts (e.trans e2) (e.free hr) h1 h2 fun t ht => e.free (h3 t ht)
theorem told_end2 {K : PySem.W.Frag} {H0 H H2 : Hp} {f p : Addr} {ts : List Addr} {g : Nat → Row} {n : Nat} {x : Row} {rows : List Row} {Q : VK} (c : Acc H0 f g n H ts) (e2 : Ext H H2) (hp : H2 p = some (.lst (iV x))) (hx : rows = (List.range n).map g ++ [x]) (hpn : H0 p = none) (hz : n ≤ 4000)
    (q : ToldR K H0 rows Q) : ∀ p2, H2 p2 = none → rCat (.ref f) (.ref p2) (upd H2 p2 (.lst [V.ref p])) Q := by
  intro p2 hp2
  have hlen := c.few
  refine x_cat (keep (e2 f _ c.here (by simp)) hp2) upd_same (by rw [List.length_map, hlen, sizeLine_eq]; simp; omega) fun r hr => ?_
  have e3 : Ext H (upd (upd H2 p2 (.lst [V.ref p])) r (.lst (ts.map V.ref ++ [V.ref p]))) := (e2.new hp2).new hr
  refine q _ r (ts ++ [p]) (c.ext.trans e3) (c.ext.free (e2.free (upd_none hr).2)) (by rw [upd_same, List.map_append]; rfl) ?_ (all_snoc c.new hpn)
  rw [hx]
  exact (c.rows.ext e3).snoc (keep (keep hp hp2) hr)
theorem bit_of {n : Nat} {r : Row} {x : Int} (h : x ∈ bitsOf n r) : x = 0 ∨ x = 1 := by
  obtain ⟨l, hl, hx⟩ := List.mem_flatten.mp h
  obtain ⟨b, _, rfl⟩ := List.mem_map.mp hl
  obtain ⟨k, _, rfl⟩ := List.mem_map.mp hx
  omega
theorem grp_in {bs : Row} (h : ∀ x, x ∈ bs → x = 0 ∨ x = 1) {g : Int} (hg : g ∈ groupsOf 6 bs) : 0 ≤ g ∧ g < 64 := by
  obtain ⟨k, hk, rfl⟩ := List.mem_map.mp hg
  have hk2 : k < bs.length / 6 := List.mem_range.mp hk
  have hl : ((bs.drop (6 * k)).take 6).length = 6 := by
    rw [List.length_take, List.length_drop]
    omega
  have hm : ∀ x, x ∈ (bs.drop (6 * k)).take 6 → x = 0 ∨ x = 1 := fun x hx => h x (List.mem_of_mem_drop (List.mem_of_mem_take hx))
  generalize (bs.drop (6 * k)).take 6 = l at *
  match l, hl, hm with
  | [a, b, c, d, e, f], _, hm =>
    rw [grp6]
    have h1 := hm a (by simp)
    have h2 := hm b (by simp)
    have h3 := hm c (by simp)
    have h4 := hm d (by simp)
    have h5 := hm e (by simp)
    have h6 := hm f (by simp)
    omega
def spOwn (K : PySem.W.Frag) : Sp := fun vs H Q _ => ∃ (t a : Addr) (ly : Lay) (row : Row), vs = [.ref t, .ref a] ∧ SqT K H t (layV ly) ∧ ly.Ok ∧ SqL K H a (iV row) ∧ Bys row ∧ row.length ≤ 4000 ∧ ToldR K H (outs (newW ly) row) Q
def spOwnAll (K : PySem.W.Frag) : Sp := fun vs H Q _ => ∃ (a r : Addr) (ts : List Addr) (lays : List Lay) (row : Row), vs = [.ref a, .ref r] ∧ SqL K H a (ts.map V.ref) ∧ ts.length = lays.length ∧
  (∀ (i : Nat) (t : Addr) (ly : Lay), ts[i]? = some t → lays[i]? = some ly → SqT K H t (layV ly)) ∧ (∀ ly, ly ∈ lays → ly.Ok) ∧ SqL K H r (iV row) ∧ Bys row ∧ (∀ j, j ≤ lays.length → (written (lays.take j) row).length ≤ 4000) ∧
  ∀ H' r', Ext H H' → SqL K H' r' (iV (written lays row)) → Q (.ref r') H'
section
variable {P : Program} {w : World} {K : PySem.W.Frag} {mg : Str → Option Value} {base : Heap}
theorem ok_law_write (T : Tx K mg) : DefOk P w K mg base 3 (He.ga K "_law_write") ["_law_layer_here", "_law_row_here"] (spOwn K) := by
  have D_law_write_front := ok_law_write_front (P := P) (w := w) (base := base) T
  have D_law_write_runs := ok_law_write_runs (P := P) (w := w) (base := base) T
  have D_law_write_pieces := ok_law_write_pieces (P := P) (w := w) (base := base) T
  have D_law_bits := ok_law_bits (P := P) (w := w) (base := base) T
  have D_law_groups := ok_law_groups (P := P) (w := w) (base := base) T
  have D_law_signs := ok_law_signs (P := P) (w := w) (base := base) T
  refine def_ok (N := n_law_write) (fn_law_write T) sc_law_write (fun _ _ _ _ _ _ us hl => match us, hl with | [_, _], _ => rfl) (fun vs H Q E h => ?_) (fun cdv A outer s H vs Q E hr h => ?_)
  · obtain ⟨t, a, ly, row, rfl, _⟩ := h
    rfl
  · obtain ⟨t, a, ly, row, rfl, ht, ok, hs, hby, hz, q⟩ := h
    refine ⟨_, [_, _, _, _, _, _, _, _, _, _, _], (pss_cons (ps_if (pt_cmpR op_eq (pe_ix ix_tup (pv 0) pe_int (fun _ _ => rfl)) pe_str (nomark _)) (pss_cons (ps_set (i := 2) sc_law_write.nd rfl (Or.inr rfl) (pe_slice sl_tup (pv 0) (po_some pe_int) po_none))
      (pss_one (ps_ret (pe_op op_cat (pe_lc (own := [("_law_k", 9)]) (g := gName 9) (tt := tYes) rfl sc_law_write.nd (pi_range1 rfl (f_range T) (pa_cons (pe_callB call_lenS rfl (f_len T) (by decide +kernel) (pa_cons (pv 1) pa_nil)) pa_nil)) (blkOk_by (own := [("_law_k", 9)]) (N := n_law_write) (sc := defScope s_law_write) (by decide +kernel)) (fun _ _ _ _ _ => pg_name (i := 9) sc_law_write.nd rfl (Or.inl rfl)) (fun _ _ _ _ _ => pts_nil) (fun _ _ _ _ _ => (pe_lst (pa_cons (pe_op op_mod (pe_op op_add (pe_ix (ix_listK K rfl) (pv 1) (pv 9) (fun _ _ => rfl)) (pe_ix (ix_tupK K rfl) (pv 2) (pe_op op_modN (pv 9) (pe_callB (call_lenK K rfl) rfl (f_len T) (by decide +kernel) (pa_cons (pv 2) pa_nil))) (fun _ _ => rfl))) pe_int) pa_nil)))) (pe_lst (pa_cons (pe_lst pa_nil) pa_nil)))))) pss_nil)
      (pss_cons (ps_if (pt_cmpR op_eq (pe_ix ix_tup (pv 0) pe_int (fun _ _ => rfl)) pe_str (nomark _)) (pss_one (ps_ret (pe_fn D_law_write_front (g_law_write_front T) (hr.mono (by first | decide | omega)) (fun _ => passE) (pa_cons (pv 1) pa_nil)))) pss_nil)
      (pss_cons (ps_if (pt_cmpR op_eq (pe_ix ix_tup (pv 0) pe_int (fun _ _ => rfl)) pe_str (nomark _)) (pss_cons (ps_setLc (i := 3) (own := [("_law_k", 9)]) (g := gName 9) (tt := tYes) rfl sc_law_write.nd rfl rfl (sw_true rfl rfl rfl (by decide +kernel)) (pi_range1 rfl (f_range T) (pa_cons pe_int pa_nil)) (blkOk_by (own := [("_law_k", 9)]) (N := n_law_write) (sc := defScope s_law_write) (by decide +kernel)) (fun _ _ _ _ _ => pg_name (i := 9) sc_law_write.nd rfl (Or.inl rfl)) (fun _ _ _ _ _ => pts_nil) (fun _ _ _ _ _ => (pe_op op_mod (pe_op op_add (pe_ix (ix_tupK K rfl) (pv 0) pe_int (fun _ _ => rfl)) (pv 9)) pe_int)))
      (pss_cons (ps_set (i := 4) sc_law_write.nd rfl (Or.inr rfl) (pe_disp (pps_cons (pe_ix ix_list (pv 3) pe_int (fun _ _ => rfl)) (pe_lst (pa_cons (pe_ix ix_list (pv 3) pe_int (fun _ _ => rfl)) (pa_cons (pe_ix ix_list (pv 3) pe_int (fun _ _ => rfl)) pa_nil))) (pps_cons (pe_ix ix_list (pv 3) pe_int (fun _ _ => rfl)) (pe_lst (pa_cons (pe_ix ix_list (pv 3) pe_int (fun _ _ => rfl)) (pa_cons (pe_ix ix_list (pv 3) pe_int (fun _ _ => rfl)) pa_nil))) pps_nil)) rfl rfl (by simp) (by decide)))
      (pss_one (ps_ret (pe_op op_cat (pe_lc (own := [("_law_byte", 10)]) (g := gName 10) (tt := tYes) rfl sc_law_write.nd (pi_list (pv 1)) (blkOk_by (own := [("_law_byte", 10)]) (N := n_law_write) (sc := defScope s_law_write) (by decide +kernel)) (fun _ _ _ _ _ => pg_name (i := 10) sc_law_write.nd rfl (Or.inl rfl)) (fun _ _ _ _ _ => pts_nil) (fun _ _ _ _ _ => (pe_dget2 (units2 hr) (pv 4) (pv 10) (pe_lst (pa_cons (pv 10) pa_nil)) ⟨rfl, rfl, rfl, rfl⟩))) (pe_lst (pa_cons (pe_lst pa_nil) pa_nil))))))) pss_nil)
      (pss_cons (ps_if (pt_cmpR op_eq (pe_ix ix_tup (pv 0) pe_int (fun _ _ => rfl)) pe_str (nomark _)) (pss_one (ps_ret (pe_fn D_law_write_runs (g_law_write_runs T) (hr.mono (by first | decide | omega)) (fun _ => passE) (pa_cons (pv 1) pa_nil)))) pss_nil)
      (pss_cons (ps_if (pt_cmpR op_in_seq (pe_ix ix_tup (pv 0) pe_int (fun _ _ => rfl)) (pe_tup (pa_cons pe_str (pa_cons pe_str pa_nil))) (by rfl)) (pss_one (ps_ret (pe_fn D_law_write_pieces (g_law_write_pieces T) (hr.mono (by first | decide | omega)) (fun _ => passE) (pa_cons (pe_ix ix_tup (pv 0) pe_int (fun _ _ => rfl)) (pa_cons (pe_ix ix_tup (pv 0) pe_int (fun _ _ => rfl)) (pa_cons (pv 1) pa_nil)))))) pss_nil)
      (pss_cons (ps_set (i := 5) sc_law_write.nd rfl (Or.inl rfl) (pe_fn D_law_bits (g_law_bits T) (hr.mono (by first | decide | omega)) (fun _ => passE) (pa_cons (pv 1) (pa_cons pe_int pa_nil))))
      (pss_cons (ps_set (i := 6) sc_law_write.nd rfl (Or.inr rfl) (pe_lc (own := [("_law_group", 8)]) (g := gName 8) (tt := tYes) rfl sc_law_write.nd (pi_list (pe_fn D_law_groups (g_law_groups T) (hr.mono (by first | decide | omega)) (fun _ => passE) (pa_cons (pe_op op_cat (pv 5) (pe_op op_rep (pe_lst (pa_cons pe_int pa_nil)) (pe_op op_mod (pe_un un_neg (pe_callB call_lenS rfl (f_len T) (by decide +kernel) (pa_cons (pv 5) pa_nil))) pe_int))) (pa_cons pe_int pa_nil)))) (blkOk_by (own := [("_law_group", 8)]) (N := n_law_write) (sc := defScope s_law_write) (by decide +kernel)) (fun _ _ _ _ _ => pg_name (i := 8) sc_law_write.nd rfl (Or.inl rfl)) (fun _ _ _ _ _ => pts_nil) (fun _ _ _ _ _ => (pe_ix (ix_listK K rfl) (pe_fn0 D_law_signs (g_law_signs T) (hr.mono (by first | decide | omega)) (fun _ => passE)) (pv 8) (fun _ _ => rfl)))))
      (pss_cons (ps_setLc (i := 7) (own := [("_law_k", 9)]) (g := gName 9) (tt := tYes) rfl sc_law_write.nd rfl rfl (sw_true rfl rfl rfl (by decide +kernel)) (pi_range1 rfl (f_range T) (pa_cons (pe_callB call_lenS rfl (f_len T) (by decide +kernel) (pa_cons (pv 1) pa_nil)) pa_nil)) (blkOk_by (own := [("_law_k", 9)]) (N := n_law_write) (sc := defScope s_law_write) (by decide +kernel)) (fun _ _ _ _ _ => pg_name (i := 9) sc_law_write.nd rfl (Or.inl rfl)) (fun _ _ _ _ _ => pts_nil) (fun _ _ _ _ _ => (pe_slice (sl_listK K rfl) (pv 6) (po_some (pe_op op_fdiv (pe_op op_mul pe_int (pv 9)) pe_int)) (po_some (pe_op op_fdiv (pe_op op_mul pe_int (pe_op op_add (pv 9) pe_int)) pe_int)))))
      (pss_one (ps_ret (pe_op op_cat (pv 7) (pe_lst (pa_cons (pe_slice sl_list (pv 6) (po_some (pe_op op_fdiv (pe_callB call_lenS rfl (f_len T) (by decide +kernel) (pa_cons (pv 5) pa_nil)) pe_int)) po_none) pa_nil))))))))))))), rfl, ?_⟩
    try dsimp only [cxOf]
    wtm_at "x"
    refine x_ixT ht (kind_at ly) ?_
    wtm_at "x"
    cases ly with
    | add key =>
      obtain ⟨k1, k8, kby⟩ := ok
      refine ite_d (fun _ => ?_) fun z => absurd rfl z
      wtm_at "x"
      refine x_slT ht (by unfold layV; rw [rawV_len]; intro z; have := z.1; unfold HT.sIx at this; simp at this) ?_
      rw [show cutV (layV (Lay.add key)) (some 1) none = iV key from cut_from (k := 1) rfl]
      intro t2 n_t2
      have e_t2 : Ext H (upd H t2 (.tup (iV key))) := Only'.put0 Only'.refl n_t2
      have h_t2 : (upd H t2 (.tup (iV key))) t2 = some (.tup (iV key)) := upd_same
      generalize (upd H t2 (.tup (iV key))) = H1 at *
      have hs1 := SqL.ext e_t2 hs
      wtm_at "x"
      rw [iV_length]
      refine x_rLcRN (k := row.length) (fun t => H t = none) (outAt (.add key 0) row) rfl (by omega) (fun _ => rfl) (fun i H2 Dl hi e2 hD hne Q' k => ?_) fun p ts H2 hp e2 h2 h3 h4 h5 => ?_
      · wtm_at "x"
        refine x_ixL (SqL.ext e2 hs1) (gI_at (by omega) (by omega)) ?_
        wtm_at "x"
        refine x_len (Or.inr (SqT.ext e2 (SqT.of h_t2))) ?_
        wtm_at "x"
        rw [iV_length, fmod_pos (by omega), show (i : Int) % (key.length : Int) = ((i % key.length : Nat) : Int) from rfl]
        have hm := Nat.mod_lt i (show 0 < key.length by omega)
        refine x_ixT (SqT.ext e2 (SqT.of h_t2)) (gI_at (by omega) (by omega)) ?_
        wtm_at "x"
        intro l hl
        refine k l _ (Only'.put0 Only'.refl hl) ?_ (hne l hl) ((e_t2.trans e2).free hl)
        rw [upd_same, add_out key k1 row hi]
        rfl
      · wtm_at "x"
        intro p3 n_p3
        have e_p3 : Ext H2 (upd H2 p3 (.lst [])) := Only'.put0 Only'.refl n_p3
        have h_p3 : (upd H2 p3 (.lst [])) p3 = some (.lst []) := upd_same
        generalize (upd H2 p3 (.lst [])) = H3 at *
        wtm_at "x"
        exact told_end (x := []) ⟨h2, h3, h4, h5, e_t2.trans e2⟩ e_p3 h_p3 (add_end key k1 row) ((e_t2.trans e2).free n_p3) hz q
    | front =>
      refine ite_d (fun z => absurd (show ("front" : Str) = _ from z) (by decide +kernel)) fun _ => ?_
      wtm_at "x"
      refine x_ixT ht (kind_at _) ?_
      wtm_at "x"
      refine ite_d (fun _ => ?_) fun z => absurd rfl z
      wtm_at "x"
      exact ⟨a, row, rfl, hs, hby, hz, q⟩
    | esc e =>
      refine ite_d (fun z => absurd (show ("escape" : Str) = _ from z) (by decide +kernel)) fun _ => ?_
      wtm_at "x"
      refine x_ixT ht (kind_at _) ?_
      wtm_at "x"
      refine ite_d (fun z => absurd (show ("escape" : Str) = _ from z) (by decide +kernel)) fun _ => ?_
      wtm_at "x"
      refine x_ixT ht (kind_at _) ?_
      wtm_at "x"
      refine ite_d (fun _ => ?_) fun z => absurd rfl z
      wtm_at "x"
      refine x_rLcR (k := 4) (fun j => V.int ((e + (j : Int)) % 256)) rfl (by decide) (fun _ => rfl) (fun j H1 hj e1 Q' k => ?_) fun mk H1 hmk e1 h1 => ?_
      · wtm_at "x"
        refine x_ixT (SqT.ext e1 ht) (ix_arg (k := "escape") (xs := [e]) rfl) ?_
        wtm_at "x"
        exact k _ Only'.refl
      · rw [ints_iV] at h1
        have em : ((List.range 4).map fun j : Nat => (e + (j : Int)) % 256) = [(e + 0) % 256, (e + 1) % 256, (e + 2) % 256, (e + 3) % 256] := rfl
        rw [em, Int.add_zero] at h1
        have ha : ∀ (j : Nat) (z : Int) (H2 : Hp), Ext H1 H2 → [e % 256, (e + 1) % 256, (e + 2) % 256, (e + 3) % 256][j]? = some z → ∀ Q' : VK, Q' (.int z) H2 → rIxL K (.ref mk) (.int (j : Int)) H2 Q' := fun j z H2 e2 hz Q' k => x_ixL (SqL.of (e2 mk _ h1 (by simp))) (at_of rfl (iV_at hz)) k
        wtm_at "x"
        refine x_disp ?_
        intro d n_d
        have e_d : Ext H1 (upd H1 d (.dK [])) := Only'.put0 Only'.refl n_d
        have h_d : (upd H1 d (.dK [])) d = some (.dK []) := upd_same
        generalize (upd H1 d (.dK [])) = H2 at *
        refine x_pcons ?_
        wtm_at "x"
        refine ha 0 _ _ e_d rfl _ ?_
        wtm_at "x"
        refine ha 1 _ _ e_d rfl _ ?_
        wtm_at "x"
        refine ha 2 _ _ e_d rfl _ ?_
        wtm_at "x"
        intro l0 n_l0
        have e_l0 : Ext H2 (upd H2 l0 (.lst [V.int ((e + 1) % 256), V.int ((e + 2) % 256)])) := Only'.put0 Only'.refl n_l0
        have h_l0 : (upd H2 l0 (.lst [V.int ((e + 1) % 256), V.int ((e + 2) % 256)])) l0 = some (.lst [V.int ((e + 1) % 256), V.int ((e + 2) % 256)]) := upd_same
        generalize (upd H2 l0 (.lst [V.int ((e + 1) % 256), V.int ((e + 2) % 256)])) = H3 at *
        refine x_pcons ?_
        wtm_at "x"
        refine ha 1 _ _ (e_d.trans e_l0) rfl _ ?_
        wtm_at "x"
        refine ha 1 _ _ (e_d.trans e_l0) rfl _ ?_
        wtm_at "x"
        refine ha 3 _ _ (e_d.trans e_l0) rfl _ ?_
        wtm_at "x"
        intro l1 n_l1
        have e_l1 : Ext H3 (upd H3 l1 (.lst [V.int ((e + 1) % 256), V.int ((e + 3) % 256)])) := Only'.put0 Only'.refl n_l1
        have h_l1 : (upd H3 l1 (.lst [V.int ((e + 1) % 256), V.int ((e + 3) % 256)])) l1 = some (.lst [V.int ((e + 1) % 256), V.int ((e + 3) % 256)]) := upd_same
        generalize (upd H3 l1 (.lst [V.int ((e + 1) % 256), V.int ((e + 3) % 256)])) = H4 at *
        refine x_pnil ?_
        have hd4 := (e_l0.trans e_l1) d _ h_d (by simp)
        refine ⟨hd4, [((Sum.inl (e % 256) : Key), V.ref l0), ((Sum.inl ((e + 1) % 256) : Key), V.ref l1)], rfl, by simp, ?_⟩
        have e5 : Ext H1 (upd H4 d (.dK (mergeK [] [((Sum.inl (e % 256) : Key), V.ref l0), ((Sum.inl ((e + 1) % 256) : Key), V.ref l1)]))) := ((e_d.trans e_l0).trans e_l1).put0 n_d
        have h_d5 := upd_same (H := H4) (a := d) (o := .dK (mergeK [] [((Sum.inl (e % 256) : Key), V.ref l0), ((Sum.inl ((e + 1) % 256) : Key), V.ref l1)]))
        have h05 : (upd H4 d (.dK (mergeK [] [((Sum.inl (e % 256) : Key), V.ref l0), ((Sum.inl ((e + 1) % 256) : Key), V.ref l1)]))) l0 = some (.lst (iV [(e + 1) % 256, (e + 2) % 256])) := upd_get (Ne.symm (ne_of_none h_d n_l0)) (e_l1 l0 _ h_l0 (by simp))
        have h15 : (upd H4 d (.dK (mergeK [] [((Sum.inl (e % 256) : Key), V.ref l0), ((Sum.inl ((e + 1) % 256) : Key), V.ref l1)]))) l1 = some (.lst (iV [(e + 1) % 256, (e + 3) % 256])) := upd_get (Ne.symm (ne_of_none (e_l0 d _ h_d (by simp)) n_l1)) h_l1
        have tv := fun k => two_val (e % 256) ((e + 1) % 256) k (V.ref l0) (V.ref l1)
        generalize mergeK [] [((Sum.inl (e % 256) : Key), V.ref l0), ((Sum.inl ((e + 1) % 256) : Key), V.ref l1)] = kvs at *
        generalize upd H4 d (.dK kvs) = H5 at *
        have hs5 := SqL.ext (e1.trans e5) hs
        wtm_at "x"
        refine x_rLcLN (fun t => H t = none) (outAt (.esc e) row) hs5 (by rw [iV_length]; omega) (fun _ => rfl) (fun i x H6 Dl hi e6 hD hne Q' k => ?_) fun p ts H6 hp e6 h2 h3 h4 h5 => ?_
        · obtain ⟨z, hz1, rfl⟩ := iV_get hi
          have hil : i < row.length := (List.getElem?_eq_some_iff.mp hz1).1
          have ho := esc_out e row hil
          rw [gI_nat hz1] at ho
          unfold escOut at ho
          wtm_at "x"
          refine x_rDGet2 (e6 d _ h_d5 (by simp)) ?_
          wtm_at "x"
          intro b n_b
          have e_b : Ext H6 (upd H6 b (.lst [V.int z])) := Only'.put0 Only'.refl n_b
          have h_b : (upd H6 b (.lst [V.int z])) b = some (.lst [V.int z]) := upd_same
          generalize (upd H6 b (.lst [V.int z])) = H7 at *
          refine ⟨_, DGet.k (k := (Sum.inl z : Key)) ((e6.trans e_b) d _ h_d5 (by simp)), ?_⟩
          rw [tv]
          have hold : ∀ (l : Addr) (o : HO), H5 l = some o → l ≠ Dl := fun l o hl y => by
            rw [y, hD] at hl
            cases hl
          by_cases c1 : z = (e + 1) % 256
          · rw [if_pos c1]
            rw [if_neg (by omega), if_pos c1] at ho
            exact k l1 _ e_b (by rw [ho]; exact (e6.trans e_b) l1 _ h15 (by simp)) (hold _ _ h15) (((e1.trans e_d).trans e_l0).free n_l1)
          · rw [if_neg c1]
            by_cases c0 : z = e % 256
            · rw [if_pos c0]
              rw [if_pos c0] at ho
              exact k l0 _ e_b (by rw [ho]; exact (e6.trans e_b) l0 _ h05 (by simp)) (hold _ _ h05) ((e1.trans e_d).free n_l0)
            · rw [if_neg c0]
              rw [if_neg c0, if_neg c1] at ho
              exact k b _ e_b (by rw [ho]; exact h_b) (hne b n_b) (((e1.trans e5).trans e6).free n_b)
        · rw [iV_length] at h3
          wtm_at "x"
          intro p3 n_p3
          have e_p3 : Ext H6 (upd H6 p3 (.lst [])) := Only'.put0 Only'.refl n_p3
          have h_p3 : (upd H6 p3 (.lst [])) p3 = some (.lst []) := upd_same
          generalize (upd H6 p3 (.lst [])) = H7 at *
          wtm_at "x"
          exact told_end (x := []) ⟨h2, h3, h4, h5, (e1.trans e5).trans e6⟩ e_p3 h_p3 (esc_end e row) (((e1.trans e5).trans e6).free n_p3) hz q
    | runs =>
      refine ite_d (fun z => absurd (show ("runs" : Str) = _ from z) (by decide +kernel)) fun _ => ?_
      wtm_at "x"
      refine x_ixT ht (kind_at _) ?_
      wtm_at "x"
      refine ite_d (fun z => absurd (show ("runs" : Str) = _ from z) (by decide +kernel)) fun _ => ?_
      wtm_at "x"
      refine x_ixT ht (kind_at _) ?_
      wtm_at "x"
      refine ite_d (fun z => absurd (show ("runs" : Str) = _ from z) (by decide +kernel)) fun _ => ?_
      wtm_at "x"
      refine x_ixT ht (kind_at _) ?_
      wtm_at "x"
      refine ite_d (fun _ => ?_) fun z => absurd rfl z
      wtm_at "x"
      exact ⟨a, row, rfl, hs, hby, hz, q⟩
    | chunks n =>
      refine ite_d (fun z => absurd (show ("chunks" : Str) = _ from z) (by decide +kernel)) fun _ => ?_
      wtm_at "x"
      refine x_ixT ht (kind_at _) ?_
      wtm_at "x"
      refine ite_d (fun z => absurd (show ("chunks" : Str) = _ from z) (by decide +kernel)) fun _ => ?_
      wtm_at "x"
      refine x_ixT ht (kind_at _) ?_
      wtm_at "x"
      refine ite_d (fun z => absurd (show ("chunks" : Str) = _ from z) (by decide +kernel)) fun _ => ?_
      wtm_at "x"
      refine x_ixT ht (kind_at _) ?_
      wtm_at "x"
      refine ite_d (fun z => absurd (show ("chunks" : Str) = _ from z) (by decide +kernel)) fun _ => ?_
      wtm_at "x"
      refine x_ixT ht (kind_at _) ?_
      wtm_at "x"
      obtain ⟨n1, n2⟩ := ok
      obtain ⟨m, rfl⟩ : ∃ m : Nat, n = (m : Int) := ⟨n.toNat, by omega⟩
      intro p n_p
      have e_p : Ext H (upd H p (.tup [V.str "chunks", V.str "checks"])) := Only'.put0 Only'.refl n_p
      have h_p : (upd H p (.tup [V.str "chunks", V.str "checks"])) p = some (.tup [V.str "chunks", V.str "checks"]) := upd_same
      generalize (upd H p (.tup [V.str "chunks", V.str "checks"])) = H1 at *
      have ht1 := SqT.ext e_p ht
      refine x_inS (["chunks", "checks"] : List Str) (Or.inr (SqT.of h_p)) ?_
      wtm_at "x"
      refine ite_d (fun _ => ?_) fun z => absurd (show ("chunks" : Str) ∈ (["chunks", "checks"] : List Str) from by decide +kernel) z
      wtm_at "x"
      refine x_ixT ht1 (kind_at _) ?_
      wtm_at "x"
      refine x_ixT ht1 (ix_arg (k := "chunks") (xs := [(m : Int)]) rfl) ?_
      wtm_at "x"
      exact ⟨a, row, true, m, rfl, SqL.ext e_p hs, hby, hz, by omega, by omega, q.to e_p⟩
    | checks n =>
      refine ite_d (fun z => absurd (show ("checks" : Str) = _ from z) (by decide +kernel)) fun _ => ?_
      wtm_at "x"
      refine x_ixT ht (kind_at _) ?_
      wtm_at "x"
      refine ite_d (fun z => absurd (show ("checks" : Str) = _ from z) (by decide +kernel)) fun _ => ?_
      wtm_at "x"
      refine x_ixT ht (kind_at _) ?_
      wtm_at "x"
      refine ite_d (fun z => absurd (show ("checks" : Str) = _ from z) (by decide +kernel)) fun _ => ?_
      wtm_at "x"
      refine x_ixT ht (kind_at _) ?_
      wtm_at "x"
      refine ite_d (fun z => absurd (show ("checks" : Str) = _ from z) (by decide +kernel)) fun _ => ?_
      wtm_at "x"
      refine x_ixT ht (kind_at _) ?_
      wtm_at "x"
      obtain ⟨n1, n2⟩ := ok
      obtain ⟨m, rfl⟩ : ∃ m : Nat, n = (m : Int) := ⟨n.toNat, by omega⟩
      intro p n_p
      have e_p : Ext H (upd H p (.tup [V.str "chunks", V.str "checks"])) := Only'.put0 Only'.refl n_p
      have h_p : (upd H p (.tup [V.str "chunks", V.str "checks"])) p = some (.tup [V.str "chunks", V.str "checks"]) := upd_same
      generalize (upd H p (.tup [V.str "chunks", V.str "checks"])) = H1 at *
      have ht1 := SqT.ext e_p ht
      refine x_inS (["chunks", "checks"] : List Str) (Or.inr (SqT.of h_p)) ?_
      wtm_at "x"
      refine ite_d (fun _ => ?_) fun z => absurd (show ("checks" : Str) ∈ (["chunks", "checks"] : List Str) from by decide +kernel) z
      wtm_at "x"
      refine x_ixT ht1 (kind_at _) ?_
      wtm_at "x"
      refine x_ixT ht1 (ix_arg (k := "checks") (xs := [(m : Int)]) rfl) ?_
      wtm_at "x"
      exact ⟨a, row, false, m, rfl, SqL.ext e_p hs, hby, hz, by omega, by omega, q.to e_p⟩
    | signs =>
      refine ite_d (fun z => absurd (show ("signs" : Str) = _ from z) (by decide +kernel)) fun _ => ?_
      wtm_at "x"
      refine x_ixT ht (kind_at _) ?_
      wtm_at "x"
      refine ite_d (fun z => absurd (show ("signs" : Str) = _ from z) (by decide +kernel)) fun _ => ?_
      wtm_at "x"
      refine x_ixT ht (kind_at _) ?_
      wtm_at "x"
      refine ite_d (fun z => absurd (show ("signs" : Str) = _ from z) (by decide +kernel)) fun _ => ?_
      wtm_at "x"
      refine x_ixT ht (kind_at _) ?_
      wtm_at "x"
      refine ite_d (fun z => absurd (show ("signs" : Str) = _ from z) (by decide +kernel)) fun _ => ?_
      wtm_at "x"
      refine x_ixT ht (kind_at _) ?_
      wtm_at "x"
      intro p n_p
      have e_p : Ext H (upd H p (.tup [V.str "chunks", V.str "checks"])) := Only'.put0 Only'.refl n_p
      have h_p : (upd H p (.tup [V.str "chunks", V.str "checks"])) p = some (.tup [V.str "chunks", V.str "checks"]) := upd_same
      generalize (upd H p (.tup [V.str "chunks", V.str "checks"])) = H1 at *
      have ht1 := SqT.ext e_p ht
      refine x_inS (["chunks", "checks"] : List Str) (Or.inr (SqT.of h_p)) ?_
      wtm_at "x"
      refine ite_d (fun z => absurd (show ("signs" : Str) ∈ (["chunks", "checks"] : List Str) from z) (by decide +kernel)) fun _ => ?_
      wtm_at "x"
      refine ⟨a, row, 8, rfl, SqL.ext e_p hs, by decide, by omega, fun H2 bt e2 hbt0 hbt => ?_⟩
      wtm_at "x"
      intro z n_z
      have e_z : Ext H2 (upd H2 z (.lst [V.int 0])) := Only'.put0 Only'.refl n_z
      have h_z : (upd H2 z (.lst [V.int 0])) z = some (.lst [V.int 0]) := upd_same
      generalize (upd H2 z (.lst [V.int 0])) = H3 at *
      have hbt3 := e_z bt _ hbt (by simp)
      wtm_at "x"
      refine x_rep1 h_z (by omega) (by omega) ?_
      have hpad : ((-((iV (bitsOf 8 row)).length : Int)) % 6).toNat = padOf row := by
        rw [iV_length, bitsOf_len]
        unfold padOf
        omega
      rw [hpad]
      intro z2 n_z2
      have e_z2 : Ext H3 (upd H3 z2 (.lst (List.replicate (padOf row) (V.int 0)))) := Only'.put0 Only'.refl n_z2
      have h_z2 : (upd H3 z2 (.lst (List.replicate (padOf row) (V.int 0)))) z2 = some (.lst (List.replicate (padOf row) (V.int 0))) := upd_same
      generalize (upd H3 z2 (.lst (List.replicate (padOf row) (V.int 0)))) = H4 at *
      have hbl : (bitsOf 8 row).length = 8 * row.length := bitsOf_len 8 row
      have hpl : padOf row < 6 := Nat.mod_lt _ (by decide)
      refine x_cat (e_z2 bt _ hbt3 (by simp)) h_z2 (by rw [iV_length, List.length_replicate, hbl, sizeLine_eq]; omega) ?_
      have er : iV (bitsOf 8 row) ++ List.replicate (padOf row) (V.int 0) = iV (bitsOf 8 row ++ List.replicate (padOf row) 0) := by
        unfold iV
        rw [List.map_append, List.map_replicate]
      rw [er]
      intro z3 n_z3
      have e_z3 : Ext H4 (upd H4 z3 (.lst (iV (bitsOf 8 row ++ List.replicate (padOf row) 0)))) := Only'.put0 Only'.refl n_z3
      have h_z3 : (upd H4 z3 (.lst (iV (bitsOf 8 row ++ List.replicate (padOf row) 0)))) z3 = some (.lst (iV (bitsOf 8 row ++ List.replicate (padOf row) 0))) := upd_same
      generalize (upd H4 z3 (.lst (iV (bitsOf 8 row ++ List.replicate (padOf row) 0)))) = H5 at *
      wtm_at "x"
      refine ⟨z3, _, 6, rfl, SqL.of h_z3, by decide, by decide, by rw [List.length_append, List.length_replicate, hbl]; omega, fun H6 gt e6 hgt0 hgt => ?_⟩
      have hbits : ∀ x, x ∈ bitsOf 8 row ++ List.replicate (padOf row) 0 → x = 0 ∨ x = 1 := fun x hx => by
        rcases List.mem_append.mp hx with h | h
        · exact bit_of h
        · exact Or.inl (List.eq_of_mem_replicate h)
      have hG : ∀ g, g ∈ groupsOf 6 (bitsOf 8 row ++ List.replicate (padOf row) 0) → 0 ≤ g ∧ g < 64 := fun g hg => grp_in hbits hg
      have hGl : (groupsOf 6 (bitsOf 8 row ++ List.replicate (padOf row) 0)).length ≤ 100000 := by
        unfold groupsOf
        rw [List.length_map, List.length_range, List.length_append, List.length_replicate, hbl]
        omega
      have hS : lawSigns row = (groupsOf 6 (bitsOf 8 row ++ List.replicate (padOf row) 0)).map signOf := rfl
      generalize groupsOf 6 (bitsOf 8 row ++ List.replicate (padOf row) 0) = G at *
      have e16 : Ext H1 H6 := (((e2.trans e_z).trans e_z2).trans e_z3).trans e6
      wtm_at "x"
      refine x_rLcL (fun i => V.int (signOf (gI G (i : Int)))) (SqL.of hgt) (by rw [iV_length, sizeLine_eq]; omega) (fun _ => rfl) (fun i x H7 hi e7 Q' k => ?_) fun sg H7 hsg e7 h7 => ?_
      · obtain ⟨g, hg, rfl⟩ := iV_get hi
        obtain ⟨g0, g1⟩ := hG g (List.mem_of_getElem? hg)
        wtm_at "x"
        refine ⟨rfl, fun H8 r e8 hr0 hr8 => ?_⟩
        wtm_at "x"
        refine x_ixL (SqL.of hr8) (gI_at g0 (by show g < (64 : Int); exact g1)) ?_
        rw [← gI_nat hg]
        exact k _ e8
      · rw [ints_iV, iV_length, map_gI signOf G, ← hS] at h7
        have hs7 := SqL.ext ((e_p.trans e16).trans e7) hs
        have hbt7 := ((((e_z.trans e_z2).trans e_z3).trans e6).trans e7) bt _ hbt (by simp)
        have hrows := signs_rows row hby
        generalize lawSigns row = S at *
        wtm_at "x"
        rw [iV_length]
        refine x_rLcRN (k := row.length) (fun t => H t = none) (sCut S) rfl (by omega) (fun _ => rfl) (fun i H8 Dl hi e8 hD hne Q' k => ?_) fun p8 ts H8 hp8 e8 h8 h9 h10 h11 => ?_
        · have h78 := e8 sg _ h7 (by simp)
          wtm_at "x"
          rw [cut_both (i := 8 * i / 6) (k := 8 * (i + 1) / 6) (by omega) (by omega)]
          intro l hl
          refine k l _ (Only'.put0 Only'.refl hl) ?_ (hne l hl) ((((e_p.trans e16).trans e7).trans e8).free hl)
          rw [upd_same]
          unfold sCut iV
          rw [List.map_take, List.map_drop]
        · have h78 := e8 sg _ h7 (by simp)
          have hbt8 := e8 bt _ hbt7 (by simp)
          wtm_at "x"
          rw [cut_from (k := 8 * row.length / 6) (by rw [iV_length, hbl]; omega)]
          have ed : (iV S).drop (8 * row.length / 6) = iV (S.drop (8 * row.length / 6)) := by
            unfold iV
            rw [List.map_drop]
          rw [ed]
          intro p3 n_p3
          have e_p3 : Ext H8 (upd H8 p3 (.lst (iV (S.drop (8 * row.length / 6))))) := Only'.put0 Only'.refl n_p3
          have h_p3 : (upd H8 p3 (.lst (iV (S.drop (8 * row.length / 6))))) p3 = some (.lst (iV (S.drop (8 * row.length / 6)))) := upd_same
          generalize (upd H8 p3 (.lst (iV (S.drop (8 * row.length / 6))))) = H9 at *
          wtm_at "x"
          refine told_end2 ⟨h8, h9, h10, h11, ((e_p.trans e16).trans e7).trans e8⟩ e_p3 h_p3 ?_ ((((e_p.trans e16).trans e7).trans e8).free n_p3) hz q
          exact hrows
theorem ok_law_written (T : Tx K mg) : DefOk P w K mg base 4 (He.ga K "_law_written") ["_law_layers_here", "_law_row_here"] (spOwnAll K) := by
  have D_law_write := ok_law_write (P := P) (w := w) (base := base) T
  refine def_ok (N := n_law_written) (fn_law_written T) sc_law_written (fun _ _ _ _ _ _ us hl => match us, hl with | [_, _], _ => rfl) (fun vs H Q E h => ?_) (fun cdv A outer s H vs Q E hr h => ?_)
  · obtain ⟨a, r, ts, lays, row, rfl, _⟩ := h
    rfl
  · obtain ⟨a, r, ts, lays, row, rfl, ha, hl, hat, oks, hr0, hby, hz, q⟩ := h
    refine ⟨_, [_, _, _, _, _], (pss_cons (ps_for (passes_of rfl) rfl (pi_list (pv 0)) (pg_name (i := 2) sc_law_written.nd rfl (Or.inl rfl)) (pss_cons (ps_set (i := 3) sc_law_written.nd rfl (Or.inl rfl) (pe_lst pa_nil))
      (pss_cons (ps_for (passes_of rfl) rfl (pi_list (pe_fn D_law_write (g_law_write T) (hr.mono (by first | decide | omega)) (fun _ => passE) (pa_cons (pv 2) (pa_cons (pv 1) pa_nil)))) (pg_name (i := 4) sc_law_written.nd rfl (Or.inl rfl)) (pss_one (ps_expr (pe_bm PySem.F.plainAttrs_list PySem.F.slot_list_extend PySem.F.type_list_extend mt_extend (pv 3) (pa_cons (pv 4) pa_nil)))))
      (pss_one (ps_set (i := 1) sc_law_written.nd rfl (Or.inl rfl) (pv 3))))))
      (pss_one (ps_ret (pv 1)))), rfl, ?_⟩
    try dsimp only [cxOf]
    wtm_at "x"
    refine x_rForL ha (fun i σ H' => ∃ r' v2 v3 v4, σ = [some (.ref a), some (.ref r'), v2, v3, v4] ∧ SqL K H' r' (iV (written (lays.take i) row)) ∧ Ext H H') ⟨r, _, _, _, rfl, by rw [List.take_zero, written_nil]; exact hr0, Only'.refl⟩ (fun i σ H' _ p => ?_) ?_ ?_
    · obtain ⟨r', v2, v3, v4, _, _, e⟩ := p
      exact SqL.ext e ha
    · rintro i x σ H' hi ⟨r', v2, v3, v4, rfl, hr1, e⟩
      rw [List.getElem?_map] at hi
      cases ht : ts[i]? with
      | none => rw [ht] at hi; cases hi
      | some t =>
        rw [ht] at hi
        have hx : V.ref t = x := Option.some.inj hi
        subst hx
        have hil : i < lays.length := by
          rw [← hl]
          exact (List.getElem?_eq_some_iff.mp ht).1
        have hly := List.getElem?_eq_getElem hil
        generalize lays[i] = ly at hly
        have hst : written (lays.take (i + 1)) row = wfin (newW ly) (written (lays.take i) row) := by
          rw [take_more hly, written_snoc]
        have hz1 := hz i (by omega)
        have hz2 := hz (i + 1) (by omega)
        have hb1 : Bys (written (lays.take i) row) := written_by (fun l h => oks l (List.mem_of_mem_take h)) hby
        rw [hst, ← outs_flat] at hz2
        rw [hst, ← outs_flat]
        generalize written (lays.take i) row = row1 at *
        wtm_at "x"
        intro f n_f
        have e_f : Ext H' (upd H' f (.lst [])) := Only'.put0 Only'.refl n_f
        have h_f : (upd H' f (.lst [])) f = some (.lst []) := upd_same
        generalize (upd H' f (.lst [])) = H1 at *
        wtm_at "x"
        refine ⟨t, r', ly, row1, rfl, SqT.ext (e.trans e_f) (hat i t ly ht hly), oks ly (List.mem_of_getElem? hly), SqL.ext e_f hr1, hb1, hz1, fun H2 rr us e2 hrr0 hrr hrows hus => ?_⟩
        wtm_at "x"
        generalize outs (newW ly) row1 = rows at *
        have hrf : rr ≠ f := Ne.symm (ne_of_none h_f hrr0)
        have huf : ∀ u, u ∈ us → u ≠ f := fun u hu => Ne.symm (ne_of_none h_f (hus u hu))
        refine x_rForL (SqL.of hrr) (fun j σ H3 => ∃ v4, σ = [some (.ref a), some (.ref r'), some (.ref t), some (.ref f), v4] ∧ H3 f = some (.lst (iV ((rows.take j).flatten))) ∧ Ext H' H3 ∧ RowsIn H3 us rows ∧ H3 rr = some (.lst (us.map V.ref))) ⟨_, rfl, e2 f _ h_f (by simp), e_f.trans e2, hrows, hrr⟩ (fun j σ H3 _ p => ?_) ?_ ?_
        · obtain ⟨v4, _, _, _, _, h⟩ := p
          exact SqL.of h
        · rintro j x σ H3 hj ⟨v4, rfl, h1, e3, hr3, hrr3⟩
          rw [List.getElem?_map] at hj
          cases hu : us[j]? with
          | none => rw [hu] at hj; cases hj
          | some u =>
            rw [hu] at hj
            have hx : V.ref u = x := Option.some.inj hj
            subst hx
            have hjl : j < rows.length := by
              rw [← hr3.len]
              exact (List.getElem?_eq_some_iff.mp hu).1
            have hrw := List.getElem?_eq_getElem hjl
            generalize rows[j] = one at hrw
            have hone := hr3.at_ j u one hu hrw
            have hfl : (rows.take (j + 1)).flatten = (rows.take j).flatten ++ one := by
              rw [take_more hrw, List.flatten_append]
              show _ ++ (one ++ []) = _
              rw [List.append_nil]
            have hle : ((rows.take (j + 1)).flatten).length ≤ 4000 := by
              have h2 : rows.flatten = (rows.take (j + 1)).flatten ++ (rows.drop (j + 1)).flatten := by rw [← List.flatten_append, List.take_append_drop]
              rw [h2, List.length_append] at hz2
              omega
            rw [hfl, List.length_append] at hle
            wtm_at "x"
            refine x_extend h1 hone (by rw [iV_length, iV_length, sizeLine_eq]; omega) ?_
            wtm_at "x"
            refine ⟨_, rfl, ?_, e3.put0 n_f, hr3.put huf, upd_get hrf hrr3⟩
            rw [upd_same, hfl, iV_append]
        · rintro σ H3 ⟨v4, rfl, h1, e3, hr3, hrr3⟩
          rw [List.length_map, hr3.len, List.take_length] at h1
          wtm_at "x"
          exact ⟨f, _, _, _, rfl, SqL.of h1, e.trans e3⟩
    · rintro σ H' ⟨r', v2, v3, v4, rfl, hr1, e⟩
      rw [List.length_map, hl, List.take_length] at hr1
      wtm_at "x"
      exact q H' r' e hr1
end
end Flow

namespace Flow
open PySem PySem.Spec PyProof.Rows L2
/-! ### handed, as data -/
def handD (lays : List Lay) (row : Row) : PyData := .tuple [laysD lays, rowD row]
theorem ints_same (r : Row) : PyData.eqvAll (r.map .int) (r.map .int) = true := by
  have h := row_eqv r r
  rw [decide_eq_true rfl] at h
  simpa [rowD, PyData.eqv] using h
theorem lays_same : ∀ l : List Lay, PyData.eqvAll (l.map layD) (l.map layD) = true
  | [] => by simp [PyData.eqvAll]
  | x :: l => by
    have h1 := lays_same l
    have h2 : PyData.eqv (layD x) (layD x) = true := by simp [layD, PyData.eqv, PyData.eqvAll, ints_same]
    simp [PyData.eqvAll, h1, h2]
theorem hand_same (lays : List Lay) (row : Row) : PyData.eqv (handD lays row) (handD lays row) = true := by
  have h1 := lays_same lays
  have h2 := ints_same row
  simp [handD, laysD, rowD, PyData.eqv, PyData.eqvAll, h1, h2]
theorem hand_shaped (lays : List Lay) (row : Row) : SeqAt.shaped (handD lays row) = true := by
  refine shaped_of ?_ ?_
  · simp only [handD, PyData.canLay0, PyData.canLayAll0, rowD, laysD, lay_ints, laysD_lay]
    rfl
  · have h := laysD_depth lays
    simp only [handD, PyData.depth, PyData.depthAll, rowD, laysD, depth_ints]
    omega
section
variable {P : Program} {w : World} {K : PySem.W.Frag} {mg : Str → Option Value} {base : Heap}
theorem between {lays : List Lay} {row : Row} (oks : ∀ ly, ly ∈ lays → ly.Ok) (hby : Bys row) (few : lays.length ≤ 3) (hz : row.length ≤ 312) (hz2 : 2 ≤ lays.length → row.length ≤ 56) (j : Nat) (hj : j ≤ lays.length) : (written (lays.take j) row).length ≤ 4000 := by
  have hl : (lays.take j).length = j := by rw [List.length_take]; omega
  have one : ∀ (ly : Lay) (r : Row), (wfin (newW ly) r).length ≤ 3 * r.length + 2 := fun ly r => by
    have h1 := wfeed_len (newW ly) r
    have h2 := wend_len (wfeed (newW ly) r).2
    have h3 : pot (newW ly) = 0 := by cases ly <;> rfl
    unfold wfin
    rw [List.length_append]
    omega
  have step : ∀ (i : Nat), i < lays.length → (written (lays.take (i + 1)) row).length ≤ 3 * (written (lays.take i) row).length + 2 := fun i hi => by
    rw [take_more (List.getElem?_eq_getElem hi), written_snoc]
    exact one _ _
  have h0 : (written (lays.take 0) row).length = row.length := by rw [List.take_zero, written_nil]
  match j, hj with
  | 0, _ => omega
  | 1, hj =>
    have h1 : (written (lays.take 1) row).length ≤ _ := step 0 (by omega)
    omega
  | 2, hj =>
    have h1 : (written (lays.take 1) row).length ≤ _ := step 0 (by omega)
    have h2 : (written (lays.take 2) row).length ≤ _ := step 1 (by omega)
    have := hz2 (by omega)
    omega
  | 3, hj =>
    have h1 : (written (lays.take 1) row).length ≤ _ := step 0 (by omega)
    have h2 : (written (lays.take 2) row).length ≤ _ := step 1 (by omega)
    have h3 : (written (lays.take 3) row).length ≤ _ := step 2 (by omega)
    have := hz2 (by omega)
    omega
  | j + 4, hj => omega
theorem ok_law {fd : FuncData} (T : Tx K mg) (F : FunD K "law" "law" (defArgs s_law) (defBody s_law) (defScope s_law) [] [] (He.ga K "law") fd) : FnOk P w K mg base (L2.CX P w) 9 (He.ga K "law") fd ["_law_script"] (spLaw K) := by
  have D_law_layers := ok_law_layers (P := P) (w := w) (base := base) T
  have D_law_row := ok_law_row (P := P) (w := w) (base := base) T
  have D_law_is_row := ok_law_is_row (P := P) (w := w) (base := base) T
  have D_law_written := ok_law_written (P := P) (w := w) (base := base) T
  have D_written := ok_written (P := P) (w := w) (base := base) T
  refine law_ok (N := n_law) F sc_law (fun vs H Q E h => ?_) (fun cdv A outer s H vs Q E hr h => ?_)
  · obtain ⟨a, ns, rfl, _⟩ := h
    rfl
  · obtain ⟨a, s, rfl, hs0, q⟩ := h
    have hs : SqL K H a (iV s) := hs0
    refine ⟨_, [_, _, _, _, _], (pss_cons (ps_set (i := 1) sc_law.nd rfl (Or.inl rfl) (pe_fn D_law_layers (g_law_layers T) (hr.mono (by first | decide | omega)) (fun _ => passE) (pa_cons (pv 0) (pa_cons pe_int (pa_cons pe_int pa_nil)))))
      (pss_cons (ps_set (i := 2) sc_law.nd rfl (Or.inl rfl) (pe_fn D_law_row (g_law_row T) (hr.mono (by first | decide | omega)) (fun _ => passE) (pa_cons (pv 0) (pa_cons pe_int (pa_cons pe_int (pa_cons (pe_cmpR op_lt (pe_callB call_lenS rfl (f_len T) (by decide +kernel) (pa_cons (pv 1) pa_nil)) pe_int (nomark _)) pa_nil))))))
      (pss_cons (ps_set (i := 3) sc_law.nd rfl (Or.inl rfl) (pe_tup (pa_cons (pe_callTy call_listS rfl (f_list T) (by decide +kernel) (pa_cons (pv 1) pa_nil)) (pa_cons (pe_callTy call_listS rfl (f_list T) (by decide +kernel) (pa_cons (pv 2) pa_nil)) pa_nil))))
      (pss_cons (ps_set (i := 4) sc_law.nd rfl (Or.inl rfl) (pe_fn D_written (g_written T) (hr.mono (by first | decide | omega)) (fun σ => passAt (takes_of rfl rfl rfl rfl) σ) (pa_cons (pe_ix ix_tup (pv 3) pe_int (fun _ _ => rfl)) (pa_cons (pe_ix ix_tup (pv 3) pe_int (fun _ _ => rfl)) pa_nil))))
      (pss_one (ps_ret (pe_and (pe_fn D_law_is_row (g_law_is_row T) (hr.mono (by first | decide | omega)) (fun _ => passE) (pa_cons (pv 4) pa_nil)) (pe_and (pe_cmpR (op_eqD hr.units) (pv 4) (pe_fn D_law_written (g_law_written T) (hr.mono (by first | decide | omega)) (fun _ => passE) (pa_cons (pv 1) (pa_cons (pv 2) pa_nil))) (nomark _)) (pe_one (pe_cmpR (op_eqD hr.units) (pv 3) (pe_tup (pa_cons (pv 1) (pa_cons (pv 2) pa_nil))) (nomark _))))))))))), rfl, ?_⟩
    try dsimp only [cxOf]
    wtm_at "x"
    refine ⟨a, s, 0, 3, rfl, hs, by decide, fun lays ts H1 r hlays e1 hr0 hr hmd => ?_⟩
    have oks := hmd.oks
    have lts : (ts.map V.ref).length = lays.length := by rw [List.length_map, hmd.len]
    wtm_at "x"
    refine ⟨a, s, 20, 14, _, rfl, SqL.ext e1 hs, by decide, fun row H2 rr hby hlen e2 hrr0 hrr => ?_⟩
    have hr2 := e2 r _ hr (by simp)
    have hmd2 := hmd.ext e2
    have hlen2 : row.length ≤ 312 := by omega
    have hlen3 : 2 ≤ lays.length → row.length ≤ 56 := fun z => by
      have := (hlen.2 (by rw [lts]; exact decide_eq_false (by omega))).1
      omega
    wtm_at "x"
    intro c1 n_c1
    have e_c1 : Ext H2 (upd H2 c1 (.lst (ts.map V.ref))) := Only'.put0 Only'.refl n_c1
    have h_c1 : (upd H2 c1 (.lst (ts.map V.ref))) c1 = some (.lst (ts.map V.ref)) := upd_same
    generalize (upd H2 c1 (.lst (ts.map V.ref))) = H3 at *
    have hrr3 := e_c1 rr _ hrr (by simp)
    wtm_at "x"
    intro c2 n_c2
    have e_c2 : Ext H3 (upd H3 c2 (.lst (iV row))) := Only'.put0 Only'.refl n_c2
    have h_c2 : (upd H3 c2 (.lst (iV row))) c2 = some (.lst (iV row)) := upd_same
    generalize (upd H3 c2 (.lst (iV row))) = H4 at *
    wtm_at "x"
    intro tp n_tp
    have e_tp : Ext H4 (upd H4 tp (.tup [V.ref c1, V.ref c2])) := Only'.put0 Only'.refl n_tp
    have h_tp : (upd H4 tp (.tup [V.ref c1, V.ref c2])) tp = some (.tup [V.ref c1, V.ref c2]) := upd_same
    generalize (upd H4 tp (.tup [V.ref c1, V.ref c2])) = H5 at *
    have e25 := (e_c1.trans e_c2).trans e_tp
    have hc15 := (e_c2.trans e_tp) c1 _ h_c1 (by simp)
    have hc25 := e_tp c2 _ h_c2 (by simp)
    wtm_at "x"
    refine x_ixT (SqT.of h_tp) (at_of (j := 0) rfl rfl) ?_
    wtm_at "x"
    refine x_ixT (SqT.of h_tp) (at_of (j := 1) rfl rfl) ?_
    wtm_at "x"
    have hmd5 := hmd2.ext e25
    refine ⟨c1, c2, lays.map rawOf, row, rfl, hmd5.handed hc15, SqL.of hc25, hby, fun lays2 el oks2 few => ?_, fun hg => ?_⟩
    · have el2 : lays2 = lays := raw_inj el.symm
      subst el2
      obtain ⟨f1, f2, f3⟩ := written_fits oks (by omega) hby (by omega)
      refine ⟨f1, f2, f3, fun H6 st e6 hst0 hst => ?_⟩
      wtm_at "x"
      refine ⟨st, _, rfl, hst, written_by oks hby, f3, fun H7 e7 => ?_⟩
      have e27 := (e25.trans e6).trans e7
      have hst7 := e7 st _ hst (by simp)
      have hmd7 := hmd2.ext e27
      wtm_at "x"
      refine ⟨r, rr, ts, lays2, row, rfl, SqL.of (e27 r _ hr2 (by simp)), hmd.len, fun i t ly h1 h2 => SqT.of (hmd7.at_ i t ly h1 h2), oks, SqL.of (e27 rr _ hrr (by simp)), hby, fun j hj => between oks hby hlays hlen2 hlen3 j hj, fun H8 r8 e8 h8 => ?_⟩
      wtm_at "x"
      refine x_eqD (dp_row (SqL.of (e8 st _ hst7 (by simp)))) (dp_row h8) (row_shaped _) (row_shaped _) ?_
      rw [row_eqv, decide_eq_true rfl]
      wtm_at "x"
      try refine iteT ?_
      have e28 := e27.trans e8
      have e58 := (e6.trans e7).trans e8
      wtm_at "x"
      intro tq n_tq
      have e_tq : Ext H8 (upd H8 tq (.tup [V.ref r, V.ref rr])) := Only'.put0 Only'.refl n_tq
      have h_tq : (upd H8 tq (.tup [V.ref r, V.ref rr])) tq = some (.tup [V.ref r, V.ref rr]) := upd_same
      generalize (upd H8 tq (.tup [V.ref r, V.ref rr])) = H9 at *
      have e29 := e28.trans e_tq
      have e59 := e58.trans e_tq
      have hmd9 := hmd2.ext e29
      refine x_eqD (d := handD lays2 row) (e := handD lays2 row) (.tup (SqT.of (e59 tp _ h_tp (by simp))) (.cons (hmd9.dp (SqL.of (e59 c1 _ hc15 (by simp)))) (.cons (dp_row (SqL.of (e59 c2 _ hc25 (by simp)))) .nil)))
        (.tup (SqT.of h_tq) (.cons (hmd9.dp (SqL.of (e29 r _ hr2 (by simp)))) (.cons (dp_row (SqL.of (e29 rr _ hrr (by simp)))) .nil))) (hand_shaped _ _) (hand_shaped _ _) ?_
      rw [hand_same]
      exact q _
    · rw [good_of_lays oks (by omega)] at hg
      cases hg
end
end Flow

namespace Flow
open PySem PySem.Spec PyProof.Rows L2
theorem law_facts {P : Program} {w : World} {K : PySem.W.Frag} {h : Heap} {mg : Str → Option Value} {f : Addr} (X : K.In h) (G : h.Ns mainGlobals mg) (hfa : mg ("law" : Str) = some (.ref f)) (c : He.SaysX fa fn [] [] exB w h K) :
    ∃ fd : FuncData, (∀ (s : Shared) (v : Value), BindsTo s fd ⟨[v], []⟩ [("_law_script", v)]) ∧ ∀ base : Heap, K.In base → base.Ns mainGlobals mg → FnOk P w K mg base CX0 9 f fd ["_law_script"] (fun vs H Q _ => spLaw K vs H Q E0) := by
  have T : Tx K mg := ⟨c.t.d, c.more, ⟨h, X, G⟩⟩
  obtain ⟨fd, F⟩ := fn_law T
  have e := hfa.symm.trans (g_law T)
  cases e
  have b := FunD.bindsA (ps := ["_law_script"]) F fun _ _ _ _ _ _ us hl => match us, hl with | [_], _ => rfl
  exact ⟨fd, fun s v => b s [v] rfl, fun base _ _ => nox (ok_law T F)⟩
end Flow
open PySem PySem.W PySem.Calls PyProof.Rows
theorem PySem.Challenge.cw_flowstack_k02_written_holds : PySem.Challenge.rw_flowstack_k02_written.Holds := by
  w_on; o_law
  refine HandSHeadRun.head_any (r := OpenLaw.row PySem.Challenge.rw_flowstack_k02_written) (q := view (OpenLaw.row PySem.Challenge.rw_flowstack_k02_written).prog [48]) (H := Flow.hk) (ob := Flow.ob) (M := 20000) (loose := Flow.loose) (d := HandSHeadRun.topDef (OpenLaw.row PySem.Challenge.rw_flowstack_k02_written).prog 48) (kwd := []) Flow.ob_eq
    (by kernel_rfl) (fun s => by kernel_rfl) Flow.run (by kernel_rfl) (by kernel_rfl) (by kernel_rfl) (by rfl) (by first | assumption | decide +kernel) (by decide +kernel) ⟨rfl, rfl, rfl, rfl, rfl, by decide +kernel⟩ ?hw ?hc
  case hw => w_witness2
  case hc =>
    refine L2.walk_ofE (l := PySem.Challenge.rw_flowstack_k02_written) (n := 63) (k := 9) (x := "_law_script") (CX := L2.CX0) rfl (by decide) (by kernel_rfl) ⟨rfl, by decide, by decide⟩ ?F (fun _ _ _ _ z => z)
    intro w mg fa h Y G hmg0
    obtain ⟨K, KX, c⟩ := Y
    have hmg : mg ("law" : PySem.Str) = some (.ref fa) := by
      have e : (HandSHeadRun.topDef (OpenLaw.row PySem.Challenge.rw_flowstack_k02_written).prog 48).name = ("law" : PySem.Str) := by kernel_rfl
      rw [← e]
      exact hmg0
    obtain ⟨fd, hb, hF⟩ := Flow.law_facts (P := (PySem.Challenge.rw_flowstack_k02_written).prog) (w := w) KX G hmg c
    exact ⟨K, fd, _, KX, hb, fun H a ns hl _ hS => ⟨a, ns, rfl, hS, fun _ => rfl⟩, hF⟩
